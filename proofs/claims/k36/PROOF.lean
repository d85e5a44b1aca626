import PyProof.Rows.All
import Wide.All
import OpenK.AllK
import Wide.FinOn
import HandS.ForMost
import HandS.Deep
import HandS.Walk
import HandS.TupMul
import HandS.TupAny
import HandS.Wide
import HandS.WideBits
import HandS.SortInts
import HandS.TupLe
import HandS.Flow
import HandS.Conv
import HandS.IsInst
import HandS.Small
import HandS.Style
import HandS.NoneIn
import HandS.SortRule
import HandS.More
import KE.GoesMore
import HandS.Zip
import HandS.Rev
import HandS.Gcd
import HandS.SetFor
import HandS.DictComp
import KE.BitLaws
import HandS.SortKw
import HandS.SetBool
import HandS.Strs
import KE.DataMinMax
import HandS.TupSets
import KE.KDictList
import HandS.Iter
import HandS.Dict
import KE.DatumOrd
import PyProof.ZipIter
import HandS.Sort
import KE.OsArith
import PySem.Challenge.RW_sketchkeep_k36_least_places_and_estimate
set_option Elab.async false
set_option linter.all false
set_option maxRecDepth 100000
namespace Zk
open PySem PySem.Spec PyProof.Rows L2

/-- data without addresses -/
inductive D where
  | non | bl (b : Bool) | int (i : Int) | str (s : Str)
  | tup (xs : List D) | lst (xs : List D)
  | dK (kvs : List (Key × D)) | dT (kvs : List (List Key × D))
  | set (xs : List Int)
  /-- a built-in type -/
  | ty (n : String)
  /-- a tuple of the module's own -/
  | con (xs : List D)
  /-- the script -/
  | scr (xs : List Int)

/-- nothing within can change -/
def imm : D → Bool
  | .non => true
  | .bl _ => true
  | .int _ => true
  | .str _ => true
  | .ty _ => true
  | .tup xs => imms xs
  | .con xs => imms xs
  | .lst _ => false
  | .dK _ => false
  | .dT _ => false
  | .set _ => false
  | .scr _ => false
where imms : List D → Bool
  | [] => true
  | d :: ds => imm d && imms ds
abbrev imms := imm.imms
@[simp] theorem imm_non : imm .non = true := by simp [imm]
@[simp] theorem imm_bl (b : Bool) : imm (.bl b) = true := by simp [imm]
@[simp] theorem imm_int (b : Int) : imm (.int b) = true := by simp [imm]
@[simp] theorem imm_str (b : Str) : imm (.str b) = true := by simp [imm]
@[simp] theorem imm_ty (b : String) : imm (.ty b) = true := by simp [imm]
@[simp] theorem imm_tup (xs : List D) : imm (.tup xs) = imms xs := by simp [imm]
@[simp] theorem imm_con (xs : List D) : imm (.con xs) = imms xs := by simp [imm]
@[simp] theorem imm_lst (xs : List D) : imm (.lst xs) = false := by simp [imm]
@[simp] theorem imm_dK (xs : List (Key × D)) : imm (.dK xs) = false := by simp [imm]
@[simp] theorem imm_dT (xs : List (List Key × D)) : imm (.dT xs) = false := by simp [imm]
@[simp] theorem imm_set (xs : List Int) : imm (.set xs) = false := by simp [imm]
@[simp] theorem imm_scr (xs : List Int) : imm (.scr xs) = false := by simp [imm]
@[simp] theorem imms_nil : imms [] = true := by simp [imms, imm.imms]
@[simp] theorem imms_cons (d : D) (ds : List D) : imms (d :: ds) = (imm d && imms ds) := by simp [imms, imm.imms]
theorem imms_all : ∀ ds : List D, imms ds = ds.all imm
  | [] => by simp
  | d :: ds => by simp [imms_all ds]
theorem imms_append (a b : List D) : imms (a ++ b) = (imms a && imms b) := by simp [imms_all]
theorem imms_map {α : Type} (f : α → D) (h : ∀ x, imm (f x) = true) (xs : List α) : imms (xs.map f) = true := by
  simp [imms_all, List.all_eq_true, h]

/-- flat: a changeable thing of unchangeable ones -/
def flat : D → Bool
  | .lst xs => imms xs
  | .dK kvs => imms (kvs.map (·.2))
  | .dT kvs => imms (kvs.map (·.2))
  | .set _ => true
  | _ => false

/-- a list that is locked, or a written one -/
def SqF (K : PySem.W.Frag) (H : Hp) (a : Addr) (xs : List V) : Prop :=
  (∃ o, H a = some (.frz o (.lst xs))) ∨
    ∃ (o : Obj) (its : Array Value) (n : Nat), K.lookup a = some o ∧ o.cls = .type "list" ∧ o.dict = none ∧ o.data = .seq its n ∧ its.size ≤ sizeLine ∧ Vals xs its.toList
theorem SqF.sq {K : PySem.W.Frag} {H : Hp} {a : Addr} {xs : List V} (h : SqF K H a xs) : SqL K H a xs := by
  rcases h with ⟨o, h⟩ | h
  · exact .inl (.inr ⟨o, h⟩)
  · exact .inr h
/-- a written tuple -/
def SqU (K : PySem.W.Frag) (a : Addr) (xs : List V) : Prop :=
    ∃ (o : Obj) (its : Array Value) (n : Nat), K.lookup a = some o ∧ o.cls = .type "tuple" ∧ o.data = .seq its n ∧ its.size ≤ sizeLine ∧ Vals xs its.toList
theorem SqU.sq {K : PySem.W.Frag} {H : Hp} {a : Addr} {xs : List V} (h : SqU K a xs) : SqT K H a xs := .inr h
mutual
/-- v stands for d; what can change within is at addresses of Z -/
inductive Rp (K : PySem.W.Frag) (Z : Addr → Prop) (H : Hp) : V → D → Prop
  | non : Rp K Z H .non .non
  | bl (b : Bool) : Rp K Z H (.bl b) (.bl b)
  | int (i : Int) : Rp K Z H (.int i) (.int i)
  | str (x : Str) : Rp K Z H (.str x) (.str x)
  | ty (x : String) : Rp K Z H (.ty x) (.ty x)
  | con {a : Addr} {vs : List V} {ds : List D} : SqU K a vs → Rps K Z H vs ds → Rp K Z H (.ref a) (.con ds)
  | tup {a : Addr} {vs : List V} {ds : List D} : H a = some (.tup vs) → Rps K Z H vs ds → Rp K Z H (.ref a) (.tup ds)
  | lst {a : Addr} {vs : List V} {ds : List D} : Z a → H a = some (.lst vs) → Rps K Z H vs ds → Rp K Z H (.ref a) (.lst ds)
  | dK {a : Addr} {kvs : List (Key × V)} {kds : List (Key × D)} : Z a → Rd H a (.dK kvs) → kvs.map (·.1) = kds.map (·.1) → Rps K Z H (kvs.map (·.2)) (kds.map (·.2)) → Rp K Z H (.ref a) (.dK kds)
  | dT {a : Addr} {kvs : List (List Key × V)} {kds : List (List Key × D)} : Z a → H a = some (.dT kvs) → kvs.map (·.1) = kds.map (·.1) → Rps K Z H (kvs.map (·.2)) (kds.map (·.2)) → Rp K Z H (.ref a) (.dT kds)
  | set {a : Addr} {S : Int → Bool} {n : Nat} {xs : List Int} : Z a → H a = some (.set S n) → (∀ i, S i = decide (i ∈ xs)) → n = xs.length → xs.Nodup → Rp K Z H (.ref a) (.set xs)
  | scr {a : Addr} {ns : List Int} : SqF K H a (ns.map V.int) → Rp K Z H (.ref a) (.scr ns)
inductive Rps (K : PySem.W.Frag) (Z : Addr → Prop) (H : Hp) : List V → List D → Prop
  | nil : Rps K Z H [] []
  | cons {v : V} {d : D} {vs : List V} {ds : List D} : Rp K Z H v d → Rps K Z H vs ds → Rps K Z H (v :: vs) (d :: ds)
end

/-- what lies frozen, the tuples and what is locked persist -/
structure Pers (Z : Addr → Prop) (H : Hp) (Z' : Addr → Prop) (H' : Hp) : Prop where
  zz : ∀ a, Z a → Z' a
  hz : ∀ a o, Z a → H a = some o → H' a = some o
  tp : ∀ a o, H a = some o → ¬ Mut (some o) → H' a = some o
theorem Pers.refl (Z : Addr → Prop) (H : Hp) : Pers Z H Z H := ⟨fun _ h => h, fun _ _ _ h => h, fun _ _ h _ => h⟩
theorem Pers.trans {Z Z1 Z2 : Addr → Prop} {H H1 H2 : Hp} (a : Pers Z H Z1 H1) (b : Pers Z1 H1 Z2 H2) : Pers Z H Z2 H2 :=
  ⟨fun x h => b.zz x (a.zz x h), fun x o h e => b.hz x o (a.zz x h) (a.hz x o h e), fun x o e n => b.tp x o (a.tp x o e n) n⟩
theorem Pers.sqF {K : PySem.W.Frag} {Z Z' : Addr → Prop} {H H' : Hp} (p : Pers Z H Z' H') {a : Addr} {vs : List V} (h : SqF K H a vs) : SqF K H' a vs := by
  rcases h with ⟨o, h⟩ | h
  · exact .inl ⟨o, p.tp _ _ h fun z => z⟩
  · exact .inr h
theorem rdP {Z Z' : Addr → Prop} {H H' : Hp} (p : Pers Z H Z' H') {a : Addr} {u : HO} (z : Z a) (h : Rd H a u) : Rd H' a u := h.elim (fun h => .inl (p.hz _ _ z h)) fun ⟨o, h⟩ => .inr ⟨o, p.tp _ _ h fun z => z⟩
mutual
theorem Rp.pers {K : PySem.W.Frag} {Z Z' : Addr → Prop} {H H' : Hp} (p : Pers Z H Z' H') : ∀ {v : V} {d : D}, Rp K Z H v d → Rp K Z' H' v d
  | _, _, .non => .non
  | _, _, .bl b => .bl b
  | _, _, .int i => .int i
  | _, _, .str x => .str x
  | _, _, .ty x => .ty x
  | _, _, .tup h r => .tup (p.tp _ _ h fun z => z) (Rps.pers p r)
  | _, _, .con h r => .con h (Rps.pers p r)
  | _, _, .lst z h r => .lst (p.zz _ z) (p.hz _ _ z h) (Rps.pers p r)
  | _, _, .dK z h e r => .dK (p.zz _ z) (rdP p z h) e (Rps.pers p r)
  | _, _, .dT z h e r => .dT (p.zz _ z) (p.hz _ _ z h) e (Rps.pers p r)
  | _, _, .set z h e n d => .set (p.zz _ z) (p.hz _ _ z h) e n d
  | _, _, .scr h => .scr (p.sqF h)
theorem Rps.pers {K : PySem.W.Frag} {Z Z' : Addr → Prop} {H H' : Hp} (p : Pers Z H Z' H') : ∀ {vs : List V} {ds : List D}, Rps K Z H vs ds → Rps K Z' H' vs ds
  | _, _, .nil => .nil
  | _, _, .cons h t => .cons (Rp.pers p h) (Rps.pers p t)
end
mutual
/-- unchangeable data hang on the tuples alone -/
theorem Rp.immz {K : PySem.W.Frag} {Z Z' : Addr → Prop} {H H' : Hp} (tp : ∀ a o, H a = some o → ¬ Mut (some o) → H' a = some o) : ∀ {v : V} {d : D}, Rp K Z H v d → imm d = true → Rp K Z' H' v d
  | _, _, .non, _ => .non
  | _, _, .bl b, _ => .bl b
  | _, _, .int i, _ => .int i
  | _, _, .str x, _ => .str x
  | _, _, .ty x, _ => .ty x
  | _, .tup ds, .tup h r, i => .tup (tp _ _ h fun z => z) (Rps.immz tp r (by simpa using i))
  | _, .con ds, .con h r, i => .con h (Rps.immz tp r (by simpa using i))
  | _, _, .lst _ _ _, i => by simp at i
  | _, _, .dK _ _ _ _, i => by simp at i
  | _, _, .dT _ _ _ _, i => by simp at i
  | _, _, .set _ _ _ _ _, i => by simp at i
  | _, _, .scr _, i => by simp at i
theorem Rps.immz {K : PySem.W.Frag} {Z Z' : Addr → Prop} {H H' : Hp} (tp : ∀ a o, H a = some o → ¬ Mut (some o) → H' a = some o) : ∀ {vs : List V} {ds : List D}, Rps K Z H vs ds → imms ds = true → Rps K Z' H' vs ds
  | _, _, .nil, _ => .nil
  | _, _, .cons (d := d) h t, i => by
    simp only [imms_cons, Bool.and_eq_true] at i
    exact .cons (Rp.immz tp h i.1) (Rps.immz tp t i.2)
end
theorem Rps.len {K : PySem.W.Frag} {Z : Addr → Prop} {H : Hp} : ∀ {vs : List V} {ds : List D}, Rps K Z H vs ds → vs.length = ds.length
  | _, _, .nil => rfl
  | _, _, .cons _ t => by simp [Rps.len t]
theorem Rps.get {K : PySem.W.Frag} {Z : Addr → Prop} {H : Hp} : ∀ {vs : List V} {ds : List D}, Rps K Z H vs ds → ∀ {i : Nat} {v : V}, vs[i]? = some v → ∃ d, ds[i]? = some d ∧ Rp K Z H v d
  | _, _, .nil, i, v, e => by simp at e
  | _, _, .cons h t, 0, v, e => by simp at e; subst e; exact ⟨_, rfl, h⟩
  | _, _, .cons h t, i + 1, v, e => by
    obtain ⟨d, e2, r⟩ := Rps.get t (i := i) (v := v) (by simpa using e)
    exact ⟨d, by simpa using e2, r⟩
theorem Rps.getD {K : PySem.W.Frag} {Z : Addr → Prop} {H : Hp} : ∀ {vs : List V} {ds : List D}, Rps K Z H vs ds → ∀ {i : Nat} {d : D}, ds[i]? = some d → ∃ v, vs[i]? = some v ∧ Rp K Z H v d
  | _, _, .nil, i, v, e => by simp at e
  | _, _, .cons h t, 0, v, e => by simp at e; subst e; exact ⟨_, rfl, h⟩
  | _, _, .cons h t, i + 1, v, e => by
    obtain ⟨d, e2, r⟩ := Rps.getD t (i := i) (d := v) (by simpa using e)
    exact ⟨d, by simpa using e2, r⟩
theorem Rps.append {K : PySem.W.Frag} {Z : Addr → Prop} {H : Hp} : ∀ {vs ws : List V} {ds es : List D}, Rps K Z H vs ds → Rps K Z H ws es → Rps K Z H (vs ++ ws) (ds ++ es)
  | _, _, _, _, .nil, r => r
  | _, _, _, _, .cons h t, r => .cons h (Rps.append t r)
theorem Rps.take {K : PySem.W.Frag} {Z : Addr → Prop} {H : Hp} : ∀ {vs : List V} {ds : List D} (n : Nat), Rps K Z H vs ds → Rps K Z H (vs.take n) (ds.take n)
  | _, _, 0, _ => by simp; exact .nil
  | _, _, n + 1, .nil => by simp; exact .nil
  | _, _, n + 1, .cons h t => .cons h (Rps.take n t)
theorem Rps.drop {K : PySem.W.Frag} {Z : Addr → Prop} {H : Hp} : ∀ {vs : List V} {ds : List D} (n : Nat), Rps K Z H vs ds → Rps K Z H (vs.drop n) (ds.drop n)
  | _, _, 0, r => by simpa using r
  | _, _, n + 1, .nil => by simp; exact .nil
  | _, _, n + 1, .cons h t => Rps.drop n t
theorem Rps.set {K : PySem.W.Frag} {Z : Addr → Prop} {H : Hp} {v : V} {d : D} (h : Rp K Z H v d) : ∀ {vs : List V} {ds : List D} (n : Nat), Rps K Z H vs ds → Rps K Z H (vs.set n v) (ds.set n d)
  | _, _, _, .nil => by simp; exact .nil
  | _, _, 0, .cons _ t => .cons h t
  | _, _, n + 1, .cons g t => .cons g (Rps.set h n t)
theorem Rps.rev {K : PySem.W.Frag} {Z : Addr → Prop} {H : Hp} : ∀ {vs : List V} {ds : List D}, Rps K Z H vs ds → Rps K Z H vs.reverse ds.reverse
  | _, _, .nil => by simp; exact .nil
  | _, _, .cons h t => by simp only [List.reverse_cons]; exact Rps.append (Rps.rev t) (.cons h .nil)
theorem Rps.ints {K : PySem.W.Frag} {Z : Addr → Prop} {H : Hp} : ∀ {vs : List V} {ns : List Int}, Rps K Z H vs (ns.map D.int) → vs = ns.map V.int
  | _, [], .nil => rfl
  | _, n :: ns, .cons h t => by cases h; simp [Rps.ints t]
theorem Rps.ofInts {K : PySem.W.Frag} {Z : Addr → Prop} {H : Hp} : ∀ (ns : List Int), Rps K Z H (ns.map V.int) (ns.map D.int)
  | [] => .nil
  | n :: ns => .cons (.int n) (Rps.ofInts ns)
/-- three lists, item by item -/
inductive All3 {α β γ : Type} (P : α → β → γ → Prop) : List α → List β → List γ → Prop
  | nil : All3 P [] [] []
  | cons {a b c as bs cs} : P a b c → All3 P as bs cs → All3 P (a :: as) (b :: bs) (c :: cs)

/-- v stands for d, the addresses rs are ours alone, n levels deep -/
def Own (K : PySem.W.Frag) (Z : Addr → Prop) (H : Hp) : Nat → V → D → List Addr → Prop
  | 0, v, d, rs => rs = [] ∧ Rp K Z H v d
  | n + 1, v, d, rs =>
    match d with
    | .lst ds => ∃ a vs rss, v = .ref a ∧ H a = some (.lst vs) ∧ ¬ Z a ∧ All3 (Own K Z H n) vs ds rss ∧ rs = a :: rss.flatten
    | .dK kds => ∃ a kvs rss, v = .ref a ∧ H a = some (.dK kvs) ∧ ¬ Z a ∧ kvs.map (·.1) = kds.map (·.1) ∧ All3 (Own K Z H n) (kvs.map (·.2)) (kds.map (·.2)) rss ∧ rs = a :: rss.flatten
    | .dT kds => ∃ a kvs rss, v = .ref a ∧ H a = some (.dT kvs) ∧ ¬ Z a ∧ kvs.map (·.1) = kds.map (·.1) ∧ All3 (Own K Z H n) (kvs.map (·.2)) (kds.map (·.2)) rss ∧ rs = a :: rss.flatten
    | .set xs => ∃ a S m, v = .ref a ∧ H a = some (.set S m) ∧ ¬ Z a ∧ (∀ i, S i = decide (i ∈ xs)) ∧ m = xs.length ∧ xs.Nodup ∧ rs = [a]
    | _ => rs = [] ∧ Rp K Z H v d

section
variable {K : PySem.W.Frag} {Z Z' : Addr → Prop} {H H' : Hp}
theorem All3.imp {α β γ : Type} {P Q : α → β → γ → Prop} : ∀ {as : List α} {bs : List β} {cs : List γ}, All3 P as bs cs → (∀ a b c, c ∈ cs → P a b c → Q a b c) → All3 Q as bs cs
  | _, _, _, .nil, _ => .nil
  | _, _, _, .cons h t, f => .cons (f _ _ _ List.mem_cons_self h) (t.imp fun a b c m => f a b c (List.mem_cons_of_mem _ m))
theorem mem_flatten_of {a : Addr} {rs : List Addr} {rss : List (List Addr)} (h : rs ∈ rss) (m : a ∈ rs) : a ∈ rss.flatten := List.mem_flatten.mpr ⟨rs, h, m⟩

theorem Own.imm : ∀ {n : Nat} {v : V} {d : D} {rs : List Addr}, Own K Z H n v d rs → imm d = true → rs = [] ∧ Rp K Z H v d
  | 0, _, _, _, h, _ => h
  | n + 1, _, .non, _, h, _ => h
  | n + 1, _, .bl _, _, h, _ => h
  | n + 1, _, .int _, _, h, _ => h
  | n + 1, _, .str _, _, h, _ => h
  | n + 1, _, .ty _, _, h, _ => h
  | n + 1, _, .tup _, _, h, _ => h
  | n + 1, _, .con _, _, h, _ => h
theorem Own.ofImm : ∀ {n : Nat} {v : V} {d : D}, Rp K Z H v d → Zk.imm d = true → Own K Z H n v d []
  | 0, _, _, h, _ => ⟨rfl, h⟩
  | n + 1, _, .non, h, _ => ⟨rfl, h⟩
  | n + 1, _, .bl _, h, _ => ⟨rfl, h⟩
  | n + 1, _, .int _, h, _ => ⟨rfl, h⟩
  | n + 1, _, .str _, h, _ => ⟨rfl, h⟩
  | n + 1, _, .ty _, h, _ => ⟨rfl, h⟩
  | n + 1, _, .tup _, h, _ => ⟨rfl, h⟩
  | n + 1, _, .con _, h, _ => ⟨rfl, h⟩
/-- an owned thing stands while its own addresses stand and what lies frozen persists -/
theorem Own.keep (p : Pers Z H Z' H') : ∀ {n : Nat} {v : V} {d : D} {rs : List Addr}, (∀ a ∈ rs, H' a = H a ∧ ¬ Z' a) → Own K Z H n v d rs → Own K Z' H' n v d rs
  | 0, _, _, _, k, h => ⟨h.1, h.2.pers p⟩
  | n + 1, _, .lst ds, rs, k, h => by
    obtain ⟨a, vs, rss, e, ha, z, r, rfl⟩ := h
    obtain ⟨k1, k2⟩ := k a List.mem_cons_self
    exact ⟨a, vs, rss, e, k1.trans ha, k2, r.imp fun v d rs m o => Own.keep p (fun b hb => k b (List.mem_cons_of_mem _ (mem_flatten_of m hb))) o, rfl⟩
  | n + 1, _, .dK ds, rs, k, h => by
    obtain ⟨a, vs, rss, e, ha, z, e2, r, rfl⟩ := h
    obtain ⟨k1, k2⟩ := k a List.mem_cons_self
    exact ⟨a, vs, rss, e, k1.trans ha, k2, e2, r.imp fun v d rs m o => Own.keep p (fun b hb => k b (List.mem_cons_of_mem _ (mem_flatten_of m hb))) o, rfl⟩
  | n + 1, _, .dT ds, rs, k, h => by
    obtain ⟨a, vs, rss, e, ha, z, e2, r, rfl⟩ := h
    obtain ⟨k1, k2⟩ := k a List.mem_cons_self
    exact ⟨a, vs, rss, e, k1.trans ha, k2, e2, r.imp fun v d rs m o => Own.keep p (fun b hb => k b (List.mem_cons_of_mem _ (mem_flatten_of m hb))) o, rfl⟩
  | n + 1, _, .set xs, rs, k, h => by
    obtain ⟨a, S, m, e, ha, z, e2, e3, e4, rfl⟩ := h
    obtain ⟨k1, k2⟩ := k a List.mem_cons_self
    exact ⟨a, S, m, e, k1.trans ha, k2, e2, e3, e4, rfl⟩
  | n + 1, _, .non, rs, k, h => ⟨h.1, h.2.pers p⟩
  | n + 1, _, .bl _, rs, k, h => ⟨h.1, h.2.pers p⟩
  | n + 1, _, .int _, rs, k, h => ⟨h.1, h.2.pers p⟩
  | n + 1, _, .str _, rs, k, h => ⟨h.1, h.2.pers p⟩
  | n + 1, _, .ty _, rs, k, h => ⟨h.1, h.2.pers p⟩
  | n + 1, _, .tup _, rs, k, h => ⟨h.1, h.2.pers p⟩
  | n + 1, _, .con _, rs, k, h => ⟨h.1, h.2.pers p⟩
  | n + 1, _, .scr _, rs, k, h => ⟨h.1, h.2.pers p⟩
theorem All3.rps {P : V → D → List Addr → Prop} {R : V → D → Prop} (hR : ∀ v d rs, P v d rs → Rp K Z H v d) : ∀ {vs : List V} {ds : List D} {rss : List (List Addr)}, All3 P vs ds rss → Rps K Z H vs ds
  | _, _, _, .nil => .nil
  | _, _, _, .cons h t => .cons (hR _ _ _ h) (All3.rps (R := R) hR t)
/-- what is ours may be frozen -/
theorem Own.freeze (p : Pers Z H Z' H') : ∀ {n : Nat} {v : V} {d : D} {rs : List Addr}, (∀ a ∈ rs, H' a = H a ∧ Z' a) → Own K Z H n v d rs → Rp K Z' H' v d
  | 0, _, _, _, k, h => h.2.pers p
  | n + 1, _, .lst ds, rs, k, h => by
    obtain ⟨a, vs, rss, e, ha, z, r, rfl⟩ := h
    obtain ⟨k1, k2⟩ := k a List.mem_cons_self
    subst e
    exact .lst k2 (k1.trans ha) (All3.rps (R := fun _ _ => True) (P := fun v d rs => Rp K Z' H' v d) (fun _ _ _ h => h) (r.imp fun v d rs m o => Own.freeze p (fun b hb => k b (List.mem_cons_of_mem _ (mem_flatten_of m hb))) o))
  | n + 1, _, .dK ds, rs, k, h => by
    obtain ⟨a, vs, rss, e, ha, z, e2, r, rfl⟩ := h
    obtain ⟨k1, k2⟩ := k a List.mem_cons_self
    subst e
    exact .dK k2 (.inl (k1.trans ha)) e2 (All3.rps (R := fun _ _ => True) (P := fun v d rs => Rp K Z' H' v d) (fun _ _ _ h => h) (r.imp fun v d rs m o => Own.freeze p (fun b hb => k b (List.mem_cons_of_mem _ (mem_flatten_of m hb))) o))
  | n + 1, _, .dT ds, rs, k, h => by
    obtain ⟨a, vs, rss, e, ha, z, e2, r, rfl⟩ := h
    obtain ⟨k1, k2⟩ := k a List.mem_cons_self
    subst e
    exact .dT k2 (k1.trans ha) e2 (All3.rps (R := fun _ _ => True) (P := fun v d rs => Rp K Z' H' v d) (fun _ _ _ h => h) (r.imp fun v d rs m o => Own.freeze p (fun b hb => k b (List.mem_cons_of_mem _ (mem_flatten_of m hb))) o))
  | n + 1, _, .set xs, rs, k, h => by
    obtain ⟨a, S, m, e, ha, z, e2, e3, e4, rfl⟩ := h
    obtain ⟨k1, k2⟩ := k a List.mem_cons_self
    subst e
    exact .set k2 (k1.trans ha) e2 e3 e4
  | n + 1, _, .non, rs, k, h => h.2.pers p
  | n + 1, _, .bl _, rs, k, h => h.2.pers p
  | n + 1, _, .int _, rs, k, h => h.2.pers p
  | n + 1, _, .str _, rs, k, h => h.2.pers p
  | n + 1, _, .ty _, rs, k, h => h.2.pers p
  | n + 1, _, .tup _, rs, k, h => h.2.pers p
  | n + 1, _, .con _, rs, k, h => h.2.pers p
  | n + 1, _, .scr _, rs, k, h => h.2.pers p
/-- it may be read -/
theorem Own.rd {n : Nat} {v : V} {d : D} {rs : List Addr} (h : Own K Z H n v d rs) : Rp K (fun _ => True) H v d :=
  Own.freeze (Z' := fun _ => True) (H' := H) ⟨fun _ _ => trivial, fun _ _ _ e => e, fun _ _ e _ => e⟩ (fun _ _ => ⟨rfl, trivial⟩) h
theorem Rp.rd {v : V} {d : D} (h : Rp K Z H v d) : Rp K (fun _ => True) H v d := h.pers ⟨fun _ _ => trivial, fun _ _ _ e => e, fun _ _ e _ => e⟩
theorem All3.flat {P : V → D → List Addr → Prop} {C : Addr → Prop} (hP : ∀ v d rs, P v d rs → ∀ a ∈ rs, C a) : ∀ {vs : List V} {ds : List D} {rss : List (List Addr)}, All3 P vs ds rss → ∀ a ∈ rss.flatten, C a
  | _, _, _, .nil, a, h => by simp at h
  | _, _, _, .cons h t, a, m => by
    rw [List.flatten_cons, List.mem_append] at m
    rcases m with m | m
    · exact hP _ _ _ h a m
    · exact All3.flat hP t a m
/-- what is ours is changeable and not frozen -/
theorem Own.mut : ∀ {n : Nat} {v : V} {d : D} {rs : List Addr}, Own K Z H n v d rs → ∀ a ∈ rs, Mut (H a) ∧ ¬ Z a
  | 0, _, _, _, h, a, m => by rw [h.1] at m; simp at m
  | n + 1, _, .lst ds, rs, h, a, m => by
    obtain ⟨b, vs, rss, e, ha, z, r, rfl⟩ := h
    rcases List.mem_cons.mp m with rfl | m
    · exact ⟨by rw [ha]; trivial, z⟩
    · exact All3.flat (C := fun a => Mut (H a) ∧ ¬ Z a) (fun v d rs o => Own.mut o) r a m
  | n + 1, _, .dK ds, rs, h, a, m => by
    obtain ⟨b, vs, rss, e, ha, z, _, r, rfl⟩ := h
    rcases List.mem_cons.mp m with rfl | m
    · exact ⟨by rw [ha]; trivial, z⟩
    · exact All3.flat (C := fun a => Mut (H a) ∧ ¬ Z a) (fun v d rs o => Own.mut o) r a m
  | n + 1, _, .dT ds, rs, h, a, m => by
    obtain ⟨b, vs, rss, e, ha, z, _, r, rfl⟩ := h
    rcases List.mem_cons.mp m with rfl | m
    · exact ⟨by rw [ha]; trivial, z⟩
    · exact All3.flat (C := fun a => Mut (H a) ∧ ¬ Z a) (fun v d rs o => Own.mut o) r a m
  | n + 1, _, .set xs, rs, h, a, m => by
    obtain ⟨b, S, k, e, ha, z, _, _, _, rfl⟩ := h
    have e : a = b := by simpa using m
    subst e
    exact ⟨by rw [ha]; trivial, z⟩
  | n + 1, _, .non, rs, h, a, m => by rw [h.1] at m; simp at m
  | n + 1, _, .bl _, rs, h, a, m => by rw [h.1] at m; simp at m
  | n + 1, _, .int _, rs, h, a, m => by rw [h.1] at m; simp at m
  | n + 1, _, .str _, rs, h, a, m => by rw [h.1] at m; simp at m
  | n + 1, _, .ty _, rs, h, a, m => by rw [h.1] at m; simp at m
  | n + 1, _, .tup _, rs, h, a, m => by rw [h.1] at m; simp at m
  | n + 1, _, .con _, rs, h, a, m => by rw [h.1] at m; simp at m
  | n + 1, _, .scr _, rs, h, a, m => by rw [h.1] at m; simp at m
end
end Zk
namespace Zk
open PySem PySem.Spec PyProof.Rows L2

/-- the slots: a thing and how many levels of it are ours -/
abbrev Ev := List (Option (D × Nat))
def eg (E : Ev) (i : Nat) : Option (D × Nat) := (E[i]?).join
/-- an expression's end: a slot (read later), or a thing -/
inductive Op where
  | slot (i : Nat)
  | val (d : D) (n : Nat)

abbrev Rs := Nat → List Addr
def ow (R : Rs) (a : Addr) : Prop := ∃ i, a ∈ R i
def put (R : Rs) (i : Nat) (rs : List Addr) : Rs := fun k => if k = i then rs else R k
theorem put_same {R : Rs} {i : Nat} {rs : List Addr} : put R i rs i = rs := if_pos rfl
theorem put_ne {R : Rs} {i k : Nat} {rs : List Addr} (h : k ≠ i) : put R i rs k = R k := if_neg h

structure S (K : PySem.W.Frag) (Z : Addr → Prop) (H : Hp) (σ : L2.St) (E : Ev) (R : Rs) : Prop where
  len : σ.length = E.length
  slot : ∀ i d n, eg E i = some (d, n) → ∃ v, σ[i]? = some (some v) ∧ Own K Z H n v d (R i)
  emp : ∀ i, eg E i = none → R i = []
  nd : ∀ i, (R i).Nodup
  dj : ∀ i j a, a ∈ R i → a ∈ R j → i = j
  zd : ∀ a, Z a → H a ≠ none

/-- what a step may change: O are the things that are ours -/
structure Step (Z : Addr → Prop) (H : Hp) (O : Addr → Prop) (Z' : Addr → Prop) (H' : Hp) (O' : Addr → Prop) : Prop where
  zz : ∀ a, Z a → Z' a
  zn : ∀ a, Z' a → Z a ∨ H a = none ∨ O a
  hh : ∀ a o, H a = some o → ¬ O a → H' a = some o
  on : ∀ a, O' a → O a ∨ H a = none
  dm : ∀ a, H a ≠ none → H' a ≠ none

section
variable {K : PySem.W.Frag} {Z Z' Z1 Z2 : Addr → Prop} {H H' H1 H2 : Hp} {O O' O1 O2 : Addr → Prop} {σ : L2.St} {E E' : Ev} {R R' : Rs}
theorem Step.refl : Step Z H O Z H O := ⟨fun _ h => h, fun _ h => .inl h, fun _ _ h _ => h, fun _ h => .inl h, fun _ h => h⟩
theorem Step.trans (a : Step Z H O Z1 H1 O1) (b : Step Z1 H1 O1 Z2 H2 O2) : Step Z H O Z2 H2 O2 where
  zz := fun x h => b.zz x (a.zz x h)
  zn := fun x h => by
    rcases b.zn x h with h | h | h
    · exact a.zn x h
    · by_cases q : H x = none
      · exact .inr (.inl q)
      · exact absurd h (a.dm x q)
    · rcases a.on x h with h | h
      · exact .inr (.inr h)
      · exact .inr (.inl h)
  hh := fun x o e n => b.hh x o (a.hh x o e n) fun h => by
    rcases a.on x h with h | h
    · exact n h
    · rw [e] at h; cases h
  on := fun x h => by
    rcases b.on x h with h | h
    · exact a.on x h
    · by_cases q : H x = none
      · exact .inr q
      · exact absurd h (a.dm x q)
  dm := fun x h => b.dm x (a.dm x h)
theorem S.owns (s : S K Z H σ E R) {a : Addr} (h : ow R a) : Mut (H a) ∧ ¬ Z a := by
  obtain ⟨i, m⟩ := h
  cases q : eg E i with
  | none => rw [s.emp i q] at m; simp at m
  | some dn =>
    obtain ⟨v, _, o⟩ := s.slot i dn.1 dn.2 q
    exact o.mut a m
theorem S.there (s : S K Z H σ E R) {a : Addr} (h : ow R a) : H a ≠ none := fun e => by
  have := (s.owns h).1
  rw [e] at this; exact this
/-- across a step the frozen and the tuples persist -/
theorem Step.pers (t : Step Z H O Z' H' O') (hO : ∀ a, O a → Mut (H a) ∧ ¬ Z a) : Pers Z H Z' H' :=
  ⟨t.zz, fun a o z e => t.hh a o e fun h => (hO a h).2 z, fun a o e n => t.hh a o e fun h => n (by have := (hO a h).1; rw [e] at this; exact this)⟩
theorem S.pers (s : S K Z H σ E R) (t : Step Z H (ow R) Z' H' O') : Pers Z H Z' H' := t.pers fun _ h => s.owns h
/-- a thing that was made ahead of a step stands behind it -/
theorem S.pend (s : S K Z H σ E R) (t : Step Z H (ow R) Z' H' O') {n : Nat} {v : V} {d : D} {rs : List Addr} (h : Own K Z H n v d rs) (f : ∀ a ∈ rs, ¬ ow R a) :
    Own K Z' H' n v d rs ∧ ∀ a ∈ rs, ¬ O' a := by
  have there : ∀ a ∈ rs, H a ≠ none := fun a m e => by
    have := (h.mut a m).1
    rw [e] at this; exact this
  refine ⟨h.keep (s.pers t) fun a m => ⟨?_, fun z => ?_⟩, fun a m z => ?_⟩
  · cases q : H a with
    | none => exact absurd q (there a m)
    | some o => exact t.hh a o q (f a m)
  · rcases t.zn a z with z | z | z
    · exact (h.mut a m).2 z
    · exact there a m z
    · exact f a m z
  · rcases t.on a z with z | z
    · exact f a m z
    · exact there a m z
end

/-- what an end stands for -/
def OV (K : PySem.W.Frag) (Z : Addr → Prop) (H : Hp) (σ : L2.St) (v : V) : Op → List Addr → Prop
  | .slot i, rs => σ[i]? = some (some v) ∧ rs = []
  | .val d n, rs => Own K Z H n v d rs
/-- an expression by data -/
abbrev Fe := Ev → Option (Op × Ev)
abbrev Ft := Ev → Option (Bool × Ev)
abbrev Fa := Ev → Option (List Op × Ev)
/-- how a statement ends -/
inductive Fl where
  | nx | bk | ct | rt (d : D) (n : Nat)
abbrev Fs := Ev → Option (Fl × Ev)

/-- fresh: it is no slot's, it was ours or is new -/
structure Fr (R : Rs) (H : Hp) (R' : Rs) (rs : List Addr) : Prop where
  nd : rs.Nodup
  no : ∀ a ∈ rs, ¬ ow R' a
  of : ∀ a ∈ rs, ow R a ∨ H a = none
theorem Fr.nil {R R' : Rs} {H : Hp} : Fr R H R' [] := ⟨List.nodup_nil, fun _ h => by simp at h, fun _ h => by simp at h⟩

def eOf (K : PySem.W.Frag) (f : Fe) : TE := fun σ H Q => ∃ Z E R, S K Z H σ E R ∧ ∃ o E', f E = some (o, E') ∧
  ∀ v Z' H' R' rs, S K Z' H' σ E' R' → Step Z H (ow R) Z' H' (ow R') → OV K Z' H' σ v o rs → Fr R H R' rs → Q v H'
def cOf (K : PySem.W.Frag) (f : Ft) : TT := fun σ H Q => ∃ Z E R, S K Z H σ E R ∧ ∃ b E', f E = some (b, E') ∧
  ∀ Z' H' R', S K Z' H' σ E' R' → Step Z H (ow R) Z' H' (ow R') → Q b H'
def aOf (K : PySem.W.Frag) (f : Fa) : TA := fun σ H Q => ∃ Z E R, S K Z H σ E R ∧ ∃ os E', f E = some (os, E') ∧
  ∀ vs Z' H' R' rss, S K Z' H' σ E' R' → Step Z H (ow R) Z' H' (ow R') → All3 (OV K Z' H' σ) vs os rss → Fr R H R' rss.flatten → Q vs H'
/-- a statement; w: the slots that it may set -/
def sOf (K : PySem.W.Frag) (w : List Nat) (f : Fs) : TS := fun D σ H => ∃ Z E R, S K Z H σ E R ∧ ∃ fl E', f E = some (fl, E') ∧
  ∀ σ' Z' H' R', S K Z' H' σ' E' R' → Step Z H (ow R) Z' H' (ow R') → (∀ i, i ∉ w → σ'[i]? = σ[i]?) →
    match fl with
    | .nx => D.nx σ' H'
    | .bk => D.bk σ' H'
    | .ct => D.ct σ' H'
    | .rt d n => ∀ v rs, Own K Z' H' n v d rs → Fr R H R' rs → D.rt v H'

abbrev AE (X : Cx) (e : Expr) (f : Fe) : Prop := PE X e (eOf X.K f)
abbrev AT (X : Cx) (e : Expr) (f : Ft) : Prop := PT X e (cOf X.K f)
abbrev AA (X : Cx) (es : List Expr) (f : Fa) : Prop := PA X es (aOf X.K f)
abbrev AS (X : Cx) (st : Stmt) (w : List Nat) (f : Fs) : Prop := PS X st (sOf X.K w f)
abbrev ASs (X : Cx) (st : List Stmt) (w : List Nat) (f : Fs) : Prop := PSs X st (sOf X.K w f)

theorem PE.mono {X : Cx} {e : Expr} {t t' : TE} (h : PE X e t) (m : ∀ σ H Q, t' σ H Q → t σ H Q) : PE X e t' := ⟨fun pins s σ H Q I q => h.run pins s σ H Q I (m σ H Q q)⟩
theorem PT.mono {X : Cx} {e : Expr} {t t' : TT} (h : PT X e t) (m : ∀ σ H Q, t' σ H Q → t σ H Q) : PT X e t' := ⟨fun pins s σ H Q I q => h.run pins s σ H Q I (m σ H Q q)⟩
theorem PW.mono {X : Cx} {e : Expr} {t t' : TT} (h : PW X e t) (m : ∀ σ H Q, t' σ H Q → t σ H Q) : PW X e t' := ⟨fun wh pins s σ H Q I q => h.run wh pins s σ H Q I (m σ H Q q)⟩
theorem PA.mono {X : Cx} {e : List Expr} {t t' : TA} (h : PA X e t) (m : ∀ σ H Q, t' σ H Q → t σ H Q) : PA X e t' := ⟨fun pos pins s σ H Q I q => h.run pos pins s σ H Q I (m σ H Q q)⟩
theorem PS.mono {X : Cx} {e : Stmt} {t t' : TS} (h : PS X e t) (m : ∀ D σ H, t' D σ H → t D σ H) : PS X e t' := ⟨fun pins s σ H D I q => h.run pins s σ H D I (m D σ H q)⟩
theorem PSs.mono {X : Cx} {e : List Stmt} {t t' : TS} (h : PSs X e t) (m : ∀ D σ H, t' D σ H → t D σ H) : PSs X e t' := ⟨fun pins s σ H D I q => h.run pins s σ H D I (m D σ H q)⟩

def rd (E : Ev) : Op → Option D
  | .slot i => (eg E i).map (·.1)
  | .val d _ => some d
/-- where an end comes to lie elsewhere, too: a slot's changeable thing is frozen -/
def tk (E : Ev) : Op → Option (D × Nat × Ev)
  | .slot i => match eg E i with
    | none => none
    | some (d, n) => if imm d = true then some (d, 9, E) else some (d, 0, E.set i (some (d, 0)))
  | .val d n => some (d, n, E)
/-- where an end is handed on for good -/
def mv (E : Ev) : Op → Option (D × Nat × Ev)
  | .slot i => match eg E i with
    | none => none
    | some (d, n) => if imm d = true then some (d, 9, E) else some (d, n, E.set i none)
  | .val d n => some (d, n, E)

section
variable {K : PySem.W.Frag} {Z Z' Z1 Z2 : Addr → Prop} {H H' H1 H2 : Hp} {O O' O1 O2 : Addr → Prop} {σ : L2.St} {E E' : Ev} {R R' : Rs}
theorem eg_set_same {i : Nat} {c : Option (D × Nat)} (h : i < E.length) : eg (E.set i c) i = c := by
  unfold eg; rw [List.getElem?_set_self h]; rfl
theorem eg_set_ne {i j : Nat} {c : Option (D × Nat)} (h : j ≠ i) : eg (E.set i c) j = eg E j := by
  unfold eg; rw [List.getElem?_set_ne (Ne.symm h)]
theorem eg_lt {i : Nat} {c : D × Nat} (h : eg E i = some c) : i < E.length := by
  unfold eg at h
  by_cases q : i < E.length
  · exact q
  · rw [List.getElem?_eq_none (by omega)] at h; cases h
theorem S.read (s : S K Z H σ E R) {v : V} {o : Op} {d : D} {rs : List Addr} (h : OV K Z H σ v o rs) (e : rd E o = some d) : Rp K (fun _ => True) H v d := by
  cases o with
  | slot i =>
    obtain ⟨h1, h2⟩ := h
    simp only [Zk.rd] at e
    cases q : eg E i with
    | none => rw [q] at e; cases e
    | some dn =>
      rw [q] at e
      obtain ⟨v', e1, o1⟩ := s.slot i dn.1 dn.2 q
      rw [h1] at e1
      cases e1
      cases e
      exact o1.rd
  | val d' n =>
    cases e
    exact Own.rd h
/-- an end made ahead of a step -/
theorem S.pendO (s : S K Z H σ E R) (t : Step Z H (ow R) Z' H' (ow R')) {v : V} {o : Op} {rs : List Addr} (h : OV K Z H σ v o rs) (f : ∀ a ∈ rs, ¬ ow R a) : OV K Z' H' σ v o rs ∧ ∀ a ∈ rs, ¬ ow R' a := by
  cases o with
  | slot i =>
    obtain ⟨h1, h2⟩ := h
    subst h2
    exact ⟨⟨h1, rfl⟩, fun a m => by simp at m⟩
  | val d n => exact s.pend t h f
/-- a slot set anew -/
theorem S.setSlot (s : S K Z H σ E R) {i : Nat} {v : V} {d : D} {n : Nat} {rs : List Addr} (hi : i < E.length) (h : Own K Z H n v d rs) (nd : rs.Nodup) (no : ∀ a ∈ rs, ¬ ow R a) :
    S K Z H (σ.set i (some v)) (E.set i (some (d, n))) (put R i rs) where
  len := by simp [s.len]
  slot := fun j d' n' e => by
    by_cases q : j = i
    · subst q
      rw [eg_set_same hi] at e
      cases e
      exact ⟨v, List.getElem?_set_self (by rw [s.len]; exact hi), by rw [put_same]; exact h⟩
    · rw [eg_set_ne q] at e
      obtain ⟨v', e1, o1⟩ := s.slot j d' n' e
      exact ⟨v', by rw [List.getElem?_set_ne (Ne.symm q)]; exact e1, by rw [put_ne q]; exact o1⟩
  emp := fun j e => by
    by_cases q : j = i
    · subst q; rw [eg_set_same hi] at e; cases e
    · rw [eg_set_ne q] at e; rw [put_ne q]; exact s.emp j e
  nd := fun j => by
    by_cases q : j = i
    · subst q; rw [put_same]; exact nd
    · rw [put_ne q]; exact s.nd j
  dj := fun j k a h1 h2 => by
    by_cases q : j = i
    · subst q
      rw [put_same] at h1
      by_cases q2 : k = j
      · exact q2.symm
      · rw [put_ne q2] at h2; exact absurd ⟨k, h2⟩ (no a h1)
    · rw [put_ne q] at h1
      by_cases q2 : k = i
      · subst q2; rw [put_same] at h2; exact absurd ⟨j, h1⟩ (no a h2)
      · rw [put_ne q2] at h2; exact s.dj j k a h1 h2
  zd := s.zd
/-- a slot that is forgotten -/
theorem S.dropSlot (s : S K Z H σ E R) {i : Nat} : S K Z H σ (E.set i none) (put R i []) where
  len := by simp [s.len]
  slot := fun j d' n' e => by
    by_cases q : j = i
    · subst q
      by_cases hi : j < E.length
      · rw [eg_set_same hi] at e; cases e
      · unfold eg at e; rw [List.getElem?_eq_none (by simp; omega)] at e; cases e
    · rw [eg_set_ne q] at e
      obtain ⟨v', e1, o1⟩ := s.slot j d' n' e
      exact ⟨v', e1, by rw [put_ne q]; exact o1⟩
  emp := fun j e => by
    by_cases q : j = i
    · subst q; exact put_same
    · rw [eg_set_ne q] at e; rw [put_ne q]; exact s.emp j e
  nd := fun j => by
    by_cases q : j = i
    · subst q; rw [put_same]; exact List.nodup_nil
    · rw [put_ne q]; exact s.nd j
  dj := fun j k a h1 h2 => by
    by_cases q : j = i
    · subst q; rw [put_same] at h1; simp at h1
    · rw [put_ne q] at h1
      by_cases q2 : k = i
      · subst q2; rw [put_same] at h2; simp at h2
      · rw [put_ne q2] at h2; exact s.dj j k a h1 h2
  zd := s.zd
theorem ow_put {i : Nat} {rs : List Addr} {a : Addr} : ow (put R i rs) a → a ∈ rs ∨ ow R a := fun ⟨j, m⟩ => by
  by_cases q : j = i
  · subst q; rw [put_same] at m; exact .inl m
  · rw [put_ne q] at m; exact .inr ⟨j, m⟩
/-- a slot's thing is frozen -/
theorem S.freeze (s : S K Z H σ E R) {i : Nat} {d : D} {n : Nat} (e : eg E i = some (d, n)) :
    S K (fun a => Z a ∨ a ∈ R i) H σ (E.set i (some (d, 0))) (put R i []) ∧ Step Z H (ow R) (fun a => Z a ∨ a ∈ R i) H (ow (put R i [])) ∧
      ∀ v, σ[i]? = some (some v) → Rp K (fun a => Z a ∨ a ∈ R i) H v d := by
  obtain ⟨v, e1, o1⟩ := s.slot i d n e
  have hi := eg_lt e
  have p : Pers Z H (fun a => Z a ∨ a ∈ R i) H := ⟨fun _ h => .inl h, fun _ _ _ h => h, fun _ _ h _ => h⟩
  have fz : Rp K (fun a => Z a ∨ a ∈ R i) H v d := o1.freeze p fun a m => ⟨rfl, .inr m⟩
  refine ⟨⟨by simp [s.len], fun j d' n' e' => ?_, fun j e' => ?_, fun j => ?_, fun j k a h1 h2 => ?_, fun a z => ?_⟩, ⟨fun _ h => .inl h, fun a h => ?_, fun _ _ h _ => h, fun a h => ?_, fun _ h => h⟩, fun v' e' => ?_⟩
  · by_cases q : j = i
    · subst q
      rw [eg_set_same hi] at e'
      cases e'
      exact ⟨v, e1, by rw [put_same]; exact ⟨rfl, fz⟩⟩
    · rw [eg_set_ne q] at e'
      obtain ⟨v', e2, o2⟩ := s.slot j d' n' e'
      refine ⟨v', e2, ?_⟩
      rw [put_ne q]
      refine o2.keep p fun a m => ⟨rfl, fun z => ?_⟩
      rcases z with z | z
      · exact (o2.mut a m).2 z
      · exact q (s.dj j i a m z)
  · by_cases q : j = i
    · subst q; exact put_same
    · rw [eg_set_ne q] at e'; rw [put_ne q]; exact s.emp j e'
  · by_cases q : j = i
    · subst q; rw [put_same]; exact List.nodup_nil
    · rw [put_ne q]; exact s.nd j
  · by_cases q : j = i
    · subst q; rw [put_same] at h1; simp at h1
    · rw [put_ne q] at h1
      by_cases q2 : k = i
      · subst q2; rw [put_same] at h2; simp at h2
      · rw [put_ne q2] at h2; exact s.dj j k a h1 h2
  · rcases z with z | z
    · exact s.zd a z
    · exact s.there ⟨i, z⟩
  · rcases h with h | h
    · exact .inl h
    · exact .inr (.inr ⟨i, h⟩)
  · rcases ow_put h with h | h
    · simp at h
    · exact .inl h
  · rw [e1] at e'; cases e'; exact fz
/-- taking an end -/
theorem S.take (s : S K Z H σ E R) {v : V} {o : Op} {d : D} {n : Nat} {E' : Ev} {rs : List Addr} (h : OV K Z H σ v o rs) (no : ∀ a ∈ rs, ¬ ow R a) (e : tk E o = some (d, n, E')) :
    ∃ Z' R', S K Z' H σ E' R' ∧ Step Z H (ow R) Z' H (ow R') ∧ Own K Z' H n v d rs ∧ (∀ a ∈ rs, ¬ ow R' a) ∧ (∀ a, ow R' a → ow R a) := by
  cases o with
  | val d' n' =>
    cases e
    exact ⟨Z, R, s, .refl, h, no, fun _ h => h⟩
  | slot i =>
    obtain ⟨h1, h2⟩ := h
    subst h2
    unfold tk at e
    cases q : eg E i with
    | none => simp [q] at e
    | some dn =>
      obtain ⟨d', n'⟩ := dn
      simp only [q] at e
      obtain ⟨v', e1, o1⟩ := s.slot i d' n' q
      rw [h1] at e1
      cases e1
      by_cases hi : imm d' = true
      · rw [if_pos hi] at e
        cases e
        exact ⟨Z, R, s, .refl, .ofImm (o1.imm hi).2 hi, no, fun _ h => h⟩
      · rw [if_neg hi] at e
        cases e
        obtain ⟨s1, t1, f1⟩ := s.freeze q
        refine ⟨_, _, s1, t1, ⟨rfl, f1 v h1⟩, fun a m => by simp at m, fun a h => ?_⟩
        rcases ow_put h with h | h
        · simp at h
        · exact h
/-- handing an end on -/
theorem S.move (s : S K Z H σ E R) {v : V} {o : Op} {d : D} {n : Nat} {E' : Ev} {rs : List Addr} (h : OV K Z H σ v o rs) (nd : rs.Nodup) (no : ∀ a ∈ rs, ¬ ow R a) (e : mv E o = some (d, n, E')) :
    ∃ R' rs', S K Z H σ E' R' ∧ Step Z H (ow R) Z H (ow R') ∧ Own K Z H n v d rs' ∧ rs'.Nodup ∧ (∀ a ∈ rs', ¬ ow R' a) ∧ (∀ a ∈ rs', a ∈ rs ∨ ow R a) ∧ (∀ a, ow R' a → ow R a) := by
  cases o with
  | val d' n' =>
    cases e
    exact ⟨R, rs, s, .refl, h, nd, no, fun _ h => .inl h, fun _ h => h⟩
  | slot i =>
    obtain ⟨h1, h2⟩ := h
    subst h2
    unfold mv at e
    cases q : eg E i with
    | none => simp [q] at e
    | some dn =>
      obtain ⟨d', n'⟩ := dn
      simp only [q] at e
      obtain ⟨v', e1, o1⟩ := s.slot i d' n' q
      rw [h1] at e1
      cases e1
      by_cases hi : imm d' = true
      · rw [if_pos hi] at e
        cases e
        exact ⟨R, [], s, .refl, .ofImm (o1.imm hi).2 hi, List.nodup_nil, fun a m => by simp at m, fun a m => by simp at m, fun _ h => h⟩
      · rw [if_neg hi] at e
        cases e
        have sub : ∀ a, ow (put R i []) a → ow R a := fun a h => by
          rcases ow_put h with h | h
          · simp at h
          · exact h
        refine ⟨_, R i, s.dropSlot, ⟨fun _ h => h, fun _ h => .inl h, fun _ _ h _ => h, fun a h => .inl (sub a h), fun _ h => h⟩, o1, s.nd i, fun a m ⟨j, hj⟩ => ?_, fun a m => .inr ⟨i, m⟩, sub⟩
        by_cases q2 : j = i
        · subst q2; rw [put_same] at hj; simp at hj
        · rw [put_ne q2] at hj; exact q2 (s.dj j i a hj m)
end
end Zk
namespace Zk
open PySem PySem.Spec PyProof.Rows L2

section
variable {K : PySem.W.Frag} {Z Z' Z1 Z2 : Addr → Prop} {H H' H1 H2 : Hp} {O O' O1 O2 : Addr → Prop} {σ : L2.St} {E E' : Ev} {R R' : Rs}
/-- the heap grows by new objects -/
def More (H H' : Hp) : Prop := ∀ a o, H a = some o → H' a = some o
theorem More.refl (H : Hp) : More H H := fun _ _ h => h
theorem More.trans {H H1 H2 : Hp} (a : More H H1) (b : More H1 H2) : More H H2 := fun x o h => b x o (a x o h)
theorem More.upd {p : Addr} {o : HO} (h : H p = none) : More H (upd H p o) := fun a u e => by rw [upd_ne (ne_of_none e h)]; exact e
theorem More.pers (m : More H H') (zz : ∀ a, Z a → Z' a) : Pers Z H Z' H' := ⟨zz, fun a o _ e => m a o e, fun a o e _ => m a o e⟩
theorem More.step (m : More H H') (O : Addr → Prop) : Step Z H O Z H' O :=
  ⟨fun _ h => h, fun _ h => .inl h, fun a o e _ => m a o e, fun _ h => .inl h, fun a h e => by
    cases q : H a with
    | none => exact h q
    | some o => rw [m a o q] at e; cases e⟩
theorem S.more (s : S K Z H σ E R) (m : More H H') : S K Z H' σ E R where
  len := s.len
  slot := fun i d n e => by
    obtain ⟨v, h1, h2⟩ := s.slot i d n e
    refine ⟨v, h1, h2.keep (m.pers fun _ h => h) fun a ha => ⟨?_, (h2.mut a ha).2⟩⟩
    cases q : H a with
    | none =>
      have := (h2.mut a ha).1
      rw [q] at this; exact this.elim
    | some o => exact m a o q
  emp := s.emp
  nd := s.nd
  dj := s.dj
  zd := fun a z e => by
    cases q : H a with
    | none => exact s.zd a z q
    | some o => rw [m a o q] at e; cases e
/-- more is frozen: addresses that are no slot's -/
theorem S.chill (s : S K Z H σ E R) {rs : List Addr} (no : ∀ a ∈ rs, ¬ ow R a) (th : ∀ a ∈ rs, H a ≠ none) : S K (fun a => Z a ∨ a ∈ rs) H σ E R where
  len := s.len
  slot := fun i d n e => by
    obtain ⟨v, h1, h2⟩ := s.slot i d n e
    refine ⟨v, h1, h2.keep ⟨fun _ h => .inl h, fun _ _ _ h => h, fun _ _ h _ => h⟩ fun a ha => ⟨rfl, fun z => ?_⟩⟩
    rcases z with z | z
    · exact (h2.mut a ha).2 z
    · exact no a z ⟨i, ha⟩
  emp := s.emp
  nd := s.nd
  dj := s.dj
  zd := fun a z => z.elim (s.zd a) (th a)
theorem Own.there {n : Nat} {v : V} {d : D} {rs : List Addr} (h : Own K Z H n v d rs) : ∀ a ∈ rs, H a ≠ none := fun a m e => by
  have := (h.mut a m).1
  rw [e] at this; exact this
theorem OV.there {v : V} {o : Op} {rs : List Addr} (h : OV K Z H σ v o rs) : ∀ a ∈ rs, H a ≠ none := by
  cases o with
  | slot i => intro a m; rw [h.2] at m; simp at m
  | val d n => exact Own.there h

/-- v stands for d, and all within is frozen -/
def Kf (K : PySem.W.Frag) (Z : Addr → Prop) (H : Hp) (v : V) (d : D) : Prop :=
  match d with
  | .lst ds => ∃ a vs, v = .ref a ∧ H a = some (.lst vs) ∧ Rps K Z H vs ds
  | .dK kds => ∃ a kvs, v = .ref a ∧ Rd H a (.dK kvs) ∧ kvs.map (·.1) = kds.map (·.1) ∧ Rps K Z H (kvs.map (·.2)) (kds.map (·.2))
  | .dT kds => ∃ a kvs, v = .ref a ∧ H a = some (.dT kvs) ∧ kvs.map (·.1) = kds.map (·.1) ∧ Rps K Z H (kvs.map (·.2)) (kds.map (·.2))
  | .set xs => ∃ a T m, v = .ref a ∧ H a = some (.set T m) ∧ (∀ i, T i = decide (i ∈ xs)) ∧ m = xs.length ∧ xs.Nodup
  | d => Rp K Z H v d
theorem Rp.kf {v : V} {d : D} (h : Rp K Z H v d) : Kf K Z H v d := by
  cases h with
  | lst z e r => exact ⟨_, _, rfl, e, r⟩
  | dK z e e2 r => exact ⟨_, _, rfl, e, e2, r⟩
  | dT z e e2 r => exact ⟨_, _, rfl, e, e2, r⟩
  | set z e a b c => exact ⟨_, _, _, rfl, e, a, b, c⟩
  | non => exact .non
  | bl b => exact .bl b
  | int b => exact .int b
  | str b => exact .str b
  | ty b => exact .ty b
  | tup a b => exact .tup a b
  | con a b => exact .con a b
  | scr a => exact .scr a
/-- taking items: a slot's thing of two levels or more is left with one -/
def ak (E : Ev) : Op → Option (D × Ev)
  | .slot i => match eg E i with
    | none => none
    | some (d, n) => if imm d = true ∨ flat d = true ∨ n ≤ 1 then some (d, E) else some (d, E.set i (some (d, 0)))
  | .val d _ => some (d, E)
theorem All3.immRps {n : Nat} : ∀ {vs : List V} {ds : List D} {rss : List (List Addr)}, All3 (Own K Z H n) vs ds rss → imms ds = true → Rps K Z H vs ds ∧ rss.flatten = []
  | _, _, _, .nil, _ => ⟨.nil, rfl⟩
  | _, _, _, .cons h t, i => by
    simp only [imms_cons, Bool.and_eq_true] at i
    obtain ⟨r, e⟩ := All3.immRps t i.2
    obtain ⟨e2, r2⟩ := h.imm i.1
    exact ⟨.cons r2 r, by rw [List.flatten_cons, e, e2]; rfl⟩
theorem All3.zeroRps : ∀ {vs : List V} {ds : List D} {rss : List (List Addr)}, All3 (Own K Z H 0) vs ds rss → Rps K Z H vs ds ∧ rss.flatten = []
  | _, _, _, .nil => ⟨.nil, rfl⟩
  | _, _, _, .cons h t => by
    obtain ⟨r, e⟩ := All3.zeroRps t
    exact ⟨.cons h.2 r, by rw [List.flatten_cons, e, h.1]; rfl⟩
theorem All3.ofRps0 : ∀ {vs : List V} {ds : List D}, Rps K Z H vs ds → All3 (Own K Z H 0) vs ds (ds.map fun _ => [])
  | _, _, .nil => .nil
  | _, _, .cons h t => .cons ⟨rfl, h⟩ (All3.ofRps0 t)
theorem All3.ofRpsI {n : Nat} : ∀ {vs : List V} {ds : List D}, Rps K Z H vs ds → imms ds = true → All3 (Own K Z H n) vs ds (ds.map fun _ => [])
  | _, _, .nil, _ => .nil
  | _, _, .cons h t, i => by
    simp only [imms_cons, Bool.and_eq_true] at i
    exact .cons (.ofImm h i.1) (All3.ofRpsI t i.2)
theorem flat_nils (ds : List D) : (ds.map fun _ => ([] : List Addr)).flatten = [] := by
  induction ds with
  | nil => rfl
  | cons d ds ih => simpa using ih
theorem Own.kf1 : ∀ {n : Nat} {v : V} {d : D} {rs : List Addr}, n ≤ 1 → Own K Z H n v d rs → Kf K Z H v d
  | 0, _, _, _, _, h => h.2.kf
  | 1, v, d, rs, _, h => by
    cases d with
    | lst ds =>
      obtain ⟨a, vs, rss, e, ha, z, r, _⟩ := h
      exact ⟨a, vs, e, ha, r.zeroRps.1⟩
    | dK ds =>
      obtain ⟨a, vs, rss, e, ha, z, e2, r, _⟩ := h
      exact ⟨a, vs, e, .inl ha, e2, r.zeroRps.1⟩
    | dT ds =>
      obtain ⟨a, vs, rss, e, ha, z, e2, r, _⟩ := h
      exact ⟨a, vs, e, ha, e2, r.zeroRps.1⟩
    | set xs =>
      obtain ⟨a, T, m, e, ha, z, e2, e3, e4, _⟩ := h
      exact ⟨a, T, m, e, ha, e2, e3, e4⟩
    | _ => exact h.2
theorem Own.kfFlat : ∀ {n : Nat} {v : V} {d : D} {rs : List Addr}, flat d = true → Own K Z H n v d rs → Kf K Z H v d
  | 0, _, _, _, _, h => h.2.kf
  | n + 1, v, d, rs, f, h => by
    cases d with
    | lst ds =>
      obtain ⟨a, vs, rss, e, ha, z, r, _⟩ := h
      exact ⟨a, vs, e, ha, (r.immRps (by simpa [flat] using f)).1⟩
    | dK ds =>
      obtain ⟨a, vs, rss, e, ha, z, e2, r, _⟩ := h
      exact ⟨a, vs, e, .inl ha, e2, (r.immRps (by simpa [flat] using f)).1⟩
    | dT ds =>
      obtain ⟨a, vs, rss, e, ha, z, e2, r, _⟩ := h
      exact ⟨a, vs, e, ha, e2, (r.immRps (by simpa [flat] using f)).1⟩
    | set xs =>
      obtain ⟨a, T, m, e, ha, z, e2, e3, e4, _⟩ := h
      exact ⟨a, T, m, e, ha, e2, e3, e4⟩
    | _ => exact h.2
theorem Own.kfImm {n : Nat} {v : V} {d : D} {rs : List Addr} (i : Zk.imm d = true) (h : Own K Z H n v d rs) : Kf K Z H v d := (h.imm i).2.kf
/-- behind taking items all within is frozen -/
theorem S.kids (s : S K Z H σ E R) {v : V} {o : Op} {d : D} {rs : List Addr} (h : OV K Z H σ v o rs) (no : ∀ a ∈ rs, ¬ ow R a) (e : ak E o = some (d, E')) :
    ∃ R', S K (fun a => (Z a ∨ a ∈ rs) ∨ (ow R a ∧ ¬ ow R' a)) H σ E' R' ∧ Kf K (fun a => (Z a ∨ a ∈ rs) ∨ (ow R a ∧ ¬ ow R' a)) H v d ∧ (∀ a, ow R' a → ow R a) := by
  cases o with
  | val d' n =>
    cases e
    have s1 := s.chill no (OV.there h)
    have p : Pers Z H (fun a => Z a ∨ a ∈ rs) H := ⟨fun _ h => .inl h, fun _ _ _ h => h, fun _ _ h _ => h⟩
    have ez : (fun a => (Z a ∨ a ∈ rs) ∨ (ow R a ∧ ¬ ow R a)) = fun a => Z a ∨ a ∈ rs := by
      funext a; simp
    refine ⟨R, by rw [ez]; exact s1, by rw [ez]; exact (Own.freeze p (fun a m => ⟨rfl, .inr m⟩) h).kf, fun _ h => h⟩
  | slot i =>
    obtain ⟨h1, h2⟩ := h
    subst h2
    have ez : (fun a => (Z a ∨ a ∈ ([] : List Addr)) ∨ (ow R a ∧ ¬ ow R a)) = Z := by
      funext a; simp
    unfold ak at e
    cases q : eg E i with
    | none => simp [q] at e
    | some dn =>
      obtain ⟨d', n'⟩ := dn
      simp only [q] at e
      obtain ⟨v', e1, o1⟩ := s.slot i d' n' q
      rw [h1] at e1
      cases e1
      split at e
      · rename_i c
        cases e
        refine ⟨R, by rw [ez]; exact s, ?_, fun _ h => h⟩
        rw [ez]
        rcases c with c | c | c
        · exact o1.kfImm c
        · exact o1.kfFlat c
        · exact o1.kf1 c
      · cases e
        obtain ⟨s1, t1, f1⟩ := s.freeze q
        have ez2 : (fun a => (Z a ∨ a ∈ ([] : List Addr)) ∨ (ow R a ∧ ¬ ow (put R i []) a)) = fun a => Z a ∨ a ∈ R i := by
          funext a
          simp only [List.not_mem_nil, or_false, eq_iff_iff]
          constructor
          · rintro (z | ⟨⟨j, m⟩, z⟩)
            · exact .inl z
            · by_cases c : j = i
              · subst c; exact .inr m
              · exact absurd ⟨j, by rw [put_ne c]; exact m⟩ z
          · rintro (z | z)
            · exact .inl z
            · refine .inr ⟨⟨i, z⟩, fun ⟨j, m⟩ => ?_⟩
              by_cases c : j = i
              · subst c; rw [put_same] at m; simp at m
              · rw [put_ne c] at m; exact c (s.dj j i a m z)
        refine ⟨put R i [], by rw [ez2]; exact s1, by rw [ez2]; exact (f1 v h1).kf, fun a h => ?_⟩
        rcases ow_put h with h | h
        · simp at h
        · exact h

/-- the end of an expression's step -/
theorem Step.fin {Z0 Zf : Addr → Prop} {H0 : Hp} {O0 : Addr → Prop} (t : Step Z0 H0 O0 Z H O) (zz : ∀ a, Z a → Zf a) (zn : ∀ a, Zf a → Z a ∨ O a ∨ O0 a ∨ H0 a = none) (m : More H H')
    (on : ∀ a, O' a → O a ∨ O0 a ∨ H0 a = none) : Step Z0 H0 O0 Zf H' O' where
  zz := fun a h => zz a (t.zz a h)
  zn := fun a h => by
    rcases zn a h with h | h | h | h
    · exact t.zn a h
    · rcases t.on a h with h | h
      · exact .inr (.inr h)
      · exact .inr (.inl h)
    · exact .inr (.inr h)
    · exact .inr (.inl h)
  hh := fun a o e n => m a o (t.hh a o e n)
  on := fun a h => by
    rcases on a h with h | h | h
    · exact t.on a h
    · exact .inl h
    · exact .inr h
  dm := fun a h e => by
    cases q : H a with
    | none => exact t.dm a h q
    | some o => rw [m a o q] at e; cases e

def rdL (E : Ev) : List Op → Option (List D)
  | [] => some []
  | o :: os => (rd E o).bind fun d => (rdL E os).map fun ds => d :: ds
def akL (E : Ev) : List Op → Option (List D × Ev)
  | [] => some ([], E)
  | o :: os => (ak E o).bind fun p => (akL p.2 os).map fun q => (p.1 :: q.1, q.2)
inductive Kfs (K : PySem.W.Frag) (Z : Addr → Prop) (H : Hp) : List V → List D → Prop
  | nil : Kfs K Z H [] []
  | cons {v : V} {d : D} {vs : List V} {ds : List D} : Kf K Z H v d → Kfs K Z H vs ds → Kfs K Z H (v :: vs) (d :: ds)
theorem S.readL (s : S K Z H σ E R) : ∀ {vs : List V} {os : List Op} {rss : List (List Addr)} {ds : List D}, All3 (OV K Z H σ) vs os rss → rdL E os = some ds → Rps K (fun _ => True) H vs ds
  | _, _, _, _, .nil, e => by cases e; exact .nil
  | _, _, _, _, .cons (b := o) (bs := os) h t, e => by
    simp only [rdL] at e
    cases q : rd E o with
    | none => rw [q] at e; cases e
    | some d =>
      cases q2 : rdL E os with
      | none => rw [q, q2] at e; cases e
      | some ds =>
        rw [q, q2] at e
        cases e
        exact .cons (s.read h q) (s.readL t q2)
theorem Kf.mono {v : V} {d : D} (h : Kf K Z H v d) (zz : ∀ a, Z a → Z' a) : Kf K Z' H v d := by
  have p : Pers Z H Z' H := ⟨zz, fun _ _ _ h => h, fun _ _ h _ => h⟩
  cases d with
  | lst ds => obtain ⟨a, vs, e, ha, r⟩ := h; exact ⟨a, vs, e, ha, r.pers p⟩
  | dK ds => obtain ⟨a, vs, e, ha, e2, r⟩ := h; exact ⟨a, vs, e, ha, e2, r.pers p⟩
  | dT ds => obtain ⟨a, vs, e, ha, e2, r⟩ := h; exact ⟨a, vs, e, ha, e2, r.pers p⟩
  | set xs => exact h
  | non => exact Rp.pers p h
  | bl _ => exact Rp.pers p h
  | int _ => exact Rp.pers p h
  | str _ => exact Rp.pers p h
  | ty _ => exact Rp.pers p h
  | tup _ => exact Rp.pers p h
  | con _ => exact Rp.pers p h
  | scr _ => exact Rp.pers p h
theorem Kfs.mono {vs : List V} {ds : List D} (h : Kfs K Z H vs ds) (zz : ∀ a, Z a → Z' a) : Kfs K Z' H vs ds := by
  induction h with
  | nil => exact .nil
  | cons h _ ih => exact .cons (h.mono zz) ih
theorem S.kidsL : ∀ {vs : List V} {os : List Op} {rss : List (List Addr)} {ds : List D} {Z : Addr → Prop} {E E' : Ev} {R : Rs}, S K Z H σ E R → All3 (OV K Z H σ) vs os rss → (∀ a ∈ rss.flatten, ¬ ow R a) → rss.flatten.Nodup → akL E os = some (ds, E') →
    ∃ Zf R', S K Zf H σ E' R' ∧ Kfs K Zf H vs ds ∧ (∀ a, ow R' a → ow R a) ∧ (∀ a, Z a → Zf a) ∧ (∀ a, Zf a → Z a ∨ a ∈ rss.flatten ∨ ow R a)
  | _, _, _, _, Z, E, E', R, s, .nil, no, nd, e => by
    cases e
    exact ⟨Z, R, s, .nil, fun _ h => h, fun _ h => h, fun _ h => .inl h⟩
  | _, _, _, _, Z, E, E', R, s, .cons (a := v) (b := o) (bs := os) (c := rs) (cs := rss) h t, no, nd, e => by
    simp only [akL] at e
    rw [List.flatten_cons, List.nodup_append] at nd
    obtain ⟨n1, n2, n3⟩ := nd
    have no1 : ∀ a ∈ rs, ¬ ow R a := fun a m => no a (by rw [List.flatten_cons, List.mem_append]; exact .inl m)
    have no2 : ∀ a ∈ rss.flatten, ¬ ow R a := fun a m => no a (by rw [List.flatten_cons, List.mem_append]; exact .inr m)
    cases q : ak E o with
    | none => rw [q] at e; cases e
    | some p =>
      obtain ⟨d, E1⟩ := p
      rw [q] at e
      cases q2 : akL E1 os with
      | none => simp only [Option.bind_some, q2] at e; cases e
      | some p2 =>
        obtain ⟨ds, E2⟩ := p2
        simp only [Option.bind_some, q2, Option.map_some, Option.some.injEq, Prod.mk.injEq] at e
        obtain ⟨rfl, rfl⟩ := e
        obtain ⟨R1, s1, k1, sub1⟩ := s.kids h no1 q
        have t1 : All3 (OV K (fun a => (Z a ∨ a ∈ rs) ∨ (ow R a ∧ ¬ ow R1 a)) H σ) _ os rss := t.imp fun v' o' rs' m hh => by
          cases o' with
          | slot i => exact hh
          | val d' n' =>
            refine Own.keep ⟨fun _ h => .inl (.inl h), fun _ _ _ h => h, fun _ _ h _ => h⟩ (fun a ma => ⟨rfl, fun z => ?_⟩) hh
            rcases z with (z | z) | z
            · exact (Own.mut hh a ma).2 z
            · exact n3 a z a (mem_flatten_of m ma) rfl
            · exact no2 a (mem_flatten_of m ma) z.1
        obtain ⟨Zf, R2, s2, k2, sub2, zz2, zn2⟩ := S.kidsL s1 t1 (fun a m z => no2 a m (sub1 a z)) n2 q2
        refine ⟨Zf, R2, s2, .cons (k1.mono zz2) k2, fun a h => sub1 a (sub2 a h), fun a h => zz2 a (.inl (.inl h)), fun a h => ?_⟩
        rw [List.flatten_cons, List.mem_append]
        rcases zn2 a h with ((h | h) | h) | h | h
        · exact .inl h
        · exact .inr (.inl (.inl h))
        · exact .inr (.inr h.1)
        · exact .inr (.inl (.inr h))
        · exact .inr (.inr (sub1 a h))

/-- an operation that only reads, its end is unchangeable -/
def RO (K : PySem.W.Frag) (r : List V → Hp → VK → Prop) (g : List D → Option D) : Prop :=
  (∀ ds d, g ds = some d → imm d = true) ∧ ∀ (H : Hp) (vs : List V) (ds : List D) (d : D) (Q : VK), Rps K (fun _ => True) H vs ds → g ds = some d → (∀ v, Rp K (fun _ => True) H v d → Q v H) → r vs H Q
/-- an operation whose end may hold the items of what is given, and may be new -/
def AL (K : PySem.W.Frag) (r : List V → Hp → VK → Prop) (g : List D → Option (D × Nat)) : Prop :=
  ∀ (Z : Addr → Prop) (H : Hp) (vs : List V) (ds : List D) (d : D) (n : Nat) (Q : VK), (∀ a, Z a → H a ≠ none) → Kfs K Z H vs ds → g ds = some (d, n) →
    (∀ v H' rs, More H H' → Own K Z H' n v d rs → rs.Nodup → (∀ a ∈ rs, H a = none) → Q v H') → r vs H Q
def mRO (g : List D → Option D) (fa : Fa) : Fe := fun E => (fa E).bind fun p => (rdL p.2 p.1).bind fun ds => (g ds).map fun d => (.val d 9, p.2)
def mAL (g : List D → Option (D × Nat)) (fa : Fa) : Fe := fun E => (fa E).bind fun p => (akL p.2 p.1).bind fun q => (g q.1).map fun d => (.val d.1 d.2, q.2)
theorem ro_of {r : List V → Hp → VK → Prop} {g : List D → Option D} (h : RO K r g) {fa : Fa} {σ : L2.St} {H : Hp} {Q : VK} (q : eOf K (mRO g fa) σ H Q) : aOf K fa σ H fun vs H2 => r vs H2 Q := by
  obtain ⟨Z, E, R, s, o, E', e, q⟩ := q
  unfold mRO at e
  cases e1 : fa E with
  | none => rw [e1] at e; cases e
  | some p =>
    obtain ⟨os, E1⟩ := p
    rw [e1] at e
    simp only [Option.bind_some] at e
    cases e2 : rdL E1 os with
    | none => rw [e2] at e; cases e
    | some ds =>
      rw [e2] at e
      simp only [Option.bind_some] at e
      cases e3 : g ds with
      | none => rw [e3] at e; cases e
      | some d =>
        rw [e3] at e
        simp only [Option.map_some, Option.some.injEq, Prod.mk.injEq] at e
        obtain ⟨rfl, rfl⟩ := e
        refine ⟨Z, E, R, s, os, E1, e1, fun vs Z1 H1 R1 rss s1 t1 a1 f1 => ?_⟩
        refine h.2 H1 vs ds d Q (s1.readL a1 e2) e3 fun v rv => ?_
        exact q v Z1 H1 R1 [] s1 t1 (Own.ofImm (rv.immz (fun _ _ e _ => e) (h.1 ds d e3)) (h.1 ds d e3)) .nil
theorem al_of {r : List V → Hp → VK → Prop} {g : List D → Option (D × Nat)} (h : AL K r g) {fa : Fa} {σ : L2.St} {H : Hp} {Q : VK} (q : eOf K (mAL g fa) σ H Q) : aOf K fa σ H fun vs H2 => r vs H2 Q := by
  obtain ⟨Z, E, R, s, o, E', e, q⟩ := q
  unfold mAL at e
  cases e1 : fa E with
  | none => rw [e1] at e; cases e
  | some p =>
    obtain ⟨os, E1⟩ := p
    rw [e1] at e
    simp only [Option.bind_some] at e
    cases e2 : akL E1 os with
    | none => rw [e2] at e; cases e
    | some p2 =>
      obtain ⟨ds, E2⟩ := p2
      rw [e2] at e
      simp only [Option.bind_some] at e
      cases e3 : g ds with
      | none => rw [e3] at e; cases e
      | some d =>
        rw [e3] at e
        simp only [Option.map_some, Option.some.injEq, Prod.mk.injEq] at e
        obtain ⟨rfl, rfl⟩ := e
        refine ⟨Z, E, R, s, os, E1, e1, fun vs Z1 H1 R1 rss s1 t1 a1 f1 => ?_⟩
        obtain ⟨Zf, R2, s2, k2, sub2, zz2, zn2⟩ := s1.kidsL a1 f1.no f1.nd e2
        refine h Zf H1 vs ds d.1 d.2 Q s2.zd k2 e3 fun v H' rs m o nd nw => ?_
        have th : ∀ a, ow R2 a → H1 a ≠ none := fun a => s2.there
        refine q v Zf H' R2 rs (s2.more m) (t1.fin zz2 (fun a z => ?_) m fun a z => .inl (sub2 a z)) o ⟨nd, fun a ma z => th a z (nw a ma), fun a ma => ?_⟩
        · rcases zn2 a z with z | z | z
          · exact .inl z
          · rcases f1.of a z with z | z
            · exact .inr (.inr (.inl z))
            · exact .inr (.inr (.inr z))
          · exact .inr (.inl z)
        · by_cases c : H a = none
          · exact .inr c
          · exact absurd (nw a ma) (t1.dm a c)
/-- two arguments -/
def mA2 (a b : Fe) : Fa := fun E => (a E).bind fun p => (b p.2).bind fun q => some ([p.1, q.1], q.2)
def mA1 (a : Fe) : Fa := fun E => (a E).bind fun p => some ([p.1], p.2)
def mA0 : Fa := fun E => some ([], E)
def mAc (a : Fe) (b : Fa) : Fa := fun E => (a E).bind fun p => (b p.2).bind fun q => some (p.1 :: q.1, q.2)
theorem Fr.trans {R0 R1 R2 : Rs} {H0 H1 : Hp} {rs : List Addr} (a : Fr R1 H1 R2 rs) (on : ∀ x, ow R1 x → ow R0 x ∨ H0 x = none) (dm : ∀ x, H0 x ≠ none → H1 x ≠ none) : Fr R0 H0 R2 rs :=
  ⟨a.nd, a.no, fun x m => by
    rcases a.of x m with h | h
    · exact on x h
    · by_cases q : H0 x = none
      · exact .inr q
      · exact absurd h (dm x q)⟩
theorem aOf_c {fa : Fe} {fb : Fa} {σ : L2.St} {H : Hp} {Q : List V → Hp → Prop} (q : aOf K (mAc fa fb) σ H Q) : eOf K fa σ H fun x H1 => aOf K fb σ H1 fun xs H2 => Q (x :: xs) H2 := by
  obtain ⟨Z, E, R, s, os, E', e, q⟩ := q
  unfold mAc at e
  cases e1 : fa E with
  | none => rw [e1] at e; cases e
  | some p =>
    obtain ⟨o1, E1⟩ := p
    rw [e1] at e
    simp only [Option.bind_some] at e
    cases e2 : fb E1 with
    | none => rw [e2] at e; cases e
    | some p2 =>
      obtain ⟨os2, E2⟩ := p2
      rw [e2] at e
      simp only [Option.bind_some, Option.some.injEq, Prod.mk.injEq] at e
      obtain ⟨rfl, rfl⟩ := e
      refine ⟨Z, E, R, s, o1, E1, e1, fun v1 Z1 H1 R1 rs1 s1 t1 v1r f1 => ?_⟩
      refine ⟨Z1, E1, R1, s1, os2, E2, e2, fun vs2 Z2 H2 R2 rss2 s2 t2 v2r f2 => ?_⟩
      obtain ⟨p1, p2⟩ := s1.pendO t2 v1r f1.no
      refine q (v1 :: vs2) Z2 H2 R2 (rs1 :: rss2) s2 (t1.trans t2) (.cons p1 v2r) ⟨?_, fun a m => ?_, fun a m => ?_⟩
      · rw [List.flatten_cons, List.nodup_append]
        refine ⟨f1.nd, f2.nd, fun a m b m2 e => ?_⟩
        subst e
        rcases f2.of a m2 with z | z
        · exact f1.no a m z
        · exact OV.there v1r a m z
      · rw [List.flatten_cons, List.mem_append] at m
        rcases m with m | m
        · exact p2 a m
        · exact f2.no a m
      · rw [List.flatten_cons, List.mem_append] at m
        rcases m with m | m
        · exact f1.of a m
        · exact (f2.trans t1.on t1.dm).of a m
theorem aOf_0 {σ : L2.St} {H : Hp} {Q : List V → Hp → Prop} (q : aOf K mA0 σ H Q) : Q [] H := by
  obtain ⟨Z, E, R, s, os, E', e, q⟩ := q
  cases e
  exact q [] Z H R [] s .refl .nil .nil
theorem mA1_eq (a : Fe) : mA1 a = mAc a mA0 := by
  funext E; unfold mA1 mAc mA0
  cases a E <;> rfl
theorem mA2_eq (a b : Fe) : mA2 a b = mAc a (mA1 b) := by
  funext E; unfold mA2 mAc mA1
  cases a E with
  | none => rfl
  | some p => simp only [Option.bind_some]; cases b p.2 <;> rfl
theorem aOf_1 {fa : Fe} {σ : L2.St} {H : Hp} {Q : List V → Hp → Prop} (q : aOf K (mA1 fa) σ H Q) : eOf K fa σ H fun x H1 => Q [x] H1 := by
  rw [mA1_eq] at q
  obtain ⟨Z, E, R, s, o1, E1, e1, q⟩ := aOf_c q
  exact ⟨Z, E, R, s, o1, E1, e1, fun v Z' H' R' rs s' t' o' f' => aOf_0 (q v Z' H' R' rs s' t' o' f')⟩
theorem aOf_2 {fa fb : Fe} {σ : L2.St} {H : Hp} {Q : List V → Hp → Prop} (q : aOf K (mA2 fa fb) σ H Q) : eOf K fa σ H fun x H1 => eOf K fb σ H1 fun y H2 => Q [x, y] H2 := by
  rw [mA2_eq] at q
  obtain ⟨Z, E, R, s, o1, E1, e1, q⟩ := aOf_c q
  exact ⟨Z, E, R, s, o1, E1, e1, fun v Z' H' R' rs s' t' o' f' => aOf_1 (q v Z' H' R' rs s' t' o' f')⟩
end
end Zk
set_option maxHeartbeats 4000000
namespace L2
open PySem PySem.Spec PyProof.Rows
theorem tuple_mulW1 (l : Addr) (items : Array Value) (n : Nat) (dd : Option Addr) (sl : Array (Option Value)) (x : Int) (u : Tok) (c0 : (decide (x < -(2 ^ 63)) || decide (x ≥ 2 ^ 63)) = false) (c1 : (items.isEmpty || x == 1) = true) :
    Meets (Builtin.«tuple.__mul__» ⟨[.ref l, .int x u], []⟩) (fun _ R s => s.heap.get? l = some { cls := .type "tuple", dict := dd, data := .seq items n, slots := sl } ∧ R (.ok (.ret (Value.ref l))) s) :=
  .of_wp fun prog w A R s h => by
    obtain ⟨hp, g, d, tk, os⟩ := s
    obtain ⟨hl, h⟩ := h
    have f1 := AutoSeq1.idx_int
    wp_walk using wpAny_loadPart' hl
    repeat (first
      | (refine wpAny_ite_false (decide_eq_false (by rw [c0]; exact Bool.false_ne_true)) ?_; wp_walk using wpAny_loadPart' hl)
      | (refine wpAny_ite_true (decide_eq_true (by rw [c1])) ?_; wp_walk using wpAny_loadPart' hl))
    exact ⟨_, rfl, h⟩
theorem tuple_mulW0 (l : Addr) (items : Array Value) (n : Nat) (dd : Option Addr) (sl : Array (Option Value)) (x : Int) (u : Tok) (c0 : (decide (x < -(2 ^ 63)) || decide (x ≥ 2 ^ 63)) = false) (c1 : (items.isEmpty || x == 1) = false) (c2 : (decide (x ≤ 0) || items.isEmpty) = true) :
    Meets (Builtin.«tuple.__mul__» ⟨[.ref l, .int x u], []⟩) (fun _ R s => s.heap.get? l = some { cls := .type "tuple", dict := dd, data := .seq items n, slots := sl } ∧
      R (.ok (.ret (Value.ref s.heap.objs.size))) { s with heap := s.heap.push { cls := Value.type "tuple", data := Data.seq #[] }, toks := s.toks }) :=
  .of_wp fun prog w A R s h => by
    obtain ⟨hp, g, d, tk, os⟩ := s
    obtain ⟨hl, h⟩ := h
    have f1 := AutoSeq1.idx_int
    wp_walk using wpAny_loadPart' hl
    repeat (first
      | (refine wpAny_ite_false (decide_eq_false (by rw [c0]; exact Bool.false_ne_true)) ?_; wp_walk using wpAny_loadPart' hl)
      | (refine wpAny_ite_false (decide_eq_false (by rw [c1]; exact Bool.false_ne_true)) ?_; wp_walk using wpAny_loadPart' hl)
      | (refine wpAny_ite_true (decide_eq_true (by rw [c2])) ?_; wp_walk using wpAny_loadPart' hl))
    exact ⟨_, rfl, h⟩
/-- a tuple 0 times, once, often -/
def rRepA (K : PySem.W.Frag) : R2 := fun x y H Q => ∃ l k xs, x = .ref l ∧ y = .int k ∧ SqT K H l xs ∧ xs ≠ [] ∧ 0 ≤ k ∧ k ≤ 1000 ∧ xs.length ≤ 1000 ∧ (k = 1 → Q (.ref l) H) ∧ (k ≠ 1 → ∀ p, H p = none → Q (.ref p) (upd H p (.tup (List.replicate k.toNat xs).flatten)))
section
variable {X : Cx}
theorem op_repA : OpR X (binaryOp .Mult) (rRepA X.K) := by
  intro pins s σ H x y v u Q I rx ry h
  obtain ⟨l, k, xs, rfl, rfl, hT, hne, h1, h2, hz, q1, q⟩ := h
  by_cases k2 : 2 ≤ k
  · exact op_repT pins s σ H _ _ v u Q I rx ry ⟨l, k, xs, rfl, rfl, hT, hne, k2, h2, hz, q (by omega)⟩
  cases rx
  obtain ⟨t, rfl⟩ := ry
  obtain ⟨its, r, ⟨⟨cls, dd, data, sl⟩, ho, hc, n, hd⟩, hs⟩ := I.tuple hT
  simp only at hc hd
  subst hc hd
  have hle : its.length = xs.length := r.length.symm
  have hn : its ≠ [] := fun e => hne (by
    rw [e] at hle
    exact List.eq_nil_of_length_eq_zero hle.symm)
  have hi : its.toArray.isEmpty = false := by
    cases its with
    | nil => exact absurd rfl hn
    | cons a b => rfl
  have c0 : (decide (k < -(2 ^ 63)) || decide (k ≥ 2 ^ 63)) = false := by
    rw [decide_eq_false (by omega), decide_eq_false (by omega)] <;> rfl
  by_cases e1 : k = 1
  · subst e1
    have c1 : (its.toArray.isEmpty || (1 : Int) == 1) = true := by rw [hi]; rfl
    refine wpAny_binaryOp_repeat_ref (T := "tuple") (U := "int") (by decide) ⟨_, ho, rfl⟩ (fun s' => typeIs_int s' 1 t) noFill_tuple_mul F.fills_int_mul F.slot_int_rmul repeat_tuple F.slot_int_index.lookup
      (call_meets F.slot_int_rmul (typeIs_int s 1 t) F.entry_int_rmul (F.args_int_rmul_2 _ _) (int_rmul_tuple 1 t l its.toArray n dd sl)
        ⟨ho, rfl, ⟨_, ho, rfl⟩, call_meets F.slot_tuple_mul ⟨_, ho, rfl⟩ F.entry_tuple_mul (F.args_tuple_mul_2 _ _) (tuple_mulW1 l its.toArray n dd sl 1 t c0 c1) ⟨ho, ?_⟩⟩)
    exact ⟨.ref l, H, I, rfl, q1 rfl⟩
  · have e0 : k = 0 := by omega
    subst e0
    have c1 : (its.toArray.isEmpty || (0 : Int) == 1) = false := by rw [hi]; rfl
    have c2 : (decide ((0 : Int) ≤ 0) || its.toArray.isEmpty) = true := by rw [decide_eq_true (by omega)]; rfl
    refine wpAny_binaryOp_repeat_ref (T := "tuple") (U := "int") (by decide) ⟨_, ho, rfl⟩ (fun s' => typeIs_int s' 0 t) noFill_tuple_mul F.fills_int_mul F.slot_int_rmul repeat_tuple F.slot_int_index.lookup
      (call_meets F.slot_int_rmul (typeIs_int s 0 t) F.entry_int_rmul (F.args_int_rmul_2 _ _) (int_rmul_tuple 0 t l its.toArray n dd sl)
        ⟨ho, rfl, ⟨_, ho, rfl⟩, call_meets F.slot_tuple_mul ⟨_, ho, rfl⟩ F.entry_tuple_mul (F.args_tuple_mul_2 _ _) (tuple_mulW0 l its.toArray n dd sl 0 t c0 c1 c2) ⟨ho, ?_⟩⟩)
    refine ⟨.ref s.heap.objs.size, _, I.laid (t' := s.toks) (o := .tup (List.replicate (0 : Int).toNat xs).flatten) (fun b ob q => Heap.get?_push_of_some _ q) (Nat.le_refl _) ?_, rfl, q (by decide) _ (I.hok.fresh (Nat.le_refl _))⟩
    exact ⟨by simp, _, r.rep 0, IsTup.new _ _⟩
end
end L2
namespace Zk
open PySem PySem.Spec PyProof.Rows L2

/-- a bound that nothing here comes near to; never reckoned -/
@[irreducible] def bigE : Nat := 60000000
theorem bigE_eq : bigE = 60000000 := by unfold bigE; rfl
theorem big_ex (e : Nat) : ∃ n : Nat, n = 2 ^ e := ⟨_, rfl⟩
noncomputable def big : Nat := Classical.choose (big_ex bigE)
theorem big_def : big = 2 ^ bigE := Classical.choose_spec (big_ex bigE)
theorem big_of {n k : Nat} (h : n < 2 ^ k) (hk : k ≤ 60000000) : n < big := by
  rw [big_def]
  exact Nat.lt_of_lt_of_le h (Nat.pow_le_pow_right (by decide) (by rw [bigE_eq]; exact hk))
theorem big_mul {i j : Int} (h1 : i.natAbs < big) (h2 : j.natAbs < big) : CMulX i j := by
  rw [big_def] at h1 h2
  exact mulx_ok h1 h2 (by rw [bigE_eq]; decide)

section
variable {X : Cx}
def mVar (i : Nat) : Fe := fun E => if (eg E i).isSome = true then some (.slot i, E) else none
def mC (d : D) : Fe := fun E => some (.val d 9, E)
theorem ae_var (i : Nat) {x : Str} {pos : PySem.Pos} (hN : X.N[i]? = some x := by rfl) (hv : Vis X.env.scope x := by first | exact Or.inl rfl | exact Or.inr (Or.inl rfl) | exact Or.inr (Or.inr rfl)) (hd : (x == ("__debug__" : Str)) = false := by decide)
    (hcd : (x == ("__classdict__" : Str)) = false := by decide) : AE X (.Name x pos) (mVar i) := by
  refine PE.mono (pe_var hN hv hd hcd) fun σ H Q q => ?_
  obtain ⟨Z, E, R, s, o, E', e, q⟩ := q
  unfold mVar at e
  split at e
  · rename_i hs
    cases e
    cases q2 : eg E i with
    | none => rw [q2] at hs; simp at hs
    | some dn =>
      obtain ⟨v, e1, o1⟩ := s.slot i dn.1 dn.2 q2
      exact ⟨v, e1, q v Z H R [] s .refl ⟨e1, rfl⟩ .nil⟩
  · cases e
theorem mC_of {K : PySem.W.Frag} {d : D} {v : V} (h : ∀ Z H, Rp K Z H v d) (hi : imm d = true) {σ : L2.St} {H : Hp} {Q : VK} (q : eOf K (mC d) σ H Q) : tC v σ H Q := by
  obtain ⟨Z, E, R, s, o, E', e, q⟩ := q
  cases e
  exact q v Z H R [] s .refl (Own.ofImm (h Z H) hi) .nil
theorem ae_int {i : Int} {j pos} : AE X (.Constant (.int i) j pos) (mC (.int i)) := PE.mono pe_int fun _ _ _ q => mC_of (fun _ _ => .int i) (by simp) q
theorem ae_bl {b j pos} : AE X (.Constant (.bool b) j pos) (mC (.bl b)) := PE.mono pe_bl fun _ _ _ q => mC_of (fun _ _ => .bl b) (by simp) q
end

section
variable {K : PySem.W.Frag} {fa fb : Fe} {σ : L2.St} {H : Hp} {Q : VK}
def two (r : R2) : List V → Hp → VK → Prop := fun vs H Q => ∃ x y, vs = [x, y] ∧ r x y H Q
theorem tOp_al {r : R2} {g : List D → Option (D × Nat)} (h : AL K (two r) g) (q : eOf K (mAL g (mA2 fa fb)) σ H Q) : tOp r (eOf K fa) (eOf K fb) σ H Q := by
  have z := aOf_2 (al_of h q)
  obtain ⟨Z, E, R, s, o1, E1, e1, z⟩ := z
  refine ⟨Z, E, R, s, o1, E1, e1, fun v Z' H' R' rs s' t' o' f' => ?_⟩
  obtain ⟨Z2, E2, R2, s2, o2, E3, e2, z2⟩ := z v Z' H' R' rs s' t' o' f'
  refine ⟨Z2, E2, R2, s2, o2, E3, e2, fun v2 Z3 H3 R3 rs3 s3 t3 o3 f3 => ?_⟩
  obtain ⟨x, y, e, q⟩ := z2 v2 Z3 H3 R3 rs3 s3 t3 o3 f3
  cases e
  exact q
theorem tOp_ro {r : R2} {g : List D → Option D} (h : RO K (two r) g) (q : eOf K (mRO g (mA2 fa fb)) σ H Q) : tOp r (eOf K fa) (eOf K fb) σ H Q := by
  have z := aOf_2 (ro_of h q)
  obtain ⟨Z, E, R, s, o1, E1, e1, z⟩ := z
  refine ⟨Z, E, R, s, o1, E1, e1, fun v Z' H' R' rs s' t' o' f' => ?_⟩
  obtain ⟨Z2, E2, R2, s2, o2, E3, e2, z2⟩ := z v Z' H' R' rs s' t' o' f'
  refine ⟨Z2, E2, R2, s2, o2, E3, e2, fun v2 Z3 H3 R3 rs3 s3 t3 o3 f3 => ?_⟩
  obtain ⟨x, y, e, q⟩ := z2 v2 Z3 H3 R3 rs3 s3 t3 o3 f3
  cases e
  exact q
theorem Rps.two {Z : Addr → Prop} {vs : List V} {d e : D} (h : Rps K Z H vs [d, e]) : ∃ x y, vs = [x, y] ∧ Rp K Z H x d ∧ Rp K Z H y e := by
  cases h with
  | cons h t =>
    cases t with
    | cons h2 t2 => cases t2; exact ⟨_, _, rfl, h, h2⟩
theorem Rps.one {Z : Addr → Prop} {vs : List V} {d : D} (h : Rps K Z H vs [d]) : ∃ x, vs = [x] ∧ Rp K Z H x d := by
  cases h with
  | cons h t => cases t; exact ⟨_, rfl, h⟩
theorem Kfs.two {Z : Addr → Prop} {vs : List V} {d e : D} (h : Kfs K Z H vs [d, e]) : ∃ x y, vs = [x, y] ∧ Kf K Z H x d ∧ Kf K Z H y e := by
  cases h with
  | cons h t =>
    cases t with
    | cons h2 t2 => cases t2; exact ⟨_, _, rfl, h, h2⟩
theorem Kfs.one {Z : Addr → Prop} {vs : List V} {d : D} (h : Kfs K Z H vs [d]) : ∃ x, vs = [x] ∧ Kf K Z H x d := by
  cases h with
  | cons h t => cases t; exact ⟨_, rfl, h⟩
theorem Rp.intE {Z : Addr → Prop} {v : V} {i : Int} (h : Rp K Z H v (.int i)) : v = .int i := by cases h; rfl
theorem Rp.blE {Z : Addr → Prop} {v : V} {i : Bool} (h : Rp K Z H v (.bl i)) : v = .bl i := by cases h; rfl
theorem Rp.strE {Z : Addr → Prop} {v : V} {i : Str} (h : Rp K Z H v (.str i)) : v = .str i := by cases h; rfl
theorem Rp.nonE {Z : Addr → Prop} {v : V} (h : Rp K Z H v .non) : v = .non := by cases h; rfl
/-- two ints to an int -/
def gI2 (c : Int → Int → Prop) [∀ i j, Decidable (c i j)] (f : Int → Int → Int) : List D → Option D
  | [.int i, .int j] => if c i j then some (.int (f i j)) else none
  | _ => none
theorem ro_I2 {c C : Int → Int → Prop} [∀ i j, Decidable (c i j)] {f : Int → Int → Int} {g : Int → Int → V} (hc : ∀ i j, c i j → C i j) (hf : ∀ i j, c i j → g i j = .int (f i j)) : RO K (two (rI C g)) (gI2 c f) := by
  refine ⟨fun ds d e => ?_, fun H vs ds d Q r e q => ?_⟩
  · unfold gI2 at e
    split at e
    · split at e
      · cases e; simp
      · cases e
    · cases e
  · unfold gI2 at e
    split at e
    · split at e
      · rename_i i j h
        cases e
        obtain ⟨x, y, rfl, h1, h2⟩ := r.two
        exact ⟨x, y, rfl, i, j, h1.intE, h2.intE, hc i j h, by rw [hf i j h]; exact q _ (.int _)⟩
      · cases e
    · cases e
theorem ro_I20 {f : Int → Int → Int} : RO K (two (rI0 fun i j => .int (f i j))) (gI2 (fun _ _ => True) f) := by
  refine ⟨fun ds d e => ?_, fun H vs ds d Q r e q => ?_⟩
  · unfold gI2 at e
    split at e
    · rw [if_pos trivial] at e; cases e; simp
    · cases e
  · unfold gI2 at e
    split at e
    · rename_i i j
      rw [if_pos trivial] at e
      cases e
      obtain ⟨x, y, rfl, h1, h2⟩ := r.two
      exact ⟨x, y, rfl, i, j, h1.intE, h2.intE, q _ (.int _)⟩
    · cases e
def gB2 (f : Int → Int → Bool) : List D → Option D
  | [.int i, .int j] => some (.bl (f i j))
  | _ => none
theorem ro_B20 {f : Int → Int → Bool} : RO K (two (rI0 fun i j => .bl (f i j))) (gB2 f) := by
  refine ⟨fun ds d e => ?_, fun H vs ds d Q r e q => ?_⟩
  · unfold gB2 at e
    split at e
    · cases e; simp
    · cases e
  · unfold gB2 at e
    split at e
    · rename_i i j
      cases e
      obtain ⟨x, y, rfl, h1, h2⟩ := r.two
      exact ⟨x, y, rfl, i, j, h1.intE, h2.intE, q _ (.bl _)⟩
    · cases e
/-- how deep a new list of things is ours -/
def lev (ds : List D) : Nat := if imms ds = true then 9 else 1
theorem Own.newL {Z : Addr → Prop} {H : Hp} {p : Addr} {vs : List V} {ds : List D} (hz : ∀ a, Z a → H a ≠ none) (hp : H p = none) (r : Rps K Z H vs ds) : Own K Z (upd H p (.lst vs)) (lev ds) (.ref p) (.lst ds) [p] := by
  have r' : Rps K Z (upd H p (.lst vs)) vs ds := r.pers ((More.upd hp).pers fun _ h => h)
  have nz : ¬ Z p := fun z => hz p z hp
  unfold lev
  split
  · rename_i i
    exact ⟨p, vs, _, rfl, upd_same, nz, All3.ofRpsI r' i, by rw [flat_nils]⟩
  · exact ⟨p, vs, _, rfl, upd_same, nz, All3.ofRps0 r', by rw [flat_nils]⟩
theorem Own.newT {Z : Addr → Prop} {H : Hp} {p : Addr} {vs : List V} {ds : List D} (hp : H p = none) (r : Rps K Z H vs ds) : Own K Z (upd H p (.tup vs)) 0 (.ref p) (.tup ds) [] :=
  ⟨rfl, .tup upd_same (r.pers ((More.upd hp).pers fun _ h => h))⟩
/-- what follows a new list, a new tuple -/
theorem fin_lst {Z : Addr → Prop} {H : Hp} {vs : List V} {ds : List D} {Q : VK} (hz : ∀ a, Z a → H a ≠ none) (r : Rps K Z H vs ds)
    (q : ∀ v H' rs, More H H' → Own K Z H' (lev ds) v (.lst ds) rs → rs.Nodup → (∀ a ∈ rs, H a = none) → Q v H') : ∀ p, H p = none → Q (.ref p) (upd H p (.lst vs)) := fun p hp =>
  q _ _ [p] (.upd hp) (.newL hz hp r) (by simp) (fun a m => by
    have e : a = p := by simpa using m
    rw [e]
    exact hp)
theorem fin_tup {Z : Addr → Prop} {H : Hp} {vs : List V} {ds : List D} {Q : VK} (r : Rps K Z H vs ds)
    (q : ∀ v H' rs, More H H' → Own K Z H' 0 v (.tup ds) rs → rs.Nodup → (∀ a ∈ rs, H a = none) → Q v H') : ∀ p, H p = none → Q (.ref p) (upd H p (.tup vs)) := fun p hp =>
  q _ _ [] (.upd hp) (.newT hp r) List.nodup_nil fun a m => by simp at m
theorem fin_imm {Z : Addr → Prop} {H : Hp} {v : V} {d : D} {n : Nat} {Q : VK} (r : Rp K Z H v d) (i : imm d = true) (q : ∀ v H' rs, More H H' → Own K Z H' n v d rs → rs.Nodup → (∀ a ∈ rs, H a = none) → Q v H') : Q v H :=
  q _ _ [] (.refl _) (.ofImm r i) List.nodup_nil fun a m => by simp at m
/-- + -/
def gAdd : List D → Option (D × Nat)
  | [.int i, .int j] => some (.int (i + j), 9)
  | [.tup a, .tup b] => if a.length + b.length ≤ sizeLine then some (.tup (a ++ b), 0) else none
  | [.lst a, .lst b] => if a.length + b.length ≤ sizeLine then some (.lst (a ++ b), lev (a ++ b)) else none
  | [.str a, .str b] => if a.length + b.length ≤ sizeLine then some (.str (a ++ b), 9) else none
  | _ => none
def rAdds (K : PySem.W.Frag) : R2 := fun x y H Q => rI0 (fun i j => .int (i + j)) x y H Q ∨ rCatA K x y H Q ∨ rCat x y H Q ∨ (∃ i j, x = .str i ∧ y = .str j ∧ i.length + j.length ≤ sizeLine ∧ Q (.str (i ++ j)) H)
theorem al_add : AL K (two (rAdds K)) gAdd := by
  intro Z H vs ds d n Q hz r e q
  unfold gAdd at e
  split at e
  · cases e
    obtain ⟨x, y, rfl, h1, h2⟩ := r.two
    refine ⟨x, y, rfl, .inl ⟨_, _, Rp.intE h1, Rp.intE h2, ?_⟩⟩
    exact fin_imm (Z := Z) (.int _) (by simp) q
  · rename_i a b
    split at e
    · rename_i hl
      cases e
      obtain ⟨x, y, rfl, h1, h2⟩ := r.two
      cases h1 with
      | tup s1 r1 =>
        cases h2 with
        | tup s2 r2 =>
          rename_i p1 xs p2 ys
          refine ⟨_, _, rfl, .inr (.inl ⟨p1, p2, xs, ys, rfl, rfl, .of s1, .of s2, by rw [r1.len, r2.len]; exact hl, fun z => ?_, fun z1 z2 => ?_, fun z1 z2 => ?_⟩)⟩
          · subst z
            cases r1
            exact q _ _ [] (.refl _) ⟨rfl, .tup s2 (by simpa using r2)⟩ List.nodup_nil fun a m => by simp at m
          · subst z2
            cases r2
            exact q _ _ [] (.refl _) ⟨rfl, .tup s1 (by simpa using r1)⟩ List.nodup_nil fun a m => by simp at m
          · exact fin_tup (r1.append r2) q
    · cases e
  · rename_i a b
    split at e
    · rename_i hl
      cases e
      obtain ⟨x, y, rfl, ⟨p1, xs, rfl, s1, r1⟩, ⟨p2, ys, rfl, s2, r2⟩⟩ := r.two
      exact ⟨_, _, rfl, .inr (.inr (.inl ⟨p1, p2, xs, ys, rfl, rfl, s1, s2, by rw [r1.len, r2.len]; exact hl, fin_lst hz (r1.append r2) q⟩))⟩
    · cases e
  · split at e
    · rename_i hl
      cases e
      obtain ⟨x, y, rfl, h1, h2⟩ := r.two
      refine ⟨x, y, rfl, .inr (.inr (.inr ⟨_, _, Rp.strE h1, Rp.strE h2, hl, ?_⟩))⟩
      exact fin_imm (Z := Z) (.str _) (by simp) q
    · cases e
  · cases e
/-- * of ints; a list as often as told -/
noncomputable def gMul : List D → Option (D × Nat)
  | [.int i, .int j] => if i.natAbs < big ∧ j.natAbs < big then some (.int (i * j), 9) else none
  | [.lst a, .int k] => if -(2 ^ 63) ≤ k ∧ k < 2 ^ 63 ∧ a.length * k.toNat ≤ sizeLine then some (.lst (List.replicate k.toNat a).flatten, lev (List.replicate k.toNat a).flatten) else none
  | [.tup a, .int k] => if a.isEmpty = false ∧ 0 ≤ k ∧ k ≤ 1000 ∧ a.length ≤ 1000 then some (.tup (List.replicate k.toNat a).flatten, 0) else none
  | _ => none
theorem Rps.rep {Z : Addr → Prop} {vs : List V} {ds : List D} (h : Rps K Z H vs ds) : ∀ k : Nat, Rps K Z H (List.replicate k vs).flatten (List.replicate k ds).flatten
  | 0 => by simp; exact .nil
  | k + 1 => by rw [List.replicate_succ, List.replicate_succ, List.flatten_cons, List.flatten_cons]; exact h.append (Rps.rep h k)
theorem al_mul : AL K (two (fun x y H Q => rI CMulX (fun i j => .int (i * j)) x y H Q ∨ rRep x y H Q ∨ rRepA K x y H Q)) gMul := by
  intro Z H vs ds d n Q hz r e q
  unfold gMul at e
  split at e
  · split at e
    · rename_i h
      cases e
      obtain ⟨x, y, rfl, h1, h2⟩ := r.two
      refine ⟨x, y, rfl, .inl ⟨_, _, Rp.intE h1, Rp.intE h2, big_mul h.1 h.2, ?_⟩⟩
      exact fin_imm (Z := Z) (.int _) (by simp) q
    · cases e
  · split at e
    · rename_i h
      cases e
      obtain ⟨x, y, rfl, ⟨p1, xs, rfl, s1, r1⟩, h2⟩ := r.two
      cases Rp.intE h2
      exact ⟨_, _, rfl, .inr (.inl ⟨p1, _, xs, rfl, rfl, s1, h.1, h.2.1, by rw [r1.len]; exact h.2.2, fin_lst hz (r1.rep _) q⟩)⟩
    · cases e
  · split at e
    · rename_i h
      cases e
      obtain ⟨x, y, rfl, h1, h2⟩ := r.two
      cases Rp.intE h2
      cases h1 with
      | tup s r1 =>
        rename_i vs
        exact ⟨_, _, rfl, .inr (.inr ⟨_, _, vs, rfl, rfl, .of s, fun e => by rw [e] at r1; cases r1; exact absurd h.1 (by simp), h.2.1, h.2.2.1, by rw [r1.len]; exact h.2.2.2, fun k1 => by subst k1; exact q _ _ [] (.refl _) ⟨rfl, .tup s (by simpa using r1)⟩ List.nodup_nil fun a m => by simp at m, fun _ => fin_tup (r1.rep _) q⟩)⟩
    · cases e
  · cases e
end
section
variable {X : Cx} {a b : Expr} {fa fb : Fe} {pos : PySem.Pos}
def mAdd (a b : Fe) : Fe := mAL gAdd (mA2 a b)
noncomputable def mMul (a b : Fe) : Fe := mAL gMul (mA2 a b)
theorem ae_add (ha : AE X a fa) (hb : AE X b fb) : AE X (.BinOp a .Add b pos) (mAdd fa fb) :=
  PE.mono (pe_op (op_add.or (op_catA.or (op_cat.or op_add_str))) ha hb) fun _ _ _ q => tOp_al al_add q
theorem ae_mul (ha : AE X a fa) (hb : AE X b fb) : AE X (.BinOp a .Mult b pos) (mMul fa fb) :=
  PE.mono (pe_op (op_mulX.or (op_rep.or op_repA)) ha hb) fun _ _ _ q => tOp_al al_mul q
abbrev gSub := gI2 (fun _ _ => True) fun i j => i - j
def mSub (a b : Fe) : Fe := mRO gSub (mA2 a b)
theorem ae_sub (ha : AE X a fa) (hb : AE X b fb) : AE X (.BinOp a .Sub b pos) (mSub fa fb) := PE.mono (pe_op op_sub ha hb) fun _ _ _ q => tOp_ro ro_I20 q
/-- a divisor above 0 -/
def divOk (_ j : Int) : Prop := 0 < j ∧ j < 2 ^ 8000
instance (i j : Int) : Decidable (divOk i j) := inferInstanceAs (Decidable (_ ∧ _))
theorem divOk_w {i j : Int} (h : divOk i j) : CDivW i j := wide_div (b := 8000) h.1 (by have := h.1; have := h.2; omega) (by decide) (by decide)
abbrev gDiv := gI2 divOk fun i j => i / j
def mDiv (a b : Fe) : Fe := mRO gDiv (mA2 a b)
theorem ae_div (ha : AE X a fa) (hb : AE X b fb) : AE X (.BinOp a .FloorDiv b pos) (mDiv fa fb) := PE.mono (pe_op op_fdivW ha hb) fun _ _ _ q => tOp_ro (ro_I2 (fun _ _ h => divOk_w h) fun _ _ _ => rfl) q
abbrev gMod := gI2 (fun _ j => 0 < j) fun i j => i % j
def mMod (a b : Fe) : Fe := mRO gMod (mA2 a b)
theorem ae_mod (ha : AE X a fa) (hb : AE X b fb) : AE X (.BinOp a .Mod b pos) (mMod fa fb) := PE.mono (pe_op op_mod ha hb) fun _ _ _ q => tOp_ro (ro_I2 (fun _ _ h => h) fun _ _ _ => rfl) q
abbrev gPow := gI2 (fun i j => 0 ≤ j ∧ j ≤ 1000000 ∧ i.natAbs < 2 ^ 64) fun i j => i ^ j.toNat
def mPow (a b : Fe) : Fe := mRO gPow (mA2 a b)
instance (i j : Int) : Decidable (CPow i j) := inferInstanceAs (Decidable (_ ∧ _ ∧ _))
theorem ae_pow (ha : AE X a fa) (hb : AE X b fb) : AE X (.BinOp a .Pow b pos) (mPow fa fb) := PE.mono (pe_op op_pow ha hb) fun _ _ _ q => tOp_ro (ro_I2 (fun _ _ h => h) fun _ _ _ => rfl) q
noncomputable abbrev gShl := gI2 (fun i j => 0 ≤ j ∧ j ≤ 1000000 ∧ i.natAbs < big) fun i j => i * 2 ^ j.toNat
theorem shl_big {i j : Int} (h : 0 ≤ j ∧ j ≤ 1000000 ∧ i.natAbs < big) : CShl i j := by
  obtain ⟨h1, h2, h3⟩ := h
  rw [big_def] at h3
  have := shl_ok (i := i) (j := j.toNat) h3 (by rw [bigE_eq]; omega)
  rwa [Int.toNat_of_nonneg h1] at this
noncomputable def mShl (a b : Fe) : Fe := mRO gShl (mA2 a b)
theorem ae_shl (ha : AE X a fa) (hb : AE X b fb) : AE X (.BinOp a .LShift b pos) (mShl fa fb) := PE.mono (pe_op op_shlW ha hb) fun _ _ _ q => tOp_ro (ro_I2 (fun _ _ h => shl_big h) fun _ _ _ => rfl) q
def mLt (a b : Fe) : Fe := mRO (gB2 fun i j => decide (i < j)) (mA2 a b)
def mGt (a b : Fe) : Fe := mRO (gB2 fun i j => decide (j < i)) (mA2 a b)
def mGe (a b : Fe) : Fe := mRO (gB2 fun i j => decide (j ≤ i)) (mA2 a b)
/-- -a -/
def gNeg : List D → Option D
  | [.int i] => some (.int (-i))
  | _ => none
def mNeg (a : Fe) : Fe := mRO gNeg (mA1 a)
theorem tUn_ro {K : PySem.W.Frag} {σ : L2.St} {H : Hp} {Q : VK} {r : V → Hp → VK → Prop} {g : List D → Option D} (h : RO K (fun vs H Q => ∃ x, vs = [x] ∧ r x H Q) g) (q : eOf K (mRO g (mA1 fa)) σ H Q) : tUn r (eOf K fa) σ H Q := by
  obtain ⟨Z, E, R, s, o1, E1, e1, z⟩ := aOf_1 (ro_of h q)
  refine ⟨Z, E, R, s, o1, E1, e1, fun v Z' H' R' rs s' t' o' f' => ?_⟩
  obtain ⟨x, e, q⟩ := z v Z' H' R' rs s' t' o' f'
  cases e
  exact q
theorem ae_neg (ha : AE X a fa) : AE X (.UnaryOp .USub a pos) (mNeg fa) := PE.mono (pe_un un_neg ha) fun _ _ _ q => tUn_ro (by
  refine ⟨fun ds d e => ?_, fun H vs ds d Q r e q => ?_⟩
  · unfold gNeg at e
    split at e
    · cases e; simp
    · cases e
  · unfold gNeg at e
    split at e
    · cases e
      obtain ⟨x, rfl, h⟩ := r.one
      exact ⟨x, rfl, _, h.intE, q _ (.int _)⟩
    · cases e) q
end
end Zk
namespace Zk
open PySem PySem.Spec PyProof.Rows L2

/-- comparable data, at most n levels -/
def dat : Nat → D → Bool
  | _, .non => true
  | _, .bl _ => true
  | _, .int _ => true
  | _, .str x => PyData.strOk x
  | n + 1, .tup xs => xs.all (dat n)
  | n + 1, .con xs => xs.all (dat n)
  | n + 1, .lst xs => xs.all (dat n)
  | _, _ => false
mutual
def py : D → PyData
  | .non => .none
  | .bl b => .bool b
  | .int i => .int i
  | .str x => .str x
  | .ty _ => .none
  | .tup xs => .tuple (pys xs)
  | .con xs => .tuple (pys xs)
  | .lst xs => .list (pys xs)
  | .dK _ => .none
  | .dT _ => .none
  | .set _ => .none
  | .scr _ => .none
def pys : List D → List PyData
  | [] => []
  | d :: ds => py d :: pys ds
end
theorem pys_map : ∀ ds : List D, pys ds = ds.map py
  | [] => by simp [pys]
  | d :: ds => by simp [pys, pys_map ds]
theorem canAll : ∀ (n : Nat) (xs : List D), (∀ d, dat n d = true → (py d).canLay0 = true ∧ (py d).depth ≤ n) → xs.all (dat n) = true → PyData.canLayAll0 (pys xs) = true ∧ PyData.depthAll (pys xs) ≤ n
  | n, [], _, _ => by simp [pys, PyData.canLayAll0, PyData.depthAll]
  | n, d :: ds, h, a => by
    simp only [List.all_cons, Bool.and_eq_true] at a
    obtain ⟨h1, h2⟩ := h d a.1
    obtain ⟨h3, h4⟩ := canAll n ds h a.2
    simp only [pys, PyData.canLayAll0, PyData.depthAll, h1, h3, Bool.and_self, true_and]
    omega
theorem dat_lay : ∀ (n : Nat) (d : D), dat n d = true → (py d).canLay0 = true ∧ (py d).depth ≤ n
  | n, .non, _ => by simp [py, PyData.canLay0, PyData.depth]
  | n, .bl _, _ => by simp [py, PyData.canLay0, PyData.depth]
  | n, .int _, _ => by simp [py, PyData.canLay0, PyData.depth]
  | n, .str x, h => by
    have h : PyData.strOk x = true := by cases n <;> simpa [dat] using h
    simp [py, PyData.canLay0, PyData.depth, h]
  | n + 1, .tup xs, h => by
    simp only [dat] at h
    obtain ⟨h1, h2⟩ := canAll n xs (dat_lay n) h
    simp only [py, PyData.canLay0, PyData.depth, h1, true_and]
    omega
  | n + 1, .con xs, h => by
    simp only [dat] at h
    obtain ⟨h1, h2⟩ := canAll n xs (dat_lay n) h
    simp only [py, PyData.canLay0, PyData.depth, h1, true_and]
    omega
  | 0, .con _, h => by simp [dat] at h
  | n + 1, .lst xs, h => by
    simp only [dat] at h
    obtain ⟨h1, h2⟩ := canAll n xs (dat_lay n) h
    simp only [py, PyData.canLay0, PyData.depth, h1, true_and]
    omega
  | 0, .tup _, h => by simp [dat] at h
  | 0, .lst _, h => by simp [dat] at h
  | 0, .dK _, h => by simp [dat] at h
  | n, .ty _, h => by cases n <;> simp [dat] at h
  | 0, .dT _, h => by simp [dat] at h
  | 0, .set _, h => by simp [dat] at h
  | 0, .scr _, h => by simp [dat] at h
  | _ + 1, .dK _, h => by simp [dat] at h
  | _ + 1, .dT _, h => by simp [dat] at h
  | _ + 1, .set _, h => by simp [dat] at h
  | _ + 1, .scr _, h => by simp [dat] at h
theorem dat_shaped {d : D} (h : dat 64 d = true) : SeqAt.shaped (py d) = true := by
  obtain ⟨h1, h2⟩ := dat_lay 64 d h
  unfold SeqAt.shaped
  rw [h1, Bool.true_and]
  exact decide_eq_true h2
section
variable {K : PySem.W.Frag} {Z : Addr → Prop} {H : Hp}
theorem dat_all : ∀ {n : Nat} {vs : List V} {ds : List D}, (∀ (v : V) (d : D), dat n d = true → Rp K Z H v d → Dp K H v (py d)) → ds.all (dat n) = true → Rps K Z H vs ds → DpAll K H vs (pys ds)
  | _, _, _, _, _, .nil => .nil
  | n, _, _, f, a, .cons h t => by
    simp only [List.all_cons, Bool.and_eq_true] at a
    exact .cons (f _ _ a.1 h) (dat_all f a.2 t)
theorem dat_dp : ∀ (n : Nat) (v : V) (d : D), dat n d = true → Rp K Z H v d → Dp K H v (py d)
  | _, _, .non, _, .non => .non
  | _, _, .bl b, _, .bl _ => .bl b
  | _, _, .int i, _, .int _ => .int i
  | _, _, .str x, _, .str _ => .str x
  | n + 1, _, .tup xs, h, .tup s r => by
    simp only [dat] at h
    exact .tup (.of s) (dat_all (dat_dp n) h r)
  | n + 1, _, .con xs, h, .con s r => by
    simp only [dat] at h
    exact .tup s.sq (dat_all (dat_dp n) h r)
  | 0, _, .con _, h, _ => by simp [dat] at h
  | n + 1, _, .lst xs, h, .lst z e r => by
    simp only [dat] at h
    exact .lst (.inl (.inl e)) (dat_all (dat_dp n) h r)
  | 0, _, .tup _, h, _ => by simp [dat] at h
  | 0, _, .lst _, h, _ => by simp [dat] at h
  | n, _, .dK _, h, _ => by cases n <;> simp [dat] at h
  | n, _, .ty _, h, _ => by cases n <;> simp [dat] at h
  | n, _, .dT _, h, _ => by cases n <;> simp [dat] at h
  | n, _, .set _, h, _ => by cases n <;> simp [dat] at h
  | n, _, .scr _, h, _ => by cases n <;> simp [dat] at h
end
/-- == -/
def deq (a b : D) : Bool := PyData.eqv (py a) (py b)
def deqs (a b : List D) : Bool := PyData.eqvAll (pys a) (pys b)
@[simp] theorem deq_int (i j : Int) : deq (.int i) (.int j) = decide (i = j) := by simp [deq, py, PyData.eqv, Bool.beq_eq_decide_eq]
@[simp] theorem deq_bl (i j : Bool) : deq (.bl i) (.bl j) = decide (i = j) := by simp [deq, py, PyData.eqv, Bool.beq_eq_decide_eq]
@[simp] theorem deq_non : deq .non .non = true := by simp [deq, py, PyData.eqv]
@[simp] theorem deq_non_int (i : Int) : deq .non (.int i) = false := by simp [deq, py, PyData.eqv]
@[simp] theorem deq_int_non (i : Int) : deq (.int i) .non = false := by simp [deq, py, PyData.eqv]
@[simp] theorem deq_non_tup (i : List D) : deq .non (.tup i) = false := by simp [deq, py, PyData.eqv]
@[simp] theorem deq_tup_non (i : List D) : deq (.tup i) .non = false := by simp [deq, py, PyData.eqv]
@[simp] theorem deq_int_tup (j : Int) (i : List D) : deq (.int j) (.tup i) = false := by simp [deq, py, PyData.eqv]
@[simp] theorem deq_tup_int (j : Int) (i : List D) : deq (.tup i) (.int j) = false := by simp [deq, py, PyData.eqv]
@[simp] theorem deq_tup (a b : List D) : deq (.tup a) (.tup b) = deqs a b := by simp [deq, deqs, py, PyData.eqv]
@[simp] theorem deq_lst (a b : List D) : deq (.lst a) (.lst b) = deqs a b := by simp [deq, deqs, py, PyData.eqv]
@[simp] theorem deq_lst_tup (a b : List D) : deq (.lst a) (.tup b) = false := by simp [deq, py, PyData.eqv]
@[simp] theorem deq_tup_lst (a b : List D) : deq (.tup a) (.lst b) = false := by simp [deq, py, PyData.eqv]
@[simp] theorem deq_str (a b : Str) : deq (.str a) (.str b) = (a == b) := by simp [deq, py, PyData.eqv]
@[simp] theorem deqs_nil : deqs [] [] = true := by simp [deqs, pys, PyData.eqvAll]
@[simp] theorem deqs_nc (a : D) (as : List D) : deqs [] (a :: as) = false := by simp [deqs, pys, PyData.eqvAll]
@[simp] theorem deqs_cn (a : D) (as : List D) : deqs (a :: as) [] = false := by simp [deqs, pys, PyData.eqvAll]
@[simp] theorem deqs_cons (a b : D) (as bs : List D) : deqs (a :: as) (b :: bs) = (deq a b && deqs as bs) := by simp [deqs, deq, pys, PyData.eqvAll]

section
variable {X : Cx} {a b : Expr} {ta tb : TE} {fa fb : Fe} {pos : PySem.Pos}
theorem pc_op {op : CmpOp} {r : R2} (ho : OpR X (compareOp op) r) (ha : PE X a ta) (hb : PE X b tb) : PC X op a b (tOp r ta tb) :=
  ⟨fun pins s σ H Q I h => binT ha hb I h fun v u s2 x y H2 I2 rx ry q => ho pins s2 σ H2 x y v u Q I2 rx ry q⟩
abbrev AC (X : Cx) (op : CmpOp) (a b : Expr) (f : Fe) : Prop := PC X op a b (eOf X.K f)
theorem PC.mono {op : CmpOp} {t t' : TE} (h : PC X op a b t) (m : ∀ σ H Q, t' σ H Q → t σ H Q) : PC X op a b t' := ⟨fun pins s σ H Q I q => h.run pins s σ H Q I (m σ H Q q)⟩
/-- the truth of an end that is a bool -/
def mB (f : Fe) : Ft := fun E => (f E).bind fun p => (rd p.2 p.1).bind fun d => match d with
  | .bl b => some (b, p.2)
  | _ => none
theorem mB_of {K : PySem.W.Frag} {f : Fe} {σ : L2.St} {H : Hp} {Q : Bool → Hp → Prop} (q : cOf K (mB f) σ H Q) : eOf K f σ H fun x H1 => ∃ c, x = .bl c ∧ Q c H1 := by
  obtain ⟨Z, E, R, s, b, E', e, q⟩ := q
  unfold mB at e
  cases e1 : f E with
  | none => rw [e1] at e; cases e
  | some p =>
    obtain ⟨o, E1⟩ := p
    rw [e1] at e
    simp only [Option.bind_some] at e
    cases e2 : rd E1 o with
    | none => rw [e2] at e; cases e
    | some d =>
      rw [e2] at e
      simp only [Option.bind_some] at e
      split at e
      · cases e
        refine ⟨Z, E, R, s, o, _, e1, fun v Z' H' R' rs s' t' o' f' => ?_⟩
        exact ⟨_, (s'.read o' e2).blE, q Z' H' R' s' t'⟩
      · cases e
theorem ae_cmp {op : CmpOp} {f : Fe} (h : AC X op a b f) (h1 : behindInMarks op b = false := by first | exact nobehind _ (by decide) (by decide) | rfl) : AE X (.Compare a [op] [b] pos) f := pe_cmp h h1
theorem at_cmp {op : CmpOp} {f : Fe} (h : AC X op a b f) (h1 : behindInMarks op b = false := by first | exact nobehind _ (by decide) (by decide) | rfl) : AT X (.Compare a [op] [b] pos) (mB f) :=
  PT.mono (pt_cmp h h1) fun _ _ _ q => mB_of q
theorem ac_lt (ha : AE X a fa) (hb : AE X b fb) : AC X .Lt a b (mLt fa fb) := PC.mono (pc_op op_lt ha hb) fun _ _ _ q => tOp_ro ro_B20 q
theorem ac_gt (ha : AE X a fa) (hb : AE X b fb) : AC X .Gt a b (mGt fa fb) := PC.mono (pc_op op_gt ha hb) fun _ _ _ q => tOp_ro ro_B20 q
theorem ac_ge (ha : AE X a fa) (hb : AE X b fb) : AC X .GtE a b (mGe fa fb) := PC.mono (pc_op op_ge ha hb) fun _ _ _ q => tOp_ro ro_B20 q
def gEq : List D → Option D
  | [a, b] => if dat 64 a = true ∧ dat 64 b = true then some (.bl (deq a b)) else none
  | _ => none
def gNe : List D → Option D
  | [a, b] => if dat 64 a = true ∧ dat 64 b = true then some (.bl (!deq a b)) else none
  | _ => none
def mEq (a b : Fe) : Fe := mRO gEq (mA2 a b)
def mNe (a b : Fe) : Fe := mRO gNe (mA2 a b)
theorem ro_eq {K : PySem.W.Frag} : RO K (two (rEqD K)) gEq := by
  refine ⟨fun ds d e => ?_, fun H vs ds d Q r e q => ?_⟩
  · unfold gEq at e
    split at e
    · split at e
      · cases e; simp
      · cases e
    · cases e
  · unfold gEq at e
    split at e
    · split at e
      · rename_i h
        cases e
        obtain ⟨x, y, rfl, h1, h2⟩ := r.two
        exact ⟨x, y, rfl, _, _, dat_dp 64 x _ h.1 h1, dat_dp 64 y _ h.2 h2, dat_shaped h.1, dat_shaped h.2, q _ (.bl _)⟩
      · cases e
    · cases e
theorem ro_ne {K : PySem.W.Frag} : RO K (two (rNeD K)) gNe := by
  refine ⟨fun ds d e => ?_, fun H vs ds d Q r e q => ?_⟩
  · unfold gNe at e
    split at e
    · split at e
      · cases e; simp
      · cases e
    · cases e
  · unfold gNe at e
    split at e
    · split at e
      · rename_i h
        cases e
        obtain ⟨x, y, rfl, h1, h2⟩ := r.two
        exact ⟨x, y, rfl, _, _, dat_dp 64 x _ h.1 h1, dat_dp 64 y _ h.2 h2, dat_shaped h.1, dat_shaped h.2, q _ (.bl _)⟩
      · cases e
    · cases e
theorem ac_eq (hu : X.A.units + 64 < cLine) (ha : AE X a fa) (hb : AE X b fb) : AC X .Eq a b (mEq fa fb) := PC.mono (pc_op (op_eqD hu) ha hb) fun _ _ _ q => tOp_ro ro_eq q
theorem ac_ne (hu : X.A.units + 64 < cLine) (ha : AE X a fa) (hb : AE X b fb) : AC X .NotEq a b (mNe fa fb) := PC.mono (pc_op (op_neD hu) ha hb) fun _ _ _ q => tOp_ro ro_ne q

def isNon : D → Bool
  | .non => true
  | _ => false
@[simp] theorem isNon_non : isNon .non = true := rfl
@[simp] theorem isNon_int (i : Int) : isNon (.int i) = false := rfl
@[simp] theorem isNon_tup (i : List D) : isNon (.tup i) = false := rfl
@[simp] theorem isNon_lst (i : List D) : isNon (.lst i) = false := rfl
@[simp] theorem isNon_str (i : Str) : isNon (.str i) = false := rfl
@[simp] theorem isNon_bl (i : Bool) : isNon (.bl i) = false := rfl
@[simp] theorem isNon_dK (i : List (Key × D)) : isNon (.dK i) = false := rfl
@[simp] theorem isNon_dT (i : List (List Key × D)) : isNon (.dT i) = false := rfl
theorem Rp.isNon {K : PySem.W.Frag} {Z : Addr → Prop} {H : Hp} {v : V} {d : D} (h : Rp K Z H v d) : decide (v = .non) = Zk.isNon d := by
  cases h <;> simp [Zk.isNon]
def gIsN : List D → Option D
  | [a] => some (.bl (isNon a))
  | _ => none
def mIsN (a : Fe) : Fe := mRO gIsN (mA1 a)
theorem t1_ro {K : PySem.W.Frag} {σ : L2.St} {H : Hp} {Q : VK} {r : V → Hp → VK → Prop} {g : List D → Option D} (h : RO K (fun vs H Q => ∃ x, vs = [x] ∧ r x H Q) g) (q : eOf K (mRO g (mA1 fa)) σ H Q) : eOf K fa σ H fun x H1 => r x H1 Q := tUn_ro h q
theorem ac_isN {j pos'} (ha : AE X a fa) : AC X .Is a (.Constant .none j pos') (mIsN fa) := PC.mono (pc_isN ha) fun _ _ _ q =>
  t1_ro (r := fun x H1 Q => Q (.bl (decide (x = .non))) H1) (by
    refine ⟨fun ds d e => ?_, fun H vs ds d Q r e q => ?_⟩
    · unfold gIsN at e
      split at e
      · cases e; simp
      · cases e
    · unfold gIsN at e
      split at e
      · cases e
        obtain ⟨x, rfl, h⟩ := r.one
        exact ⟨x, rfl, by rw [h.isNon]; exact q _ (.bl _)⟩
      · cases e) q
def tru : D → Option Bool
  | .non => some false
  | .bl b => some b
  | .int i => some (i != 0)
  | .tup xs => some (!xs.isEmpty)
  | .con xs => some (!xs.isEmpty)
  | .lst xs => some (!xs.isEmpty)
  | .dK _ => none
  | .str x => if x.length ≤ sizeLine then some ((x.length : Int) != 0) else none
  | _ => none
def mTr (f : Fe) : Ft := fun E => (f E).bind fun p => (rd p.2 p.1).bind fun d => (tru d).map fun b => (b, p.2)
theorem Rps.isEmpty {K : PySem.W.Frag} {Z : Addr → Prop} {H : Hp} {vs : List V} {ds : List D} (r : Rps K Z H vs ds) : vs.isEmpty = ds.isEmpty := by cases r <;> rfl
theorem Rp.tru {K : PySem.W.Frag} {Z : Addr → Prop} {H : Hp} {v : V} {d : D} {b : Bool} (h : Rp K Z H v d) (e : Zk.tru d = some b) : TruV K v H b := by
  cases h with
  | non => cases e; exact rfl
  | bl c => cases e; exact rfl
  | int i => cases e; exact rfl
  | str x =>
    simp only [Zk.tru] at e
    split at e
    · rename_i hl
      cases e
      exact ⟨hl, rfl⟩
    · cases e
  | tup s r => cases e; exact .inr (.inl ⟨_, .of s, by rw [r.isEmpty]⟩)
  | con s r => cases e; exact .inr (.inl ⟨_, s.sq, by rw [r.isEmpty]⟩)
  | lst z s r => cases e; exact .inl ⟨_, .inl (.inl s), by rw [r.isEmpty]⟩
  | dK z s e2 r => simp [Zk.tru] at e
  | dT z s e2 r => simp [Zk.tru] at e
  | ty _ => simp [Zk.tru] at e
  | set _ _ _ _ _ => simp [Zk.tru] at e
  | scr _ => simp [Zk.tru] at e
theorem mTr_of {K : PySem.W.Frag} {f : Fe} {σ : L2.St} {H : Hp} {Q : Bool → Hp → Prop} (q : cOf K (mTr f) σ H Q) : eOf K f σ H fun x H1 => ∃ k, TruV K x H1 k ∧ Q k H1 := by
  obtain ⟨Z, E, R, s, b, E', e, q⟩ := q
  unfold mTr at e
  cases e1 : f E with
  | none => rw [e1] at e; cases e
  | some p =>
    obtain ⟨o, E1⟩ := p
    rw [e1] at e
    simp only [Option.bind_some] at e
    cases e2 : rd E1 o with
    | none => rw [e2] at e; cases e
    | some d =>
      rw [e2] at e
      simp only [Option.bind_some] at e
      cases e3 : tru d with
      | none => rw [e3] at e; cases e
      | some k =>
        rw [e3] at e
        cases e
        refine ⟨Z, E, R, s, o, _, e1, fun v Z' H' R' rs s' t' o' f' => ?_⟩
        exact ⟨_, (s'.read o' e2).tru e3, q Z' H' R' s' t'⟩
/-- any other expression as a test -/
theorem at_tru (ha : AE X a fa) (he : ∀ whole, isTrue a X.env whole = (do let v ← whole; standAt a.pos; holding [v] (truthy v)) := by intro _; rfl) : AT X a (mTr fa) := PT.mono (pt_truth ha he) fun _ _ _ q => mTr_of q

variable {ca cb : Ft} {rest : List Expr}
def mAndT (a b : Ft) : Ft := fun E => (a E).bind fun p => if p.1 = true then b p.2 else some (false, p.2)
def mOrT (a b : Ft) : Ft := fun E => (a E).bind fun p => if p.1 = true then some (true, p.2) else b p.2
def mNotT (a : Ft) : Ft := fun E => (a E).map fun p => (!p.1, p.2)
abbrev AW (X : Cx) (e : Expr) (f : Ft) : Prop := PW X e (cOf X.K f)
theorem cOf_seq {K : PySem.W.Frag} {a b : Ft} {f : Ft} {σ : L2.St} {H : Hp} {Q : Bool → Hp → Prop} (w : Bool) (hf : ∀ E, f E = (a E).bind fun p => if p.1 = w then b p.2 else some (!w, p.2)) (q : cOf K f σ H Q) :
    cOf K a σ H fun c H1 => if c = w then cOf K b σ H1 Q else Q (!w) H1 := by
  obtain ⟨Z, E, R, s, c, E', e, q⟩ := q
  rw [hf] at e
  cases e1 : a E with
  | none => rw [e1] at e; cases e
  | some p =>
    obtain ⟨c1, E1⟩ := p
    rw [e1] at e
    simp only [Option.bind_some] at e
    refine ⟨Z, E, R, s, c1, E1, e1, fun Z' H' R' s' t' => ?_⟩
    by_cases k : c1 = w
    · rw [if_pos k] at e ⊢
      exact ⟨Z', E1, R', s', c, E', e, fun Z2 H2 R2 s2 t2 => q Z2 H2 R2 s2 (t'.trans t2)⟩
    · rw [if_neg k] at e ⊢
      cases e
      exact q Z' H' R' s' t'
theorem aw_and1 (ha : AT X a ca) : AW X (.BoolOp .And [a] pos) ca := pw_and1 ha
theorem aw_or1 (ha : AT X a ca) : AW X (.BoolOp .Or [a] pos) ca := pw_or1 ha
theorem aw_and (ha : AT X a ca) (hb : AW X (.BoolOp .And (b :: rest) pos) cb) : AW X (.BoolOp .And (a :: b :: rest) pos) (mAndT ca cb) := PW.mono (pw_and ha hb) fun σ H Q q => by
  obtain ⟨Z, E, R, s, c, E', e, q⟩ := cOf_seq true (fun E => rfl) q
  refine ⟨Z, E, R, s, c, E', e, fun Z' H' R' s' t' => ?_⟩
  have := q Z' H' R' s' t'
  cases c <;> simpa using this
theorem aw_or (ha : AT X a ca) (hb : AW X (.BoolOp .Or (b :: rest) pos) cb) : AW X (.BoolOp .Or (a :: b :: rest) pos) (mOrT ca cb) := PW.mono (pw_or ha hb) fun σ H Q q => by
  obtain ⟨Z, E, R, s, c, E', e, q⟩ := cOf_seq (a := ca) (b := cb) false (fun E => by unfold mOrT; cases ca E with | none => rfl | some p => obtain ⟨c, E1⟩ := p; cases c <;> rfl) q
  refine ⟨Z, E, R, s, c, E', e, fun Z' H' R' s' t' => ?_⟩
  have := q Z' H' R' s' t'
  cases c <;> simpa using this
theorem at_w (h : AW X a ca) : AT X a ca := h.pt
theorem at_not (ha : AT X a ca) : AT X (.UnaryOp .Not a pos) (mNotT ca) := PT.mono (pt_not ha) fun σ H Q q => by
  obtain ⟨Z, E, R, s, c, E', e, q⟩ := q
  unfold mNotT at e
  cases e1 : ca E with
  | none => rw [e1] at e; cases e
  | some p =>
    rw [e1] at e
    cases e
    exact ⟨Z, E, R, s, p.1, p.2, e1, fun Z' H' R' s' t' => q Z' H' R' s' t'⟩
/-- .. as values, by truth -/
def mAndV (a b : Fe) : Fe := fun E => (a E).bind fun p => (rd p.2 p.1).bind fun d => (tru d).bind fun k => if k = true then b p.2 else some (p.1, p.2)
def mNotV (a : Fe) : Fe := fun E => (a E).bind fun p => (rd p.2 p.1).bind fun d => (tru d).map fun k => (.val (.bl (!k)) 9, p.2)
theorem eOf_tru {K : PySem.W.Frag} {f : Fe} {b : Fe} {g : Fe} {w : Bool} {σ : L2.St} {H : Hp} {Q : VK}
    (hf : ∀ E, f E = (g E).bind fun p => (rd p.2 p.1).bind fun d => (tru d).bind fun k => if k = w then b p.2 else some (p.1, p.2)) (q : eOf K f σ H Q) :
    eOf K g σ H fun x H1 => ∃ k, TruV K x H1 k ∧ if k = w then eOf K b σ H1 Q else Q x H1 := by
  obtain ⟨Z, E, R, s, o, E', e, q⟩ := q
  rw [hf] at e
  cases e1 : g E with
  | none => rw [e1] at e; cases e
  | some p =>
    obtain ⟨o1, E1⟩ := p
    rw [e1] at e
    simp only [Option.bind_some] at e
    cases e2 : rd E1 o1 with
    | none => rw [e2] at e; cases e
    | some d =>
      rw [e2] at e
      simp only [Option.bind_some] at e
      cases e3 : tru d with
      | none => rw [e3] at e; cases e
      | some k =>
        rw [e3] at e
        simp only [Option.bind_some] at e
        refine ⟨Z, E, R, s, o1, E1, e1, fun v Z' H' R' rs s' t' o' f' => ⟨k, (s'.read o' e2).tru e3, ?_⟩⟩
        by_cases c : k = w
        · rw [if_pos c] at e ⊢
          exact ⟨Z', E1, R', s', o, E', e, fun v2 Z2 H2 R2 rs2 s2 t2 o2 f2 => q v2 Z2 H2 R2 rs2 s2 (t'.trans t2) o2 (f2.trans t'.on t'.dm)⟩
        · rw [if_neg c] at e ⊢
          cases e
          exact q v Z' H' R' rs s' t' o' f'
theorem ae_one {op} (h : AE X a fa) : AE X (.BoolOp op [a] pos) fa := pe_one h
theorem ae_andV (ha : AE X a fa) (hb : AE X (.BoolOp .And (b :: rest) pos) fb) : AE X (.BoolOp .And (a :: b :: rest) pos) (mAndV fa fb) := PE.mono (pe_andT ha hb) fun σ H Q q => eOf_tru (w := true) (fun E => rfl) q
theorem ae_notV (ha : AE X a fa) : AE X (.UnaryOp .Not a pos) (mNotV fa) := PE.mono (pe_notT ha) fun σ H Q q => by
  obtain ⟨Z, E, R, s, o, E', e, q⟩ := q
  unfold mNotV at e
  cases e1 : fa E with
  | none => rw [e1] at e; cases e
  | some p =>
    obtain ⟨o1, E1⟩ := p
    rw [e1] at e
    simp only [Option.bind_some] at e
    cases e2 : rd E1 o1 with
    | none => rw [e2] at e; cases e
    | some d =>
      rw [e2] at e
      simp only [Option.bind_some] at e
      cases e3 : tru d with
      | none => rw [e3] at e; cases e
      | some k =>
        rw [e3] at e
        cases e
        exact ⟨Z, E, R, s, o1, _, e1, fun v Z' H' R' rs s' t' o' f' => ⟨_, (s'.read o' e2).tru e3, q _ Z' H' R' [] s' t' (Own.ofImm (.bl _) (by simp)) .nil⟩⟩
end
end Zk
namespace Zk
open PySem PySem.Spec PyProof.Rows L2

section
variable {K : PySem.W.Frag} {Z Z' : Addr → Prop} {H H' : Hp} {σ : L2.St} {E E' : Ev} {R R' : Rs}
/-- an unchangeable end leaves all as it is; another one may hold the items of what is given -/
def mOp (g : List D → Option (D × Nat)) (fa : Fa) : Fe := fun E => (fa E).bind fun p => (rdL p.2 p.1).bind fun ds => (g ds).bind fun d =>
  if imm d.1 = true then some (.val d.1 9, p.2) else (akL p.2 p.1).map fun q => (.val d.1 d.2, q.2)
theorem Rps.kfs : ∀ {vs : List V} {ds : List D}, Rps K Z H vs ds → Kfs K Z H vs ds
  | _, _, .nil => .nil
  | _, _, .cons h t => .cons h.kf (Rps.kfs t)
mutual
/-- what is readable is there -/
theorem Rp.dom : ∀ {v : V} {d : D}, Rp K (fun _ => True) H v d → Rp K (fun a => H a ≠ none) H v d
  | _, _, .non => .non
  | _, _, .bl b => .bl b
  | _, _, .int i => .int i
  | _, _, .str x => .str x
  | _, _, .ty x => .ty x
  | _, _, .tup h r => .tup h (Rps.dom r)
  | _, _, .con h r => .con h (Rps.dom r)
  | _, _, .lst _ h r => .lst (by rw [h]; simp) h (Rps.dom r)
  | _, _, .dK _ h e r => .dK (by rcases h with h | ⟨o, h⟩ <;> rw [h] <;> simp) h e (Rps.dom r)
  | _, _, .dT _ h e r => .dT (by rw [h]; simp) h e (Rps.dom r)
  | _, _, .set _ h e n d => .set (by rw [h]; simp) h e n d
  | _, _, .scr h => .scr h
theorem Rps.dom : ∀ {vs : List V} {ds : List D}, Rps K (fun _ => True) H vs ds → Rps K (fun a => H a ≠ none) H vs ds
  | _, _, .nil => .nil
  | _, _, .cons h t => .cons (Rp.dom h) (Rps.dom t)
end
theorem ak_rd {E E' : Ev} {o : Op} {d : D} (h : ak E o = some (d, E')) : rd E o = some d := by
  cases o with
  | val d' n => cases h; rfl
  | slot i =>
    unfold ak at h
    cases q : eg E i with
    | none => simp [q] at h
    | some dn =>
      simp only [q] at h
      split at h <;> (cases h; simp [Zk.rd, q])
theorem ak_len {E E' : Ev} {o : Op} {d : D} (h : ak E o = some (d, E')) (j : Nat) (d' : D) (n' : Nat) (e : eg E j = some (d', n')) : ∃ m, eg E' j = some (d', m) := by
  cases o with
  | val d' n => cases h; exact ⟨_, e⟩
  | slot i =>
    unfold ak at h
    cases q : eg E i with
    | none => simp [q] at h
    | some dn =>
      simp only [q] at h
      split at h
      · cases h; exact ⟨_, e⟩
      · cases h
        by_cases c : j = i
        · subst c
          rw [q] at e
          cases e
          exact ⟨0, eg_set_same (eg_lt q)⟩
        · exact ⟨n', by rw [eg_set_ne c]; exact e⟩
theorem rd_ak {E E' : Ev} {o o' : Op} {d d' : D} (h : ak E o = some (d, E')) (e : rd E o' = some d') : rd E' o' = some d' := by
  cases o' with
  | val x n => exact e
  | slot j =>
    simp only [Zk.rd] at e ⊢
    cases q : eg E j with
    | none => simp [q] at e
    | some dn =>
      obtain ⟨m, hm⟩ := ak_len h j dn.1 dn.2 q
      rw [q] at e
      cases e
      rw [hm]; rfl
theorem akL_rd : ∀ {os : List Op} {E E' : Ev} {ds es : List D}, akL E os = some (ds, E') → rdL E os = some es → ds = es
  | [], _, _, _, _, h, e => by cases h; cases e; rfl
  | o :: os, E, E', ds, es, h, e => by
    simp only [akL] at h
    simp only [rdL] at e
    cases q : ak E o with
    | none => rw [q] at h; cases h
    | some p =>
      rw [q] at h
      simp only [Option.bind_some] at h
      cases q2 : akL p.2 os with
      | none => rw [q2] at h; cases h
      | some p2 =>
        rw [q2] at h
        cases h
        rw [ak_rd (E' := p.2) (d := p.1) q] at e
        simp only [Option.bind_some] at e
        cases q3 : rdL E os with
        | none => rw [q3] at e; cases e
        | some fs =>
          rw [q3] at e
          cases e
          have mono : ∀ {os : List Op} {es : List D}, rdL E os = some es → rdL p.2 os = some es := by
            intro os
            induction os with
            | nil => intro es h; exact h
            | cons o' os ih =>
              intro es h
              simp only [rdL] at h ⊢
              cases r1 : rd E o' with
              | none => rw [r1] at h; cases h
              | some d1 =>
                rw [r1] at h
                simp only [Option.bind_some] at h
                cases r2 : rdL E os with
                | none => rw [r2] at h; cases h
                | some ds1 =>
                  rw [r2] at h
                  rw [rd_ak (E' := p.2) (d := p.1) q r1, ih r2]
                  exact h
          rw [akL_rd q2 (mono q3)]
theorem op_of {r : List V → Hp → VK → Prop} {g : List D → Option (D × Nat)} (h : AL K r g) {fa : Fa} {σ : L2.St} {H : Hp} {Q : VK} (q : eOf K (mOp g fa) σ H Q) : aOf K fa σ H fun vs H2 => r vs H2 Q := by
  obtain ⟨Z, E, R, s, o, E', e, q⟩ := q
  unfold mOp at e
  cases e1 : fa E with
  | none => rw [e1] at e; cases e
  | some p =>
    obtain ⟨os, E1⟩ := p
    rw [e1] at e
    simp only [Option.bind_some] at e
    cases e2 : rdL E1 os with
    | none => rw [e2] at e; cases e
    | some ds =>
      rw [e2] at e
      simp only [Option.bind_some] at e
      cases e3 : g ds with
      | none => rw [e3] at e; cases e
      | some d =>
        rw [e3] at e
        simp only [Option.bind_some] at e
        by_cases hi : imm d.1 = true
        · rw [if_pos hi] at e
          cases e
          refine ⟨Z, E, R, s, os, _, e1, fun vs Z1 H1 R1 rss s1 t1 a1 f1 => ?_⟩
          refine h (fun a => H1 a ≠ none) H1 vs ds d.1 d.2 Q (fun _ z => z) (s1.readL a1 e2).dom.kfs e3 fun v H' rs m o nd nw => ?_
          obtain ⟨rfl, rp⟩ := o.imm hi
          exact q v Z1 H' R1 [] (s1.more m) (t1.trans (m.step _)) (Own.ofImm (rp.immz (fun _ _ e _ => e) hi) hi) .nil
        · rw [if_neg hi] at e
          cases e4 : akL E1 os with
          | none => rw [e4] at e; cases e
          | some p2 =>
            obtain ⟨ds', E2⟩ := p2
            rw [e4] at e
            cases e
            cases akL_rd e4 e2
            refine al_of h (fa := fa) ⟨Z, E, R, s, .val d.1 d.2, E2, ?_, q⟩
            unfold mAL
            rw [e1]
            simp only [Option.bind_some, e4, e3, Option.map_some]
theorem tOp_op {fa fb : Fe} {r : R2} {g : List D → Option (D × Nat)} {Q : VK} (h : AL K (two r) g) (q : eOf K (mOp g (mA2 fa fb)) σ H Q) : tOp r (eOf K fa) (eOf K fb) σ H Q := by
  have z := aOf_2 (op_of h q)
  obtain ⟨Z, E, R, s, o1, E1, e1, z⟩ := z
  refine ⟨Z, E, R, s, o1, E1, e1, fun v Z' H' R' rs s' t' o' f' => ?_⟩
  obtain ⟨Z2, E2, R2, s2, o2, E3, e2, z2⟩ := z v Z' H' R' rs s' t' o' f'
  refine ⟨Z2, E2, R2, s2, o2, E3, e2, fun v2 Z3 H3 R3 rs3 s3 t3 o3 f3 => ?_⟩
  obtain ⟨x, y, e, q⟩ := z2 v2 Z3 H3 R3 rs3 s3 t3 o3 f3
  cases e
  exact q

theorem Rps.atI {Z : Addr → Prop} {vs : List V} {ds : List D} (r : Rps K Z H vs ds) {i : Int} {d : D} (e : L2.atI ds i = some d) : ∃ v, L2.atI vs i = some v ∧ Rp K Z H v d := by
  unfold L2.atI at e ⊢
  rw [r.len]
  cases q : ixN ds.length i with
  | none => rw [q] at e; cases e
  | some j =>
    rw [q] at e
    simp only [Option.bind_some] at e ⊢
    exact r.getD e
/-- xs[i] -/
def gIx : List D → Option (D × Nat)
  | [.lst ds, .int i] => (atI ds i).map fun d => (d, 0)
  | [.tup ds, .int i] => (atI ds i).map fun d => (d, 0)
  | [.con ds, .int i] => (atI ds i).map fun d => (d, 0)
  | [.scr ds, .int i] => (atI ds i).map fun d => (.int d, 9)
  | [.str z, .int i] => if z.length ≤ sizeLine then (atI z.cps.toList i).map fun c => (.str ⟨#[c]⟩, 9) else none
  | _ => none
theorem atI_map {α β : Type} (f : α → β) (xs : List α) (i : Int) : L2.atI (xs.map f) i = (L2.atI xs i).map f := by
  unfold L2.atI
  rw [List.length_map]
  cases ixN xs.length i with
  | none => rfl
  | some j => simp
theorem al_ix : AL K (two (rIx K)) gIx := by
  intro Z H vs ds d n Q hz k e q
  unfold gIx at e
  split at e
  · rename_i ds i
    cases e1 : atI ds i with
    | none => rw [e1] at e; cases e
    | some d1 =>
      rw [e1] at e
      cases e
      obtain ⟨x, y, rfl, ⟨p, xs, rfl, hp, r⟩, h2⟩ := k.two
      cases Rp.intE h2
      obtain ⟨v, ev, rv⟩ := r.atI e1
      exact ⟨_, _, rfl, .inl ⟨p, xs, i, v, rfl, rfl, .inl (.inl hp), ev, q v H [] (.refl _) ⟨rfl, rv⟩ List.nodup_nil fun a m => by simp at m⟩⟩
  · rename_i ds i
    cases e1 : atI ds i with
    | none => rw [e1] at e; cases e
    | some d1 =>
      rw [e1] at e
      cases e
      obtain ⟨x, y, rfl, h1, h2⟩ := k.two
      cases Rp.intE h2
      cases h1 with
      | tup s r =>
        obtain ⟨v, ev, rv⟩ := r.atI e1
        exact ⟨_, _, rfl, .inr (.inl ⟨_, _, i, v, rfl, rfl, .of s, ev, q v H [] (.refl _) ⟨rfl, rv⟩ List.nodup_nil fun a m => by simp at m⟩)⟩
  · rename_i ds i
    cases e1 : atI ds i with
    | none => rw [e1] at e; cases e
    | some d1 =>
      rw [e1] at e
      cases e
      obtain ⟨x, y, rfl, h1, h2⟩ := k.two
      cases Rp.intE h2
      cases h1 with
      | con s r =>
        obtain ⟨v, ev, rv⟩ := r.atI e1
        exact ⟨_, _, rfl, .inr (.inl ⟨_, _, i, v, rfl, rfl, s.sq, ev, q v H [] (.refl _) ⟨rfl, rv⟩ List.nodup_nil fun a m => by simp at m⟩)⟩
  · rename_i ns i
    cases e1 : atI ns i with
    | none => rw [e1] at e; cases e
    | some d1 =>
      rw [e1] at e
      cases e
      obtain ⟨x, y, rfl, h1, h2⟩ := k.two
      cases Rp.intE h2
      cases h1 with
      | scr s =>
        exact ⟨_, _, rfl, .inl ⟨_, _, i, .int d1, rfl, rfl, s.sq, by rw [atI_map, e1]; rfl, fin_imm (Z := Z) (.int _) (by simp) q⟩⟩
  · rename_i z i
    split at e
    · rename_i hl
      cases e1 : atI z.cps.toList i with
      | none => rw [e1] at e; cases e
      | some c =>
        rw [e1] at e
        cases e
        obtain ⟨x, y, rfl, h1, h2⟩ := k.two
        cases Rp.intE h2
        cases Rp.strE h1
        exact ⟨_, _, rfl, .inr (.inr ⟨z, i, c, rfl, rfl, hl, e1, fin_imm (Z := Z) (.str _) (by simp) q⟩)⟩
    · cases e
  · cases e
end
section
variable {X : Cx} {a b e : Expr} {es : List Expr} {fa fb fe : Fe} {fs : Fa} {pos : PySem.Pos} {x : Str} {p : PySem.Pos} {id T : String} {r : List V → Hp → VK → Prop}
theorem aa_nil : AA X [] mA0 := PA.mono pa_nil fun _ _ _ q => aOf_0 q
theorem aa_cons (ha : AE X e fe) (hr : AA X es fs) (hs : starEach (e :: es) X.env = (false, eval e X.env) :: starEach es X.env := by rfl) : AA X (e :: es) (mAc fe fs) := PA.mono (pa_cons ha hr hs) fun _ _ _ q => aOf_c q

theorem ae_blt {g : List D → Option (D × Nat)} (hc : CallR X (.builtin id) r) (hal : AL X.K r g) (hg : Gl X x) (hm : X.mg x = none) (hv : bootBuiltins x = some (.builtin id)) (ha : AA X (e :: es) fs) (hn : x ≠ "__name__" := by decide) (hdb : (x == ("__debug__" : Str)) = false := by decide)
    (he : starEach (e :: es) X.env = (false, eval e X.env) :: starEach es X.env := by rfl) (hpl : (backTo pos (starEach es X.env)).any (·.1) = false := by rfl) : AE X (.Call (.Name x p) (e :: es) [] pos) (mOp g fs) :=
  PE.mono (pe_callB hc hg hm hv ha hn hdb he hpl) fun _ _ _ q => op_of hal q
theorem ae_bty {g : List D → Option (D × Nat)} (hc : CallR X (.type T) r) (hal : AL X.K r g) (hg : Gl X x) (hm : X.mg x = none) (hv : bootBuiltins x = some (.type T)) (ha : AA X (e :: es) fs) (hn : x ≠ "__name__" := by decide) (hdb : (x == ("__debug__" : Str)) = false := by decide)
    (he : starEach (e :: es) X.env = (false, eval e X.env) :: starEach es X.env := by rfl) (hpl : (backTo pos (starEach es X.env)).any (·.1) = false := by rfl) : AE X (.Call (.Name x p) (e :: es) [] pos) (mOp g fs) :=
  PE.mono (pe_callTy hc hg hm hv ha hn hdb he hpl) fun _ _ _ q => op_of hal q
/-- a built-in type as a value -/
theorem ae_typ {n : String} (hg : Gl X x) (hm : X.mg x = none) (hv : bootBuiltins x = some (.type n)) (hn : x ≠ "__name__" := by decide) (hdb : (x == ("__debug__" : Str)) = false := by decide) : AE X (.Name x pos) (mC (.ty n)) :=
  PE.mono (pe_bltn (v := .ty n) hg hm hv rfl hn hdb) fun _ _ _ q => mC_of (fun _ _ => .ty n) (by simp) q
end
section
variable {K : PySem.W.Frag} {Z Z' : Addr → Prop} {H H' : Hp} {σ : L2.St}
/-- len -/
def gLen : List D → Option (D × Nat)
  | [.lst ds] => some (.int ds.length, 9)
  | [.tup ds] => some (.int ds.length, 9)
  | [.con ds] => some (.int ds.length, 9)
  | [.scr ds] => some (.int ds.length, 9)
  | [.str z] => if z.length ≤ sizeLine then some (.int z.length, 9) else none
  | _ => none
theorem al_len : AL K (fun xs H Q => ∃ x n, xs = [x] ∧ LenV K x H n ∧ Q (.int n) H) gLen := by
  intro Z H vs ds d n Q hz k e q
  unfold gLen at e
  split at e
  · cases e
    obtain ⟨x, rfl, ⟨p, xs, rfl, hp, r⟩⟩ := k.one
    exact ⟨_, xs.length, rfl, .inl ⟨xs, .inl (.inl hp), rfl⟩, by rw [r.len]; exact fin_imm (Z := Z) (.int _) (by simp) q⟩
  · cases e
    obtain ⟨x, rfl, h1⟩ := k.one
    cases h1 with
    | tup s r => exact ⟨_, _, rfl, .inr ⟨_, .of s, rfl⟩, by rw [r.len]; exact fin_imm (Z := Z) (.int _) (by simp) q⟩
  · cases e
    obtain ⟨x, rfl, h1⟩ := k.one
    cases h1 with
    | con s r => exact ⟨_, _, rfl, .inr ⟨_, s.sq, rfl⟩, by rw [r.len]; exact fin_imm (Z := Z) (.int _) (by simp) q⟩
  · cases e
    obtain ⟨x, rfl, h1⟩ := k.one
    cases h1 with
    | scr s => exact ⟨_, _, rfl, .inl ⟨_, s.sq, rfl⟩, by rw [List.length_map]; exact fin_imm (Z := Z) (.int _) (by simp) q⟩
  · split at e
    · rename_i hl
      cases e
      obtain ⟨x, rfl, h1⟩ := k.one
      cases Rp.strE h1
      exact ⟨_, _, rfl, ⟨hl, rfl⟩, fin_imm (Z := Z) (.int _) (by simp) q⟩
    · cases e
  · cases e
/-- the ints of some data -/
def iof : List D → Option (List Int)
  | [] => some []
  | .int i :: ds => (iof ds).map (i :: ·)
  | _ => none
theorem iof_eq : ∀ {ds : List D} {ns : List Int}, iof ds = some ns → ds = ns.map D.int
  | [], _, h => by cases h; rfl
  | d :: ds, ns, h => by
    cases d with
    | int i =>
      simp only [iof] at h
      cases q : iof ds with
      | none => rw [q] at h; cases h
      | some ms => rw [q] at h; cases h; simp [iof_eq q]
    | _ => simp [iof] at h
@[simp] theorem iof_map (ns : List Int) : iof (ns.map D.int) = some ns := by
  induction ns with
  | nil => rfl
  | cons n ns ih => simp [iof, ih]
/-- sum of a list of ints -/
def gSum : List D → Option (D × Nat)
  | [.lst ds] => (iof ds).map fun ns => (.int ns.sum, 9)
  | _ => none
/-- the greatest, the least one -/
def maxL : List Int → Int
  | [] => 0
  | [a] => a
  | a :: as => max a (maxL as)
def minL : List Int → Int
  | [] => 0
  | [a] => a
  | a :: as => min a (minL as)
theorem maxL_mem : ∀ {ns : List Int}, ns ≠ [] → maxL ns ∈ ns ∧ ∀ y ∈ ns, y ≤ maxL ns
  | [a], _ => by simp [maxL]
  | a :: b :: r, _ => by
    obtain ⟨h1, h2⟩ := maxL_mem (ns := b :: r) (by simp)
    simp only [maxL]
    refine ⟨?_, fun y hy => ?_⟩
    · by_cases c : a ≤ maxL (b :: r)
      · rw [Int.max_eq_right c]; exact List.mem_cons_of_mem _ h1
      · rw [Int.max_eq_left (by omega)]; exact List.mem_cons_self
    · rcases List.mem_cons.mp hy with rfl | hy
      · omega
      · have := h2 y hy; omega
def gMax : List D → Option (D × Nat)
  | [.lst ds] => (iof ds).bind fun ns => if ns = [] then none else some (.int (maxL ns), 9)
  | [.int i, .int j] => some (.int (max i j), 9)
  | _ => none
def gMin : List D → Option (D × Nat)
  | [.lst ds] => (iof ds).bind fun ns => if ns = [] then none else some (.int (minL ns), 9)
  | [.int i, .int j] => some (.int (min i j), 9)
  | _ => none
def rMaxs (K : PySem.W.Frag) : List V → Hp → VK → Prop := fun xs H Q => rMax K xs H Q ∨ (∃ i j, xs = [.int i, .int j] ∧ Q (.int (if j > i then j else i)) H)
theorem al_max : AL K (rMaxs K) gMax := by
  intro Z H vs ds d n Q hz k e q
  unfold gMax at e
  split at e
  · rename_i ds
    cases e1 : iof ds with
    | none => rw [e1] at e; cases e
    | some ns =>
      rw [e1] at e
      simp only [Option.bind_some] at e
      split at e
      · cases e
      · rename_i ne
        cases e
        cases iof_eq e1
        obtain ⟨x, rfl, ⟨p, xs, rfl, hp, r⟩⟩ := k.one
        cases r.ints
        refine .inl ⟨p, ns, rfl, .inl (.inl hp), by cases ns with | nil => exact absurd rfl ne | cons a b => simp, fun m hm hle => ?_⟩
        obtain ⟨h1, h2⟩ := maxL_mem ne
        have e2 : m = maxL ns := Int.le_antisymm (h2 m hm) (hle _ h1)
        rw [e2]
        exact fin_imm (Z := Z) (.int _) (by simp) q
  · rename_i i j
    cases e
    obtain ⟨x, y, rfl, h1, h2⟩ := k.two
    cases Rp.intE h1
    cases Rp.intE h2
    refine .inr ⟨i, j, rfl, ?_⟩
    have e2 : (if j > i then j else i) = max i j := by split <;> omega
    rw [e2]
    exact fin_imm (Z := Z) (.int _) (by simp) q
  · cases e
def gAbs : List D → Option (D × Nat)
  | [.int i] => some (.int (if i < 0 then -i else i), 9)
  | _ => none
theorem al_abs : AL K (fun xs H Q => ∃ i, xs = [.int i] ∧ Q (.int (if i < 0 then -i else i)) H) gAbs := by
  intro Z H vs ds d n Q hz k e q
  unfold gAbs at e
  split at e
  · cases e
    obtain ⟨x, rfl, h1⟩ := k.one
    cases Rp.intE h1
    exact ⟨_, rfl, fin_imm (Z := Z) (.int _) (by simp) q⟩
  · cases e
def gInt : List D → Option (D × Nat)
  | [.int i] => some (.int i, 9)
  | [.bl b] => some (.int (if b then 1 else 0), 9)
  | _ => none
theorem al_int : AL K (fun xs H Q => (∃ i, xs = [.int i] ∧ Q (.int i) H) ∨ ∃ k, xs = [.bl k] ∧ Q (.int (if k then 1 else 0)) H) gInt := by
  intro Z H vs ds d n Q hz k e q
  unfold gInt at e
  split at e
  · cases e
    obtain ⟨x, rfl, h1⟩ := k.one
    cases Rp.intE h1
    exact .inl ⟨_, rfl, fin_imm (Z := Z) (.int _) (by simp) q⟩
  · cases e
    obtain ⟨x, rfl, h1⟩ := k.one
    cases Rp.blE h1
    exact .inr ⟨_, rfl, fin_imm (Z := Z) (.int _) (by simp) q⟩
  · cases e
/-- list(xs), tuple(xs) -/
def gList : List D → Option (D × Nat)
  | [.lst ds] => some (.lst ds, lev ds)
  | [.tup ds] => some (.lst ds, lev ds)
  | _ => none
theorem al_list : AL K (fun xs H Q => ∃ p ys, xs = [.ref p] ∧ (SqL K H p ys ∨ SqT K H p ys) ∧ ∀ l, H l = none → Q (.ref l) (upd H l (.lst ys))) gList := by
  intro Z H vs ds d n Q hz k e q
  unfold gList at e
  split at e
  · cases e
    obtain ⟨x, rfl, ⟨p, xs, rfl, hp, r⟩⟩ := k.one
    exact ⟨p, xs, rfl, .inl (.inl (.inl hp)), fin_lst hz r q⟩
  · cases e
    obtain ⟨x, rfl, h1⟩ := k.one
    cases h1 with
    | tup s r => exact ⟨_, _, rfl, .inr (.of s), fin_lst hz r q⟩
  · cases e
def gTuple : List D → Option (D × Nat)
  | [.lst ds] => some (.tup ds, 0)
  | [.tup ds] => some (.tup ds, 0)
  | _ => none
theorem al_tuple : AL K (fun xs H Q => ∃ p ys, xs = [.ref p] ∧ ((SqL K H p ys ∧ ∀ l, H l = none → Q (.ref l) (upd H l (.tup ys))) ∨ (SqT K H p ys ∧ Q (.ref p) H))) gTuple := by
  intro Z H vs ds d n Q hz k e q
  unfold gTuple at e
  split at e
  · cases e
    obtain ⟨x, rfl, ⟨p, xs, rfl, hp, r⟩⟩ := k.one
    exact ⟨p, xs, rfl, .inl ⟨.inl (.inl hp), fin_tup r q⟩⟩
  · cases e
    obtain ⟨x, rfl, h1⟩ := k.one
    cases h1 with
    | tup s r => exact ⟨_, _, rfl, .inr ⟨.of s, q _ H [] (.refl _) ⟨rfl, .tup s r⟩ List.nodup_nil fun a m => by simp at m⟩⟩
  · cases e
/-- sorted of iof -/
def srt (ns : List Int) : List Int := ns.mergeSort (fun a b => decide (a ≤ b))
theorem srt_perm (ns : List Int) : (srt ns).Perm ns := List.mergeSort_perm _ _
theorem srt_pair (ns : List Int) : (srt ns).Pairwise (· ≤ ·) := by
  have h := List.pairwise_mergeSort (le := fun a b : Int => decide (a ≤ b)) (fun a b c h1 h2 => by simp at *; omega) (fun a b => by simp; omega) ns
  exact h.imp fun h => by simpa using h
theorem srt_uniq : ∀ {xs ys : List Int}, xs.Perm ys → xs.Pairwise (· ≤ ·) → ys.Pairwise (· ≤ ·) → xs = ys := fun p h1 h2 =>
  p.eq_of_pairwise (le := (· ≤ ·)) (fun _ _ _ _ h1 h2 => Int.le_antisymm h1 h2) h1 h2
def gSrtI : List D → Option (D × Nat)
  | [.lst ds] => (iof ds).map fun ns => (.lst ((srt ns).map D.int), 9)
  | _ => none
theorem lev_ints (ns : List Int) : lev (ns.map D.int) = 9 := by unfold lev; rw [imms_map _ (fun _ => by simp)]; rfl
theorem al_srtI : AL K (rSortedI K) gSrtI := by
  intro Z H vs ds d n Q hz k e q
  unfold gSrtI at e
  split at e
  · rename_i ds
    cases e1 : iof ds with
    | none => rw [e1] at e; cases e
    | some ns =>
      rw [e1] at e
      cases e
      cases iof_eq e1
      obtain ⟨x, rfl, ⟨p, xs, rfl, hp, r⟩⟩ := k.one
      cases r.ints
      refine ⟨p, ns, rfl, .inl (.inl hp), fun ns' p' pm so hn => ?_⟩
      have e2 : ns' = srt ns := srt_uniq (pm.trans (srt_perm ns).symm) so (srt_pair ns)
      subst e2
      have := fin_lst (Q := Q) hz (Rps.ofInts (K := K) (Z := Z) (H := H) (srt ns)) (by rw [lev_ints]; exact q)
      exact this p' hn
  · cases e
/-- any, all of bools -/
def bools : List D → Option (List Bool)
  | [] => some []
  | .bl i :: ds => (bools ds).map (i :: ·)
  | _ => none
@[simp] theorem bools_map (ns : List Bool) : bools (ns.map D.bl) = some ns := by
  induction ns with
  | nil => rfl
  | cons n ns ih => simp [bools, ih]
/-- isinstance -/
def tyOf : D → Option String
  | .non => some "NoneType"
  | .bl _ => some "bool"
  | .int _ => some "int"
  | .str _ => some "str"
  | .tup _ => some "tuple"
  | .con _ => some "tuple"
  | .lst _ => some "list"
  | .dK _ => some "dict"
  | .dT _ => some "dict"
  | _ => none
/-- what isinstance of built-in types says, for those that are met here -/
def isi (a b : String) : Option Bool :=
  if b = "int" then some (a == "int" || a == "bool")
  else if b = "bool" ∨ b = "str" ∨ b = "tuple" ∨ b = "list" ∨ b = "dict" then some (a == b) else none
theorem isi_kit {d : D} {a b : String} {r : Bool} (h : tyOf d = some a) (e : isi a b = some r) : kitB a b = some r := by
  have ha : a = "NoneType" ∨ a = "bool" ∨ a = "int" ∨ a = "str" ∨ a = "tuple" ∨ a = "list" ∨ a = "dict" := by
    cases d <;> simp [tyOf] at h <;> subst h <;> simp
  unfold isi at e
  split at e
  · rename_i hb
    subst hb
    cases e
    rcases ha with rfl | rfl | rfl | rfl | rfl | rfl | rfl <;> decide +kernel
  · split at e
    · rename_i hb
      cases e
      rcases hb with rfl | rfl | rfl | rfl | rfl <;> rcases ha with rfl | rfl | rfl | rfl | rfl | rfl | rfl <;> decide +kernel
    · cases e
theorem Kf.ty {v : V} {d : D} {n : String} (h : Kf K Z H v d) (e : tyOf d = some n) : TyX K H v (.type n) := by
  cases d with
  | non => cases e; cases Rp.nonE h; exact .base .non
  | bl b => cases e; cases Rp.blE h; exact .base (.bl b)
  | int b => cases e; cases Rp.intE h; exact .base (.int b)
  | str b => cases e; cases Rp.strE h; exact .base (.str b)
  | tup ds =>
    cases e
    cases h with
    | tup s r =>
      exact .base (.tup s)
  | con ds =>
    cases e
    cases h with
    | con s r =>
      obtain ⟨o, its, m, s, c, _⟩ := s
      exact .kTuple s c
  | lst ds => cases e; obtain ⟨a, vs, rfl, ha, _⟩ := h; exact .base (.lst ha)
  | dK ds =>
    cases e
    obtain ⟨a, vs, rfl, ha, _⟩ := h
    rcases ha with ha | ⟨o, ha⟩
    · exact .base (.dK ha)
    · exact .fDict ha
  | dT ds => cases e; obtain ⟨a, vs, rfl, ha, _⟩ := h; exact .base (.dT ha)
  | _ => simp [tyOf] at e
def gIsi : List D → Option (D × Nat)
  | [d, .ty b] => (tyOf d).bind fun a => (isi a b).map fun r => (.bl r, 9)
  | [d, .tup [.ty b, .ty c]] => (tyOf d).bind fun a => (isi a b).bind fun r => (isi a c).map fun r2 => (.bl (r || r2), 9)
  | _ => none
theorem isi_any {d : D} {a b c : String} {r r2 : Bool} (h : tyOf d = some a) (e : isi a b = some r) (e2 : isi a c = some r2) : PySem.W.kitAny K (.type a) [.type b, .type c] = some (r || r2) := by
  refine kitAny_cons (kit_ty (isi_kit h e)) (fun z => ?_) fun z => by rw [z]; rfl
  rw [z, Bool.false_or]
  exact kitAny_cons (kit_ty (isi_kit h e2)) (fun z => by rw [z]; exact kitAny_nil) fun z => z
theorem al_isi : AL K (fun vs H Q => rIsi K vs H Q ∨ rIsiT K vs H Q ∨ rIsiK K vs H Q) gIsi := by
  intro Z H vs ds d n Q hz k e q
  unfold gIsi at e
  split at e
  · rename_i d b
    cases e1 : tyOf d with
    | none => rw [e1] at e; cases e
    | some a =>
      rw [e1] at e
      simp only [Option.bind_some] at e
      cases e2 : isi a b with
      | none => rw [e2] at e; cases e
      | some r =>
        rw [e2] at e
        cases e
        obtain ⟨x, y, rfl, h1, h2⟩ := k.two
        cases (show Rp K Z H y (.ty b) from h2)
        exact .inl ⟨x, _, _, _, r, rfl, .ty b, h1.ty e1, kit_ty (isi_kit e1 e2), fin_imm (Z := Z) (.bl _) (by simp) q⟩
  · rename_i d b c
    cases e1 : tyOf d with
    | none => rw [e1] at e; cases e
    | some a =>
      rw [e1] at e
      simp only [Option.bind_some] at e
      cases e2 : isi a b with
      | none => rw [e2] at e; cases e
      | some r =>
        rw [e2] at e
        simp only [Option.bind_some] at e
        cases e3 : isi a c with
        | none => rw [e3] at e; cases e
        | some r2 =>
          rw [e3] at e
          cases e
          obtain ⟨x, y, rfl, h1, h2⟩ := k.two
          have kk := isi_any (K := K) e1 e2 e3
          cases (show Rp K Z H y (.tup [.ty b, .ty c]) from h2) with
          | tup s rr =>
            obtain ⟨v1, v2, rfl, r1, r3⟩ := rr.two
            cases r1
            cases r3
            exact .inr (.inl ⟨x, _, _, _, _, _, rfl, s, .cons (.ty b) (.cons (.ty c) .nil), h1.ty e1, kk, fin_imm (Z := Z) (.bl _) (by simp) q⟩)
  · cases e
end
end Zk
namespace Zk
open PySem PySem.Spec PyProof.Rows L2

section
variable {K : PySem.W.Frag} {Z Z' : Addr → Prop} {H H' : Hp} {σ : L2.St} {E E' : Ev} {R R' : Rs}
/-- taken items -/
abbrev TL (K : PySem.W.Frag) (Z : Addr → Prop) (H : Hp) : List V → List (D × Nat) → List (List Addr) → Prop := All3 fun v dn rs => Own K Z H dn.2 v dn.1 rs
def tkL (E : Ev) : List Op → Option (List (D × Nat) × Ev)
  | [] => some ([], E)
  | o :: os => (tk E o).bind fun p => (tkL p.2.2 os).map fun q => ((p.1, p.2.1) :: q.1, q.2)
theorem S.takeL : ∀ {vs : List V} {os : List Op} {rss : List (List Addr)} {ds : List (D × Nat)} {Z : Addr → Prop} {E E' : Ev} {R : Rs}, S K Z H σ E R → All3 (OV K Z H σ) vs os rss → (∀ a ∈ rss.flatten, ¬ ow R a) → tkL E os = some (ds, E') →
    ∃ Zf R', S K Zf H σ E' R' ∧ Step Z H (ow R) Zf H (ow R') ∧ TL K Zf H vs ds rss ∧ (∀ a ∈ rss.flatten, ¬ ow R' a) ∧ (∀ a, ow R' a → ow R a)
  | _, _, _, _, Z, E, E', R, s, .nil, no, e => by
    cases e
    exact ⟨Z, R, s, .refl, .nil, no, fun _ h => h⟩
  | _, _, _, _, Z, E, E', R, s, .cons (a := v) (b := o) (bs := os) (c := rs) (cs := rss) h t, no, e => by
    simp only [tkL] at e
    have no1 : ∀ a ∈ rs, ¬ ow R a := fun a m => no a (by rw [List.flatten_cons, List.mem_append]; exact .inl m)
    have no2 : ∀ a ∈ rss.flatten, ¬ ow R a := fun a m => no a (by rw [List.flatten_cons, List.mem_append]; exact .inr m)
    cases q : tk E o with
    | none => rw [q] at e; cases e
    | some p =>
      obtain ⟨d, n, E1⟩ := p
      rw [q] at e
      cases q2 : tkL E1 os with
      | none => simp only [Option.bind_some, q2] at e; cases e
      | some p2 =>
        obtain ⟨ds, E2⟩ := p2
        simp only [Option.bind_some, q2, Option.map_some, Option.some.injEq, Prod.mk.injEq] at e
        obtain ⟨rfl, rfl⟩ := e
        obtain ⟨Z1, R1, s1, t1, o1, n1, sub1⟩ := s.take h no1 q
        have a1 : All3 (OV K Z1 H σ) _ os rss := t.imp fun v' o' rs' m hh => (s.pendO t1 hh fun a ma => no2 a (mem_flatten_of m ma)).1
        obtain ⟨Zf, R2, s2, t2, tl2, n2, sub2⟩ := S.takeL s1 a1 (fun a m z => no2 a m (sub1 a z)) q2
        obtain ⟨k1, k2⟩ := s1.pend t2 o1 n1
        refine ⟨Zf, R2, s2, t1.trans t2, .cons k1 tl2, fun a m => ?_, fun a z => sub1 a (sub2 a z)⟩
        rw [List.flatten_cons, List.mem_append] at m
        rcases m with m | m
        · exact k2 a m
        · exact n2 a m
theorem TL.there {vs : List V} {ds : List (D × Nat)} {rss : List (List Addr)} (h : TL K Z H vs ds rss) : ∀ a ∈ rss.flatten, H a ≠ none := by
  induction h with
  | nil => intro a m; simp at m
  | cons h t ih =>
    intro a m
    rw [List.flatten_cons, List.mem_append] at m
    rcases m with m | m
    · exact Own.there h a m
    · exact ih a m
theorem TL.notZ {vs : List V} {ds : List (D × Nat)} {rss : List (List Addr)} (h : TL K Z H vs ds rss) : ∀ a ∈ rss.flatten, ¬ Z a := by
  induction h with
  | nil => intro a m; simp at m
  | cons h t ih =>
    intro a m
    rw [List.flatten_cons, List.mem_append] at m
    rcases m with m | m
    · exact (Own.mut h a m).2
    · exact ih a m
theorem TL.froz (p : Pers Z H Z' H') {vs : List V} {ds : List (D × Nat)} {rss : List (List Addr)} (h : TL K Z H vs ds rss) (k : ∀ a ∈ rss.flatten, H' a = H a ∧ Z' a) : Rps K Z' H' vs (ds.map (·.1)) := by
  induction h with
  | nil => exact .nil
  | cons h t ih =>
    refine .cons (Own.freeze p (fun a m => k a (by rw [List.flatten_cons, List.mem_append]; exact .inl m)) h) (ih fun a m => k a (by rw [List.flatten_cons, List.mem_append]; exact .inr m))
theorem TL.keep (p : Pers Z H Z' H') {vs : List V} {ds : List (D × Nat)} {rss : List (List Addr)} (h : TL K Z H vs ds rss) (k : ∀ a ∈ rss.flatten, H' a = H a ∧ ¬ Z' a) : TL K Z' H' vs ds rss :=
  All3.imp h fun v d rs m o => o.keep p fun a ma => k a (mem_flatten_of m ma)
theorem TL.len {vs : List V} {ds : List (D × Nat)} {rss : List (List Addr)} (h : TL K Z H vs ds rss) : vs.length = ds.length := by
  induction h with
  | nil => rfl
  | cons _ _ ih => simp [ih]
/-- how deep a new list of taken items is ours: all items unchangeable; all others of one depth; else they are frozen -/
def uni (ds : List (D × Nat)) : Nat :=
  if imms (ds.map (·.1)) = true then 9 else
    match ds.find? (fun d => !imm d.1) with
    | some d => if ds.all (fun e => imm e.1 || e.2 == d.2) = true then d.2 + 1 else 1
    | none => 9
theorem TL.all {n : Nat} : ∀ {vs : List V} {ds : List (D × Nat)} {rss : List (List Addr)}, TL K Z H vs ds rss → ds.all (fun e => imm e.1 || e.2 == n) = true → All3 (Own K Z H n) vs (ds.map (·.1)) rss
  | _, _, _, .nil, _ => .nil
  | _, _, _, .cons (b := d) (c := rs) h t, a => by
    simp only [List.all_cons, Bool.and_eq_true, Bool.or_eq_true, beq_iff_eq] at a
    refine .cons ?_ (TL.all t a.2)
    rcases a.1 with i | e
    · obtain ⟨rfl, r⟩ := h.imm i
      exact .ofImm r i
    · rw [← e]; exact h
theorem TL.immR : ∀ {vs : List V} {ds : List (D × Nat)} {rss : List (List Addr)}, TL K Z H vs ds rss → imms (ds.map (·.1)) = true → Rps K Z H vs (ds.map (·.1)) ∧ rss.flatten = []
  | _, _, _, .nil, _ => ⟨.nil, rfl⟩
  | _, _, _, .cons h t, i => by
    simp only [List.map_cons, imms_cons, Bool.and_eq_true] at i
    obtain ⟨rfl, r⟩ := h.imm i.1
    obtain ⟨r2, e2⟩ := TL.immR t i.2
    exact ⟨.cons r r2, by rw [List.flatten_cons, e2]; rfl⟩
/-- a new list of taken items -/
theorem S.newList (s : S K Z H σ E R) {vs : List V} {ds : List (D × Nat)} {rss : List (List Addr)} (h : TL K Z H vs ds rss) (nd : rss.flatten.Nodup) (no : ∀ a ∈ rss.flatten, ¬ ow R a) {p : Addr} (hp : H p = none) :
    ∃ Zf rs, S K Zf (upd H p (.lst vs)) σ E R ∧ Own K Zf (upd H p (.lst vs)) (uni ds) (.ref p) (.lst (ds.map (·.1))) rs ∧ rs.Nodup ∧ (∀ a ∈ rs, a = p ∨ a ∈ rss.flatten) ∧ (∀ a, Z a → Zf a) ∧ (∀ a, Zf a → Z a ∨ a ∈ rss.flatten) := by
  have m : More H (upd H p (.lst vs)) := .upd hp
  have th := TL.there h
  have pne : ∀ a ∈ rss.flatten, a ≠ p := fun a ma e => th a ma (by rw [e]; exact hp)
  have nz : ¬ Z p := fun z => s.zd p z hp
  have froz : ∃ Zf rs, S K Zf (upd H p (.lst vs)) σ E R ∧ Own K Zf (upd H p (.lst vs)) 1 (.ref p) (.lst (ds.map (·.1))) rs ∧ rs.Nodup ∧ (∀ a ∈ rs, a = p ∨ a ∈ rss.flatten) ∧ (∀ a, Z a → Zf a) ∧ (∀ a, Zf a → Z a ∨ a ∈ rss.flatten) := by
    have s1 := (s.chill no th).more m
    refine ⟨_, [p], s1, ⟨p, vs, _, rfl, upd_same, fun z => ?_, All3.ofRps0 (h.froz (Z' := fun a => Z a ∨ a ∈ rss.flatten) (m.pers fun _ h => .inl h) fun a ma => ⟨upd_ne (pne a ma), .inr ma⟩), by rw [flat_nils]⟩, by simp, fun a ma => .inl (by simpa using ma), fun _ h => .inl h, fun _ h => h⟩
    rcases z with z | z
    · exact nz z
    · exact pne p z rfl
  unfold uni
  split
  · rename_i i
    obtain ⟨r, e⟩ := h.immR i
    exact ⟨Z, [p], s.more m, ⟨p, vs, _, rfl, upd_same, nz, All3.ofRpsI (r.pers (m.pers fun _ h => h)) i, by rw [flat_nils]⟩, by simp, fun a ma => .inl (by simpa using ma), fun _ h => h, fun _ h => .inl h⟩
  · split
    · rename_i d hd
      split
      · rename_i a
        have h2 : TL K Z (upd H p (.lst vs)) vs ds rss := h.keep (m.pers fun _ h => h) fun a ma => ⟨upd_ne (pne a ma), TL.notZ h a ma⟩
        refine ⟨Z, p :: rss.flatten, s.more m, ⟨p, vs, rss, rfl, upd_same, nz, h2.all a, rfl⟩, List.nodup_cons.mpr ⟨fun z => pne p z rfl, nd⟩, fun a ma => List.mem_cons.mp ma, fun _ h => h, fun _ h => .inl h⟩
      · exact froz
    · rename_i hn _ hi
      exact absurd (by
        rw [imms_all, List.all_map, List.all_eq_true]
        intro x hx
        have := List.find?_eq_none.mp hi x hx
        simpa using this) hn
def mLst (fa : Fa) : Fe := fun E => (fa E).bind fun p => (tkL p.2 p.1).bind fun q => if q.1.length ≤ sizeLine then some (.val (.lst (q.1.map (·.1))) (uni q.1), q.2) else none
def mTup (fa : Fa) : Fe := fun E => (fa E).bind fun p => (tkL p.2 p.1).bind fun q => if q.1.length ≤ sizeLine then some (.val (.tup (q.1.map (·.1))) 0, q.2) else none
theorem take_of {fa : Fa} {g : List (D × Nat) → Option (D × Nat)} {f : Fe} (hf : ∀ E, f E = (fa E).bind fun p => (tkL p.2 p.1).bind fun q => (g q.1).map fun d => (.val d.1 d.2, q.2)) {Q : VK} {r : List V → Hp → Prop}
    (h : ∀ Z0 H0 R0 Z H E R vs ds d n rss, S K Z H σ E R → Step Z0 H0 (ow R0) Z H (ow R) → TL K Z H vs ds rss → Fr R0 H0 R rss.flatten → g ds = some (d, n) →
      (∀ v Z' H' rs, S K Z' H' σ E R → Step Z0 H0 (ow R0) Z' H' (ow R) → Own K Z' H' n v d rs → Fr R0 H0 R rs → Q v H') → r vs H) {H : Hp} (q : eOf K f σ H Q) : aOf K fa σ H r := by
  obtain ⟨Z, E, R, s, o, E', e, q⟩ := q
  rw [hf] at e
  cases e1 : fa E with
  | none => rw [e1] at e; cases e
  | some p =>
    obtain ⟨os, E1⟩ := p
    rw [e1] at e
    simp only [Option.bind_some] at e
    cases e2 : tkL E1 os with
    | none => rw [e2] at e; cases e
    | some p2 =>
      obtain ⟨ds, E2⟩ := p2
      rw [e2] at e
      simp only [Option.bind_some] at e
      cases e3 : g ds with
      | none => rw [e3] at e; cases e
      | some d =>
        rw [e3] at e
        cases e
        refine ⟨Z, E, R, s, os, E1, e1, fun vs Z1 H1 R1 rss s1 t1 a1 f1 => ?_⟩
        obtain ⟨Zf, R2, s2, t2, tl, no2, sub⟩ := s1.takeL a1 f1.no e2
        exact h Z H R Zf H1 _ R2 vs ds d.1 d.2 rss s2 (t1.trans t2) tl ⟨f1.nd, no2, f1.of⟩ e3 fun v Z' H' rs s' t' o' f' => q v Z' H' R2 rs s' t' o' f'
theorem lst_of {fa : Fa} {H : Hp} {Q : VK} (q : eOf K (mLst fa) σ H Q) : aOf K fa σ H fun xs H1 => xs.length ≤ sizeLine ∧ ∀ p, H1 p = none → Q (.ref p) (upd H1 p (.lst xs)) :=
  take_of (g := fun ds => if ds.length ≤ sizeLine then some (.lst (ds.map (·.1)), uni ds) else none) (fun E => by
    unfold mLst
    congr 1; funext p; congr 1; funext q
    split <;> rfl) (fun Z0 H0 R0 Z H E R vs ds d n rss s t tl fr e q => by
    split at e
    · rename_i hl
      cases e
      refine ⟨by rw [tl.len]; exact hl, fun p hp => ?_⟩
      obtain ⟨Zf, rs, s2, o2, nd2, in2, zz, zn⟩ := s.newList tl fr.nd fr.no hp
      refine q _ Zf _ rs s2 (t.fin zz (fun a z => ?_) (.upd hp) fun a h => .inl h) o2 ⟨nd2, fun a m => ?_, fun a m => ?_⟩
      · rcases zn a z with z | z
        · exact .inl z
        · rcases fr.of a z with z | z
          · exact .inr (.inr (.inl z))
          · exact .inr (.inr (.inr z))
      · rcases in2 a m with rfl | m
        · exact fun z => s.there z hp
        · exact fr.no a m
      · rcases in2 a m with rfl | m
        · by_cases c : H0 a = none
          · exact .inr c
          · exact absurd hp (t.dm a c)
        · exact fr.of a m
    · cases e) q
theorem tup_of {fa : Fa} {H : Hp} {Q : VK} (q : eOf K (mTup fa) σ H Q) : aOf K fa σ H fun xs H1 => xs.length ≤ sizeLine ∧ ∀ p, H1 p = none → Q (.ref p) (upd H1 p (.tup xs)) :=
  take_of (g := fun ds => if ds.length ≤ sizeLine then some (.tup (ds.map (·.1)), 0) else none) (fun E => by
    unfold mTup
    congr 1; funext p; congr 1; funext q
    split <;> rfl) (fun Z0 H0 R0 Z H E R vs ds d n rss s t tl fr e q => by
    split at e
    · rename_i hl
      cases e
      refine ⟨by rw [tl.len]; exact hl, fun p hp => ?_⟩
      have m : More H (upd H p (.tup vs)) := .upd hp
      have th := TL.there tl
      have s1 := (s.chill fr.no th).more m
      refine q _ _ _ [] s1 (t.fin (fun _ h => .inl h) (fun a z => ?_) m fun a h => .inl h) ⟨rfl, .tup upd_same (tl.froz (m.pers fun _ h => .inl h) fun a ma => ⟨upd_ne fun e => th a ma (by rw [e]; exact hp), .inr ma⟩)⟩ .nil
      rcases z with z | z
      · exact .inl z
      · rcases fr.of a z with z | z
        · exact .inr (.inr (.inl z))
        · exact .inr (.inr (.inr z))
    · cases e) q
end
section
variable {X : Cx} {a b e : Expr} {es : List Expr} {fa fb fe : Fe} {fs : Fa} {pos : PySem.Pos}
theorem ae_lst (h : AA X es fs) : AE X (.List es pos) (mLst fs) := PE.mono (pe_lst h) fun _ _ _ q => lst_of q
theorem ae_tup {x1} (h : AA X es fs) : AE X (.Tuple es x1 pos) (mTup fs) := PE.mono (pe_tup h) fun _ _ _ q => tup_of q

/-- the ends of a slice: None for a part left out -/
def cutD (xs : List D) (lo hi : Option Int) : List D := (xs.drop (HT.sIx xs.length 0 lo)).take (HT.sIx xs.length xs.length hi - HT.sIx xs.length 0 lo)
def part : D → Option (Option Int)
  | .non => some none
  | .int i => some (some i)
  | _ => none
def gSl : List D → Option (D × Nat)
  | [.lst ds, l, h] => (part l).bind fun l => (part h).map fun h => (.lst (cutD ds l h), lev (cutD ds l h))
  | [.scr ns, l, h] => (part l).bind fun l => (part h).map fun h => (.lst (cutD (ns.map D.int) l h), lev (cutD (ns.map D.int) l h))
  | [.tup ds, l, h] => (part l).bind fun l => (part h).map fun h => (.tup (cutD ds l h), 0)
  | [.str z, l, h] => (part l).bind fun l => (part h).bind fun h => if z.length ≤ sizeLine then some (.str (cutS z l h), 9) else none
  | _ => none
end
section
variable {K : PySem.W.Frag} {Z Z' : Addr → Prop} {H H' : Hp} {σ : L2.St}
theorem Rps.cut {vs : List V} {ds : List D} (r : Rps K Z H vs ds) (lo hi : Option Int) : Rps K Z H (cutV vs lo hi) (cutD ds lo hi) := by
  unfold cutV cutD
  rw [r.len]
  exact (r.drop _).take _
def rSls (K : PySem.W.Frag) : V → Option Int → Option Int → Hp → VK → Prop := fun x lo hi H Q => rSlL K x lo hi H Q ∨ rSlA K x lo hi H Q ∨ rSlS x lo hi H Q
def rS3 (K : PySem.W.Frag) : List V → Hp → VK → Prop := fun vs H Q => ∃ x l h lo hi, vs = [x, l, h] ∧ ((l = .non ∧ lo = none) ∨ ∃ i, l = .int i ∧ lo = some i) ∧ ((h = .non ∧ hi = none) ∨ ∃ i, h = .int i ∧ hi = some i) ∧ rSls K x lo hi H Q
theorem Kf.part {v : V} {d : D} {o : Option Int} (h : Kf K Z H v d) (e : part d = some o) : (v = .non ∧ o = none) ∨ ∃ i, v = .int i ∧ o = some i := by
  cases d with
  | non => cases e; cases Rp.nonE h; exact .inl ⟨rfl, rfl⟩
  | int i => cases e; cases Rp.intE h; exact .inr ⟨i, rfl, rfl⟩
  | _ => simp [Zk.part] at e
theorem Kfs.three {vs : List V} {a b c : D} (h : Kfs K Z H vs [a, b, c]) : ∃ x y z, vs = [x, y, z] ∧ Kf K Z H x a ∧ Kf K Z H y b ∧ Kf K Z H z c := by
  cases h with
  | cons h t =>
    obtain ⟨y, z, rfl, h2, h3⟩ := t.two
    exact ⟨_, _, _, rfl, h, h2, h3⟩
theorem al_sl : AL K (rS3 K) gSl := by
  intro Z H vs ds d n Q hz k e q
  unfold gSl at e
  split at e
  · rename_i ds l h
    cases e1 : part l with
    | none => rw [e1] at e; cases e
    | some lo =>
      cases e2 : part h with
      | none => rw [e1, e2] at e; cases e
      | some hi =>
        rw [e1, e2] at e
        cases e
        obtain ⟨x, y, z, rfl, ⟨p, xs, rfl, hp, r⟩, h2, h3⟩ := k.three
        exact ⟨_, _, _, lo, hi, rfl, h2.part e1, h3.part e2, .inl ⟨p, xs, rfl, .inl (.inl hp), fin_lst hz (r.cut lo hi) q⟩⟩
  · rename_i ds l h
    cases e1 : part l with
    | none => rw [e1] at e; cases e
    | some lo =>
      cases e2 : part h with
      | none => rw [e1, e2] at e; cases e
      | some hi =>
        rw [e1, e2] at e
        cases e
        obtain ⟨x, y, z, rfl, h1, h2, h3⟩ := k.three
        cases h1 with
        | scr s => exact ⟨_, _, _, lo, hi, rfl, h2.part e1, h3.part e2, .inl ⟨_, _, rfl, s.sq, fin_lst hz ((Rps.ofInts (K := K) (Z := Z) (H := H) ds).cut lo hi) q⟩⟩
  · rename_i ds l h
    cases e1 : part l with
    | none => rw [e1] at e; cases e
    | some lo =>
      cases e2 : part h with
      | none => rw [e1, e2] at e; cases e
      | some hi =>
        rw [e1, e2] at e
        cases e
        obtain ⟨x, y, z, rfl, h1, h2, h3⟩ := k.three
        cases h1 with
        | tup s r =>
          refine ⟨_, _, _, lo, hi, rfl, h2.part e1, h3.part e2, .inr (.inl ⟨_, _, rfl, .of s, fun c => ?_, fun c => fin_tup (r.cut lo hi) q⟩)⟩
          have e4 : cutD ds lo hi = ds := by
            unfold cutD
            rw [← r.len, c.1, c.2]
            simp [r.len]
          rw [e4] at q
          exact q _ H [] (.refl _) ⟨rfl, .tup s r⟩ List.nodup_nil fun a m => by simp at m
  · rename_i z0 l h
    cases e1 : part l with
    | none => rw [e1] at e; cases e
    | some lo =>
      cases e2 : part h with
      | none => rw [e1, e2] at e; cases e
      | some hi =>
        rw [e1, e2] at e
        simp only [Option.bind_some] at e
        split at e
        · rename_i hl
          cases e
          obtain ⟨x, y, z, rfl, h1, h2, h3⟩ := k.three
          cases Rp.strE h1
          exact ⟨_, _, _, lo, hi, rfl, h2.part e1, h3.part e2, .inr (.inr ⟨z0, rfl, hl, fin_imm (Z := Z) (.str _) (by simp) q⟩)⟩
        · cases e
  · cases e
end
section
variable {X : Cx} {a b e : Expr} {es : List Expr} {fa fb fe fl fh : Fe} {fs : Fa} {pos : PySem.Pos} {lo hi : Option Expr}
def Pt (v : V) (o : Option Int) : Prop := (v = .non ∧ o = none) ∨ ∃ i, v = .int i ∧ o = some i
/-- a part of a slice -/
def AO (X : Cx) (e : Option Expr) (f : Fe) : Prop := ∃ t, PO X e t ∧ ∀ σ H (Q : VK) (Q' : Option Int → Hp → Prop), (∀ v H1, Q v H1 → ∀ o, Pt v o → Q' o H1) → eOf X.K f σ H Q → t σ H Q'
theorem ao_none : AO X none (mC .non) := ⟨_, po_none, fun σ H Q Q' h q => h .non H (mC_of (v := .non) (fun _ _ => .non) (by simp) q) none (.inl ⟨rfl, rfl⟩)⟩
def mInt (f : Fe) : Fe := fun E => (f E).bind fun p => (rd p.2 p.1).bind fun d => match d with
  | .int i => some (.val (.int i) 9, p.2)
  | _ => none
theorem mInt_of {K : PySem.W.Frag} {f : Fe} {σ : L2.St} {H : Hp} {Q : VK} (q : eOf K (mInt f) σ H Q) : eOf K f σ H fun v H1 => ∃ i, v = .int i ∧ Q (.int i) H1 := by
  obtain ⟨Z, E, R, s, o, E', e, q⟩ := q
  unfold mInt at e
  cases e1 : f E with
  | none => rw [e1] at e; cases e
  | some p =>
    obtain ⟨o1, E1⟩ := p
    rw [e1] at e
    simp only [Option.bind_some] at e
    cases e2 : rd E1 o1 with
    | none => rw [e2] at e; cases e
    | some d =>
      rw [e2] at e
      simp only [Option.bind_some] at e
      split at e
      · cases e
        refine ⟨Z, E, R, s, o1, _, e1, fun v Z' H' R' rs s' t' o' f' => ?_⟩
        exact ⟨_, (s'.read o' e2).intE, q _ Z' H' R' [] s' t' (Own.ofImm (.int _) (by simp)) .nil⟩
      · cases e
theorem ao_some (h : AE X e fe) : AO X (some e) (mInt fe) := ⟨_, po_some h, fun σ H Q Q' hh q => by
  obtain ⟨Z, E, R, s, o, E', e, q⟩ := mInt_of q
  refine ⟨Z, E, R, s, o, E', e, fun v Z' H' R' rs s' t' o' f' => ?_⟩
  obtain ⟨i, ev, q⟩ := q v Z' H' R' rs s' t' o' f'
  exact ⟨i, ev, hh _ _ q _ (.inr ⟨i, rfl, rfl⟩)⟩⟩
def mSl (a l h : Fe) : Fe := mOp gSl (mAc a (mAc l (mAc h mA0)))
theorem eOf_imp {K : PySem.W.Frag} {f : Fe} {σ : L2.St} {H : Hp} {Q Q' : VK} (h : ∀ v H1, Q v H1 → Q' v H1) (q : eOf K f σ H Q) : eOf K f σ H Q' := by
  obtain ⟨Z, E, R, s, o, E', e, q⟩ := q
  exact ⟨Z, E, R, s, o, E', e, fun v Z' H' R' rs s' t' o' f' => h _ _ (q v Z' H' R' rs s' t' o' f')⟩
theorem ae_sl {p2 : PySem.Pos} (ha : AE X a fa) (hl : AO X lo fl) (hh : AO X hi fh) : AE X (.Subscript a (.Slice lo hi none p2) pos) (mSl fa fl fh) := by
  obtain ⟨tl, h1, k1⟩ := hl
  obtain ⟨th, h2, k2⟩ := hh
  refine PE.mono (pe_slice (sl_list.or (sl_tupA.or sl_str)) ha h1 h2) fun σ H Q q => ?_
  refine eOf_imp (fun x H1 q1 => ?_) (aOf_c (op_of al_sl q))
  refine k1 σ H1 _ _ (fun y H2 q2 lo hlo => ?_) (aOf_c q1)
  refine k2 σ H2 _ _ (fun z H3 q3 hi hhi => ?_) (aOf_c q2)
  obtain ⟨x', y', z', lo', hi', e, p1, p2, r⟩ := aOf_0 q3
  cases e
  have e1 : lo' = lo := by
    rcases p1 with ⟨a, b⟩ | ⟨i, a, b⟩ <;> rcases hlo with ⟨c, d⟩ | ⟨j, c, d⟩ <;> subst_vars <;> simp_all
  have e2 : hi' = hi := by
    rcases p2 with ⟨a, b⟩ | ⟨i, a, b⟩ <;> rcases hhi with ⟨c, d⟩ | ⟨j, c, d⟩ <;> subst_vars <;> simp_all
  subst e1 e2
  exact r
end
end Zk
namespace Zk
open PySem PySem.Spec PyProof.Rows L2

def kD : Key → D
  | .inl i => .int i
  | .inr x => .str x
def keyOf : D → Option Key
  | .int i => some (.inl i)
  | .str x => some (.inr x)
  | _ => none
def keysOf : List D → Option (List Key)
  | [] => some []
  | d :: ds => (keyOf d).bind fun k => (keysOf ds).map fun ks => k :: ks
def valD {κ : Type} [DecidableEq κ] (kvs : List (κ × D)) (k : κ) : Option D := (kvs.find? fun kv => decide (kv.1 = k)).map (·.2)
def putD {κ : Type} [DecidableEq κ] (kvs : List (κ × D)) (k : κ) (v : D) : List (κ × D) :=
  if (kvs.any fun kv => decide (kv.1 = k)) = true then kvs.map (fun kv => if kv.1 = k then (kv.1, v) else kv) else kvs ++ [(k, v)]
section
variable {K : PySem.W.Frag} {Z Z' : Addr → Prop} {H H' : Hp} {σ : L2.St} {κ : Type} [DecidableEq κ]
/-- two rows of keys and values that stand for one another -/
def KR (K : PySem.W.Frag) (Z : Addr → Prop) (H : Hp) (kvs : List (κ × V)) (kds : List (κ × D)) : Prop := kvs.map (·.1) = kds.map (·.1) ∧ Rps K Z H (kvs.map (·.2)) (kds.map (·.2))
theorem KR.nil : KR K Z H ([] : List (κ × V)) [] := ⟨rfl, .nil⟩
theorem KR.cases : ∀ {kvs : List (κ × V)} {kds : List (κ × D)}, KR K Z H kvs kds → (kvs = [] ∧ kds = []) ∨ ∃ k v d r s, kvs = (k, v) :: r ∧ kds = (k, d) :: s ∧ Rp K Z H v d ∧ KR K Z H r s
  | [], [], _ => .inl ⟨rfl, rfl⟩
  | [], _ :: _, h => by simp [KR] at h
  | _ :: _, [], h => by simp [KR] at h
  | (k, v) :: r, (k', d) :: s, h => by
    obtain ⟨h1, h2⟩ := h
    simp only [List.map_cons, List.cons.injEq] at h1
    cases h1.1
    simp only [List.map_cons] at h2
    cases h2 with
    | cons a b => exact .inr ⟨k, v, d, r, s, rfl, rfl, a, h1.2, b⟩
theorem KR.cons {k : κ} {v : V} {d : D} {r : List (κ × V)} {s : List (κ × D)} (h : Rp K Z H v d) (t : KR K Z H r s) : KR K Z H ((k, v) :: r) ((k, d) :: s) := ⟨by simp [t.1], .cons h t.2⟩
theorem KR.len {kvs : List (κ × V)} {kds : List (κ × D)} (h : KR K Z H kvs kds) : kvs.length = kds.length := by
  have := congrArg List.length h.1
  simpa using this
theorem KR.val : ∀ {kvs : List (κ × V)} {kds : List (κ × D)} (k : κ), KR K Z H kvs kds → (valV kvs k = none ∧ valD kds k = none) ∨ ∃ v d, valV kvs k = some v ∧ valD kds k = some d ∧ Rp K Z H v d := by
  intro kvs
  induction kvs with
  | nil =>
    intro kds k h
    rcases h.cases with ⟨_, rfl⟩ | ⟨_, _, _, _, _, e, _⟩
    · exact .inl ⟨rfl, rfl⟩
    · cases e
  | cons p r ih =>
    intro kds k h
    rcases h.cases with ⟨e, _⟩ | ⟨k', v, d, r', s, e, rfl, h1, h2⟩
    · cases e
    · cases e
      by_cases c : k' = k
      · subst c
        exact .inr ⟨v, d, by simp [valV], by simp [valD], h1⟩
      · have e1 : valV ((k', v) :: r) k = valV r k := by simp [valV, List.find?_cons, c]
        have e2 : valD ((k', d) :: s) k = valD s k := by simp [valD, List.find?_cons, c]
        rw [e1, e2]
        exact ih k h2
theorem KR.any {kvs : List (κ × V)} {kds : List (κ × D)} (h : KR K Z H kvs kds) (k : κ) : (kvs.any fun kv => decide (kv.1 = k)) = kds.any fun kv => decide (kv.1 = k) := by
  have e1 : (kvs.any fun kv => decide (kv.1 = k)) = (kvs.map (·.1)).any fun x => decide (x = k) := by rw [List.any_map]; rfl
  have e2 : (kds.any fun kv => decide (kv.1 = k)) = (kds.map (·.1)).any fun x => decide (x = k) := by rw [List.any_map]; rfl
  rw [e1, e2, h.1]
theorem KR.rep {v : V} {d : D} (k : κ) (hv : Rp K Z H v d) : ∀ {kvs : List (κ × V)} {kds : List (κ × D)}, KR K Z H kvs kds →
    KR K Z H (kvs.map fun kv => if kv.1 = k then (kv.1, v) else kv) (kds.map fun kv => if kv.1 = k then (kv.1, d) else kv) := by
  intro kvs
  induction kvs with
  | nil =>
    intro kds h
    rcases h.cases with ⟨_, rfl⟩ | ⟨_, _, _, _, _, e, _⟩
    · exact .nil
    · cases e
  | cons p r ih =>
    intro kds h
    rcases h.cases with ⟨e, _⟩ | ⟨k', v', d', r', s, e, rfl, h1, h2⟩
    · cases e
    · cases e
      simp only [List.map_cons]
      by_cases c : k' = k
      · rw [if_pos c, if_pos c]; exact .cons hv (ih h2)
      · rw [if_neg c, if_neg c]; exact .cons h1 (ih h2)
theorem KR.put {kvs : List (κ × V)} {kds : List (κ × D)} {v : V} {d : D} (h : KR K Z H kvs kds) (k : κ) (hv : Rp K Z H v d) : KR K Z H (putK kvs k v) (putD kds k d) := by
  unfold putK putD
  rw [h.any k]
  split
  · exact h.rep k hv
  · refine ⟨by simp [h.1], ?_⟩
    rw [List.map_append, List.map_append]
    exact h.2.append (.cons hv .nil)
theorem key_kV {v : V} {d : D} {k : Key} (h : Rp K Z H v d) (e : keyOf d = some k) : v = kV k := by
  cases d with
  | int i => cases e; exact h.intE
  | str x => cases e; exact h.strE
  | _ => simp [keyOf] at e
theorem keys_kV : ∀ {vs : List V} {ds : List D} {ks : List Key}, Rps K Z H vs ds → keysOf ds = some ks → vs = ks.map kV
  | _, _, _, .nil, e => by cases e; rfl
  | _, _, _, .cons (d := d) (ds := ds) h t, e => by
    simp only [keysOf] at e
    cases q : keyOf d with
    | none => rw [q] at e; cases e
    | some k =>
      rw [q] at e
      cases q2 : keysOf ds with
      | none => rw [q2] at e; cases e
      | some ks =>
        rw [q2] at e
        cases e
        simp [key_kV h q, keys_kV t q2]
/-- what a dict holds at a key, by data -/
def look : D → D → Option (Option D)
  | .dK kds, k => (keyOf k).map fun k => valD kds k
  | .dT kds, .tup ks => (keysOf ks).map fun k => valD kds k
  | _, _ => none
/-- by the heap -/
theorem look_get {x y : V} {d k : D} {o : Option D} (hd : Kf K Z H x d) (hk : Rp K Z' H y k) (e : look d k = some o) : ∃ a r, x = .ref a ∧ DGet H a y r ∧ IsD H a ∧ ((r = none ∧ o = none) ∨ ∃ v d', r = some v ∧ o = some d' ∧ Rp K Z H v d') := by
  cases d with
  | dK kds =>
    obtain ⟨a, kvs, rfl, ha, e1, r⟩ := hd
    simp only [look] at e
    cases q : keyOf k with
    | none => rw [q] at e; cases e
    | some k' =>
      rw [q] at e
      cases e
      cases key_kV hk q
      refine ⟨a, _, rfl, .inl ⟨kvs, k', ha, rfl, rfl⟩, .inl ⟨kvs, ha⟩, ?_⟩
      exact KR.val k' (⟨e1, r⟩ : KR K Z H kvs kds)
  | dT kds =>
    obtain ⟨a, kvs, rfl, ha, e1, r⟩ := hd
    cases k with
    | tup ks =>
      simp only [look] at e
      cases q : keysOf ks with
      | none => rw [q] at e; cases e
      | some k' =>
        rw [q] at e
        cases e
        cases hk with
        | tup hb rb =>
          cases keys_kV rb q
          refine ⟨a, _, rfl, .t ha hb, .inr ⟨kvs, .inl ha⟩, ?_⟩
          exact KR.val k' (⟨e1, r⟩ : KR K Z H kvs kds)
    | _ => simp [look] at e
  | _ => simp [look] at e
theorem Kf.rp {v : V} {d : D} (h : Kf K Z H v d) (i : imm d = true) : Rp K Z H v d := by
  cases d <;> first | exact h | simp at i
theorem look_key {d k : D} {o : Option D} (e : look d k = some o) : ∀ {y : V}, Kf K Z H y k → Rp K Z H y k := by
  intro y h
  cases k with
  | int i => exact h
  | str x => exact h
  | tup x => exact h
  | _ => cases d <;> simp [look, keyOf] at e
end
section
variable {X : Cx} {e : Expr}
theorem PE.or {t u : TE} (h : PE X e t) (h' : PE X e u) : PE X e fun σ H Q => t σ H Q ∨ u σ H Q := ⟨fun pins s σ H Q I q => q.elim (h.run pins s σ H Q I) (h'.run pins s σ H Q I)⟩
theorem PC.or {op : CmpOp} {a b : Expr} {t u : TE} (h : PC X op a b t) (h' : PC X op a b u) : PC X op a b fun σ H Q => t σ H Q ∨ u σ H Q := ⟨fun pins s σ H Q I q => q.elim (h.run pins s σ H Q I) (h'.run pins s σ H Q I)⟩
end
section
variable {K : PySem.W.Frag} {Z Z' : Addr → Prop} {H H' : Hp} {σ : L2.St}
theorem op_split {g gA gB : List D → Option (D × Nat)} {fa : Fa} (hg : ∀ ds, g ds = gA ds ∨ g ds = gB ds) {Q : VK} (q : eOf K (mOp g fa) σ H Q) : eOf K (mOp gA fa) σ H Q ∨ eOf K (mOp gB fa) σ H Q := by
  obtain ⟨Z, E, R, s, o, E', e, q⟩ := q
  have e0 := e
  unfold mOp at e
  cases e1 : fa E with
  | none => rw [e1] at e; cases e
  | some p =>
    rw [e1] at e
    simp only [Option.bind_some] at e
    cases e2 : rdL p.2 p.1 with
    | none => rw [e2] at e; cases e
    | some ds =>
      rw [e2] at e
      simp only [Option.bind_some] at e
      rcases hg ds with h | h
      · rw [h] at e
        refine .inl ⟨Z, E, R, s, o, E', ?_, q⟩
        unfold mOp
        rw [e1]; simp only [Option.bind_some, e2]; exact e
      · rw [h] at e
        refine .inr ⟨Z, E, R, s, o, E', ?_, q⟩
        unfold mOp
        rw [e1]; simp only [Option.bind_some, e2]; exact e
/-- d[k] -/
def gDg : List D → Option (D × Nat)
  | [d, k] => (look d k).bind fun o => o.map fun v => (v, 0)
  | _ => none
def rDg : R2 := fun x y H Q => ∃ a v, x = .ref a ∧ DGet H a y (some v) ∧ Q v H
theorem al_dg : AL K (two rDg) gDg := by
  intro Z H vs ds d n Q hz k e q
  unfold gDg at e
  split at e
  · rename_i d0 k0
    cases e1 : look d0 k0 with
    | none => rw [e1] at e; cases e
    | some o =>
      rw [e1] at e
      simp only [Option.bind_some] at e
      cases o with
      | none => cases e
      | some v0 =>
        cases e
        obtain ⟨x, y, rfl, h1, h2⟩ := k.two
        obtain ⟨a, r, rfl, g, _, c⟩ := look_get h1 (look_key e1 h2) e1
        rcases c with ⟨_, c⟩ | ⟨v, d', rfl, c, rv⟩
        · cases c
        · cases c
          exact ⟨_, _, rfl, a, v, rfl, g, q v H [] (.refl _) ⟨rfl, rv⟩ List.nodup_nil fun a m => by simp at m⟩
  · cases e
def gIxd : List D → Option (D × Nat) := fun ds => match ds with
  | .dK _ :: _ => gDg ds
  | .dT _ :: _ => gDg ds
  | _ => gIx ds
/-- x in a list, a tuple, a dict -/
def gIn (neg : Bool) : List D → Option (D × Nat)
  | [x, .lst ds] => if dat 64 x = true ∧ dat 64 (.lst ds) = true then some (.bl ((ds.any fun z => deq z x) ^^ neg), 9) else none
  | [x, .tup ds] => if dat 64 x = true ∧ dat 64 (.tup ds) = true then some (.bl ((ds.any fun z => deq z x) ^^ neg), 9) else none
  | _ => none
def gInD (neg : Bool) : List D → Option (D × Nat)
  | [k, d] => (look d k).map fun o => (.bl (o.isSome ^^ neg), 9)
  | _ => none
def rInT (K : PySem.W.Frag) (neg : Bool) : R2 := fun x y H Q => ∃ d ds, Dp K H x d ∧ Dp K H y (.tuple ds) ∧ SeqAt.shaped d = true ∧ SeqAt.shaped (.tuple ds) = true ∧ Q (.bl ((ds.any fun z => PyData.eqv z d) ^^ neg)) H
def rInL (K : PySem.W.Frag) (neg : Bool) : R2 := fun x y H Q => ∃ d ds, Dp K H x d ∧ Dp K H y (.list ds) ∧ SeqAt.shaped d = true ∧ SeqAt.shaped (.list ds) = true ∧ Q (.bl ((ds.any fun z => PyData.eqv z d) ^^ neg)) H
theorem any_py (ds : List D) (x : D) : ((pys ds).any fun z => PyData.eqv z (py x)) = ds.any fun z => deq z x := by
  rw [pys_map, List.any_map]; rfl
theorem al_in {neg : Bool} : AL K (two fun x y H Q => rInL K neg x y H Q ∨ rInT K neg x y H Q) (gIn neg) := by
  intro Z H vs ds d n Q hz k e q
  unfold gIn at e
  split at e
  · split at e
    · rename_i h
      cases e
      obtain ⟨x, y, rfl, h1, h2⟩ := k.two
      have r1 : Rp K (fun _ => True) H x _ := dat_rp h1 h.1
      have r2 : Rp K (fun _ => True) H y _ := dat_rp h2 h.2
      refine ⟨x, y, rfl, .inl ⟨_, _, dat_dp 64 x _ h.1 r1, dat_dp 64 y _ h.2 r2, dat_shaped h.1, dat_shaped h.2, ?_⟩⟩
      rw [any_py]
      exact fin_imm (Z := Z) (.bl _) (by simp) q
    · cases e
  · split at e
    · rename_i h
      cases e
      obtain ⟨x, y, rfl, h1, h2⟩ := k.two
      have r1 : Rp K (fun _ => True) H x _ := dat_rp h1 h.1
      have r2 : Rp K (fun _ => True) H y _ := dat_rp h2 h.2
      refine ⟨x, y, rfl, .inr ⟨_, _, dat_dp 64 x _ h.1 r1, dat_dp 64 y _ h.2 r2, dat_shaped h.1, dat_shaped h.2, ?_⟩⟩
      rw [any_py]
      exact fin_imm (Z := Z) (.bl _) (by simp) q
    · cases e
  · cases e
where
  dat_rp {Z : Addr → Prop} {H : Hp} {v : V} {d : D} (h : Kf K Z H v d) (_ : dat 64 d = true) : Rp K (fun _ => True) H v d := by
    have p : Pers Z H (fun _ => True) H := ⟨fun _ _ => trivial, fun _ _ _ h => h, fun _ _ h _ => h⟩
    cases d with
    | lst ds => obtain ⟨a, vs, rfl, ha, r⟩ := h; exact .lst trivial ha (r.pers p)
    | dK ds => obtain ⟨a, vs, rfl, ha, e, r⟩ := h; exact .dK trivial ha e (r.pers p)
    | dT ds => obtain ⟨a, vs, rfl, ha, e, r⟩ := h; exact .dT trivial ha e (r.pers p)
    | set xs => obtain ⟨a, T, m, rfl, ha, e1, e2, e3⟩ := h; exact .set trivial ha e1 e2 e3
    | non => exact Rp.pers p h
    | bl _ => exact Rp.pers p h
    | int _ => exact Rp.pers p h
    | str _ => exact Rp.pers p h
    | ty _ => exact Rp.pers p h
    | tup _ => exact Rp.pers p h
    | con _ => exact Rp.pers p h
    | scr _ => exact Rp.pers p h
theorem al_inD {neg : Bool} : AL K (two fun x y H Q => ∃ a o, y = .ref a ∧ DGet H a x o ∧ Q (.bl (o.isSome ^^ neg)) H) (gInD neg) := by
  intro Z H vs ds d n Q hz k e q
  unfold gInD at e
  split at e
  · rename_i k0 d0
    cases e1 : look d0 k0 with
    | none => rw [e1] at e; cases e
    | some o =>
      rw [e1] at e
      cases e
      obtain ⟨y, x, rfl, h2, h1⟩ := k.two
      obtain ⟨a, r, rfl, g, _, c⟩ := look_get h1 (look_key e1 h2) e1
      refine ⟨_, _, rfl, a, r, rfl, g, ?_⟩
      have e2 : r.isSome = o.isSome := by
        rcases c with ⟨rfl, rfl⟩ | ⟨v, d', rfl, rfl, _⟩ <;> rfl
      rw [e2]
      exact fin_imm (Z := Z) (.bl _) (by simp) q
  · cases e
def gInA (neg : Bool) : List D → Option (D × Nat) := fun ds => match ds with
  | [_, .dK _] => gInD neg ds
  | [_, .dT _] => gInD neg ds
  | _ => gIn neg ds
end
section
variable {X : Cx} {a b c e : Expr} {fa fb fc fe : Fe} {pos apos cpos : PySem.Pos}
theorem op_inT (hu : X.A.units + 65 < cLine) : OpR X (compareOp .In) (rInT X.K false) := by
  intro pins s σ H x y v u Q I rx ry h
  obtain ⟨d, ds, hd, he, sd, se, q⟩ := h
  obtain ⟨as, r1⟩ := Dp.reads I d x v hd rx
  obtain ⟨bs, r2⟩ := Dp.reads I (.tuple ds) y u he ry
  exact SeqAt.in_tuple_reads r2 r1 (SeqAt.canLay_of_shaped se) (SeqAt.canLay_of_shaped sd) (PyProof.Rows.room_in_shaped sd hu) ⟨.bl _, H, I, rfl, by rw [Bool.xor_false] at q; exact q⟩
theorem op_notInT (hu : X.A.units + 65 < cLine) : OpR X (compareOp .NotIn) (rInT X.K true) := by
  intro pins s σ H x y v u Q I rx ry h
  obtain ⟨d, ds, hd, he, sd, se, q⟩ := h
  obtain ⟨as, r1⟩ := Dp.reads I d x v hd rx
  obtain ⟨bs, r2⟩ := Dp.reads I (.tuple ds) y u he ry
  exact SeqAt.notIn_tuple_reads r2 r1 (SeqAt.canLay_of_shaped se) (SeqAt.canLay_of_shaped sd) (PyProof.Rows.room_in_shaped sd hu) ⟨.bl _, H, I, rfl, by rw [Bool.xor_true] at q; exact q⟩
def mIn (a b : Fe) : Fe := mOp (gInA false) (mA2 a b)
def mNotIn (a b : Fe) : Fe := mOp (gInA true) (mA2 a b)
theorem in_split (neg : Bool) (ds : List D) : gInA neg ds = gIn neg ds ∨ gInA neg ds = gInD neg ds := by
  unfold gInA
  split
  · exact .inr rfl
  · exact .inr rfl
  · exact .inl rfl
theorem ac_in (hu : X.A.units + 65 < cLine) (ha : AE X a fa) (hb : AE X b fb) : AC X .In a b (mIn fa fb) :=
  PC.mono (PC.or (pc_op ((op_inD hu).or (op_inT hu)) ha hb) (pc_din (Nat.lt_of_le_of_lt (Nat.add_le_add_left (by decide) _) hu) ha hb)) fun σ H Q q => by
    rcases op_split (in_split false) q with q | q
    · refine .inl (tOp_op (r := fun x y H Q => rInD X.K x y H Q ∨ rInT X.K false x y H Q) ?_ q)
      intro Z H vs ds d n Q hz k e q
      obtain ⟨x, y, rfl, h | h⟩ := al_in Z H vs ds d n Q hz k e q
      · refine ⟨x, y, rfl, .inl ?_⟩
        obtain ⟨d, ds, h1, h2, h3, h4, h5⟩ := h
        exact ⟨d, ds, h1, h2, h3, h4, by rw [Bool.xor_false] at h5; exact h5⟩
      · exact ⟨x, y, rfl, .inr h⟩
    · refine .inr (tOp_op (r := fun x y H Q => ∃ a o, y = .ref a ∧ DGet H a x o ∧ Q (.bl o.isSome) H) ?_ q)
      intro Z H vs ds d n Q hz k e q
      obtain ⟨x, y, rfl, a, o, h1, h2, h3⟩ := al_inD Z H vs ds d n Q hz k e q
      exact ⟨x, y, rfl, a, o, h1, h2, by rw [Bool.xor_false] at h3; exact h3⟩
theorem ac_notIn (hu : X.A.units + 65 < cLine) (ha : AE X a fa) (hb : AE X b fb) : AC X .NotIn a b (mNotIn fa fb) :=
  PC.mono (PC.or (pc_op ((op_notInD hu).or (op_notInT hu)) ha hb) (pc_dnotin (Nat.lt_of_le_of_lt (Nat.add_le_add_left (by decide) _) hu) ha hb)) fun σ H Q q => by
    rcases op_split (in_split true) q with q | q
    · refine .inl (tOp_op (r := fun x y H Q => rNotInD X.K x y H Q ∨ rInT X.K true x y H Q) ?_ q)
      intro Z H vs ds d n Q hz k e q
      obtain ⟨x, y, rfl, h | h⟩ := al_in Z H vs ds d n Q hz k e q
      · refine ⟨x, y, rfl, .inl ?_⟩
        obtain ⟨d, ds, h1, h2, h3, h4, h5⟩ := h
        exact ⟨d, ds, h1, h2, h3, h4, by rw [Bool.xor_true] at h5; exact h5⟩
      · exact ⟨x, y, rfl, .inr h⟩
    · refine .inr (tOp_op (r := fun x y H Q => ∃ a o, y = .ref a ∧ DGet H a x o ∧ Q (.bl (!o.isSome)) H) ?_ q)
      intro Z H vs ds d n Q hz k e q
      obtain ⟨x, y, rfl, a, o, h1, h2, h3⟩ := al_inD Z H vs ds d n Q hz k e q
      exact ⟨x, y, rfl, a, o, h1, h2, by rw [Bool.xor_true] at h3; exact h3⟩
/-- x[i], lists, tuples, texts and dicts -/
def mIxd (a b : Fe) : Fe := mOp gIxd (mA2 a b)
theorem ae_ixd (hu : X.A.units + 1 < cLine) (ha : AE X a fa) (hb : AE X b fb) (hs : PlainIx b := by exact fun _ _ => rfl) (hs2 : NoSl b := by exact fun _ _ => rfl) : AE X (.Subscript a b pos) (mIxd fa fb) :=
  PE.mono (PE.or (pe_ix ix_seq ha hb hs) (pe_dget hu ha hb hs2)) fun σ H Q q => by
    have sp : ∀ ds, gIxd ds = gIx ds ∨ gIxd ds = gDg ds := fun ds => by
      unfold gIxd
      split
      · exact .inr rfl
      · exact .inr rfl
      · exact .inl rfl
    rcases op_split sp q with q | q
    · exact .inl (tOp_op al_ix q)
    · exact .inr (tOp_op al_dg q)
end
end Zk
namespace Zk
open PySem PySem.Spec PyProof.Rows L2

section
variable {K : PySem.W.Frag} {Z Z' Zf Z0 : Addr → Prop} {H H' H0 : Hp} {σ : L2.St} {E E' : Ev} {R R' R0 : Rs}
/-- the thing of slot i is changed at its root a -/
theorem S.write (s : S K Z H σ E R) (t0 : Step Z0 H0 (ow R0) Z H (ow R)) {i : Nat} {a : Addr} {o' : HO} {d' : D} {n' : Nat} {rs' ts : List Addr} (hi : i < E.length) (hσ : σ[i]? = some (some (.ref a))) (ha : a ∈ R i)
    (new : Own K Zf (upd H a o') n' (.ref a) d' rs') (hz : ∀ b, Z b → Zf b) (hzn : ∀ b, Zf b → Z b ∨ b ∈ R i ∨ b ∈ ts) (sub : ∀ b ∈ rs', b ∈ R i ∨ b ∈ ts) (nd : rs'.Nodup)
    (tno : ∀ b ∈ ts, ¬ ow R b) (tth : ∀ b ∈ ts, H b ≠ none) (tof : ∀ b ∈ ts, ow R0 b ∨ H0 b = none) :
    S K Zf (upd H a o') σ (E.set i (some (d', n'))) (put R i rs') ∧ Step Z0 H0 (ow R0) Zf (upd H a o') (ow (put R i rs')) := by
  have oa : ow R a := ⟨i, ha⟩
  have p : Pers Z H Zf (upd H a o') := ⟨hz, fun b o z e => by
    have ne : b ≠ a := fun e2 => (s.owns oa).2 (by rw [← e2]; exact z)
    rw [upd_ne ne]; exact e, fun b o e n => by
    have ne : b ≠ a := fun e2 => n (by have := (s.owns oa).1; rw [← e2, e] at this; exact this)
    rw [upd_ne ne]; exact e⟩
  have no : ∀ b ∈ rs', ∀ j, j ≠ i → b ∉ R j := fun b m j hj mj => by
    rcases sub b m with h | h
    · exact hj (s.dj j i b mj h)
    · exact tno b h ⟨j, mj⟩
  refine ⟨⟨by simp [s.len], fun j d n e => ?_, fun j e => ?_, fun j => ?_, fun j k b h1 h2 => ?_, fun b z => ?_⟩, ⟨fun b z => hz b (t0.zz b z), fun b z => ?_, fun b o e n => ?_, fun b h => ?_, fun b h e => ?_⟩⟩
  · by_cases q : j = i
    · subst q
      rw [eg_set_same hi] at e
      cases e
      exact ⟨_, hσ, by rw [put_same]; exact new⟩
    · rw [eg_set_ne q] at e
      obtain ⟨v, e1, o1⟩ := s.slot j d n e
      refine ⟨v, e1, ?_⟩
      rw [put_ne q]
      refine o1.keep p fun b m => ⟨upd_ne fun e2 => q (s.dj j i b m (e2 ▸ ha)), fun z => ?_⟩
      rcases hzn b z with z | z | z
      · exact (o1.mut b m).2 z
      · exact q (s.dj j i b m z)
      · exact tno b z ⟨j, m⟩
  · by_cases q : j = i
    · subst q; rw [eg_set_same hi] at e; cases e
    · rw [eg_set_ne q] at e; rw [put_ne q]; exact s.emp j e
  · by_cases q : j = i
    · subst q; rw [put_same]; exact nd
    · rw [put_ne q]; exact s.nd j
  · by_cases q : j = i
    · subst q
      rw [put_same] at h1
      by_cases q2 : k = j
      · exact q2.symm
      · rw [put_ne q2] at h2; exact absurd h2 (no b h1 k q2)
    · rw [put_ne q] at h1
      by_cases q2 : k = i
      · subst q2; rw [put_same] at h2; exact absurd h1 (no b h2 j q)
      · rw [put_ne q2] at h2; exact s.dj j k b h1 h2
  · by_cases c : b = a
    · rw [c, upd_same]; simp
    · rw [upd_ne c]
      rcases hzn b z with z | z | z
      · exact s.zd b z
      · exact s.there ⟨i, z⟩
      · exact tth b z
  · rcases hzn b z with z | z | z
    · exact t0.zn b z
    · rcases t0.on b ⟨i, z⟩ with h | h
      · exact .inr (.inr h)
      · exact .inr (.inl h)
    · rcases tof b z with h | h
      · exact .inr (.inr h)
      · exact .inr (.inl h)
  · have c : b ≠ a := fun c => by
      subst c
      rcases t0.on b oa with h | h
      · exact n h
      · rw [e] at h; cases h
    rw [upd_ne c]
    exact t0.hh b o e n
  · rcases ow_put h with h | h
    · rcases sub b h with h | h
      · exact t0.on b ⟨i, h⟩
      · exact tof b h
    · exact t0.on b h
  · by_cases c : b = a
    · rw [c, upd_same] at e; cases e
    · rw [upd_ne c] at e; exact t0.dm b h e

theorem All3.append {α β γ : Type} {P : α → β → γ → Prop} : ∀ {as as' : List α} {bs bs' : List β} {cs cs' : List γ}, All3 P as bs cs → All3 P as' bs' cs' → All3 P (as ++ as') (bs ++ bs') (cs ++ cs')
  | _, _, _, _, _, _, .nil, r => r
  | _, _, _, _, _, _, .cons h t, r => .cons h (All3.append t r)
theorem All3.len {α β γ : Type} {P : α → β → γ → Prop} {as : List α} {bs : List β} {cs : List γ} (h : All3 P as bs cs) : as.length = bs.length ∧ cs.length = bs.length := by
  induction h with
  | nil => exact ⟨rfl, rfl⟩
  | cons _ _ ih => simp [ih]
theorem All3.set {α β γ : Type} {P : α → β → γ → Prop} {a : α} {b : β} {c : γ} (h : P a b c) : ∀ {as : List α} {bs : List β} {cs : List γ} (n : Nat), All3 P as bs cs → All3 P (as.set n a) (bs.set n b) (cs.set n c)
  | _, _, _, _, .nil => by simp; exact .nil
  | _, _, _, 0, .cons _ t => .cons h t
  | _, _, _, n + 1, .cons g t => .cons g (All3.set h n t)
theorem All3.erase {α β γ : Type} {P : α → β → γ → Prop} : ∀ {as : List α} {bs : List β} {cs : List γ} (n : Nat), All3 P as bs cs → All3 P (as.eraseIdx n) (bs.eraseIdx n) (cs.eraseIdx n)
  | _, _, _, _, .nil => by simp; exact .nil
  | _, _, _, 0, .cons _ t => t
  | _, _, _, n + 1, .cons g t => .cons g (All3.erase n t)
theorem All3.get {α β γ : Type} {P : α → β → γ → Prop} : ∀ {as : List α} {bs : List β} {cs : List γ}, All3 P as bs cs → ∀ {i : Nat} {b : β}, bs[i]? = some b → ∃ a c, as[i]? = some a ∧ cs[i]? = some c ∧ P a b c
  | _, _, _, .nil, i, b, e => by simp at e
  | _, _, _, .cons h t, 0, b, e => by simp at e; subst e; exact ⟨_, _, rfl, rfl, h⟩
  | _, _, _, .cons h t, i + 1, b, e => by
    obtain ⟨x, y, h1, h2, h3⟩ := All3.get t (i := i) (b := b) (by simpa using e)
    exact ⟨x, y, by simpa using h1, by simpa using h2, h3⟩
theorem All3.rev {α β γ : Type} {P : α → β → γ → Prop} : ∀ {as : List α} {bs : List β} {cs : List γ}, All3 P as bs cs → All3 P as.reverse bs.reverse cs.reverse
  | _, _, _, .nil => by simp; exact .nil
  | _, _, _, .cons h t => by simp only [List.reverse_cons]; exact All3.append (All3.rev t) (.cons h .nil)
theorem nodup_set_flat : ∀ {rss : List (List Addr)} {rs : List Addr} (n : Nat), rss.flatten.Nodup → rs.Nodup → (∀ a ∈ rs, a ∉ rss.flatten) → (rss.set n rs).flatten.Nodup
  | [], rs, n, _, _, _ => by simp
  | r :: rss, rs, 0, h, h2, h3 => by
    rw [List.flatten_cons, List.nodup_append] at h
    rw [List.set_cons_zero, List.flatten_cons, List.nodup_append]
    exact ⟨h2, h.2.1, fun a m b m2 e => h3 a m (by rw [List.flatten_cons, List.mem_append]; exact .inr (e ▸ m2))⟩
  | r :: rss, rs, n + 1, h, h2, h3 => by
    rw [List.flatten_cons, List.nodup_append] at h
    rw [List.set_cons_succ, List.flatten_cons, List.nodup_append]
    refine ⟨h.1, nodup_set_flat n h.2.1 h2 fun a m z => h3 a m (by rw [List.flatten_cons, List.mem_append]; exact .inr z), fun a m b m2 e => ?_⟩
    subst e
    rcases mem_set_flat n m2 with z | z
    · exact h.2.2 a m a z rfl
    · exact h3 a z (by rw [List.flatten_cons, List.mem_append]; exact .inl m)
where
  mem_set_flat : ∀ {rss : List (List Addr)} {rs : List Addr} {a : Addr} (n : Nat), a ∈ (rss.set n rs).flatten → a ∈ rss.flatten ∨ a ∈ rs
    | [], rs, a, n, h => by simp at h
    | r :: rss, rs, a, 0, h => by
      rw [List.set_cons_zero, List.flatten_cons, List.mem_append] at h
      rw [List.flatten_cons, List.mem_append]
      rcases h with h | h
      · exact .inr h
      · exact .inl (.inr h)
    | r :: rss, rs, a, n + 1, h => by
      rw [List.set_cons_succ, List.flatten_cons, List.mem_append] at h
      rw [List.flatten_cons, List.mem_append]
      rcases h with h | h
      · exact .inl (.inl h)
      · rcases mem_set_flat n h with h | h
        · exact .inl (.inr h)
        · exact .inr h
theorem flat_erase : ∀ {rss : List (List Addr)} (n : Nat), rss.flatten.Nodup → (rss.eraseIdx n).flatten.Nodup ∧ ∀ a ∈ (rss.eraseIdx n).flatten, a ∈ rss.flatten
  | [], n, h => by simp
  | r :: rss, 0, h => by
    rw [List.flatten_cons, List.nodup_append] at h
    exact ⟨h.2.1, fun a m => by rw [List.flatten_cons, List.mem_append]; exact .inr m⟩
  | r :: rss, n + 1, h => by
    rw [List.flatten_cons, List.nodup_append] at h
    obtain ⟨h1, h2⟩ := flat_erase n h.2.1
    rw [List.eraseIdx_cons_succ, List.flatten_cons]
    refine ⟨List.nodup_append.mpr ⟨h.1, h1, fun a m b m2 => h.2.2 a m b (h2 b m2)⟩, fun a m => ?_⟩
    rw [List.mem_append] at m
    rw [List.flatten_cons, List.mem_append]
    rcases m with m | m
    · exact .inl m
    · exact .inr (h2 a m)

/-- the depth of a list behind a thing came into it -/
def upl (n : Nat) (d dv : D) (nv : Nat) : Nat := if imm dv = true then n else if flat d = true then nv + 1 else if n = nv + 1 then n else 1
/-- all within a list, and a thing that comes into it, at one depth -/
theorem level {n : Nat} {vs : List V} {ds : List D} {rss : List (List Addr)} {v : V} {dv : D} {nv : Nat} {rv : List Addr} {d : D} (hd : flat d = true → imms ds = true) (h : All3 (Own K Z H n) vs ds rss) (hv : Own K Z H nv v dv rv) :
    ∃ m Zf rss' rv', upl (n + 1) d dv nv = m + 1 ∧ All3 (Own K Zf H m) vs ds rss' ∧ Own K Zf H m v dv rv' ∧ (∀ b, Z b → Zf b) ∧ (∀ b, Zf b → Z b ∨ b ∈ rss.flatten ∨ b ∈ rv) ∧
      ((rss' = rss ∧ rv' = rv ∧ Zf = Z) ∨ (rss'.flatten = [] ∧ rv' = [] ∧ Zf = fun b => Z b ∨ b ∈ rss.flatten ∨ b ∈ rv) ∨ (rss'.flatten = [] ∧ rv' = rv ∧ Zf = Z)) := by
  unfold upl
  split
  · rename_i i
    obtain ⟨rfl, r⟩ := hv.imm i
    exact ⟨n, Z, rss, [], rfl, h, .ofImm r i, fun _ h => h, fun _ h => .inl h, .inl ⟨rfl, rfl, rfl⟩⟩
  · split
    · rename_i f
      obtain ⟨r, e⟩ := h.immRps (hd f)
      exact ⟨nv, Z, _, rv, rfl, All3.ofRpsI r (hd f), hv, fun _ h => h, fun _ h => .inl h, .inr (.inr ⟨flat_nils _, rfl, rfl⟩)⟩
    · split
      · rename_i e
        have e : n = nv := by omega
        subst e
        exact ⟨n, Z, rss, rv, rfl, h, hv, fun _ h => h, fun _ h => .inl h, .inl ⟨rfl, rfl, rfl⟩⟩
      · have p : Pers Z H (fun b => Z b ∨ b ∈ rss.flatten ∨ b ∈ rv) H := ⟨fun _ h => .inl h, fun _ _ _ h => h, fun _ _ h _ => h⟩
        have r : Rps K (fun b => Z b ∨ b ∈ rss.flatten ∨ b ∈ rv) H vs ds :=
          All3.rps (R := fun _ _ => True) (P := fun v d rs => Rp K (fun b => Z b ∨ b ∈ rss.flatten ∨ b ∈ rv) H v d) (fun _ _ _ h => h) (h.imp fun v d rs m o => Own.freeze p (fun b hb => ⟨rfl, .inr (.inl (mem_flatten_of m hb))⟩) o)
        exact ⟨0, _, _, [], rfl, All3.ofRps0 r, ⟨rfl, hv.freeze p fun b hb => ⟨rfl, .inr (.inr hb)⟩⟩, fun _ h => .inl h, fun _ h => h, .inr (.inl ⟨flat_nils _, rfl, rfl⟩)⟩
theorem Own.lstE {n : Nat} {v : V} {ds : List D} {rs : List Addr} (h : Own K Z H (n + 1) v (.lst ds) rs) : ∃ a vs rss, v = .ref a ∧ H a = some (.lst vs) ∧ ¬ Z a ∧ All3 (Own K Z H n) vs ds rss ∧ rs = a :: rss.flatten := h

/-- the thing v (dv, nv, rv) comes into the owned list of slot i by the editing of the lists f -/
theorem S.edit (s : S K Z H σ E R) (t0 : Step Z0 H0 (ow R0) Z H (ow R)) {i : Nat} {ds : List D} {n : Nat} (e : eg E i = some (.lst ds, n + 1)) {v : V} {dv : D} {nv : Nat} {rv : List Addr} (hv : Own K Z H nv v dv rv) (fr : Fr R0 H0 R rv)
    (fV : List V → List V) (fD : List D → List D) (fR : List (List Addr) → List Addr → List (List Addr))
    (hf : ∀ (Z : Addr → Prop) (H : Hp) (m : Nat) (vs : List V) (rss : List (List Addr)) (rv : List Addr), All3 (Own K Z H m) vs ds rss → Own K Z H m v dv rv → All3 (Own K Z H m) (fV vs) (fD ds) (fR rss rv))
    (hr : ∀ (rss : List (List Addr)) (rv : List Addr), rss.flatten.Nodup → rv.Nodup → (∀ a ∈ rv, a ∉ rss.flatten) → (fR rss rv).flatten.Nodup ∧ ∀ a ∈ (fR rss rv).flatten, a ∈ rss.flatten ∨ a ∈ rv) :
    ∃ a vs, σ[i]? = some (some (.ref a)) ∧ H a = some (.lst vs) ∧ vs.length = ds.length ∧ ∃ Zf rs', S K Zf (upd H a (.lst (fV vs))) σ (E.set i (some (.lst (fD ds), upl (n + 1) (.lst ds) dv nv))) (put R i rs') ∧
      Step Z0 H0 (ow R0) Zf (upd H a (.lst (fV vs))) (ow (put R i rs')) := by
  obtain ⟨w, e1, o1⟩ := s.slot i _ _ e
  obtain ⟨a, vs, rss, rfl, ha, nz, al, er⟩ := o1.lstE
  refine ⟨a, vs, e1, ha, al.len.1, ?_⟩
  obtain ⟨m, Zf, rss', rv', em, al', hv', zz, zn, c⟩ := level (d := .lst ds) (fun f => by simpa [flat] using f) al hv
  have nd := s.nd i
  rw [er] at nd
  obtain ⟨nd1, nd2⟩ := List.nodup_cons.mp nd
  have inR : ∀ b ∈ rss.flatten, b ∈ R i := fun b m => by rw [er]; exact List.mem_cons_of_mem _ m
  have sub' : ∀ b ∈ rss'.flatten, b ∈ rss.flatten := fun b m => by
    rcases c with ⟨rfl, _, _⟩ | ⟨h, _, _⟩ | ⟨h, _, _⟩
    · exact m
    · rw [h] at m; simp at m
    · rw [h] at m; simp at m
  have nd' : rss'.flatten.Nodup := by
    rcases c with ⟨rfl, _, _⟩ | ⟨h, _, _⟩ | ⟨h, _, _⟩
    · exact nd2
    · rw [h]; exact List.nodup_nil
    · rw [h]; exact List.nodup_nil
  have subv : ∀ b ∈ rv', b ∈ rv := fun b m => by
    rcases c with ⟨_, rfl, _⟩ | ⟨_, rfl, _⟩ | ⟨_, rfl, _⟩
    · exact m
    · simp at m
    · exact m
  have ndv : rv'.Nodup := by
    rcases c with ⟨_, rfl, _⟩ | ⟨_, rfl, _⟩ | ⟨_, rfl, _⟩
    · exact fr.nd
    · exact List.nodup_nil
    · exact fr.nd
  have vno : ∀ b ∈ rv, b ∉ R i := fun b m z => fr.no b m ⟨i, z⟩
  obtain ⟨h1, h2⟩ := hr rss' rv' nd' ndv fun b m z => vno b (subv b m) (inR b (sub' b z))
  have aRi : a ∈ R i := by rw [er]; exact List.mem_cons_self
  have ane : ∀ b ∈ (fR rss' rv').flatten, b ≠ a := fun b m e => by
    subst e
    rcases h2 b m with z | z
    · exact nd1 (sub' b z)
    · exact vno b (subv b z) aRi
  have nzf : ¬ Zf a := fun z => by
    rcases zn a z with z | z | z
    · exact nz z
    · exact nd1 z
    · exact vno a z aRi
  have p : Pers Zf H Zf (upd H a (.lst (fV vs))) := ⟨fun _ h => h, fun b o z e => by
    have ne : b ≠ a := fun e2 => nzf (by rw [← e2]; exact z)
    rw [upd_ne ne]; exact e, fun b o e n => by
    have ne : b ≠ a := fun e2 => n (by rw [e2, ha] at e; cases e; trivial)
    rw [upd_ne ne]; exact e⟩
  have al2 := hf Zf H m vs rss' rv' al' hv'
  have new : Own K Zf (upd H a (.lst (fV vs))) (m + 1) (.ref a) (.lst (fD ds)) (a :: (fR rss' rv').flatten) :=
    ⟨a, _, _, rfl, upd_same, nzf, al2.imp fun v d rs mm o => o.keep p fun b hb => ⟨upd_ne (ane b (mem_flatten_of mm hb)), (o.mut b hb).2⟩, rfl⟩
  have q := s.write t0 (ts := rv) (eg_lt e) e1 aRi new zz (fun b z => ?_) (fun b m => ?_) (List.nodup_cons.mpr ⟨fun z => ane a z rfl, h1⟩) fr.no hv.there fr.of
  · rw [em]; exact ⟨Zf, _, q⟩
  · rcases zn b z with z | z | z
    · exact .inl z
    · exact .inr (.inl (inR b z))
    · exact .inr (.inr z)
  · rcases List.mem_cons.mp m with rfl | m
    · exact .inl aRi
    · rcases h2 b m with z | z
      · exact .inl (inR b (sub' b z))
      · exact .inr (subv b z)

/-- what slot i holds, if it is an owned list -/
def lstAt (E : Ev) (i : Nat) : Option (List D × Nat) := match eg E i with
  | some (.lst ds, n + 1) => some (ds, n + 1)
  | _ => none
theorem lstAt_eg {i : Nat} {ds : List D} {n : Nat} (h : lstAt E i = some (ds, n)) : ∃ m, n = m + 1 ∧ eg E i = some (.lst ds, m + 1) := by
  unfold lstAt at h
  split at h
  · rename_i q
    cases h
    exact ⟨_, rfl, q⟩
  · cases h
/-- xs.append(e) -/
def mApp (i : Nat) (fe : Fe) : Fe := fun E => (lstAt E i).bind fun _ => (fe E).bind fun p => (tk p.2 p.1).bind fun q => (lstAt q.2.2 i).bind fun l =>
  if l.1.length < sizeLine then some (.val .non 9, q.2.2.set i (some (.lst (l.1 ++ [q.1]), upl l.2 (.lst l.1) q.1 q.2.1))) else none
theorem app_of {i : Nat} {fe : Fe} {H : Hp} {Q : VK} (q : eOf K (mApp i fe) σ H Q) : ∃ x, σ[i]? = some (some x) ∧ tyV K "list" x H ∧ eOf K fe σ H fun y H1 => rAppend x [y] H1 Q := by
  obtain ⟨Z, E, R, s, o, E', e, q⟩ := q
  unfold mApp at e
  cases e0 : lstAt E i with
  | none => rw [e0] at e; cases e
  | some l0 =>
    rw [e0] at e
    simp only [Option.bind_some] at e
    cases e1 : fe E with
    | none => rw [e1] at e; cases e
    | some p =>
      obtain ⟨o1, E1⟩ := p
      rw [e1] at e
      simp only [Option.bind_some] at e
      cases e2 : tk E1 o1 with
      | none => rw [e2] at e; cases e
      | some p2 =>
        obtain ⟨dv, nv, E2⟩ := p2
        rw [e2] at e
        simp only [Option.bind_some] at e
        cases e3 : lstAt E2 i with
        | none => rw [e3] at e; cases e
        | some l =>
          obtain ⟨ds, n⟩ := l
          rw [e3] at e
          simp only [Option.bind_some] at e
          split at e
          · rename_i hl
            cases e
            obtain ⟨m0, _, g0⟩ := lstAt_eg (n := l0.2) (ds := l0.1) e0
            obtain ⟨m, rfl, g⟩ := lstAt_eg e3
            obtain ⟨w, ew, ow1⟩ := s.slot i _ _ g0
            obtain ⟨a0, vs0, rss0, rfl, ha0, _⟩ := ow1.lstE
            refine ⟨_, ew, .inl ⟨rfl, _, .inl (.inl ha0)⟩, Z, E, R, s, o1, E1, e1, fun v Z1 H1 R1 rs s1 t1 ov f1 => ?_⟩
            obtain ⟨Z2, R2, s2, t2, o2, n2, sub2⟩ := s1.take ov f1.no e2
            obtain ⟨a, vs, e4, ha, hlen, Zf, rs', s3, t3⟩ := s2.edit (t1.trans t2) g o2 ⟨f1.nd, n2, f1.of⟩ (fun vs => vs ++ [v]) (fun ds => ds ++ [dv]) (fun rss rv => rss ++ [rv]) (fun Z H m vs rss rv al ho => al.append (.cons ho .nil)) (fun rss rv h1 h2 h3 => by
              rw [List.flatten_append]
              simp only [List.flatten_cons, List.flatten_nil, List.append_nil]
              exact ⟨List.nodup_append.mpr ⟨h1, h2, fun a m b m2 e => h3 b m2 (e ▸ m)⟩, fun a m => List.mem_append.mp m⟩)
            rw [ew] at e4
            cases e4
            refine ⟨_, vs, v, rfl, rfl, ha, by rw [hlen]; exact hl, ?_⟩
            exact q _ Zf _ _ [] s3 t3 (Own.ofImm .non (by simp)) .nil
          · cases e
/-- the k-th thing is taken out of the owned list of slot i -/
theorem S.out (s : S K Z H σ E R) (t0 : Step Z0 H0 (ow R0) Z H (ow R)) {i : Nat} {ds : List D} {n : Nat} (e : eg E i = some (.lst ds, n + 1)) {k : Nat} {d : D} (hk : ds[k]? = some d) :
    ∃ a vs v, σ[i]? = some (some (.ref a)) ∧ H a = some (.lst vs) ∧ vs.length = ds.length ∧ vs[k]? = some v ∧ ∃ rv rs', S K Z (upd H a (.lst (vs.eraseIdx k))) σ (E.set i (some (.lst (ds.eraseIdx k), n + 1))) (put R i rs') ∧
      Step Z0 H0 (ow R0) Z (upd H a (.lst (vs.eraseIdx k))) (ow (put R i rs')) ∧ Own K Z (upd H a (.lst (vs.eraseIdx k))) n v d rv ∧ Fr R0 H0 (put R i rs') rv := by
  obtain ⟨w, e1, o1⟩ := s.slot i _ _ e
  obtain ⟨a, vs, rss, rfl, ha, nz, al, er⟩ := o1.lstE
  obtain ⟨v, rv, h1, h2, ov⟩ := al.get hk
  refine ⟨a, vs, v, e1, ha, al.len.1, h1, rv, a :: (rss.eraseIdx k).flatten, ?_⟩
  have nd := s.nd i
  rw [er] at nd
  obtain ⟨nd1, nd2⟩ := List.nodup_cons.mp nd
  obtain ⟨f1, f2⟩ := flat_erase k nd2
  have aRi : a ∈ R i := by rw [er]; exact List.mem_cons_self
  have mem : rv ∈ rss := List.mem_of_getElem? h2
  have p : Pers Z H Z (upd H a (.lst (vs.eraseIdx k))) := ⟨fun _ h => h, fun b o z e => by
    have ne : b ≠ a := fun e2 => nz (by rw [← e2]; exact z)
    rw [upd_ne ne]; exact e, fun b o e n => by
    have ne : b ≠ a := fun e2 => n (by rw [e2, ha] at e; cases e; trivial)
    rw [upd_ne ne]; exact e⟩
  have ne : ∀ b ∈ rss.flatten, b ≠ a := fun b m e => nd1 (e ▸ m)
  have new : Own K Z (upd H a (.lst (vs.eraseIdx k))) (n + 1) (.ref a) (.lst (ds.eraseIdx k)) (a :: (rss.eraseIdx k).flatten) :=
    ⟨a, _, _, rfl, upd_same, nz, (al.erase k).imp fun v d rs mm o => o.keep p fun b hb => ⟨upd_ne (ne b (f2 b (mem_flatten_of mm hb))), (o.mut b hb).2⟩, rfl⟩
  have rvR : ∀ b ∈ rv, b ∈ R i := fun b m => by rw [er]; exact List.mem_cons_of_mem _ (mem_flatten_of mem m)
  have q := s.write t0 (ts := []) (eg_lt e) e1 aRi new (fun _ h => h) (fun b z => .inl z) (fun b m => .inl (by
      rw [er]
      rcases List.mem_cons.mp m with rfl | m
      · exact List.mem_cons_self
      · exact List.mem_cons_of_mem _ (f2 b m))) (List.nodup_cons.mpr ⟨fun z => nd1 (f2 a z), f1⟩) (fun b m => by simp at m) (fun b m => by simp at m) fun b m => by simp at m
  refine ⟨q.1, q.2, ov.keep p fun b hb => ⟨upd_ne (ne b (mem_flatten_of mem hb)), (ov.mut b hb).2⟩, ⟨?_, fun b m ⟨j, hj⟩ => ?_, fun b m => t0.on b ⟨i, rvR b m⟩⟩⟩
  · exact nd2.sublist (List.sublist_flatten_of_mem mem)
  · by_cases c : j = i
    · subst c
      rw [put_same] at hj
      rcases List.mem_cons.mp hj with rfl | hj
      · exact ne _ (mem_flatten_of mem m) rfl
      · exact (apart k nd2 h2 b m) hj
    · rw [put_ne c] at hj
      exact c (s.dj j i b hj (rvR b m))
where
  apart : ∀ {rss : List (List Addr)} {rv : List Addr} (k : Nat), rss.flatten.Nodup → rss[k]? = some rv → ∀ a ∈ rv, a ∉ (rss.eraseIdx k).flatten
    | [], _, k, _, h => by simp at h
    | r :: rss, rv, 0, nd, h => by
      simp at h
      subst h
      rw [List.flatten_cons, List.nodup_append] at nd
      intro a m z
      exact nd.2.2 a m a z rfl
    | r :: rss, rv, k + 1, nd, h => by
      rw [List.flatten_cons, List.nodup_append] at nd
      intro a m z
      rw [List.eraseIdx_cons_succ, List.flatten_cons, List.mem_append] at z
      have h' : rss[k]? = some rv := by simpa using h
      rcases z with z | z
      · exact nd.2.2 a z a (mem_flatten_of (List.mem_of_getElem? h') m) rfl
      · exact apart k nd.2.1 h' a m z
/-- xs.pop() -/
def mPop (i : Nat) : Fe := fun E => (lstAt E i).bind fun l => (l.1[l.1.length - 1]?).map fun d => (.val d (l.2 - 1), E.set i (some (.lst l.1.dropLast, l.2)))
theorem pop_of {i : Nat} {H : Hp} {Q : VK} (q : eOf K (mPop i) σ H Q) : ∃ x, σ[i]? = some (some x) ∧ tyV K "list" x H ∧ rPop x [] H Q := by
  obtain ⟨Z, E, R, s, o, E', e, q⟩ := q
  unfold mPop at e
  cases e0 : lstAt E i with
  | none => rw [e0] at e; cases e
  | some l =>
    obtain ⟨ds, n⟩ := l
    rw [e0] at e
    simp only [Option.bind_some] at e
    cases e1 : ds[ds.length - 1]? with
    | none => rw [e1] at e; cases e
    | some d =>
      rw [e1] at e
      cases e
      obtain ⟨m, rfl, g⟩ := lstAt_eg e0
      obtain ⟨a, vs, v, h1, h2, h3, h4, rv, rs', s', t', o', f'⟩ := s.out .refl g e1
      rw [← h3] at h4
      refine ⟨_, h1, .inl ⟨rfl, _, .inl (.inl h2)⟩, a, vs, v, rfl, rfl, h2, h4, ?_⟩
      rw [← h3, List.eraseIdx_length_sub_one] at s' t' o'
      rw [h3, List.eraseIdx_length_sub_one] at s'
      exact q v Z _ _ rv s' t' o' f'
/-- xs.pop(k) -/
def mPopAt (i : Nat) (fe : Fe) : Fe := fun E => (lstAt E i).bind fun _ => (fe E).bind fun p => (rd p.2 p.1).bind fun k => (lstAt p.2 i).bind fun l => match k with
  | .int k => if -(2 ^ 63) ≤ k ∧ k < 2 ^ 63 then (ixN l.1.length k).bind fun j => (l.1[j]?).map fun d => (.val d (l.2 - 1), p.2.set i (some (.lst (l.1.eraseIdx j), l.2))) else none
  | _ => none
theorem popAt_of {i : Nat} {fe : Fe} {H : Hp} {Q : VK} (q : eOf K (mPopAt i fe) σ H Q) : ∃ x, σ[i]? = some (some x) ∧ tyV K "list" x H ∧ eOf K fe σ H fun y H1 => rPopAt x [y] H1 Q := by
  obtain ⟨Z, E, R, s, o, E', e, q⟩ := q
  unfold mPopAt at e
  cases e0 : lstAt E i with
  | none => rw [e0] at e; cases e
  | some l0 =>
    rw [e0] at e
    simp only [Option.bind_some] at e
    cases e1 : fe E with
    | none => rw [e1] at e; cases e
    | some p =>
      obtain ⟨o1, E1⟩ := p
      rw [e1] at e
      simp only [Option.bind_some] at e
      cases e2 : rd E1 o1 with
      | none => rw [e2] at e; cases e
      | some kd =>
        rw [e2] at e
        simp only [Option.bind_some] at e
        cases e3 : lstAt E1 i with
        | none => rw [e3] at e; cases e
        | some l =>
          obtain ⟨ds, n⟩ := l
          rw [e3] at e
          simp only [Option.bind_some] at e
          split at e
          · rename_i k
            split at e
            · rename_i hk
              cases e4 : ixN ds.length k with
              | none => rw [e4] at e; cases e
              | some j =>
                rw [e4] at e
                simp only [Option.bind_some] at e
                cases e5 : ds[j]? with
                | none => rw [e5] at e; cases e
                | some d =>
                  rw [e5] at e
                  cases e
                  obtain ⟨m0, _, g0⟩ := lstAt_eg (n := l0.2) (ds := l0.1) e0
                  obtain ⟨m, rfl, g⟩ := lstAt_eg e3
                  obtain ⟨w, ew, ow1⟩ := s.slot i _ _ g0
                  obtain ⟨a0, vs0, rss0, rfl, ha0, _⟩ := ow1.lstE
                  refine ⟨_, ew, .inl ⟨rfl, _, .inl (.inl ha0)⟩, Z, E, R, s, o1, _, e1, fun y Z1 H1 R1 rs s1 t1 ov f1 => ?_⟩
                  obtain ⟨a, vs, v, h1, h2, h3, h4, rv, rs', s', t', o', f'⟩ := s1.out t1 g e5
                  rw [ew] at h1
                  cases h1
                  cases (s1.read ov e2).intE
                  obtain ⟨sq, _⟩ := ixN_seq e4
                  exact ⟨_, vs, k, j, v, rfl, rfl, h2, hk.1, hk.2, by rw [h3]; exact sq, h4, q v Z1 _ _ rv s' t' o' f'⟩
            · cases e
          · cases e
/-- xs.reverse() -/
def mRev (i : Nat) : Fe := fun E => (lstAt E i).map fun l => (.val .non 9, E.set i (some (.lst l.1.reverse, l.2)))
theorem rev_of {i : Nat} {H : Hp} {Q : VK} (q : eOf K (mRev i) σ H Q) : ∃ x, σ[i]? = some (some x) ∧ tyV K "list" x H ∧ rReverse x [] H Q := by
  obtain ⟨Z, E, R, s, o, E', e, q⟩ := q
  unfold mRev at e
  cases e0 : lstAt E i with
  | none => rw [e0] at e; cases e
  | some l =>
    obtain ⟨ds, n⟩ := l
    rw [e0] at e
    cases e
    obtain ⟨m, rfl, g⟩ := lstAt_eg e0
    obtain ⟨a, vs, h1, h2, h3, Zf, rs', s', t'⟩ := s.edit .refl g (v := .non) (dv := .non) (nv := 0) (rv := []) ⟨rfl, .non⟩ .nil (fun vs => vs.reverse) (fun ds => ds.reverse) (fun rss _ => rss.reverse) (fun Z H m vs rss rv al _ => al.rev) (fun rss rv h _ _ => by
      refine ⟨?_, fun a m => .inl ?_⟩
      · exact (List.reverse_perm rss).flatten.nodup_iff.mpr h
      · exact (List.reverse_perm rss).flatten.mem_iff.mp m)
    refine ⟨_, h1, .inl ⟨rfl, _, .inl (.inl h2)⟩, a, vs, rfl, rfl, h2, ?_⟩
    have e1 : upl (m + 1) (.lst ds) .non 0 = m + 1 := by simp [upl]
    rw [e1] at s'
    exact q _ Zf _ _ [] s' t' (Own.ofImm .non (by simp)) .nil
end
section
variable {X : Cx} {e : Expr} {fe : Fe} {pos apos cpos : PySem.Pos} {i : Nat} {x : Str}
theorem ae_app (i : Nat) {x : Str} (he : AE X e fe) (hN : X.N[i]? = some x := by rfl) (hv : Vis X.env.scope x := by first | exact Or.inl rfl | exact Or.inr (Or.inl rfl) | exact Or.inr (Or.inr rfl)) (hd : (x == ("__debug__" : Str)) = false := by decide)
    (hcd : (x == ("__classdict__" : Str)) = false := by decide)
    (hbase : attributeBase (.Name x pos) "append" X.env (eval (.Name x pos) X.env) = eval (.Name x pos) X.env := by rfl)
    (hfew : ((backTo cpos (starEach [e] X.env)).all (fun x => !x.1) && (backToKw cpos (keywordEach [] X.env)).all (fun x => x.1.isSome)
      && decide (([e] : List Expr).length + ([] : List Keyword).length + (if ([] : List Keyword).isEmpty then 0 else 1) < 30)) = true := by rfl)
    (hline : (apos.endLine == cpos.line) = true := by rfl) (hs : starEach [e] X.env = (false, eval e X.env) :: starEach [] X.env := by rfl) :
    AE X (.Call (.Attribute (.Name x pos) "append" apos) [e] [] cpos) (mApp i fe) :=
  PE.mono (pe_bm PySem.F.plainAttrs_list PySem.F.slot_list_append PySem.F.type_list_append mt_append (pe_var hN hv hd hcd) (pa_cons he pa_nil hs) hbase hfew hline hs rfl) fun σ H Q q => by
    obtain ⟨y, e1, ty, q⟩ := app_of q
    exact ⟨y, e1, ty, eOf_imp (fun z H1 q => q) q⟩
theorem ae_pop (i : Nat) {x : Str} (hN : X.N[i]? = some x := by rfl) (hv : Vis X.env.scope x := by first | exact Or.inl rfl | exact Or.inr (Or.inl rfl) | exact Or.inr (Or.inr rfl)) (hd : (x == ("__debug__" : Str)) = false := by decide)
    (hcd : (x == ("__classdict__" : Str)) = false := by decide)
    (hbase : attributeBase (.Name x pos) "pop" X.env (eval (.Name x pos) X.env) = eval (.Name x pos) X.env := by rfl) (hline : (apos.endLine == cpos.line) = true := by rfl) :
    AE X (.Call (.Attribute (.Name x pos) "pop" apos) [] [] cpos) (mPop i) :=
  PE.mono (pe_bm0 PySem.F.plainAttrs_list PySem.F.slot_list_pop PySem.F.type_list_pop mt_pop (pe_var hN hv hd hcd) hbase hline) fun σ H Q q => pop_of q
theorem ae_rev (i : Nat) {x : Str} (hN : X.N[i]? = some x := by rfl) (hv : Vis X.env.scope x := by first | exact Or.inl rfl | exact Or.inr (Or.inl rfl) | exact Or.inr (Or.inr rfl)) (hd : (x == ("__debug__" : Str)) = false := by decide)
    (hcd : (x == ("__classdict__" : Str)) = false := by decide)
    (hbase : attributeBase (.Name x pos) "reverse" X.env (eval (.Name x pos) X.env) = eval (.Name x pos) X.env := by rfl) (hline : (apos.endLine == cpos.line) = true := by rfl) :
    AE X (.Call (.Attribute (.Name x pos) "reverse" apos) [] [] cpos) (mRev i) :=
  PE.mono (pe_bm0 PySem.F.plainAttrs_list PySem.F.slot_list_reverse PySem.F.type_list_reverse mt_reverse (pe_var hN hv hd hcd) hbase hline) fun σ H Q q => rev_of q
theorem ae_popAt (i : Nat) {x : Str} (he : AE X e fe) (hN : X.N[i]? = some x := by rfl) (hv : Vis X.env.scope x := by first | exact Or.inl rfl | exact Or.inr (Or.inl rfl) | exact Or.inr (Or.inr rfl)) (hd : (x == ("__debug__" : Str)) = false := by decide)
    (hcd : (x == ("__classdict__" : Str)) = false := by decide)
    (hbase : attributeBase (.Name x pos) "pop" X.env (eval (.Name x pos) X.env) = eval (.Name x pos) X.env := by rfl)
    (hfew : ((backTo cpos (starEach [e] X.env)).all (fun x => !x.1) && (backToKw cpos (keywordEach [] X.env)).all (fun x => x.1.isSome)
      && decide (([e] : List Expr).length + ([] : List Keyword).length + (if ([] : List Keyword).isEmpty then 0 else 1) < 30)) = true := by rfl)
    (hline : (apos.endLine == cpos.line) = true := by rfl) (hs : starEach [e] X.env = (false, eval e X.env) :: starEach [] X.env := by rfl) :
    AE X (.Call (.Attribute (.Name x pos) "pop" apos) [e] [] cpos) (mPopAt i fe) :=
  PE.mono (pe_bm PySem.F.plainAttrs_list PySem.F.slot_list_pop PySem.F.type_list_pop mt_popAt (pe_var hN hv hd hcd) (pa_cons he pa_nil hs) hbase hfew hline hs rfl) fun σ H Q q => by
    obtain ⟨y, e1, ty, q⟩ := popAt_of q
    exact ⟨y, e1, ty, eOf_imp (fun z H1 q => q) q⟩
end
end Zk
namespace Zk
open PySem PySem.Spec PyProof.Rows L2

section
variable {K : PySem.W.Frag} {Z Z' Zf Z0 : Addr → Prop} {H H' H0 : Hp} {σ : L2.St} {E E' : Ev} {R R' R0 : Rs}
/-- name = e -/
def mSet (i : Nat) (f : Fe) : Fs := fun E => (f E).bind fun p => (tk p.2 p.1).bind fun q => if i < q.2.2.length then some (.nx, q.2.2.set i (some (q.1, q.2.1))) else none
theorem set_of {i : Nat} {f : Fe} {D : Ends} (q : sOf K [i] (mSet i f) D σ H) : eOf K f σ H fun v H1 => D.nx (σ.set i (some v)) H1 := by
  obtain ⟨Z, E, R, s, fl, E', e, q⟩ := q
  unfold mSet at e
  cases e1 : f E with
  | none => rw [e1] at e; cases e
  | some p =>
    obtain ⟨o, E1⟩ := p
    rw [e1] at e
    simp only [Option.bind_some] at e
    cases e2 : tk E1 o with
    | none => rw [e2] at e; cases e
    | some p2 =>
      obtain ⟨d, n, E2⟩ := p2
      rw [e2] at e
      simp only [Option.bind_some] at e
      split at e
      · rename_i hi
        cases e
        refine ⟨Z, E, R, s, o, E1, e1, fun v Z1 H1 R1 rs s1 t1 ov f1 => ?_⟩
        obtain ⟨Z2, R2, s2, t2, o2, n2, sub2⟩ := s1.take ov f1.no e2
        refine q _ Z2 H1 _ (s2.setSlot hi o2 f1.nd n2) ((t1.trans t2).fin (fun _ h => h) (fun a z => .inl z) (.refl _) fun a z => ?_) fun j hj => ?_
        · rcases ow_put z with z | z
          · rcases f1.of a z with z | z
            · exact .inr (.inl z)
            · exact .inr (.inr z)
          · exact .inl z
        · rw [List.getElem?_set_ne (fun c => hj (by simp [c]))]
      · cases e
/-- return e -/
def mRet (f : Fe) : Fs := fun E => (f E).bind fun p => (mv p.2 p.1).map fun q => (.rt q.1 q.2.1, q.2.2)
theorem ret_of {w : List Nat} {f : Fe} {D : Ends} (q : sOf K w (mRet f) D σ H) : eOf K f σ H D.rt := by
  obtain ⟨Z, E, R, s, fl, E', e, q⟩ := q
  unfold mRet at e
  cases e1 : f E with
  | none => rw [e1] at e; cases e
  | some p =>
    obtain ⟨o, E1⟩ := p
    rw [e1] at e
    simp only [Option.bind_some] at e
    cases e2 : mv E1 o with
    | none => rw [e2] at e; cases e
    | some p2 =>
      obtain ⟨d, n, E2⟩ := p2
      rw [e2] at e
      cases e
      refine ⟨Z, E, R, s, o, E1, e1, fun v Z1 H1 R1 rs s1 t1 ov f1 => ?_⟩
      obtain ⟨R2, rs2, s2, t2, o2, nd2, n2, in2, sub2⟩ := s1.move ov f1.nd f1.no e2
      refine q σ Z1 H1 R2 s2 (t1.trans t2) (fun _ _ => rfl) v rs2 o2 ⟨nd2, n2, fun a m => ?_⟩
      rcases in2 a m with m | m
      · exact f1.of a m
      · exact t1.on a m
/-- an expression whose value is dropped -/
def mEx (f : Fe) : Fs := fun E => (f E).map fun p => (.nx, p.2)
theorem ex_of {w : List Nat} {f : Fe} {D : Ends} (q : sOf K w (mEx f) D σ H) : eOf K f σ H fun _ H1 => D.nx σ H1 := by
  obtain ⟨Z, E, R, s, fl, E', e, q⟩ := q
  unfold mEx at e
  cases e1 : f E with
  | none => rw [e1] at e; cases e
  | some p =>
    rw [e1] at e
    cases e
    exact ⟨Z, E, R, s, p.1, p.2, e1, fun v Z1 H1 R1 rs s1 t1 ov f1 => q σ Z1 H1 R1 s1 t1 fun _ _ => rfl⟩
def mSeq (a b : Fs) : Fs := fun E => (a E).bind fun p => match p.1 with
  | .nx => b p.2
  | fl => some (fl, p.2)
def mNx : Fs := fun E => some (.nx, E)
def mBk : Fs := fun E => some (.bk, E)
/-- behind a first part -/
theorem seq_of {w w1 w2 : List Nat} {a b : Fs} {D : Ends} (h1 : ∀ i ∈ w1, i ∈ w) (h2 : ∀ i ∈ w2, i ∈ w) (q : sOf K w (mSeq a b) D σ H) : sOf K w1 a { D with nx := fun σ' H' => sOf K w2 b D σ' H' } σ H := by
  obtain ⟨Z, E, R, s, fl, E', e, q⟩ := q
  unfold mSeq at e
  cases e1 : a E with
  | none => rw [e1] at e; cases e
  | some p =>
    obtain ⟨f1, E1⟩ := p
    rw [e1] at e
    simp only [Option.bind_some] at e
    refine ⟨Z, E, R, s, f1, E1, e1, fun σ' Z' H' R' s' t' k => ?_⟩
    cases f1 with
    | nx =>
      refine ⟨Z', E1, R', s', fl, E', e, fun σ2 Z2 H2 R2 s2 t2 k2 => ?_⟩
      have := q σ2 Z2 H2 R2 s2 (t'.trans t2) fun i hi => (k2 i fun m => hi (h2 i m)).trans (k i fun m => hi (h1 i m))
      cases fl with
      | rt d n => exact fun v rs ov fr => this v rs ov (fr.trans t'.on t'.dm)
      | nx => exact this
      | bk => exact this
      | ct => exact this
    | bk => cases e; exact q σ' Z' H' R' s' t' fun i hi => k i fun m => hi (h1 i m)
    | ct => cases e; exact q σ' Z' H' R' s' t' fun i hi => k i fun m => hi (h1 i m)
    | rt d n => cases e; exact q σ' Z' H' R' s' t' fun i hi => k i fun m => hi (h1 i m)
def mIfS (c : Ft) (a b : Fs) : Fs := fun E => (c E).bind fun p => if p.1 = true then a p.2 else b p.2
theorem if_of {w w1 w2 : List Nat} {c : Ft} {a b : Fs} {D : Ends} (h1 : ∀ i ∈ w1, i ∈ w) (h2 : ∀ i ∈ w2, i ∈ w) (q : sOf K w (mIfS c a b) D σ H) : cOf K c σ H fun k H1 => if k = true then sOf K w1 a D σ H1 else sOf K w2 b D σ H1 := by
  obtain ⟨Z, E, R, s, fl, E', e, q⟩ := q
  unfold mIfS at e
  cases e1 : c E with
  | none => rw [e1] at e; cases e
  | some p =>
    obtain ⟨k, E1⟩ := p
    rw [e1] at e
    simp only [Option.bind_some] at e
    refine ⟨Z, E, R, s, k, E1, e1, fun Z' H' R' s' t' => ?_⟩
    have go : ∀ (f : Fs) (w3 : List Nat), (∀ i ∈ w3, i ∈ w) → f E1 = some (fl, E') → sOf K w3 f D σ H' := fun f w3 h3 e => by
      refine ⟨Z', E1, R', s', fl, E', e, fun σ2 Z2 H2 R2 s2 t2 k2 => ?_⟩
      have := q σ2 Z2 H2 R2 s2 (t'.trans t2) fun i hi => k2 i fun m => hi (h3 i m)
      cases fl with
      | rt d n => exact fun v rs ov fr => this v rs ov (fr.trans t'.on t'.dm)
      | nx => exact this
      | bk => exact this
      | ct => exact this
    cases k with
    | true => rw [if_pos rfl] at e; exact iteT (go a w1 h1 e)
    | false => rw [if_neg Bool.false_ne_true] at e; exact iteF (go b w2 h2 e)
open Classical in
/-- a target that takes a frozen thing -/
abbrev Fg := D → Ev → Option Ev
def gOf (K : PySem.W.Frag) (w : List Nat) (f : Fg) : TG := fun v σ H Q => ∃ Z E R d, S K Z H σ E R ∧ Rp K Z H v d ∧ ∃ E', f d E = some E' ∧
  ∀ σ' R', S K Z H σ' E' R' → Step Z H (ow R) Z H (ow R') → (∀ i, i ∉ w → σ'[i]? = σ[i]?) → Q σ' H
def tgV (i : Nat) : Fg := fun d E => if i < E.length then some (E.set i (some (d, 0))) else none
theorem gn_of {i : Nat} {v : V} {Q : L2.St → Hp → Prop} (q : gOf K [i] (tgV i) v σ H Q) : gName i v σ H Q := by
  obtain ⟨Z, E, R, d, s, r, E', e, q⟩ := q
  unfold tgV at e
  split at e
  · rename_i hi
    cases e
    refine q _ _ (s.setSlot (rs := []) hi ⟨rfl, r⟩ List.nodup_nil fun a m => by simp at m) ⟨fun _ h => h, fun _ h => .inl h, fun _ _ h _ => h, fun a h => ?_, fun _ h => h⟩ fun j hj => ?_
    · rcases ow_put h with h | h
      · simp at h
      · exact .inl h
    · rw [List.getElem?_set_ne (fun c => hj (by simp [c]))]
  · cases e
def tgN : List D → Ev → Option Ev := fun ds E => match ds with
  | [] => some E
  | _ => none
def tgC (f : Fg) (g : List D → Ev → Option Ev) : List D → Ev → Option Ev := fun ds E => match ds with
  | d :: ds => (f d E).bind fun E1 => g ds E1
  | [] => none
/-- (a, b, ..) -/
def tgT (n : Nat) (g : List D → Ev → Option Ev) : Fg := fun d E => match d with
  | .tup ds => if ds.length = n then g ds E else none
  | .con ds => if ds.length = n then g ds E else none
  | .lst ds => if ds.length = n then g ds E else none
  | _ => none
/-- what a loop walks: its things, all frozen -/
structure IOk (K : PySem.W.Frag) (J : It) (its : List D) (Z0 : Addr → Prop) (H0 : Hp) : Prop where
  go : ∀ Z H i, Pers Z0 H0 Z H → i < its.length → J.go i H
  stop : ∀ Z H, Pers Z0 H0 Z H → J.stop its.length H
  yld : ∀ Z H i x H', Pers Z0 H0 Z H → i < its.length → J.yld i H x H' → More H H' ∧ ∃ d, its[i]? = some d ∧ Rp K Z H' x d
abbrev Fi := Ev → Option (List D × Ev)
def iOf (K : PySem.W.Frag) (f : Fi) : TI := fun σ H Rk => ∃ Z E R, S K Z H σ E R ∧ ∃ its E', f E = some (its, E') ∧
  ∀ J Z' H' R', S K Z' H' σ E' R' → Step Z H (ow R) Z' H' (ow R') → IOk K J its Z' H' → Rk J H'
abbrev AI (X : Cx) (tg iter : Expr) (f : Fi) : Prop := PI X tg iter (iOf X.K f)
theorem PI.mono {X : Cx} {tg iter : Expr} {t t' : TI} (h : PI X tg iter t) (m : ∀ σ H R, t' σ H R → t σ H R) : PI X tg iter t' := ⟨fun pins s σ H R I q => h.run pins s σ H R I (m σ H R q)⟩
def forM (g : Fg) (body : Fs) : List D → Fs
  | [] => fun E => some (.nx, E)
  | d :: ds => fun E => (g d E).bind fun E1 => (body E1).bind fun q => match q.1 with
    | .nx => forM g body ds q.2
    | .ct => forM g body ds q.2
    | .bk => some (.nx, q.2)
    | .rt d k => some (.rt d k, q.2)
def mFor (it : Fi) (g : Fg) (body : Fs) : Fs := fun E => (it E).bind fun p => forM g body p.1 p.2
theorem for_of {w w1 w2 : List Nat} {it : Fi} {g : Fg} {body : Fs} {D : Ends} (h1 : ∀ i ∈ w1, i ∈ w) (h2 : ∀ i ∈ w2, i ∈ w) (q : sOf K w (mFor it g body) D σ H) : tFor (iOf K it) (gOf K w1 g) (sOf K w2 body) D σ H := by
  obtain ⟨Z, E, R, s, fl, E', e, q⟩ := q
  unfold mFor at e
  cases e1 : it E with
  | none => rw [e1] at e; cases e
  | some p =>
    obtain ⟨its, E1⟩ := p
    rw [e1] at e
    simp only [Option.bind_some] at e
    refine ⟨Z, E, R, s, its, E1, e1, fun J Z1 H1 R1 s1 t1 ok => ?_⟩
    refine ⟨fun i m σ2 H2 => ∃ Z2 E2 R2, S K Z2 H2 σ2 E2 R2 ∧ Step Z1 H1 (ow R1) Z2 H2 (ow R2) ∧ (∀ j, j ∉ w → σ2[j]? = σ[j]?) ∧ m = its.length - i ∧ i ≤ its.length ∧ forM g body (its.drop i) E2 = some (fl, E'),
      ⟨its.length, Z1, E1, R1, s1, .refl, fun _ _ => rfl, by simp, Nat.zero_le _, e⟩, ?_⟩
    rintro i m σ2 H2 ⟨Z2, E2, R2, s2, t2, k2, rfl, hi, e2⟩
    have p2 : Pers Z1 H1 Z2 H2 := s1.pers t2
    by_cases hlt : i < its.length
    · right
      refine ⟨ok.go Z2 H2 i p2 hlt, ?_⟩
      rw [List.drop_eq_getElem_cons hlt] at e2
      simp only [forM] at e2
      cases e3 : g its[i] E2 with
      | none => rw [e3] at e2; cases e2
      | some E3 =>
        rw [e3] at e2
        simp only [Option.bind_some] at e2
        cases e4 : body E3 with
        | none => rw [e4] at e2; cases e2
        | some p4 =>
          obtain ⟨f4, E4⟩ := p4
          rw [e4] at e2
          simp only [Option.bind_some] at e2
          refine ⟨fun σ5 H5 => ∃ Z5 R5, S K Z5 H5 σ5 E4 R5 ∧ Step Z1 H1 (ow R1) Z5 H5 (ow R5) ∧ (∀ j, j ∉ w → σ5[j]? = σ[j]?) ∧ forM g body (its.drop (i + 1)) E4 = some (fl, E'),
            fun σ5 H5 ⟨Z5, R5, a, b, c, d⟩ => ⟨its.length - (i + 1), by omega, Z5, E4, R5, a, b, c, rfl, hlt, d⟩, fun x H3 y => ?_⟩
          obtain ⟨m3, d, hd, rx⟩ := ok.yld Z2 H2 i x H3 p2 hlt y
          have ed : its[i] = d := by rw [List.getElem?_eq_getElem hlt] at hd; exact Option.some.inj hd
          refine ⟨Z2, E2, R2, d, s2.more m3, rx, E3, by rw [← ed]; exact e3, fun σ4 R4 s4 t4 k4 => ?_⟩
          have t24 := (t2.trans (m3.step _)).trans t4
          refine ⟨Z2, E3, R4, s4, f4, E4, e4, fun σ5 Z5 H5 R5 s5 t5 k5 => ?_⟩
          have k6 : ∀ j, j ∉ w → σ5[j]? = σ[j]? := fun j hj => ((k5 j fun m => hj (h2 j m)).trans (k4 j fun m => hj (h1 j m))).trans (k2 j hj)
          cases f4 with
          | nx => exact ⟨Z5, R5, s5, t24.trans t5, k6, e2⟩
          | ct => exact ⟨Z5, R5, s5, t24.trans t5, k6, e2⟩
          | bk => cases e2; exact q σ5 Z5 H5 R5 s5 (t1.trans (t24.trans t5)) k6
          | rt d n =>
            cases e2
            exact fun v rs ov fr => q σ5 Z5 H5 R5 s5 (t1.trans (t24.trans t5)) k6 v rs ov (fr.trans (t1.trans t24).on (t1.trans t24).dm)
    · left
      have ei : i = its.length := by omega
      subst ei
      rw [List.drop_length] at e2
      cases e2
      exact ⟨ok.stop Z2 H2 p2, q σ2 Z2 H2 R2 s2 (t1.trans t2) k2⟩
end
end Zk
namespace Zk
open PySem PySem.Spec PyProof.Rows L2

section
variable {K : PySem.W.Frag} {Z Z' Zf Z0 : Addr → Prop} {H H' H0 : Hp} {σ : L2.St} {E E' : Ev} {R R' R0 : Rs}
def seqD : D → Option (List D)
  | .lst ds => some ds
  | .tup ds => some ds
  | .con ds => some ds
  | .scr ns => some (ns.map D.int)
  | _ => none
def mSq (f : Fe) : Fi := fun E => (f E).bind fun p => (tk p.2 p.1).bind fun q => (seqD q.1).map fun ds => (ds, q.2.2)
theorem iok_list {a : Addr} {vs : List V} {ds : List D} (z : Z a) (h : H a = some (.lst vs)) (r : Rps K Z H vs ds) : IOk K (Itl K a) ds Z H where
  go := fun Z2 H2 i p hi => by
    obtain ⟨v, hv, _⟩ := r.getD (List.getElem?_eq_getElem hi)
    exact ⟨vs, v, .inl (.inl (p.hz a _ z h)), hv⟩
  stop := fun Z2 H2 p => ⟨vs, .inl (.inl (p.hz a _ z h)), by rw [r.len]; exact Nat.le_refl _⟩
  yld := fun Z2 H2 i x H3 p hi y => by
    obtain ⟨e, y⟩ := y
    subst e
    have hx := y vs (.inl (.inl (p.hz a _ z h)))
    obtain ⟨d, hd, rd⟩ := (r.pers p).get hx
    exact ⟨.refl _, d, hd, rd⟩
theorem iok_scr {a : Addr} {vs : List V} {ds : List D} (h : SqF K H a vs) (r : Rps K Z H vs ds) : IOk K (Itl K a) ds Z H where
  go := fun Z2 H2 i p hi => by
    obtain ⟨v, hv, _⟩ := r.getD (List.getElem?_eq_getElem hi)
    exact ⟨vs, v, (p.sqF h).sq, hv⟩
  stop := fun Z2 H2 p => ⟨vs, (p.sqF h).sq, by rw [r.len]; exact Nat.le_refl _⟩
  yld := fun Z2 H2 i x H3 p hi y => by
    obtain ⟨e, y⟩ := y
    subst e
    have hx := y vs (p.sqF h).sq
    obtain ⟨d, hd, rd⟩ := (r.pers p).get hx
    exact ⟨.refl _, d, hd, rd⟩
theorem iok_tup {a : Addr} {vs : List V} {ds : List D} (h : ∀ Z2 H2, Pers Z H Z2 H2 → SqT K H2 a vs) (r : Rps K Z H vs ds) : IOk K (Itt K a) ds Z H where
  go := fun Z2 H2 i p hi => by
    obtain ⟨v, hv, _⟩ := r.getD (List.getElem?_eq_getElem hi)
    exact ⟨vs, v, h _ _ p, hv⟩
  stop := fun Z2 H2 p => ⟨vs, h _ _ p, by rw [r.len]; exact Nat.le_refl _⟩
  yld := fun Z2 H2 i x H3 p hi y => by
    obtain ⟨e, y⟩ := y
    subst e
    have hx := y vs (h _ _ p)
    obtain ⟨d, hd, rd⟩ := (r.pers p).get hx
    exact ⟨.refl _, d, hd, rd⟩
/-- an end, taken and frozen -/
theorem S.takeFrz (s : S K Z H σ E R) (t0 : Step Z0 H0 (ow R0) Z H (ow R)) {v : V} {o : Op} {d : D} {n : Nat} {rs : List Addr} (h : OV K Z H σ v o rs) (f : Fr R0 H0 R rs) (e : tk E o = some (d, n, E')) :
    ∃ Z' R', S K Z' H σ E' R' ∧ Step Z0 H0 (ow R0) Z' H (ow R') ∧ Rp K Z' H v d := by
  obtain ⟨Z2, R2, s2, t2, o2, n2, sub2⟩ := s.take h f.no e
  refine ⟨_, R2, s2.chill n2 o2.there, (t0.trans t2).fin (fun _ h => .inl h) (fun a z => ?_) (.refl _) fun a h => .inl h, o2.freeze ⟨fun _ h => .inl h, fun _ _ _ h => h, fun _ _ h _ => h⟩ fun a m => ⟨rfl, .inr m⟩⟩
  rcases z with z | z
  · exact .inl z
  · rcases f.of a z with z | z
    · exact .inr (.inr (.inl z))
    · exact .inr (.inr (.inr z))
theorem sq_of {f : Fe} {Rk : It → Hp → Prop} (q : iOf K (mSq f) σ H Rk) : iList K (eOf K f) σ H Rk ∨ iTup K (eOf K f) σ H Rk := by
  obtain ⟨Z, E, R, s, its, E', e, q⟩ := q
  unfold mSq at e
  cases e1 : f E with
  | none => rw [e1] at e; cases e
  | some p =>
    obtain ⟨o, E1⟩ := p
    rw [e1] at e
    simp only [Option.bind_some] at e
    cases e2 : tk E1 o with
    | none => rw [e2] at e; cases e
    | some p2 =>
      obtain ⟨d, n, E2⟩ := p2
      rw [e2] at e
      simp only [Option.bind_some] at e
      cases d with
      | lst ds =>
        cases e
        refine .inl ⟨Z, E, R, s, o, E1, e1, fun v Z1 H1 R1 rs s1 t1 ov f1 => ?_⟩
        obtain ⟨Z2, R2, s2, t2, r⟩ := s1.takeFrz t1 ov f1 e2
        cases r with
        | lst z h r => exact ⟨_, rfl, ⟨_, .inl (.inl h)⟩, q _ Z2 H1 R2 s2 t2 (iok_list z h r)⟩
      | scr ns =>
        cases e
        refine .inl ⟨Z, E, R, s, o, E1, e1, fun v Z1 H1 R1 rs s1 t1 ov f1 => ?_⟩
        obtain ⟨Z2, R2, s2, t2, r⟩ := s1.takeFrz t1 ov f1 e2
        cases r with
        | scr h => exact ⟨_, rfl, ⟨_, h.sq⟩, q _ Z2 H1 R2 s2 t2 (iok_scr h (Rps.ofInts ns))⟩
      | tup ds =>
        cases e
        refine .inr ⟨Z, E, R, s, o, E1, e1, fun v Z1 H1 R1 rs s1 t1 ov f1 => ?_⟩
        obtain ⟨Z2, R2, s2, t2, r⟩ := s1.takeFrz t1 ov f1 e2
        cases r with
        | tup h r => exact ⟨_, rfl, ⟨_, .of h⟩, q _ Z2 H1 R2 s2 t2 (iok_tup (fun Z3 H3 p => .of (p.tp _ _ h fun z => z)) r)⟩
      | con ds =>
        cases e
        refine .inr ⟨Z, E, R, s, o, E1, e1, fun v Z1 H1 R1 rs s1 t1 ov f1 => ?_⟩
        obtain ⟨Z2, R2, s2, t2, r⟩ := s1.takeFrz t1 ov f1 e2
        cases r with
        | con h r => exact ⟨_, rfl, ⟨_, h.sq⟩, q _ Z2 H1 R2 s2 t2 (iok_tup (fun Z3 H3 p => h.sq) r)⟩
      | _ => cases e
def rng (lo : Int) (n : Nat) : List D := (List.range n).map fun k => D.int (lo + (k : Nat))
@[simp] theorem rng_len (lo : Int) (n : Nat) : (rng lo n).length = n := by simp [rng]
def rgOk (j : Int) : Prop := -(2 ^ 62) ≤ j ∧ j < 2 ^ 62
instance (j : Int) : Decidable (rgOk j) := inferInstanceAs (Decidable (_ ∧ _))
def mRg1 (a : Fe) : Fi := fun E => (a E).bind fun p => (rd p.2 p.1).bind fun d => match d with
  | .int j => if rgOk j then some (rng 0 j.toNat, p.2) else none
  | _ => none
theorem iok_rng (lo : Int) (n : Nat) : IOk K (Itr lo n) (rng lo n) Z H where
  go := fun Z2 H2 i p hi => by
    have h : i < n := by simpa using hi
    exact h
  stop := fun Z2 H2 p => by simp [Itr]
  yld := fun Z2 H2 i x H3 p hi y => by
    obtain ⟨e, y⟩ := y
    subst e y
    have hi : i < n := by simpa using hi
    exact ⟨.refl _, .int (lo + i), by simp [rng, hi], .int _⟩
theorem rg1_of {a : Fe} {Rk : It → Hp → Prop} (q : iOf K (mRg1 a) σ H Rk) : eOf K a σ H fun v H1 => ∃ j : Int, v = .int j ∧ -(2 ^ 62) ≤ j ∧ j < 2 ^ 62 ∧ Rk (Itr 0 j.toNat) H1 := by
  obtain ⟨Z, E, R, s, its, E', e, q⟩ := q
  unfold mRg1 at e
  cases e1 : a E with
  | none => rw [e1] at e; cases e
  | some p =>
    obtain ⟨o, E1⟩ := p
    rw [e1] at e
    simp only [Option.bind_some] at e
    cases e2 : rd E1 o with
    | none => rw [e2] at e; cases e
    | some d =>
      rw [e2] at e
      simp only [Option.bind_some] at e
      split at e
      · split at e
        · rename_i hj
          cases e
          refine ⟨Z, E, R, s, o, _, e1, fun v Z1 H1 R1 rs s1 t1 ov f1 => ⟨_, (s1.read ov e2).intE, hj.1, hj.2, q _ Z1 H1 R1 s1 t1 (iok_rng _ _)⟩⟩
        · cases e
      · cases e
theorem Own.dE {n : Nat} {v : V} {d : D} {rs : List Addr} (h : Own K Z H (n + 1) v d rs) (nd : rs.Nodup) : (∀ kds, d = .dK kds → ∃ a kvs, v = .ref a ∧ H a = some (.dK kvs) ∧ ¬ Z a ∧ a ∈ rs ∧ KR K (fun b => Z b ∨ (b ∈ rs ∧ b ≠ a)) H kvs kds ∧ (imms (kds.map (·.2)) = true → KR K Z H kvs kds)) ∧
    (∀ kds, d = .dT kds → ∃ a kvs, v = .ref a ∧ H a = some (.dT kvs) ∧ ¬ Z a ∧ a ∈ rs ∧ KR K (fun b => Z b ∨ (b ∈ rs ∧ b ≠ a)) H kvs kds ∧ (imms (kds.map (·.2)) = true → KR K Z H kvs kds)) := by
  have go : ∀ (a : Addr) (rss : List (List Addr)) (vs : List V) (ds : List D), rs = a :: rss.flatten → All3 (Own K Z H n) vs ds rss → Rps K (fun b => Z b ∨ (b ∈ rs ∧ b ≠ a)) H vs ds := fun a rss vs ds er al => by
    have p : Pers Z H (fun b => Z b ∨ (b ∈ rs ∧ b ≠ a)) H := ⟨fun _ h => .inl h, fun _ _ _ h => h, fun _ _ h _ => h⟩
    rw [er] at nd
    have n1 := (List.nodup_cons.mp nd).1
    exact All3.rps (R := fun _ _ => True) (P := fun v d _ => Rp K (fun b => Z b ∨ (b ∈ rs ∧ b ≠ a)) H v d) (fun _ _ _ h => h) (al.imp fun v d rs' m o => o.freeze p fun b hb => ⟨rfl, .inr ⟨by rw [er]; exact List.mem_cons_of_mem _ (mem_flatten_of m hb), fun e => n1 (by rw [← e]; exact mem_flatten_of m hb)⟩⟩)
  constructor
  · rintro kds rfl
    obtain ⟨a, kvs, rss, e, ha, z, e2, al, er⟩ := h
    exact ⟨a, kvs, e, ha, z, by rw [er]; exact List.mem_cons_self, ⟨e2, go a rss _ _ er al⟩, fun i => ⟨e2, (al.immRps i).1⟩⟩
  · rintro kds rfl
    obtain ⟨a, kvs, rss, e, ha, z, e2, al, er⟩ := h
    exact ⟨a, kvs, e, ha, z, by rw [er]; exact List.mem_cons_self, ⟨e2, go a rss _ _ er al⟩, fun i => ⟨e2, (al.immRps i).1⟩⟩
/-- the depth of a dict behind a store -/
def updl {κ : Type} (n : Nat) (kds : List (κ × D)) (dv : D) : Nat := if imms (kds.map (·.2)) = true ∧ imm dv = true then n else 1
theorem imms_put {κ : Type} [DecidableEq κ] {kds : List (κ × D)} {k : κ} {dv : D} (h : imms (kds.map (·.2)) = true) (i : imm dv = true) : imms ((putD kds k dv).map (·.2)) = true := by
  rw [imms_all, List.all_eq_true] at h ⊢
  intro x hx
  unfold putD at hx
  split at hx
  · rw [List.map_map] at hx
    obtain ⟨p, hp, e⟩ := List.mem_map.mp hx
    simp only [Function.comp_apply] at e
    split at e
    · subst e; exact i
    · subst e; exact h _ (List.mem_map.mpr ⟨p, hp, rfl⟩)
  · rw [List.map_append, List.mem_append] at hx
    rcases hx with hx | hx
    · exact h x hx
    · have : x = dv := by simpa using hx
      rw [this]; exact i
/-- a store into the owned dict of slot i: con tells the kind of dict -/
theorem S.dput {κ : Type} [DecidableEq κ] (conD : List (κ × D) → D) (conH : List (κ × V) → HO) (s : S K Z H σ E R) (t0 : Step Z0 H0 (ow R0) Z H (ow R)) {i : Nat} {kds : List (κ × D)} {n : Nat} (e : eg E i = some (conD kds, n + 1))
    (dE : ∀ {v : V} {rs : List Addr}, Own K Z H (n + 1) v (conD kds) rs → rs.Nodup → ∃ a kvs, v = .ref a ∧ H a = some (conH kvs) ∧ ¬ Z a ∧ a ∈ rs ∧ KR K (fun b => Z b ∨ (b ∈ rs ∧ b ≠ a)) H kvs kds ∧ (imms (kds.map (·.2)) = true → KR K Z H kvs kds))
    (mk : ∀ {Z : Addr → Prop} {H : Hp} {a : Addr} {kvs : List (κ × V)} {kds : List (κ × D)} {m : Nat}, H a = some (conH kvs) → ¬ Z a → kvs.map (·.1) = kds.map (·.1) → All3 (Own K Z H m) (kvs.map (·.2)) (kds.map (·.2)) ((kds.map (·.2)).map fun _ => []) → Own K Z H (m + 1) (.ref a) (conD kds) [a])
    {v : V} {dv : D} {nv : Nat} {rv : List Addr} (hv : Own K Z H nv v dv rv) (fr : Fr R0 H0 R rv) (k : κ) (mutH : ∀ kvs, Mut (some (conH kvs))) :
    ∃ a kvs, σ[i]? = some (some (.ref a)) ∧ H a = some (conH kvs) ∧ kvs.length = kds.length ∧ ∃ Zf rs', S K Zf (upd H a (conH (putK kvs k v))) σ (E.set i (some (conD (putD kds k dv), updl (n + 1) kds dv))) (put R i rs') ∧
      Step Z0 H0 (ow R0) Zf (upd H a (conH (putK kvs k v))) (ow (put R i rs')) := by
  obtain ⟨w, e1, o1⟩ := s.slot i _ _ e
  obtain ⟨a, kvs, rfl, ha, nz, aR, kr, kri⟩ := dE o1 (s.nd i)
  refine ⟨a, kvs, e1, ha, kr.len, ?_⟩
  have aow : ow R a := ⟨i, aR⟩
  have pz : ∀ {Z1 : Addr → Prop}, ¬ Z1 a → Pers Z1 H Z1 (upd H a (conH (putK kvs k v))) := fun nz1 => ⟨fun _ h => h, fun b o z e => by
    have ne : b ≠ a := fun e2 => nz1 (by rw [← e2]; exact z)
    rw [upd_ne ne]; exact e, fun b o e n => by
    have ne : b ≠ a := fun e2 => n (by rw [e2, ha] at e; cases e; exact mutH _)
    rw [upd_ne ne]; exact e⟩
  unfold updl
  split
  · rename_i hc
    obtain ⟨rfl, rvp⟩ := hv.imm hc.2
    have kr2 := ((kri hc.1).put k rvp)
    have kr3 : KR K Z (upd H a (conH (putK kvs k v))) (putK kvs k v) (putD kds k dv) := ⟨kr2.1, kr2.2.pers (pz nz)⟩
    have new := mk (Z := Z) (m := n) (upd_same (H := H) (a := a)) nz kr3.1 (All3.ofRpsI kr3.2 (imms_put hc.1 hc.2))
    have inR : ∀ b ∈ [a], b ∈ R i ∨ b ∈ ([] : List Addr) := fun b m => by
      have e : b = a := by simpa using m
      exact .inl (by rw [e]; exact aR)
    exact ⟨Z, [a], s.write t0 (ts := []) (eg_lt e) e1 aR new (fun _ h => h) (fun b z => .inl z) inR (by simp) (fun b m => by simp at m) (fun b m => by simp at m) fun b m => by simp at m⟩
  · have p : Pers Z H (fun b => Z b ∨ (b ∈ R i ∧ b ≠ a) ∨ b ∈ rv) H := ⟨fun _ h => .inl h, fun _ _ _ h => h, fun _ _ h _ => h⟩
    have nzf : ¬ (Z a ∨ (a ∈ R i ∧ a ≠ a) ∨ a ∈ rv) := fun z => by
      rcases z with z | z | z
      · exact nz z
      · exact z.2 rfl
      · exact fr.no a z aow
    have rvp : Rp K (fun b => Z b ∨ (b ∈ R i ∧ b ≠ a) ∨ b ∈ rv) H v dv := hv.freeze p fun b hb => ⟨rfl, .inr (.inr hb)⟩
    have kr1 : KR K (fun b => Z b ∨ (b ∈ R i ∧ b ≠ a) ∨ b ∈ rv) H kvs kds := ⟨kr.1, kr.2.pers ⟨fun b z => z.elim .inl fun z => .inr (.inl z), fun _ _ _ h => h, fun _ _ h _ => h⟩⟩
    have kr2 := kr1.put k rvp
    have kr3 : KR K (fun b => Z b ∨ (b ∈ R i ∧ b ≠ a) ∨ b ∈ rv) (upd H a (conH (putK kvs k v))) (putK kvs k v) (putD kds k dv) := ⟨kr2.1, kr2.2.pers (pz nzf)⟩
    have new := mk (m := 0) (upd_same (H := H) (a := a)) nzf kr3.1 (All3.ofRps0 kr3.2)
    refine ⟨_, [a], s.write t0 (ts := rv) (eg_lt e) e1 aR new (fun _ h => .inl h) (fun b z => ?_) (fun b m => .inl ?_) (by simp) fr.no hv.there fr.of⟩
    · rcases z with z | z | z
      · exact .inl z
      · exact .inr (.inl z.1)
      · exact .inr (.inr z)
    · have e : b = a := by simpa using m
      rw [e]; exact aR
/-- slot x [k] = v, by data -/
def putAt (E : Ev) (x : Nat) (k dv : D) (nv : Nat) : Option Ev := match eg E x with
  | some (.lst ds, n + 1) => match k with
    | .int i => (ixN ds.length i).map fun j => E.set x (some (.lst (ds.set j dv), upl (n + 1) (.lst ds) dv nv))
    | _ => none
  | some (.dK kds, n + 1) => (keyOf k).bind fun k => if kds.length < sizeLine then some (E.set x (some (.dK (putD kds k dv), updl (n + 1) kds dv))) else none
  | some (.dT kds, n + 1) => match k with
    | .tup ks => (keysOf ks).bind fun k => if kds.length < sizeLine then some (E.set x (some (.dT (putD kds k dv), updl (n + 1) kds dv))) else none
    | _ => none
  | _ => none
theorem S.putAt (s : S K Z H σ E R) (t0 : Step Z0 H0 (ow R0) Z H (ow R)) {x : Nat} {k dv : D} {nv : Nat} (e : Zk.putAt E x k dv nv = some E') {v kv : V} {rv : List Addr} (hv : Own K Z H nv v dv rv) (fr : Fr R0 H0 R rv) (hk : Rp K (fun _ => True) H kv k) :
    ∃ w, σ[x]? = some (some w) ∧ ∀ Q : Hp → Prop, (∀ Zf H' R', S K Zf H' σ E' R' → Step Z0 H0 (ow R0) Zf H' (ow R') → Q H') → rSetL w kv v H Q ∨ rSetD w kv v H Q := by
  unfold Zk.putAt at e
  split at e
  · rename_i ds n g
    split at e
    · rename_i i
      cases e1 : ixN ds.length i with
      | none => rw [e1] at e; cases e
      | some j =>
        rw [e1] at e
        cases e
        obtain ⟨a, vs, h1, h2, h3, Zf, rs', s', t'⟩ := s.edit t0 g hv fr (fun vs => vs.set j v) (fun ds => ds.set j dv) (fun rss rv => rss.set j rv) (fun Z H m vs rss rv al ho => al.set ho j) (fun rss rv h1 h2 h3 =>
          ⟨nodup_set_flat j h1 h2 h3, fun a m => nodup_set_flat.mem_set_flat j m⟩)
        cases hk.intE
        exact ⟨_, h1, fun Q q => .inl ⟨a, vs, i, j, rfl, rfl, h2, by rw [h3]; exact e1, q _ _ _ s' t'⟩⟩
    · cases e
  · rename_i kds n g
    cases e1 : keyOf k with
    | none => rw [e1] at e; cases e
    | some k' =>
      rw [e1] at e
      simp only [Option.bind_some] at e
      split at e
      · rename_i hl
        cases e
        obtain ⟨a, kvs, h1, h2, h3, Zf, rs', s', t'⟩ := s.dput D.dK HO.dK t0 g (fun o nd => (o.dE nd).1 kds rfl) (fun {Z H a kvs kds m} h z e al => ⟨a, kvs, _, rfl, h, z, e, al, by rw [flat_nils]⟩) hv fr k' (fun _ => trivial)
        cases key_kV hk e1
        exact ⟨_, h1, fun Q q => .inr ⟨a, _, rfl, .k h2 (by rw [h3]; exact hl), q _ _ _ s' t'⟩⟩
      · cases e
  · rename_i kds n g
    split at e
    · rename_i ks
      cases e1 : keysOf ks with
      | none => rw [e1] at e; cases e
      | some k' =>
        rw [e1] at e
        simp only [Option.bind_some] at e
        split at e
        · rename_i hl
          cases e
          obtain ⟨a, kvs, h1, h2, h3, Zf, rs', s', t'⟩ := s.dput D.dT HO.dT t0 g (fun o nd => (o.dE nd).2 kds rfl) (fun {Z H a kvs kds m} h z e al => ⟨a, kvs, _, rfl, h, z, e, al, by rw [flat_nils]⟩) hv fr k' (fun _ => trivial)
          cases hk with
          | tup hb rb =>
            cases keys_kV rb e1
            exact ⟨_, h1, fun Q q => .inr ⟨a, _, rfl, .t h2 hb (by rw [h3]; exact hl), q _ _ _ s' t'⟩⟩
        · cases e
    · cases e
  · cases e
/-- x[k] = v -/
def mPut (x : Nat) (fk fv : Fe) : Fs := fun E => (fv E).bind fun pv => if (eg pv.2 x).isSome = true then (fk pv.2).bind fun pk => (rd pk.2 pk.1).bind fun k => (tk pk.2 pv.1).bind fun q => (putAt q.2.2 x k q.1 q.2.1).map fun E' => (.nx, E') else none
theorem put_of {x : Nat} {fk fv : Fe} {w : List Nat} {D : Ends} (q : sOf K w (mPut x fk fv) D σ H) : eOf K fv σ H fun v H1 => ∃ y, σ[x]? = some (some y) ∧ eOf K fk σ H1 fun kv H2 => rSetL y kv v H2 (fun H3 => D.nx σ H3) ∨ rSetD y kv v H2 fun H3 => D.nx σ H3 := by
  obtain ⟨Z, E, R, s, fl, E', e, q⟩ := q
  unfold mPut at e
  cases e1 : fv E with
  | none => rw [e1] at e; cases e
  | some p =>
    obtain ⟨o, E1⟩ := p
    rw [e1] at e
    simp only [Option.bind_some] at e
    split at e
    · rename_i hs
      cases e2 : fk E1 with
      | none => rw [e2] at e; cases e
      | some p2 =>
        obtain ⟨o2, E2⟩ := p2
        rw [e2] at e
        simp only [Option.bind_some] at e
        cases e3 : rd E2 o2 with
        | none => rw [e3] at e; cases e
        | some k =>
          rw [e3] at e
          simp only [Option.bind_some] at e
          cases e4 : tk E2 o with
          | none => rw [e4] at e; cases e
          | some p4 =>
            obtain ⟨dv, nv, E3⟩ := p4
            rw [e4] at e
            simp only [Option.bind_some] at e
            cases e5 : Zk.putAt E3 x k dv nv with
            | none => rw [e5] at e; cases e
            | some E5 =>
              rw [e5] at e
              cases e
              refine ⟨Z, E, R, s, o, E1, e1, fun v Z1 H1 R1 rs s1 t1 ov f1 => ?_⟩
              cases g : eg E1 x with
              | none => rw [g] at hs; simp at hs
              | some dn =>
                obtain ⟨y, ey, _⟩ := s1.slot x dn.1 dn.2 g
                refine ⟨y, ey, Z1, E1, R1, s1, o2, E2, e2, fun kv Z2 H2 R2 rs2 s2 t2 ov2 f2 => ?_⟩
                obtain ⟨pe, pn⟩ := s1.pendO t2 ov f1.no
                have rk := s2.read ov2 e3
                obtain ⟨Z3, R3, s3, t3, o3, n3, sub3⟩ := s2.take pe pn e4
                obtain ⟨w, ew, c⟩ := s3.putAt ((t1.trans t2).trans t3) e5 o3 ⟨f1.nd, n3, f1.of⟩ rk
                rw [ey] at ew
                cases ew
                exact c _ fun Zf H' R' s' t' => q σ Zf H' R' s' t' fun _ _ => rfl
    · cases e
end
section
variable {X : Cx}
theorem PSet.or {t u : TSet} (h : PSet X t) (h' : PSet X u) : PSet X fun o i v H Q => t o i v H Q ∨ u o i v H Q := fun pins s σ H o i v ov iv w Q I r1 r2 r3 q =>
  q.elim (h pins s σ H o i v ov iv w Q I r1 r2 r3) (h' pins s σ H o i v ov iv w Q I r1 r2 r3)
theorem PG.or {tg : Expr} {t u : TG} (h : PG X tg t) (h' : PG X tg u) : PG X tg fun v σ H Q => t v σ H Q ∨ u v σ H Q := ⟨fun pins s σ H v x Q I r q => q.elim (h.run pins s σ H v x Q I r) (h'.run pins s σ H v x Q I r)⟩
theorem PI.or {tg iter : Expr} {t u : TI} (h : PI X tg iter t) (h' : PI X tg iter u) : PI X tg iter fun σ H R => t σ H R ∨ u σ H R := ⟨fun pins s σ H R I q => q.elim (h.run pins s σ H R I) (h'.run pins s σ H R I)⟩
variable {e e2 c : Expr} {es : List Expr} {fe fk fv : Fe} {ft : Ft} {fi : Fi} {g : Fg} {gs : List D → Ev → Option Ev} {pos pos' : PySem.Pos} {st : Stmt} {rest body : List Stmt} {w w1 w2 : List Nat} {f f1 f2 : Fs} {x : Str}
theorem as_set (i : Nat) {x : Str} (he : AE X e fe) (hN : X.N.Nodup) (hi : X.N[i]? = some x := by rfl) (hx : Loc X.env.scope x := by first | exact Or.inl rfl | exact Or.inr rfl) (hs : swapsWith e (some (.Name x pos')) pos.line X.env = pure false := by rfl)
    (hf : X.fn x = true ∨ X.env.scope.names.lookup x = some .local := by first | exact .inl rfl | exact .inr rfl) : AS X (.Assign [.Name x pos'] e pos) [i] (mSet i fe) := PS.mono (ps_set hN hi hx he hs hf) fun D σ H q => set_of q
theorem as_ret (he : AE X e fe) : AS X (.Return (some e) pos) w (mRet fe) := PS.mono (ps_ret he) fun D σ H q => ret_of q
theorem as_ex (he : AE X e fe) (hs : swapsWith e none pos.line X.env = pure false := by rfl) : AS X (.Expr e pos) w (mEx fe) := PS.mono (ps_expr he hs) fun D σ H q => ex_of q
theorem as_bk : AS X (.Break pos) w mBk := PS.mono ps_break fun D σ H q => by
  obtain ⟨Z, E, R, s, fl, E', e, q⟩ := q
  cases e
  exact q σ Z H R s .refl fun _ _ => rfl
theorem ass_nil : ASs X [] w mNx := PSs.mono pss_nil fun D σ H q => by
  obtain ⟨Z, E, R, s, fl, E', e, q⟩ := q
  cases e
  exact q σ Z H R s .refl fun _ _ => rfl
theorem ass_cons (h1 : AS X st w1 f1) (h2 : ASs X rest w2 f2) : ASs X (st :: rest) (w1 ++ w2) (mSeq f1 f2) := PSs.mono (pss_cons h1 h2) fun D σ H q => seq_of (fun i m => List.mem_append.mpr (.inl m)) (fun i m => List.mem_append.mpr (.inr m)) q
theorem ass_one (h1 : AS X st w f) : ASs X [st] w f := pss_one h1
theorem as_if (hc : AT X c ft) (ha : ASs X body w1 f1) (hb : ASs X rest w2 f2) : AS X (.If c body rest pos) (w1 ++ w2) (mIfS ft f1 f2) := PS.mono (ps_if hc ha hb) fun D σ H q => if_of (fun i m => List.mem_append.mpr (.inl m)) (fun i m => List.mem_append.mpr (.inr m)) q
abbrev AG (X : Cx) (target : Expr) (w : List Nat) (g : Fg) : Prop := PG X target (gOf X.K w g)
theorem PG.mono {t : Expr} {g g' : TG} (h : PG X t g) (m : ∀ v σ H Q, g' v σ H Q → g v σ H Q) : PG X t g' := ⟨fun pins s σ H v u Q I r q => h.run pins s σ H v u Q I r (m v σ H Q q)⟩
theorem PGs.mono {t : List Expr} {g g' : TGs} (h : PGs X t g) (m : ∀ v σ H Q, g' v σ H Q → g v σ H Q) : PGs X t g' := ⟨fun pins s σ H v u Q I r q => h.run pins s σ H v u Q I r (m v σ H Q q)⟩
theorem ag_n (i : Nat) {x : Str} (hN : X.N.Nodup) (hi : X.N[i]? = some x := by rfl) (hx : Loc X.env.scope x := by first | exact Or.inl rfl | exact Or.inr rfl) (hf : X.fn x = true ∨ X.env.scope.names.lookup x = some .local := by first | exact .inl rfl | exact .inr rfl) :
    AG X (.Name x pos) [i] (tgV i) := PG.mono (pg_name hN hi hx hf) fun v σ H Q q => gn_of q
theorem as_for {tg iter : Expr} (hp : PassesOwn (model X.prog X.w) X.A X.env X.xe) (hi : AI X tg iter fi) (hg : AG X tg w1 g) (hb : ASs X body w2 f) (hc : X.calm = true := by rfl) (hs : ∀ x, foldedSetIterable iter X.env x = pure x := by intro _; rfl) :
    AS X (.For tg iter body [] pos) (w1 ++ w2) (mFor fi g f) := PS.mono (ps_for hp hc hi hg hb hs) fun D σ H q => for_of (fun i m => List.mem_append.mpr (.inl m)) (fun i m => List.mem_append.mpr (.inr m)) q
theorem ai_seq {tg : Expr} (he : AE X e fe) : AI X tg e (mSq fe) := PI.mono (PI.or (pi_list he) (pi_tup he)) fun σ H R q => sq_of q
theorem ai_rg1 {tg : Expr} {p : PySem.Pos} (ha : AE X e fe) (hg : Gl X "range") (hm : X.mg "range" = none) (hs : starEach [e] X.env = [(false, eval e X.env)] := by rfl) : AI X tg (.Call (.Name "range" p) [e] [] pos) (mRg1 fe) :=
  PI.mono (pi_range1 hg hm (pa_cons ha pa_nil hs) hs) fun σ H R q => eOf_imp (fun v H1 ⟨j, e, a, b, c⟩ => ⟨j, by rw [e], a, b, c⟩) (rg1_of q)
theorem as_put (j : Nat) {x : Str} {px pt : PySem.Pos} (hu : X.A.units + 1 < cLine) (hk : AE X e fk) (hv : AE X e2 fv) (hN : X.N[j]? = some x := by rfl) (hvis : Vis X.env.scope x := by first | exact Or.inl rfl | exact Or.inr (Or.inl rfl) | exact Or.inr (Or.inr rfl))
    (hd : (x == ("__debug__" : Str)) = false := by decide) (hcd : (x == ("__classdict__" : Str)) = false := by decide)
    (ha : ∀ v, assign (.Subscript (.Name x px) e pt) X.env v = (do
      let ov ← holding [v] (eval (.Name x px) X.env)
      let iv ← holding [v, ov] (eval e X.env)
      standAt pt
      holding [v, ov, iv] (setItem ov iv v)
      release [v, ov, iv] []) := by intro _; rfl)
    (hs : swapsWithSole [.Subscript (.Name x px) e pt] e2 pos.line X.env = pure false := by rfl) (hw : swappedStores [.Subscript (.Name x px) e pt] e2 X.env = pure none := by rfl)
    (h1 : (assignEach [.Subscript (.Name x px) e pt] X.env).map (·.2) = [assign (.Subscript (.Name x px) e pt) X.env] := by rfl) : AS X (.Assign [.Subscript (.Name x px) e pt] e2 pos) w (mPut j fk fv) :=
  PS.mono (ps_asg hv (pg_sub (pe_var hN hvis hd hcd) hk (PSet.or set_list (set_dict hu)) ha) hs hw h1) fun D σ H q => put_of q
end
end Zk
namespace Zk
open PySem PySem.Spec PyProof.Rows L2

/-- a def by data: from the arguments its end, how deep it is new, and the changed argument behind it -/
abbrev Mir := List D → Option (D × Nat × D)
section
variable {K : PySem.W.Frag} {Z Z' Zf Z0 : Addr → Prop} {H H' H0 : Hp} {σ : L2.St} {E E' : Ev} {R R' R0 : Rs}
/-- the promise: the argument at io may be changed (it is flat, and ours), the others are frozen -/
def spM (K : PySem.W.Frag) (io : Option Nat) (np : Nat) (M : Mir) : Sp := fun vs H Q _ => ∃ (Z : Addr → Prop) (ds : List D) (rs : Rs), vs.length = np ∧ ds.length = np ∧ (∀ a, Z a → H a ≠ none) ∧
  (∀ i v d, vs[i]? = some v → ds[i]? = some d → if io = some i then flat d = true ∧ Own K Z H 1 v d (rs i) else Rp K Z H v d) ∧ (∀ i, (io = some i → np ≤ i) → rs i = []) ∧ (∀ i, (rs i).Nodup) ∧
  ∃ d n out, M ds = some (d, n, out) ∧ ∀ v Z' H' rs' rr, Step Z H (ow rs) Z' H' (ow rs') → (∀ a, Z' a → H' a ≠ none) →
    (∀ i w, io = some i → vs[i]? = some w → flat out = true ∧ Own K Z' H' 1 w out (rs' i)) → (∀ i, io ≠ some i → rs' i = []) → (∀ i, (rs' i).Nodup) → Own K Z' H' n v d rr → Fr rs H rs' rr → Q v H'
/-- the slots at the entry -/
def ent (io : Option Nat) : Nat → List D → Ev
  | _, [] => []
  | i, d :: ds => some (d, if io = some i then 1 else 0) :: ent io (i + 1) ds
theorem ent_len (io : Option Nat) : ∀ (i : Nat) (ds : List D), (ent io i ds).length = ds.length
  | _, [] => rfl
  | i, d :: ds => by simp [ent, ent_len io (i + 1) ds]
theorem ent_get (io : Option Nat) : ∀ (i : Nat) (ds : List D) (j : Nat), (ent io i ds)[j]? = (ds[j]?).map fun d => some (d, if io = some (i + j) then 1 else 0)
  | _, [], j => by simp [ent]
  | i, d :: ds, 0 => by simp [ent]
  | i, d :: ds, j + 1 => by
    simp only [ent, List.getElem?_cons_succ]
    rw [ent_get io (i + 1) ds j]
    have e : i + 1 + j = i + (j + 1) := by omega
    rw [e]
def ent0 (io : Option Nat) (N : Nat) (ds : List D) : Ev := ent io 0 ds ++ List.replicate (N - ds.length) none
/-- what stands at the changed slot -/
def outAt (io : Option Nat) (E : Ev) : Option D := match io with
  | none => some .non
  | some i => match eg E i with
    | some (d, n + 1) => if flat d = true then some d else none
    | _ => none
def mDef (io : Option Nat) (N : Nat) (f : Fs) : Mir := fun ds => (f (ent0 io N ds)).bind fun p => match p.1 with
  | .nx => (outAt io p.2).map fun o => (.non, 9, o)
  | .rt d n => (outAt io p.2).map fun o => (d, n, o)
  | _ => none
theorem Own.flatTo {n m : Nat} {v : V} {d : D} {rs : List Addr} (f : flat d = true) (h : Own K Z H (n + 1) v d rs) (nz : ∀ a ∈ rs, ¬ Z' a) : Own K Z' H (m + 1) v d rs := by
  have tp : ∀ a o, H a = some o → ¬ Mut (some o) → H a = some o := fun _ _ h _ => h
  cases d with
  | lst ds =>
    have i : imms ds = true := by simpa [flat] using f
    obtain ⟨a, vs, rss, e, ha, z, al, er⟩ := h
    obtain ⟨r, e2⟩ := al.immRps i
    subst er
    exact ⟨a, vs, _, e, ha, nz a List.mem_cons_self, All3.ofRpsI (r.immz tp i) i, by rw [e2, flat_nils]⟩
  | dK ds =>
    have i : imms (ds.map (·.2)) = true := by simpa [flat] using f
    obtain ⟨a, vs, rss, e, ha, z, e1, al, er⟩ := h
    obtain ⟨r, e2⟩ := al.immRps i
    subst er
    exact ⟨a, vs, _, e, ha, nz a List.mem_cons_self, e1, All3.ofRpsI (r.immz tp i) i, by rw [e2, flat_nils]⟩
  | dT ds =>
    have i : imms (ds.map (·.2)) = true := by simpa [flat] using f
    obtain ⟨a, vs, rss, e, ha, z, e1, al, er⟩ := h
    obtain ⟨r, e2⟩ := al.immRps i
    subst er
    exact ⟨a, vs, _, e, ha, nz a List.mem_cons_self, e1, All3.ofRpsI (r.immz tp i) i, by rw [e2, flat_nils]⟩
  | set xs =>
    obtain ⟨a, T, k, e, ha, z, e1, e2, e3, er⟩ := h
    subst er
    exact ⟨a, T, k, e, ha, nz a (by simp), e1, e2, e3, rfl⟩
  | _ => simp [flat] at f
/-- a def's body: its promise -/
theorem body_of {io : Option Nat} {N : List Str} {w : List Nat} {f : Fs} {vs : List V} {np : Nat} {Q : VK} {X : XK} (hN : np ≤ N.length) (hio : ∀ i, io = some i → i ∉ w) (q : spM K io np (mDef io N.length f) vs H Q X) :
    sOf K w f { nx := fun _ H' => Q .non H', rt := Q } (L2.start N vs) H := by
  obtain ⟨Z, ds, rs, lv, ld, hz, args, rn, rnd, d, n, out, e, q⟩ := q
  have st : ∀ i, (L2.start N vs)[i]? = if i < np then (vs[i]?).map some else if i < N.length then some none else none := fun i => by
    unfold L2.start
    by_cases h : i < np
    · rw [if_pos h, List.getElem?_append_left (by simp; omega), List.getElem?_map]
    · rw [if_neg h, List.getElem?_append_right (by simp; omega), List.getElem?_replicate]
      simp only [List.length_map]
      split <;> split <;> first | rfl | omega
  have se : ∀ i, eg (ent0 io N.length ds) i = (ds[i]?).map fun d => (d, if io = some i then 1 else 0) := fun i => by
    unfold eg ent0
    by_cases h : i < ds.length
    · rw [List.getElem?_append_left (by rw [ent_len]; exact h), ent_get]
      cases ds[i]? <;> simp
    · rw [List.getElem?_append_right (by rw [ent_len]; omega), List.getElem?_replicate, List.getElem?_eq_none (by omega)]
      split <;> rfl
  have s : S K Z H (L2.start N vs) (ent0 io N.length ds) rs := by
    refine ⟨?_, fun i d n e => ?_, fun i e => ?_, rnd, fun i j a h1 h2 => ?_, hz⟩
    · unfold L2.start ent0
      simp [ent_len, lv, ld]
    · rw [se] at e
      cases g : ds[i]? with
      | none => rw [g] at e; cases e
      | some d' =>
        rw [g] at e
        cases e
        have hi : i < np := by have := (List.getElem?_eq_some_iff.mp g).1; omega
        have hv : i < vs.length := by omega
        refine ⟨vs[i], by rw [st, if_pos hi, List.getElem?_eq_getElem hv]; rfl, ?_⟩
        have a := args i vs[i] _ (List.getElem?_eq_getElem hv) g
        by_cases c : io = some i
        · rw [if_pos c] at a ⊢; exact a.2
        · rw [if_neg c] at a ⊢; exact ⟨rn i (fun z => absurd z c), a⟩
    · by_cases c : io = some i
      · rw [se] at e
        cases g : ds[i]? with
        | some d' => rw [g] at e; cases e
        | none =>
          have hi : ¬ i < np := by
            intro h
            rw [List.getElem?_eq_getElem (by omega)] at g; cases g
          exact rn i fun _ => by omega
      · exact rn i fun z => absurd z c
    · by_cases c1 : io = some i
      · by_cases c2 : io = some j
        · rw [c1] at c2; exact Option.some.inj c2
        · rw [rn j (fun z => absurd z c2)] at h2; simp at h2
      · rw [rn i (fun z => absurd z c1)] at h1; simp at h1
  unfold mDef at e
  cases e1 : f (ent0 io N.length ds) with
  | none => rw [e1] at e; cases e
  | some p =>
    obtain ⟨fl, E'⟩ := p
    rw [e1] at e
    simp only [Option.bind_some] at e
    refine ⟨Z, _, rs, s, fl, E', e1, fun σ' Z' H' R' s' t' k' => ?_⟩
    have fin : ∀ (d0 : D) (n0 : Nat), (outAt io E').map (fun o => (d0, n0, o)) = some (d, n, out) → ∀ v rr, Own K Z' H' n0 v d0 rr → Fr rs H R' rr → Q v H' := fun d0 n0 e v rr o fr => by
      cases g : outAt io E' with
      | none => rw [g] at e; cases e
      | some o' =>
        rw [g] at e
        cases e
        refine q v Z' H' (fun i => if io = some i then R' i else []) rr ⟨t'.zz, t'.zn, t'.hh, fun a ⟨i, h⟩ => ?_, t'.dm⟩ s'.zd (fun i w hio' hw => ?_) (fun i hi => if_neg hi) (fun i => ?_) o ⟨fr.nd, fun a m ⟨i, h⟩ => ?_, fr.of⟩
        · simp only at h
          split at h
          · exact t'.on a ⟨i, h⟩
          · simp at h
        · subst hio'
          simp only [outAt] at g
          cases g2 : eg E' i with
          | none => rw [g2] at g; cases g
          | some dn =>
            obtain ⟨d1, n1⟩ := dn
            cases n1 with
            | zero => rw [g2] at g; cases g
            | succ n1 =>
              rw [g2] at g
              simp only at g
              split at g
              · rename_i hf
                cases g
                obtain ⟨u, hu, ou⟩ := s'.slot i _ _ g2
                have hi : i < vs.length := (List.getElem?_eq_some_iff.mp hw).1
                rw [k' i (hio i rfl), st, if_pos (by omega), hw] at hu
                cases hu
                rw [if_pos rfl]
                exact ⟨hf, ou.flatTo hf fun a m => (ou.mut a m).2⟩
              · cases g
        · split
          · exact s'.nd i
          · exact List.nodup_nil
        · simp only at h
          split at h
          · exact fr.no a m ⟨i, h⟩
          · simp at h
    cases fl with
    | nx => exact fin _ _ e .non [] (Own.ofImm .non (by simp)) .nil
    | rt d0 n0 => exact fin _ _ e
    | bk => cases e
    | ct => cases e
end
end Zk
namespace Zk
open PySem PySem.Spec PyProof.Rows L2

def isSlot (j : Nat) : Op → Bool
  | .slot i => i == j
  | _ => false
def dem1 (E : Ev) : Op → Ev
  | .slot j => match eg E j with
    | some (d, _) => if imm d = true then E else E.set j (some (d, 0))
    | none => E
  | _ => E
def dem (E : Ev) (os : List Op) : Ev := os.foldl dem1 E
def flAt (E : Ev) (j : Nat) : Option Nat := match eg E j with
  | some (d, n + 1) => if flat d = true then some (n + 1) else none
  | _ => none
def mCall (io : Option Nat) (M : Mir) (fa : Fa) : Fe := fun E => (fa E).bind fun p => (rdL p.2 p.1).bind fun ds => (M ds).bind fun r => match io with
  | none => if imm r.1 = true then some (.val r.1 9, p.2) else some (.val r.1 r.2.1, dem p.2 p.1)
  | some i => match p.1[i]? with
    | some (.slot j) => (flAt p.2 j).bind fun n => if (p.1.eraseIdx i).all (fun o => !isSlot j o) = true then
        (if imm r.1 = true then some (.val r.1 9, p.2.set j (some (r.2.2, n))) else some (.val r.1 r.2.1, (dem p.2 (p.1.eraseIdx i)).set j (some (r.2.2, n)))) else none
    | _ => none
section
variable {K : PySem.W.Frag} {Z Z' Zf Z0 Z1 : Addr → Prop} {H H' H0 H1 : Hp} {σ : L2.St} {E E' E1 : Ev} {R R' R0 R1 : Rs}
theorem rdL_get : ∀ {os : List Op} {ds : List D}, rdL E os = some ds → ds.length = os.length ∧ ∀ {i : Nat} {o : Op}, os[i]? = some o → ∃ d, ds[i]? = some d ∧ rd E o = some d
  | [], ds, h => by
    cases h
    exact ⟨rfl, fun h => by simp at h⟩
  | o :: os, ds, h => by
    simp only [rdL] at h
    cases q : rd E o with
    | none => rw [q] at h; cases h
    | some d =>
      rw [q] at h
      cases q2 : rdL E os with
      | none => rw [q2] at h; cases h
      | some es =>
        rw [q2] at h
        cases h
        obtain ⟨l, g⟩ := rdL_get q2
        refine ⟨by simp [l], fun {i o'} h => ?_⟩
        cases i with
        | zero => simp at h; subst h; exact ⟨d, rfl, q⟩
        | succ i => obtain ⟨d', h1, h2⟩ := g (i := i) (o := o') (by simpa using h); exact ⟨d', by simpa using h1, h2⟩
/-- the call, where the end is unchangeable or no slot that is given owns anything -/
theorem S.call (s : S K Z1 H1 σ E1 R1) (t1 : Step Z H (ow R) Z1 H1 (ow R1)) {vs : List V} {os : List Op} {rss : List (List Addr)} {ds : List D} (args : All3 (OV K Z1 H1 σ) vs os rss) (fr : Fr R H R1 rss.flatten) (hd : rdL E1 os = some ds)
    {io : Option Nat} {j n0 : Nat} (hio : ∀ i, io = some i → os[i]? = some (.slot j) ∧ flAt E1 j = some n0 ∧ ∀ p o, p ≠ i → os[p]? = some o → o ≠ .slot j) {M : Mir} {d : D} {n : Nat} {out : D} (hM : M ds = some (d, n, out))
    (hc : imm d = true ∨ ∀ p k, io ≠ some p → os[p]? = some (.slot k) → R1 k = []) {Q : VK} {X : XK}
    (q : ∀ v Z' H' R' rs, S K Z' H' σ (if io = none then E1 else E1.set j (some (out, n0))) R' → Step Z H (ow R) Z' H' (ow R') → Own K Z' H' n v d rs → Fr R H R' rs → Q v H') : spM K io os.length M vs H1 Q X := by
  have lens := args.len
  obtain ⟨ld, gd⟩ := rdL_get hd
  -- what is lent
  let bo : Addr → Prop := fun a => ∃ p k, io ≠ some p ∧ os[p]? = some (.slot k) ∧ a ∈ R1 k
  have boow : ∀ a, bo a → ow R1 a := fun a ⟨p, k, _, _, m⟩ => ⟨k, m⟩
  let Zp : Addr → Prop := fun a => Z1 a ∨ bo a ∨ a ∈ rss.flatten
  have pp : Pers Z1 H1 Zp H1 := ⟨fun _ h => .inl h, fun _ _ _ h => h, fun _ _ h _ => h⟩
  have rth : ∀ a ∈ rss.flatten, H1 a ≠ none := by
    clear hd gd ld hio hc lens fr
    revert bo Zp
    intro bo boow Zp pp
    clear boow pp
    induction args with
    | nil => intro a m; simp at m
    | cons h t ih =>
      intro a m
      rw [List.flatten_cons, List.mem_append] at m
      rcases m with m | m
      · exact OV.there h a m
      · exact ih a m
  let rs0 : Rs := fun k => if io = some k ∧ k < os.length then R1 j else []
  have rs0ow : ∀ a, ow rs0 a → io ≠ none ∧ a ∈ R1 j := fun a ⟨k, m⟩ => by
    simp only [rs0] at m
    split at m
    · rename_i h
      exact ⟨by rw [h.1]; simp, m⟩
    · simp at m
  refine ⟨Zp, ds, rs0, by rw [lens.1], ld, fun a z => ?_, fun i v dd hv hdd => ?_, fun i hi => ?_, fun i => ?_, d, n, out, hM, fun v Z' H' rs' rr t2 zd' hout rs'n rs'nd o f2 => ?_⟩
  · rcases z with z | z | z
    · exact s.zd a z
    · exact s.there (boow a z)
    · exact rth a z
  · have hio' : i < os.length := by rw [← ld]; exact (List.getElem?_eq_some_iff.mp hdd).1
    obtain ⟨v', rsi, h1, h2, ovi⟩ := args.get (List.getElem?_eq_getElem hio')
    rw [hv] at h1
    cases h1
    obtain ⟨d', h3, h4⟩ := gd (List.getElem?_eq_getElem hio')
    rw [hdd] at h3
    cases h3
    by_cases c : io = some i
    · rw [if_pos c]
      obtain ⟨g1, g2, g3⟩ := hio i c
      rw [List.getElem?_eq_getElem hio'] at g1
      have eo := Option.some.inj g1
      rw [eo] at ovi h4
      unfold flAt at g2
      cases g : eg E1 j with
      | none => rw [g] at g2; cases g2
      | some dn =>
        obtain ⟨d1, n1⟩ := dn
        cases n1 with
        | zero => rw [g] at g2; cases g2
        | succ n1 =>
          rw [g] at g2
          simp only at g2
          split at g2
          · rename_i hf
            simp only [Zk.rd, g, Option.map_some, Option.some.injEq] at h4
            subst h4
            obtain ⟨u, hu, ou⟩ := s.slot j _ _ g
            rw [ovi.1] at hu
            cases hu
            refine ⟨hf, ?_⟩
            have e0 : rs0 i = R1 j := if_pos ⟨c, hio'⟩
            rw [e0]
            refine ou.flatTo hf fun a m z => ?_
            rcases z with z | ⟨p, k, hp, hk, mk⟩ | z
            · exact (ou.mut a m).2 z
            · have ek := s.dj j k a m mk
              subst ek
              exact g3 p _ (fun e => hp (by rw [c, e])) hk rfl
            · exact fr.no a z ⟨j, m⟩
          · cases g2
    · rw [if_neg c]
      cases ho : os[i] with
      | slot k =>
        rw [ho] at ovi h4
        simp only [Zk.rd] at h4
        cases g : eg E1 k with
        | none => rw [g] at h4; cases h4
        | some dn =>
          rw [g] at h4
          cases h4
          obtain ⟨u, hu, ou⟩ := s.slot k _ _ g
          rw [ovi.1] at hu
          cases hu
          exact ou.freeze pp fun a m => ⟨rfl, .inr (.inl ⟨i, k, c, by rw [List.getElem?_eq_getElem hio', ho], m⟩)⟩
      | val d2 n2 =>
        rw [ho] at ovi h4
        cases h4
        exact Own.freeze pp (fun a m => ⟨rfl, .inr (.inr (mem_flatten_of (List.mem_of_getElem? h2) m))⟩) ovi
  · exact if_neg fun h => by
      have := hi h.1
      omega
  · simp only [rs0]
    split
    · exact s.nd j
    · exact List.nodup_nil
  -- behind the call
  have bo0 : (imm d = true) ∨ ∀ a, ¬ bo a := hc.imp id fun h a ⟨p, k, h1, h2, m⟩ => by
    rw [h p k h1 h2] at m; simp at m
  let Z2 : Addr → Prop := fun a => Z' a ∧ ¬ bo a
  have rs0R : ∀ a, ow rs0 a → ow R1 a := fun a h => ⟨j, (rs0ow a h).2⟩
  have same : ∀ a, (∃ o, H1 a = some o) → ¬ ow rs0 a → H' a = H1 a := fun a ⟨o, ho⟩ h => by rw [ho]; exact t2.hh a o ho h
  have tp : ∀ a o, H1 a = some o → ¬ Mut (some o) → H' a = some o := fun a o ho hm => t2.hh a o ho fun h => hm (by have := (s.owns (rs0R a h)).1; rw [ho] at this; exact this)
  have p2 : Pers Z1 H1 Z2 H' := ⟨fun a z => ⟨t2.zz a (.inl z), fun b => (s.owns (boow a b)).2 z⟩, fun a o z ho => t2.hh a o ho fun h => (s.owns (rs0R a h)).2 z, tp⟩
  have z2no : ∀ a, ow R1 a → ¬ ow rs0 a → ¬ Z2 a := fun a h h0 z => by
    rcases t2.zn a z.1 with (y | y | y) | y | y
    · exact (s.owns h).2 y
    · exact z.2 y
    · exact fr.no a y h
    · exact s.there h y
    · exact h0 y
  let R2 : Rs := fun k => if io ≠ none ∧ k = j then rs' (io.getD 0) else R1 k
  have ow2 : ∀ a, ow R2 a → ow R1 a ∨ ow rs' a := fun a ⟨k, m⟩ => by
    simp only [R2] at m
    split at m
    · exact .inr ⟨_, m⟩
    · exact .inl ⟨k, m⟩
  have rs'on : ∀ a, ow rs' a → ow rs0 a ∨ H1 a = none := t2.on
  have j0 : ∀ i, io = some i → j < E1.length ∧ ∃ w, σ[j]? = some (some w) ∧ vs[i]? = some w := fun i c => by
    obtain ⟨g1, g2, g3⟩ := hio i c
    unfold flAt at g2
    cases g : eg E1 j with
    | none => rw [g] at g2; cases g2
    | some dn =>
      refine ⟨eg_lt g, ?_⟩
      have hi := (List.getElem?_eq_some_iff.mp g1).1
      obtain ⟨v', rsi, h1, h2, ovi⟩ := args.get g1
      exact ⟨v', ovi.1, h1⟩
  have s2 : S K Z2 H' σ (if io = none then E1 else E1.set j (some (out, n0))) R2 := by
    have old : ∀ k d n, eg E1 k = some (d, n) → (∀ i, io = some i → k ≠ j) → ∃ v, σ[k]? = some (some v) ∧ Own K Z2 H' n v d (R1 k) := fun k d n g hk => by
      obtain ⟨u, hu, ou⟩ := s.slot k d n g
      have nrs : ∀ a ∈ R1 k, ¬ ow rs0 a := fun a m h => by
        obtain ⟨h1, h2⟩ := rs0ow a h
        cases hio2 : io with
        | none => exact h1 hio2
        | some i => exact hk i hio2 (s.dj k j a m h2)
      refine ⟨u, hu, ou.keep p2 fun a m => ⟨same a ?_ (nrs a m), z2no a ⟨k, m⟩ (nrs a m)⟩⟩
      cases hh : H1 a with
      | none => exact absurd hh (s.there ⟨k, m⟩)
      | some o => exact ⟨o, rfl⟩
    cases hio2 : io with
    | none =>
      rw [if_pos rfl]
      have eR : R2 = R1 := by funext k; exact if_neg fun h => h.1 hio2
      rw [eR]
      exact ⟨s.len, fun k d n g => old k d n g (fun i e => by rw [hio2] at e; cases e), s.emp, s.nd, s.dj, fun a z => zd' a z.1⟩
    | some i =>
      rw [if_neg (by simp)]
      obtain ⟨hj, w, hw, hvw⟩ := j0 i hio2
      obtain ⟨fo, oo⟩ := hout i w hio2 hvw
      have eR : R2 = put R1 j (rs' i) := by
        funext k
        simp only [R2, hio2, put, Option.getD_some]
        by_cases c : k = j <;> simp [c]
      have nR : ∀ a ∈ rs' i, ∀ k, k ≠ j → a ∉ R1 k := fun a m k hk mk => by
        rcases rs'on a ⟨i, m⟩ with h | h
        · exact hk (s.dj k j a mk (rs0ow a h).2)
        · exact s.there ⟨k, mk⟩ h
      rw [eR]
      refine ⟨by simp [s.len], fun k d n g => ?_, fun k g => ?_, fun k => ?_, fun k l a h1 h2 => ?_, fun a z => zd' a z.1⟩
      · by_cases c : k = j
        · subst c
          rw [eg_set_same hj] at g
          cases g
          refine ⟨w, hw, ?_⟩
          rw [put_same]
          obtain ⟨_, g2, _⟩ := hio i hio2
          have e0 : ∃ n1, n0 = n1 + 1 := by
            unfold flAt at g2
            split at g2
            · split at g2
              · cases g2; exact ⟨_, rfl⟩
              · cases g2
            · cases g2
          obtain ⟨n1, e0⟩ := e0
          rw [e0]
          exact oo.flatTo fo fun a m z => (oo.mut a m).2 z.1
        · rw [eg_set_ne c] at g
          rw [put_ne c]
          exact old k d n g fun _ _ => c
      · by_cases c : k = j
        · subst c; rw [eg_set_same hj] at g; cases g
        · rw [eg_set_ne c] at g; rw [put_ne c]; exact s.emp k g
      · by_cases c : k = j
        · subst c; rw [put_same]; exact rs'nd i
        · rw [put_ne c]; exact s.nd k
      · by_cases c : k = j
        · subst c
          rw [put_same] at h1
          by_cases c2 : l = k
          · exact c2.symm
          · rw [put_ne c2] at h2; exact absurd h2 (nR a h1 l c2)
        · rw [put_ne c] at h1
          by_cases c2 : l = j
          · subst c2; rw [put_same] at h2; exact absurd h1 (nR a h2 k c)
          · rw [put_ne c2] at h2; exact s.dj k l a h1 h2
  have back : ∀ a, H1 a = none → H a = none := fun a h => by
    cases c : H a with
    | none => rfl
    | some o => exact absurd h (t1.dm a (by rw [c]; simp))
  have t3 : Step Z H (ow R) Z2 H' (ow R2) := by
    refine ⟨fun a z => p2.zz a (t1.zz a z), fun a z => ?_, fun a o ho h => ?_, fun a h => ?_, fun a h => t2.dm a (t1.dm a h)⟩
    · rcases t2.zn a z.1 with (y | y | y) | y | y
      · exact t1.zn a y
      · exact absurd y z.2
      · rcases fr.of a y with y | y
        · exact .inr (.inr y)
        · exact .inr (.inl y)
      · exact .inr (.inl (back a y))
      · rcases t1.on a (rs0R a y) with y | y
        · exact .inr (.inr y)
        · exact .inr (.inl y)
    · refine t2.hh a o (t1.hh a o ho h) fun h0 => ?_
      rcases t1.on a (rs0R a h0) with y | y
      · exact h y
      · rw [ho] at y; cases y
    · rcases ow2 a h with y | y
      · exact t1.on a y
      · rcases rs'on a y with y | y
        · exact t1.on a (rs0R a y)
        · exact .inr (back a y)
  have fro : ∀ a ∈ rr, ¬ ow R2 a := fun a m h => by
    rcases ow2 a h with y | y
    · rcases f2.of a m with z | z
      · -- the slot j alone
        obtain ⟨k, mk⟩ := h
        obtain ⟨h1, h2⟩ := rs0ow a z
        simp only [R2] at mk
        split at mk
        · exact f2.no a m ⟨_, mk⟩
        · rename_i hk
          exact hk ⟨h1, s.dj k j a mk h2⟩
      · exact s.there y z
    · exact f2.no a m y
  have frf : ∀ a ∈ rr, ow R a ∨ H a = none := fun a m => by
    rcases f2.of a m with z | z
    · exact t1.on a (rs0R a z)
    · exact .inr (back a z)
  rcases bo0 with hi | hb
  · obtain ⟨rfl, rp⟩ := o.imm hi
    exact q v Z2 H' R2 [] s2 t3 (Own.ofImm (rp.immz (fun _ _ h _ => h) hi) hi) ⟨List.nodup_nil, fun a m => by simp at m, fun a m => by simp at m⟩
  · have eZ : Z2 = Z' := by
      funext a
      simp only [Z2, eq_iff_iff]
      exact ⟨fun h => h.1, fun h => ⟨h, hb a⟩⟩
    rw [eZ] at s2 t3
    exact q v Z' H' R2 rr s2 t3 o ⟨f2.nd, fro, frf⟩

/-- slots that are given are frozen -/
theorem S.demL : ∀ (os : List Op) {Z1 : Addr → Prop} {E1 : Ev} {R1 : Rs}, S K Z1 H1 σ E1 R1 → ∃ Z2 R2, S K Z2 H1 σ (dem E1 os) R2 ∧ Step Z1 H1 (ow R1) Z2 H1 (ow R2) ∧ (∀ k, Op.slot k ∈ os → R2 k = []) ∧ (∀ k, R1 k = [] → R2 k = []) ∧
    (∀ j, Op.slot j ∉ os → eg (dem E1 os) j = eg E1 j) ∧ (∀ o d, rd E1 o = some d → rd (dem E1 os) o = some d)
  | [], Z1, E1, R1, s => ⟨Z1, R1, s, .refl, fun k h => by simp at h, fun _ h => h, fun _ _ => rfl, fun _ _ h => h⟩
  | o :: os, Z1, E1, R1, s => by
    have one : ∃ Z2 R2, S K Z2 H1 σ (dem1 E1 o) R2 ∧ Step Z1 H1 (ow R1) Z2 H1 (ow R2) ∧ (∀ k, o = .slot k → R2 k = []) ∧ (∀ k, R1 k = [] → R2 k = []) ∧ (∀ j, o ≠ .slot j → eg (dem1 E1 o) j = eg E1 j) ∧ (∀ o' d, rd E1 o' = some d → rd (dem1 E1 o) o' = some d) := by
      cases o with
      | val d n => exact ⟨Z1, R1, s, .refl, (fun k h => nomatch h), (fun _ h => h), (fun _ _ => rfl), fun _ _ h => h⟩
      | slot k =>
        cases g : eg E1 k with
        | none =>
          have ed : dem1 E1 (.slot k) = E1 := by simp [dem1, g]
          rw [ed]
          exact ⟨Z1, R1, s, .refl, (fun k' h => by cases h; exact s.emp k g), (fun _ h => h), (fun _ _ => rfl), fun _ _ h => h⟩
        | some dn =>
          obtain ⟨d, n⟩ := dn
          by_cases i : imm d = true
          · have ed : dem1 E1 (.slot k) = E1 := by simp [dem1, g, i]
            rw [ed]
            refine ⟨Z1, R1, s, .refl, (fun k' h => ?_), (fun _ h => h), (fun _ _ => rfl), fun _ _ h => h⟩
            cases h
            obtain ⟨u, _, ou⟩ := s.slot k d n g
            exact (ou.imm i).1
          · have ed : dem1 E1 (.slot k) = E1.set k (some (d, 0)) := by simp [dem1, g, i]
            rw [ed]
            obtain ⟨s1, t1, f1⟩ := s.freeze g
            refine ⟨_, _, s1, t1, (fun k' h => by cases h; exact put_same), (fun k' h => ?_), (fun j hj => eg_set_ne fun e => hj (by rw [e])), fun o' d' h => ?_⟩
            · by_cases c : k' = k
              · subst c; exact put_same
              · rw [put_ne c]; exact h
            · cases o' with
              | val _ _ => exact h
              | slot j =>
                simp only [Zk.rd] at h ⊢
                by_cases c : j = k
                · subst c
                  rw [g] at h
                  rw [eg_set_same (eg_lt g)]
                  exact h
                · rw [eg_set_ne c]; exact h
    obtain ⟨Z2, R2, s2, t2, a2, b2, c2, d2⟩ := one
    obtain ⟨Z3, R3, s3, t3, a3, b3, c3, d3⟩ := S.demL os s2
    refine ⟨Z3, R3, s3, t2.trans t3, fun k h => ?_, fun k h => b3 k (b2 k h), fun j h => ?_, fun o' d h => d3 o' d (d2 o' d h)⟩
    · rcases List.mem_cons.mp h with h | h
      · exact b3 k (a2 k h.symm)
      · exact a3 k h
    · rw [List.mem_cons, not_or] at h
      exact (c3 j h.2).trans (c2 j fun e => h.1 e.symm)
theorem rdL_mono {E E' : Ev} (h : ∀ o d, rd E o = some d → rd E' o = some d) : ∀ {os : List Op} {ds : List D}, rdL E os = some ds → rdL E' os = some ds
  | [], _, e => e
  | o :: os, ds, e => by
    simp only [rdL] at e ⊢
    cases q : rd E o with
    | none => rw [q] at e; cases e
    | some d =>
      rw [q] at e
      cases q2 : rdL E os with
      | none => rw [q2] at e; cases e
      | some es =>
        rw [q2] at e
        rw [h o d q, rdL_mono h q2]
        exact e
theorem call_of {io : Option Nat} {M : Mir} {fa : Fa} {Q : VK} {X : XK} {H : Hp} (q : eOf K (mCall io M fa) σ H Q) : aOf K fa σ H fun vs H1 => spM K io vs.length M vs H1 Q X := by
  obtain ⟨Z, E, R, s, o, E', e, q⟩ := q
  unfold mCall at e
  cases e1 : fa E with
  | none => rw [e1] at e; cases e
  | some p =>
    obtain ⟨os, E1⟩ := p
    rw [e1] at e
    simp only [Option.bind_some] at e
    cases e2 : rdL E1 os with
    | none => rw [e2] at e; cases e
    | some ds =>
      rw [e2] at e
      simp only [Option.bind_some] at e
      cases e3 : M ds with
      | none => rw [e3] at e; cases e
      | some r =>
        obtain ⟨d, n, out⟩ := r
        rw [e3] at e
        simp only [Option.bind_some] at e
        refine ⟨Z, E, R, s, os, E1, e1, fun vs Z1 H1 R1 rss s1 t1 a1 f1 => ?_⟩
        show spM K io vs.length M vs H1 Q X
        rw [a1.len.1]
        -- the arguments behind some are frozen
        have args' : ∀ {Z2 : Addr → Prop} {E2 : Ev} {R2 : Rs}, S K Z2 H1 σ E2 R2 → Step Z1 H1 (ow R1) Z2 H1 (ow R2) → All3 (OV K Z2 H1 σ) vs os rss ∧ Fr R H R2 rss.flatten := fun {Z2 E2 R2} s2 t2 => by
          refine ⟨a1.imp fun v' o' rs' m hh => ?_, ⟨f1.nd, fun a m h => ?_, f1.of⟩⟩
          · cases o' with
            | slot k => exact hh
            | val d' n' => exact (s1.pend t2 hh fun a ma => f1.no a (mem_flatten_of m ma)).1
          · rcases t2.on a h with z | z
            · exact f1.no a m z
            · have : ∀ {vs : List V} {os : List Op} {rss : List (List Addr)}, All3 (OV K Z1 H1 σ) vs os rss → ∀ a ∈ rss.flatten, H1 a ≠ none := by
                intro vs os rss h
                induction h with
                | nil => intro a m; simp at m
                | cons h t ih =>
                  intro a m
                  rw [List.flatten_cons, List.mem_append] at m
                  rcases m with m | m
                  · exact OV.there h a m
                  · exact ih a m
              exact this a1 a m z
        cases io with
        | none =>
          simp only at e
          split at e
          · rename_i hi
            cases e
            refine s1.call (j := 0) (n0 := 0) t1 a1 f1 e2 (fun i h => by cases h) e3 (.inl hi) fun v Z' H' R' rs s' t' o' f' => ?_
            obtain ⟨rfl, rp⟩ := o'.imm hi
            exact q v Z' H' R' [] s' t' (Own.ofImm rp hi) .nil
          · cases e
            obtain ⟨Z2, R2, s2, t2, g2, b2, c2, d2⟩ := s1.demL os
            obtain ⟨a3, f3⟩ := args' s2 t2
            exact s2.call (j := 0) (n0 := 0) (t1.trans t2) a3 f3 (rdL_mono d2 e2) (fun i h => by cases h) e3 (.inr fun p k _ h => g2 k (List.mem_of_getElem? h)) fun v Z' H' R' rs s' t' o' f' => q v Z' H' R' rs s' t' o' f'
        | some i =>
          simp only at e
          split at e
          · rename_i j hj
            cases e4 : flAt E1 j with
            | none => rw [e4] at e; cases e
            | some n0 =>
              rw [e4] at e
              simp only [Option.bind_some] at e
              split at e
              · rename_i hall
                have alone : ∀ p o, p ≠ i → os[p]? = some o → o ≠ .slot j := fun p o hp ho ee => by
                  have m : o ∈ os.eraseIdx i := by
                    rw [List.mem_eraseIdx_iff_getElem?]
                    exact ⟨p, hp, ho⟩
                  have := List.all_eq_true.mp hall o m
                  rw [ee] at this
                  simp [isSlot] at this
                split at e
                · rename_i hi
                  cases e
                  refine s1.call (j := j) (n0 := n0) t1 a1 f1 e2 (fun i' h => by cases h; exact ⟨hj, e4, alone⟩) e3 (.inl hi) fun v Z' H' R' rs s' t' o' f' => ?_
                  obtain ⟨rfl, rp⟩ := o'.imm hi
                  exact q v Z' H' R' [] (by simpa using s') t' (Own.ofImm rp hi) .nil
                · cases e
                  obtain ⟨Z2, R2, s2, t2, g2, b2, c2, d2⟩ := s1.demL (os.eraseIdx i)
                  obtain ⟨a3, f3⟩ := args' s2 t2
                  have nj : Op.slot j ∉ os.eraseIdx i := fun m => by
                    have := List.all_eq_true.mp hall _ m
                    simp [isSlot] at this
                  refine s2.call (j := j) (n0 := n0) (t1.trans t2) a3 f3 (rdL_mono d2 e2) (fun i' h => by
                    cases h
                    refine ⟨hj, ?_, alone⟩
                    unfold flAt at e4 ⊢
                    rw [c2 j nj]; exact e4) e3 (.inr fun p k hp h => g2 k ?_) fun v Z' H' R' rs s' t' o' f' => q v Z' H' R' rs (by simpa using s') t' o' f'
                  rw [List.mem_eraseIdx_iff_getElem?]
                  exact ⟨p, fun e => hp (by rw [e]), h⟩
              · cases e
          · cases e
end
section
variable {P : Program} {w : World} {K : PySem.W.Frag} {mg : Str → Option Value} {base : Heap}
theorem spM_len {io : Option Nat} {np : Nat} {M : Mir} {vs : List V} {H : Hp} {Q : VK} {X : XK} (h : spM K io np M vs H Q X) : vs.length = np := by
  obtain ⟨_, _, _, h, _⟩ := h
  exact h
/-- a def of the text keeps the promise of its mirror -/
theorem _root_.L2.Fun.zk {x qual : Str} {st : Stmt} {f : Addr} {fd : FuncData} {N ps : List Str} {k : Nat} {wr : List Nat} {fs : Fs} (F : Fun K x qual st f fd) (Sc : FnScope N ps (defScope st)) (io : Option Nat) (hN : ps.length ≤ N.length) (hio : ∀ i, io = some i → i ∉ wr)
    (hb : ∀ (cdv : Value) (A : Around) (outer : List Env) (s : Shared) (H : Hp) (E : XK), Room k (A.deeper (envOfC qual (defScope st) s.heap.objs.size f cdv)) →
      ASs (cxOf CX0 P w K mg base N qual (defScope st) f cdv A outer s H E).nox (defBody st) wr fs) : FnOk P w K mg base CX0 (k + 1) f fd ps (spM K io ps.length (mDef io N.length fs)) :=
  F.ok Sc (fun vs H Q E h => spM_len h) fun cdv A outer s H vs Q E hr h => ⟨_, hb cdv A outer s H E hr, body_of hN hio h⟩
theorem Room.u65 {k : Nat} {A : Around} (hr : Room k A) : A.units + 65 < cLine := by have := hr.un; omega
variable {X : Cx} {k : Nat} {f : Addr} {fd : FuncData} {ps : List Str} {x : Str} {p pos : PySem.Pos} {e : Expr} {es : List Expr} {fa : Fa} {M : Mir} {io : Option Nat}
theorem PA.len {t : TA} (h : PA X es t) : True := trivial
/-- f(e, ..) -/
theorem ae_call {np : Nat} (F : FnOk X.prog X.w X.K X.mg X.base CX0 k f fd ps (spM X.K io np M)) (hr : Room k X.A) (hg : Gl X x) (hm : X.mg x = some (.ref f)) (hk : PySem.W.keepIn X.K (.ref f) = true) (hb : Binds X.K fd ps []) (ha : AA X (e :: es) fa)
    (hnp : ∀ E os E', fa E = some (os, E') → os.length = np) (hdb : (x == ("__debug__" : Str)) = false := by decide) (he : starEach (e :: es) X.env = (false, eval e X.env) :: starEach es X.env := by rfl) (hpl : (backTo pos (starEach es X.env)).any (·.1) = false := by rfl) :
    AE X (.Call (.Name x p) (e :: es) [] pos) (mCall io M fa) := PE.mono (pe_call F hr hg hm hk hb .nil pass0 ha hdb he hpl) fun σ H Q q => by
  obtain ⟨Z, E, R, s, os, E', e1, q⟩ := call_of (X := E0) q
  refine ⟨Z, E, R, s, os, E', e1, fun vs Z' H' R' rss s' t' a' f' => ?_⟩
  have h : spM X.K io vs.length M vs H' Q E0 := q vs Z' H' R' rss s' t' a' f'
  show spM X.K io np M (vs ++ []) H' Q E0
  rw [List.append_nil]
  rw [a'.len.1, hnp E os E' e1] at h
  exact h
theorem np0 : ∀ E os E', mA0 E = some (os, E') → os.length = 0 := fun E os E' h => by cases h; rfl
theorem npc {a : Fe} {b : Fa} {n : Nat} (h : ∀ E os E', b E = some (os, E') → os.length = n) : ∀ E os E', mAc a b E = some (os, E') → os.length = n + 1 := fun E os E' e => by
  unfold mAc at e
  cases e1 : a E with
  | none => rw [e1] at e; cases e
  | some p =>
    rw [e1] at e
    simp only [Option.bind_some] at e
    cases e2 : b p.2 with
    | none => rw [e2] at e; cases e
    | some q =>
      rw [e2] at e
      cases e
      simp [h p.2 q.1 q.2 e2]
end
end Zk
namespace Zk
open PySem PySem.Spec PyProof.Rows L2

section
variable {K : PySem.W.Frag} {Z Z' Zf Z0 Z1 : Addr → Prop} {H H' H0 H1 : Hp} {σ σ' : L2.St} {E E' E1 : Ev} {R R' R0 R1 : Rs}
def wipeE (E : Ev) : List Nat → Ev
  | [] => E
  | i :: is => wipeE (E.set i none) is
/-- the slots is of E' as they were in E -/
def backE (E : Ev) (E' : Ev) : List Nat → Ev
  | [] => E'
  | i :: is => backE E (E'.set i (eg E i)) is
def lcM (g : Fg) (c : Ft) (f : Fe) (is : List Nat) : List D → Ev → List (D × Nat) → Option (List (D × Nat) × Ev)
  | [], E, acc => some (acc, E)
  | d :: ds, E, acc => (g d E).bind fun E1 => (c E1).bind fun q => if q.1 = true then
      (f q.2).bind fun r => (tk r.2 r.1).bind fun t => if acc.length < sizeLine then lcM g c f is ds (wipeE t.2.2 is) (acc ++ [(t.1, t.2.1)]) else none
    else lcM g c f is ds (wipeE q.2 is) acc
def mLc (it : Fi) (is : List Nat) (g : Fg) (c : Ft) (f : Fe) : Fe := fun E => (it E).bind fun p => (lcM g c f is p.1 (wipeE p.2 is) []).map fun q => (.val (.lst (q.1.map (·.1))) (uni q.1), backE p.2 q.2 is)
def mYes : Ft := fun E => some (true, E)

theorem S.sigma (s : S K Z H σ E R) (hl : σ'.length = σ.length) (h : ∀ i, eg E i ≠ none → σ'[i]? = σ[i]?) : S K Z H σ' E R :=
  ⟨by rw [hl]; exact s.len, fun i d n e => by
    obtain ⟨v, h1, h2⟩ := s.slot i d n e
    exact ⟨v, by rw [h i (by rw [e]; simp)]; exact h1, h2⟩, s.emp, s.nd, s.dj, s.zd⟩
/-- the slots is are forgotten -/
theorem S.wipe : ∀ (is : List Nat) {E : Ev} {R : Rs}, S K Z H σ E R → ∃ R', S K Z H σ (wipeE E is) R' ∧ (∀ k, k ∉ is → R' k = R k) ∧ (∀ k ∈ is, R' k = []) ∧ (∀ k, k ∉ is → eg (wipeE E is) k = eg E k) ∧ (∀ k ∈ is, eg (wipeE E is) k = none)
  | [], E, R, s => ⟨R, s, fun _ _ => rfl, fun _ h => by simp at h, fun _ _ => rfl, fun _ h => by simp at h⟩
  | i :: is, E, R, s => by
    have non : eg (E.set i none) i = none := by
      by_cases hi : i < E.length
      · exact eg_set_same hi
      · unfold eg; rw [List.getElem?_eq_none (by simp; omega)]; rfl
    obtain ⟨R', s', h1, h2, h3, h4⟩ := S.wipe is (s.dropSlot (i := i))
    refine ⟨R', s', fun k hk => ?_, fun k hk => ?_, fun k hk => ?_, fun k hk => ?_⟩
    · rw [List.mem_cons, not_or] at hk
      rw [h1 k hk.2, put_ne hk.1]
    · by_cases c : k ∈ is
      · exact h2 k c
      · have e : k = i := (List.mem_cons.mp hk).resolve_right c
        subst e
        rw [h1 k c, put_same]
    · rw [List.mem_cons, not_or] at hk
      simp only [wipeE]
      rw [h3 k hk.2, eg_set_ne hk.1]
    · by_cases c : k ∈ is
      · exact h4 k c
      · have e : k = i := (List.mem_cons.mp hk).resolve_right c
        subst e
        simp only [wipeE]
        rw [h3 k c, non]
theorem wipeE_len : ∀ (is : List Nat) (E : Ev), (wipeE E is).length = E.length
  | [], _ => rfl
  | i :: is, E => by simp only [wipeE]; rw [wipeE_len is]; simp
theorem backE_get : ∀ (is : List Nat) (E E' : Ev), (backE E E' is).length = E'.length ∧ ∀ k, eg (backE E E' is) k = if k ∈ is ∧ k < E'.length then eg E k else eg E' k
  | [], E, E' => ⟨rfl, fun k => by simp [backE]⟩
  | i :: is, E, E' => by
    obtain ⟨h1, h2⟩ := backE_get is E (E'.set i (eg E i))
    refine ⟨by simp only [backE]; rw [h1]; simp, fun k => ?_⟩
    simp only [backE]
    rw [h2 k]
    simp only [List.length_set, List.mem_cons]
    by_cases c : k ∈ is ∧ k < E'.length
    · rw [if_pos c, if_pos ⟨.inr c.1, c.2⟩]
    · rw [if_neg c]
      by_cases c2 : k = i
      · subst c2
        by_cases c3 : k < E'.length
        · rw [eg_set_same c3, if_pos ⟨.inl rfl, c3⟩]
        · rw [if_neg (fun h => c3 h.2)]
          unfold eg
          rw [List.getElem?_eq_none (by simp; omega), List.getElem?_eq_none (by omega)]
      · rw [eg_set_ne c2, if_neg]
        rintro ⟨h | h, hl⟩
        · exact c2 h
        · exact c ⟨h, hl⟩
/-- a changeable thing that is no slot's is changed -/
theorem S.free (s : S K Z H σ E R) {p : Addr} {o o' : HO} (hp : H p = some o) (mu : Mut (some o)) (no : ¬ ow R p) (nz : ¬ Z p) : S K Z (upd H p o') σ E R ∧ Pers Z H Z (upd H p o') := by
  have pz : Pers Z H Z (upd H p o') := ⟨fun _ h => h, fun b u z e => by
    have ne : b ≠ p := fun e2 => nz (by rw [← e2]; exact z)
    rw [upd_ne ne]; exact e, fun b u e n => by
    have ne : b ≠ p := fun e2 => n (by rw [e2, hp] at e; cases e; exact mu)
    rw [upd_ne ne]; exact e⟩
  refine ⟨⟨s.len, fun i d n e => ?_, s.emp, s.nd, s.dj, fun a z => ?_⟩, pz⟩
  · obtain ⟨v, h1, h2⟩ := s.slot i d n e
    exact ⟨v, h1, h2.keep pz fun a m => ⟨upd_ne fun e => no ⟨i, by rw [← e]; exact m⟩, (h2.mut a m).2⟩⟩
  · by_cases c : a = p
    · rw [c, upd_same]; simp
    · rw [upd_ne c]; exact s.zd a z
/-- a list of taken items that is no slot's, told -/
theorem S.oldList (s : S K Z H σ E R) {vs : List V} {ds : List (D × Nat)} {rss : List (List Addr)} (h : TL K Z H vs ds rss) (nd : rss.flatten.Nodup) (no : ∀ a ∈ rss.flatten, ¬ ow R a) {p : Addr} (hp : H p = some (.lst vs)) (nz : ¬ Z p) (pne : ∀ a ∈ rss.flatten, a ≠ p) :
    ∃ Zf rs, S K Zf H σ E R ∧ Own K Zf H (uni ds) (.ref p) (.lst (ds.map (·.1))) rs ∧ rs.Nodup ∧ (∀ a ∈ rs, a = p ∨ a ∈ rss.flatten) ∧ (∀ a, Z a → Zf a) ∧ (∀ a, Zf a → Z a ∨ a ∈ rss.flatten) := by
  have th := TL.there h
  have froz : ∃ Zf rs, S K Zf H σ E R ∧ Own K Zf H 1 (.ref p) (.lst (ds.map (·.1))) rs ∧ rs.Nodup ∧ (∀ a ∈ rs, a = p ∨ a ∈ rss.flatten) ∧ (∀ a, Z a → Zf a) ∧ (∀ a, Zf a → Z a ∨ a ∈ rss.flatten) := by
    refine ⟨_, [p], s.chill no th, ⟨p, vs, _, rfl, hp, fun z => ?_, All3.ofRps0 (h.froz (Z' := fun a => Z a ∨ a ∈ rss.flatten) ⟨fun _ h => .inl h, fun _ _ _ h => h, fun _ _ h _ => h⟩ fun a ma => ⟨rfl, .inr ma⟩), by rw [flat_nils]⟩, by simp, fun a ma => .inl (by simpa using ma), fun _ h => .inl h, fun _ h => h⟩
    rcases z with z | z
    · exact nz z
    · exact pne p z rfl
  unfold uni
  split
  · rename_i i
    obtain ⟨r, e⟩ := h.immR i
    exact ⟨Z, [p], s, ⟨p, vs, _, rfl, hp, nz, All3.ofRpsI r i, by rw [flat_nils]⟩, by simp, fun a ma => .inl (by simpa using ma), fun _ h => h, fun _ h => .inl h⟩
  · split
    · rename_i d hd
      split
      · rename_i a
        exact ⟨Z, p :: rss.flatten, s, ⟨p, vs, rss, rfl, hp, nz, h.all a, rfl⟩, List.nodup_cons.mpr ⟨fun z => pne p z rfl, nd⟩, fun a ma => List.mem_cons.mp ma, fun _ h => h, fun _ h => .inl h⟩
      · exact froz
    · rename_i hn _ hi
      exact absurd (by
        rw [imms_all, List.all_map, List.all_eq_true]
        intro x hx
        have := List.find?_eq_none.mp hi x hx
        simpa using this) hn
theorem wipe_same {σ σ' : L2.St} : ∀ {is : List Nat}, σ'.length = σ.length → (∀ i, i ∉ is → σ'[i]? = σ[i]?) → L2.wipe σ' is = L2.wipe σ is := fun {is} hl h => by
  apply List.ext_getElem?
  intro i
  by_cases c : i ∈ is
  · have non : ∀ τ : L2.St, i < τ.length → (L2.wipe τ is)[i]? = some none := fun τ hi => by
      have hi2 : i < (L2.wipe τ is).length := by rw [wipe_length]; exact hi
      rw [List.getElem?_eq_getElem hi2]
      cases q : (L2.wipe τ is)[i] with
      | none => rfl
      | some x =>
        have := (wipe_some (σ := τ) (vs := is) (i := i) (x := x) (by rw [List.getElem?_eq_getElem hi2, q])).2
        exact absurd c this
    by_cases hi : i < σ.length
    · rw [non σ hi, non σ' (by omega)]
    · rw [List.getElem?_eq_none (by rw [wipe_length]; omega), List.getElem?_eq_none (by rw [wipe_length]; omega)]
  · rw [wipe_out c, wipe_out c]
    exact h i c
/-- a target leaves the number of slots -/
def GL (g : Fg) : Prop := ∀ d E E', g d E = some E' → E'.length = E.length
theorem lc_of {it : Fi} {is w : List Nat} {g : Fg} {c : Ft} {f : Fe} {Q : VK} (hgl : GL g) (hw : ∀ i ∈ w, i ∈ is) (q : eOf K (mLc it is g c f) σ H Q) : tLc (iOf K it) (gOf K w g) (cOf K c) (eOf K f) is σ H Q := by
  obtain ⟨Z, E, R, s, o, E', e, q⟩ := q
  unfold mLc at e
  cases e1 : it E with
  | none => rw [e1] at e; cases e
  | some p =>
    obtain ⟨its, E1⟩ := p
    rw [e1] at e
    simp only [Option.bind_some] at e
    cases e2 : lcM g c f is its (wipeE E1 is) [] with
    | none => rw [e2] at e; cases e
    | some p2 =>
      obtain ⟨accF, EF⟩ := p2
      rw [e2] at e
      cases e
      refine ⟨Z, E, R, s, its, E1, e1, fun J Z1 H1 R1 s1 t1 ok D hD => ?_⟩
      obtain ⟨Rw, sw, w1, w2, w3, w4⟩ := s1.wipe is
      have sw : S K Z1 H1 (L2.wipe σ is) (wipeE E1 is) Rw := sw.sigma (wipe_length σ is) fun i hi => wipe_out fun m => hi (w4 i m)
      have owR : ∀ a, ow Rw a → ow R1 a := fun a ⟨k, m⟩ => by
        by_cases ck : k ∈ is
        · rw [w2 k ck] at m; simp at m
        · exact ⟨k, by rw [← w1 k ck]; exact m⟩
      have nZ1D : ¬ Z1 D := fun z => s1.zd D z hD
      have mD : More H1 (upd H1 D (.lst [])) := .upd hD
      -- the invariant
      refine ⟨fun i m H2 => ∃ Z2 E2 R2 accV accD rss, S K Z2 H2 (L2.wipe σ is) E2 R2 ∧ Step Z1 H1 (ow Rw) Z2 H2 (ow R2) ∧ (∀ k ∈ is, R2 k = []) ∧ E2.length = E1.length ∧ H2 D = some (.lst accV) ∧ ¬ Z2 D ∧ ¬ ow R2 D ∧ TL K Z2 H2 accV accD rss ∧ rss.flatten.Nodup ∧
          (∀ a ∈ rss.flatten, ¬ ow R2 a ∧ a ≠ D ∧ (ow Rw a ∨ H1 a = none)) ∧ lcM g c f is (its.drop i) E2 accD = some (accF, EF) ∧ m = its.length - i ∧ i ≤ its.length,
        ⟨its.length, Z1, wipeE E1 is, Rw, [], [], [], sw.more mD, mD.step _, w2, wipeE_len is E1, upd_same, nZ1D, fun h => sw.there h hD, .nil, by simp, fun a m => by simp at m, e2, by simp, Nat.zero_le _⟩, ?_⟩
      rintro i m H2 ⟨Z2, E2, R2, accV, accD, rss, s2, t2, r2, l2, h2D, z2D, o2D, tl, tnd, tno, e3, rfl, hi⟩
      have p2 : Pers Z1 H1 Z2 H2 := sw.pers t2
      by_cases hlt : i < its.length
      · right
        refine ⟨ok.go Z2 H2 i p2 hlt, ?_⟩
        rw [List.drop_eq_getElem_cons hlt] at e3
        simp only [lcM] at e3
        cases e4 : g its[i] E2 with
        | none => rw [e4] at e3; cases e3
        | some E3 =>
          rw [e4] at e3
          simp only [Option.bind_some] at e3
          cases e5 : c E3 with
          | none => rw [e5] at e3; cases e3
          | some p5 =>
            obtain ⟨b, E5⟩ := p5
            rw [e5] at e3
            simp only [Option.bind_some] at e3
            -- what stands behind a turn
            refine ⟨fun H6 => ∃ m', m' < its.length - i ∧ ∃ Z2 E2 R2 accV accD rss, S K Z2 H6 (L2.wipe σ is) E2 R2 ∧ Step Z1 H1 (ow Rw) Z2 H6 (ow R2) ∧ (∀ k ∈ is, R2 k = []) ∧ E2.length = E1.length ∧ H6 D = some (.lst accV) ∧ ¬ Z2 D ∧ ¬ ow R2 D ∧ TL K Z2 H6 accV accD rss ∧ rss.flatten.Nodup ∧
                (∀ a ∈ rss.flatten, ¬ ow R2 a ∧ a ≠ D ∧ (ow Rw a ∨ H1 a = none)) ∧ lcM g c f is (its.drop (i + 1)) E2 accD = some (accF, EF) ∧ m' = its.length - (i + 1) ∧ i + 1 ≤ its.length, fun H6 h => h, fun x H3 y => ?_⟩
            obtain ⟨m3, d, hd, rx⟩ := ok.yld Z2 H2 i x H3 p2 hlt y
            have ed : its[i] = d := by rw [List.getElem?_eq_getElem hlt] at hd; exact Option.some.inj hd
            refine ⟨Z2, E2, R2, d, s2.more m3, rx, E3, by rw [← ed]; exact e4, fun σ4 R4 s4 t4 k4 => ⟨?_, ?_⟩⟩
            · have hl : σ4.length = (L2.wipe σ is).length := by rw [s4.len, (s2.more m3).len]; exact hgl _ _ _ e4
              have := wipe_same (σ := L2.wipe σ is) (σ' := σ4) (is := is) hl fun j hj => k4 j fun m => hj (hw j m)
              rw [this]
              exact wipe_same (by rw [wipe_length]) fun j hj => wipe_out hj
            refine ⟨Z2, E3, R4, s4, b, E5, e5, fun Z5 H5 R5 s5 t5 => ?_⟩
            have t35 := (m3.step (ow R2)).trans (t4.trans t5)
            have sig : ∀ j, j ∉ is → σ4[j]? = (L2.wipe σ is)[j]? := fun j hj => k4 j fun m => hj (hw j m)
            -- the new list and its items across a step
            have keepD : ∀ {Z6 : Addr → Prop} {H6 : Hp} {R6 : Rs}, Step Z2 H2 (ow R2) Z6 H6 (ow R6) → H6 D = some (.lst accV) ∧ ¬ Z6 D ∧ ¬ ow R6 D ∧ TL K Z6 H6 accV accD rss ∧ ∀ a ∈ rss.flatten, ¬ ow R6 a ∧ a ≠ D ∧ (ow Rw a ∨ H1 a = none) := fun {Z6 H6 R6} t => by
              refine ⟨t.hh D _ h2D o2D, fun z => ?_, fun z => ?_, All3.imp tl fun v d rs m o => (s2.pend t o fun a ma => (tno a (mem_flatten_of m ma)).1).1, fun a ma => ⟨fun z => ?_, (tno a ma).2⟩⟩
              · rcases t.zn D z with z | z | z
                · exact z2D z
                · rw [h2D] at z; cases z
                · exact o2D z
              · rcases t.on D z with z | z
                · exact o2D z
                · rw [h2D] at z; cases z
              · rcases t.on a z with z | z
                · exact (tno a ma).1 z
                · exact TL.there tl a ma z
            cases b with
            | false =>
              rw [if_neg Bool.false_ne_true] at e3
              refine iteF ?_
              obtain ⟨Rx, sx, x1, x2, x3, x4⟩ := s5.wipe is
              have owx : ∀ a, ow Rx a → ow R5 a := fun a ⟨k, m⟩ => by
                by_cases ck : k ∈ is
                · rw [x2 k ck] at m; simp at m
                · exact ⟨k, by rw [← x1 k ck]; exact m⟩
              have sx : S K Z5 H5 (L2.wipe σ is) (wipeE E5 is) Rx := sx.sigma (by have a1 := s5.len; have a2 := s4.len; have a3 := hgl _ _ _ e4; have a4 := s2.len; have a5 := wipe_length σ is; omega) fun j hj => (sig j fun m => hj (x4 j m)).symm
              have tx : Step Z2 H2 (ow R2) Z5 H5 (ow Rx) := t35.trans ⟨fun _ h => h, fun _ h => .inl h, fun _ _ h _ => h, fun a h => .inl (owx a h), fun _ h => h⟩
              obtain ⟨k1, k2, k3, k4', k5⟩ := keepD tx
              exact ⟨_, by omega, Z5, _, Rx, accV, accD, rss, sx, t2.trans tx, x2, by have a1 := s5.len; have a2 := s4.len; have a3 := hgl _ _ _ e4; rw [wipeE_len]; omega, k1, k2, k3, k4', tnd, k5, e3, rfl, hlt⟩
            | true =>
              rw [if_pos rfl] at e3
              refine iteT ?_
              cases e6 : f E5 with
              | none => rw [e6] at e3; cases e3
              | some p6 =>
                obtain ⟨o6, E6⟩ := p6
                rw [e6] at e3
                simp only [Option.bind_some] at e3
                cases e7 : tk E6 o6 with
                | none => rw [e7] at e3; cases e3
                | some p7 =>
                  obtain ⟨dv, nv, E7⟩ := p7
                  rw [e7] at e3
                  simp only [Option.bind_some] at e3
                  split at e3
                  · rename_i hsz
                    refine ⟨Z5, E5, R5, s5, o6, E6, e6, fun y6 Z6 H6 R6 rs6 s6 t6 ov6 f6 => ?_⟩
                    obtain ⟨Z7, R7, s7, t7, o7, n7, sub7⟩ := s6.take ov6 f6.no e7
                    obtain ⟨Rx, sx, x1, x2, x3, x4⟩ := s7.wipe is
                    have owx : ∀ a, ow Rx a → ow R7 a := fun a ⟨k, m⟩ => by
                      by_cases ck : k ∈ is
                      · rw [x2 k ck] at m; simp at m
                      · exact ⟨k, by rw [← x1 k ck]; exact m⟩
                    have l7 : E7.length = E1.length := by have a1 := s7.len; have a2 := s4.len; have a3 := hgl _ _ _ e4; omega
                    have sx : S K Z7 H6 (L2.wipe σ is) (wipeE E7 is) Rx := sx.sigma (by have a1 := s7.len; have a4 := s2.len; have a5 := wipe_length σ is; omega) fun j hj => (sig j fun m => hj (x4 j m)).symm
                    have tx : Step Z2 H2 (ow R2) Z7 H6 (ow Rx) := (t35.trans (t6.trans t7)).trans ⟨fun _ h => h, fun _ h => .inl h, fun _ _ h _ => h, fun a h => .inl (owx a h), fun _ h => h⟩
                    obtain ⟨k1, k2, k3, k4', k5⟩ := keepD tx
                    refine ⟨accV, k1, by rw [TL.len tl]; exact hsz, ?_⟩
                    -- what the new item has is not the list, not in it
                    have of6 : ∀ a ∈ rs6, ow R2 a ∨ H2 a = none := fun a ma => by
                      rcases f6.of a ma with z | z
                      · exact t35.on a z
                      · cases cc : H2 a with
                        | none => exact .inr rfl
                        | some u => exact absurd z (t35.dm a (by rw [cc]; simp))
                    have neD : ∀ a ∈ rs6, a ≠ D := fun a ma e => by
                      subst e
                      rcases of6 a ma with z | z
                      · exact o2D z
                      · rw [h2D] at z; cases z
                    have apart : ∀ a ∈ rs6, a ∉ rss.flatten := fun a ma z => by
                      rcases of6 a ma with y | y
                      · exact (tno a z).1 y
                      · exact TL.there tl a z y
                    obtain ⟨s8, p8⟩ := sx.free (o' := .lst (accV ++ [y6])) k1 trivial k3 k2
                    have tl8 : TL K Z7 (upd H6 D (.lst (accV ++ [y6]))) (accV ++ [y6]) (accD ++ [(dv, nv)]) (rss ++ [rs6]) :=
                      All3.append (All3.imp k4' fun v d rs m o => o.keep p8 fun a ma => ⟨upd_ne (k5 a (mem_flatten_of m ma)).2.1, (o.mut a ma).2⟩)
                        (.cons (o7.keep p8 fun a ma => ⟨upd_ne (neD a ma), (o7.mut a ma).2⟩) .nil)
                    have t8 : Step Z1 H1 (ow Rw) Z7 (upd H6 D (.lst (accV ++ [y6]))) (ow Rx) := by
                      have tt := t2.trans tx
                      refine ⟨tt.zz, tt.zn, fun a o ho h => ?_, tt.on, fun a h e => ?_⟩
                      · have ne : a ≠ D := fun e => by rw [e, hD] at ho; cases ho
                        rw [upd_ne ne]; exact tt.hh a o ho h
                      · by_cases ca : a = D
                        · rw [ca, upd_same] at e; cases e
                        · rw [upd_ne ca] at e; exact tt.dm a h e
                    refine ⟨_, by omega, Z7, _, Rx, accV ++ [y6], accD ++ [(dv, nv)], rss ++ [rs6], s8, t8, x2, by rw [wipeE_len, l7], upd_same, k2, k3, tl8, ?_, fun a ma => ?_, e3, rfl, hlt⟩
                    · rw [List.flatten_append]
                      simp only [List.flatten_cons, List.flatten_nil, List.append_nil]
                      exact List.nodup_append.mpr ⟨tnd, f6.nd, fun a ma b mb e => apart b mb (e ▸ ma)⟩
                    · rw [List.flatten_append] at ma
                      simp only [List.flatten_cons, List.flatten_nil, List.append_nil, List.mem_append] at ma
                      rcases ma with ma | ma
                      · exact k5 a ma
                      · refine ⟨fun z => n7 a ma (owx a z), neD a ma, ?_⟩
                        rcases of6 a ma with z | z
                        · exact t2.on a z
                        · cases cc : H1 a with
                          | none => exact .inr rfl
                          | some u => exact absurd z (t2.dm a (by rw [cc]; simp))
                  · cases e3
      · left
        have ei : i = its.length := by omega
        subst ei
        rw [List.drop_length] at e3
        cases e3
        refine ⟨ok.stop Z2 H2 p2, ?_⟩
        obtain ⟨Z3, rs3, s3, o3, nd3, in3, zz3, zn3⟩ := s2.oldList tl tnd (fun a m => (tno a m).1) h2D z2D fun a m => (tno a m).2.1
        -- the hidden slots again
        have hidN : ∀ k ∈ is, ∀ a ∈ R1 k, ¬ ow Rw a := fun k hk a ma ⟨l, ml⟩ => by
          by_cases cl : l ∈ is
          · rw [w2 l cl] at ml; simp at ml
          · rw [w1 l cl] at ml
            exact cl ((s1.dj k l a ma ml) ▸ hk)
        have hidH : ∀ k ∈ is, ∀ a ∈ R1 k, H2 a = H1 a ∧ ¬ Z3 a ∧ ¬ ow R2 a ∧ a ≠ D ∧ a ∉ rss.flatten := fun k hk a ma => by
          have th := s1.there ⟨k, ma⟩
          have nf : a ∉ rss.flatten := fun z => by
            rcases (tno a z).2.2 with y | y
            · exact hidN k hk a ma y
            · exact th y
          refine ⟨?_, fun z => ?_, fun z => ?_, fun e => th (by rw [e]; exact hD), nf⟩
          · cases cc : H1 a with
            | none => exact absurd cc th
            | some u => exact t2.hh a u cc (hidN k hk a ma)
          · rcases zn3 a z with z | z
            · rcases t2.zn a z with z | z | z
              · exact (s1.owns ⟨k, ma⟩).2 z
              · exact th z
              · exact hidN k hk a ma z
            · exact nf z
          · rcases t2.on a z with z | z
            · exact hidN k hk a ma z
            · exact th z
        let RF : Rs := fun k => if k ∈ is then R1 k else R2 k
        obtain ⟨bl, bg⟩ := backE_get is E1 EF
        have sF : S K Z3 H2 σ (backE E1 EF is) RF := by
          refine ⟨by rw [bl, l2, ← s1.len], fun k d n ek => ?_, fun k ek => ?_, fun k => ?_, fun k l a m1 m2 => ?_, s3.zd⟩
          · rw [bg k] at ek
            by_cases ck : k ∈ is
            · by_cases cl : k < EF.length
              · rw [if_pos ⟨ck, cl⟩] at ek
                obtain ⟨v, hv, ov⟩ := s1.slot k d n ek
                refine ⟨v, hv, ?_⟩
                have eR : RF k = R1 k := if_pos ck
                rw [eR]
                exact ov.keep ⟨fun a z => zz3 a (p2.zz a z), p2.hz, p2.tp⟩ fun a ma => ⟨(hidH k ck a ma).1, (hidH k ck a ma).2.1⟩
              · rw [if_neg fun h => cl h.2] at ek
                exact absurd (eg_lt ek) cl
            · rw [if_neg fun h => ck h.1] at ek
              obtain ⟨v, hv, ov⟩ := s3.slot k d n ek
              have eR : RF k = R2 k := if_neg ck
              rw [eR]
              exact ⟨v, by rw [← wipe_out ck]; exact hv, ov⟩
          · rw [bg k] at ek
            by_cases ck : k ∈ is
            · have eR : RF k = R1 k := if_pos ck
              rw [eR]
              by_cases cl : k < EF.length
              · rw [if_pos ⟨ck, cl⟩] at ek
                exact s1.emp k ek
              · refine s1.emp k ?_
                unfold eg
                rw [List.getElem?_eq_none (by omega)]; rfl
            · rw [if_neg fun h => ck h.1] at ek
              have eR : RF k = R2 k := if_neg ck
              rw [eR]
              exact s3.emp k ek
          · by_cases ck : k ∈ is
            · have eR : RF k = R1 k := if_pos ck
              rw [eR]; exact s1.nd k
            · have eR : RF k = R2 k := if_neg ck
              rw [eR]; exact s2.nd k
          · by_cases ck : k ∈ is
            · have eR : RF k = R1 k := if_pos ck
              rw [eR] at m1
              by_cases cl : l ∈ is
              · have eR : RF l = R1 l := if_pos cl
                rw [eR] at m2
                exact s1.dj k l a m1 m2
              · have eR : RF l = R2 l := if_neg cl
                rw [eR] at m2
                exact absurd ⟨l, m2⟩ (hidH k ck a m1).2.2.1
            · have eR : RF k = R2 k := if_neg ck
              rw [eR] at m1
              by_cases cl : l ∈ is
              · have eR : RF l = R1 l := if_pos cl
                rw [eR] at m2
                exact absurd ⟨k, m1⟩ (hidH l cl a m2).2.2.1
              · have eR : RF l = R2 l := if_neg cl
                rw [eR] at m2
                exact s2.dj k l a m1 m2
        have back : ∀ a, H1 a = none → H a = none := fun a h => by
          cases cc : H a with
          | none => rfl
          | some u => exact absurd h (t1.dm a (by rw [cc]; simp))
        have owF : ∀ a, ow RF a → ow R1 a ∨ ow R2 a := fun a ⟨k, m⟩ => by
          by_cases ck : k ∈ is
          · have eR : RF k = R1 k := if_pos ck
            rw [eR] at m; exact .inl ⟨k, m⟩
          · have eR : RF k = R2 k := if_neg ck
            rw [eR] at m; exact .inr ⟨k, m⟩
        have R2on : ∀ a, ow R2 a → ow R a ∨ H a = none := fun a h => by
          rcases t2.on a h with z | z
          · exact t1.on a (owR a z)
          · exact .inr (back a z)
        have flon : ∀ a ∈ rss.flatten, ow R a ∨ H a = none := fun a m => by
          rcases (tno a m).2.2 with z | z
          · exact t1.on a (owR a z)
          · exact .inr (back a z)
        have tF : Step Z H (ow R) Z3 H2 (ow RF) := by
          refine ⟨fun a z => zz3 a (p2.zz a (t1.zz a z)), fun a z => ?_, fun a u hu ha => ?_, fun a h => ?_, fun a h => t2.dm a (t1.dm a h)⟩
          · rcases zn3 a z with z | z
            · rcases t2.zn a z with z | z | z
              · exact t1.zn a z
              · exact .inr (.inl (back a z))
              · rcases t1.on a (owR a z) with y | y
                · exact .inr (.inr y)
                · exact .inr (.inl y)
            · rcases flon a z with y | y
              · exact .inr (.inr y)
              · exact .inr (.inl y)
          · refine t2.hh a u (t1.hh a u hu ha) fun z => ?_
            rcases t1.on a (owR a z) with y | y
            · exact ha y
            · rw [hu] at y; cases y
          · rcases owF a h with z | z
            · exact t1.on a z
            · exact R2on a z
        refine q (.ref D) Z3 H2 RF rs3 sF tF o3 ⟨nd3, fun a m z => ?_, fun a m => ?_⟩
        · rcases in3 a m with rfl | mm
          · rcases owF a z with y | y
            · exact s1.there y hD
            · exact o2D y
          · rcases owF a z with y | y
            · obtain ⟨k, mk⟩ := y
              rcases (tno a mm).2.2 with z' | z'
              · by_cases ck : k ∈ is
                · exact hidN k ck a mk z'
                · obtain ⟨l, ml⟩ := z
                  by_cases cl : l ∈ is
                  · have eR : RF l = R1 l := if_pos cl
                    rw [eR] at ml
                    exact hidN l cl a ml z'
                  · have eR : RF l = R2 l := if_neg cl
                    rw [eR] at ml
                    exact (tno a mm).1 ⟨l, ml⟩
              · exact s1.there ⟨k, mk⟩ z'
            · exact (tno a mm).1 y
        · rcases in3 a m with rfl | mm
          · exact .inr (back a hD)
          · exact flon a mm
where
  elen {Z Z' : Addr → Prop} {H H' : Hp} {σ : L2.St} {E E' : Ev} (h : σ.length = E'.length) (h' : σ.length = E.length) : E.length = E'.length := by rw [← h, h']
end
end Zk
namespace Zk
open PySem PySem.Spec PyProof.Rows L2
section
variable {K : PySem.W.Frag} {H : Hp} {σ : L2.St}
theorem gl_v {i : Nat} : GL (tgV i) := fun d E E' h => by
  unfold tgV at h
  split at h
  · cases h; simp
  · cases h
theorem mYes_of {Q : Bool → Hp → Prop} (q : cOf K mYes σ H Q) : tYes σ H Q := by
  obtain ⟨Z, E, R, s, b, E', e, q⟩ := q
  cases e
  exact q Z H R s .refl
theorem PTs.mono {X : Cx} {ifs : List Expr} {t t' : TT} (h : PTs X ifs t) (m : ∀ σ H Q, t' σ H Q → t σ H Q) : PTs X ifs t' := ⟨fun pins s σ H Q I q => h.run pins s σ H Q I (m σ H Q q)⟩
end
section
variable {X : Cx} {e e2 c elt tg iter : Expr} {es ifs : List Expr} {fe fk fv : Fe} {ft : Ft} {fi : Fi} {g : Fg} {scope : Scope} {pos pos' spos py : PySem.Pos} {w : List Nat} {own : List (Str × Nat)}
abbrev ATs (X : Cx) (ifs : List Expr) (c : Ft) : Prop := PTs X ifs (cOf X.K c)
theorem ats_nil : ATs X [] mYes := PTs.mono pts_nil fun _ _ _ q => mYes_of q
theorem ats_one (h : AT X c ft) : ATs X [c] ft := pts_one h
/-- [elt for tg in iter if ..] -/
theorem ae_lc (own : List (Str × Nat)) (hN : X.N.Nodup) (ok : BlkOk X.N X.env.scope scope own) (hi : AI X tg iter fi)
    (hg : ∀ (s : Shared) (H : Hp) (C : Addr) (cl : List (Str × Addr)) (fp : List Addr), AG (X.blk s H scope (compEnvC scope cl C X.env) fp) tg w g)
    (ht : ∀ (s : Shared) (H : Hp) (C : Addr) (cl : List (Str × Addr)) (fp : List Addr), ATs (X.blk s H scope (compEnvC scope cl C X.env) fp) ifs ft)
    (he : ∀ (s : Shared) (H : Hp) (C : Addr) (cl : List (Str × Addr)) (fp : List Addr), AE (X.blk s H scope (compEnvC scope cl C X.env) fp) elt fe)
    (hgl : GL g) (hw : ∀ i ∈ w, i ∈ own.map (·.2) := by decide) (hc : X.calm = true := by rfl) (hs : ∀ x, foldedSetIterable iter X.env x = pure x := by intro _; rfl) :
    AE X (.ListComp elt [⟨tg, iter, ifs, 0⟩] scope pos) (mLc fi (own.map (·.2)) g ft fe) :=
  PE.mono (pe_lc hc hN hi ok hg ht he hs) fun σ H Q q => lc_of hgl hw q
/-- y = [elt for tg in iter if ..] on one line -/
theorem as_setLc (i : Nat) {y : Str} (own : List (Str × Nat)) (hN : X.N.Nodup) (ok : BlkOk X.N X.env.scope scope own) (hi : AI X tg iter fi)
    (hg : ∀ (s : Shared) (H : Hp) (C : Addr) (cl : List (Str × Addr)) (fp : List Addr), AG (X.blk s H scope (compEnvC scope cl C X.env) fp) tg w g)
    (ht : ∀ (s : Shared) (H : Hp) (C : Addr) (cl : List (Str × Addr)) (fp : List Addr), ATs (X.blk s H scope (compEnvC scope cl C X.env) fp) ifs ft)
    (he : ∀ (s : Shared) (H : Hp) (C : Addr) (cl : List (Str × Addr)) (fp : List Addr), AE (X.blk s H scope (compEnvC scope cl C X.env) fp) elt fe)
    (hgl : GL g) (ha : (scope.names.any fun (n, k) => n == y && (k == .local || k == .cell)) = false) (hy : X.N[i]? = some y := by rfl) (hyl : X.env.scope.names.lookup y = some .local := by rfl) (hk : X.env.scope.kind = .function := by rfl) (hl : (py.line == pos.line) = true := by rfl)
    (hw : ∀ i ∈ w, i ∈ own.map (·.2) := by decide) (hc : X.calm = true := by rfl) (hs : ∀ x, foldedSetIterable iter X.env x = pure x := by intro _; rfl) :
    AS X (.Assign [.Name y py] (.ListComp elt [⟨tg, iter, ifs, 0⟩] scope pos) spos) [i] (mSet i (mLc fi (own.map (·.2)) g ft fe)) :=
  PS.mono (ps_setLc hc hN hy hyl (sw_true hk hyl hl ha) hi ok hg ht he hs) fun D σ H q => lc_of hgl hw (set_of q)
end
section
variable {K : PySem.W.Frag} {Z Z' Zf Z0 : Addr → Prop} {H H' H0 : Hp} {σ : L2.St} {E E' : Ev} {R R' R0 : Rs}
/-- the int keys of a dict -/
def keyI : List (Key × D) → Option (List Int)
  | [] => some []
  | (.inl i, _) :: kds => (keyI kds).map (i :: ·)
  | _ => none
theorem keyI_eq : ∀ {kds : List (Key × D)} {ks : List Int}, keyI kds = some ks → kds.map (·.1) = ks.map Sum.inl
  | [], _, h => by cases h; rfl
  | (.inl i, _) :: kds, ks, h => by
    simp only [keyI] at h
    cases q : keyI kds with
    | none => rw [q] at h; cases h
    | some ms => rw [q] at h; cases h; simp [keyI_eq q]
  | (.inr i, _) :: kds, ks, h => by simp [keyI] at h
def rSrtD : List V → Hp → VK → Prop := fun ws H Q => ∃ (b : Addr) (its : List (Key × V)) (ns : List Int), ws = [.ref b] ∧ Rd H b (.dK its) ∧ its.map (·.1) = ns.map Sum.inl ∧
    ∀ (ms : List Int) (q : Addr), ms.Perm ns → ms.Pairwise (· ≤ ·) → H q = none → Q (.ref q) (upd H q (.lst (ms.map V.int)))
theorem ints_all : ∀ {ws : List Value} {ns : List Int}, ws.length = ns.length → (∀ (j : Nat) (w : Value), ws[j]? = some w → ∃ (i : Int) (t : Tok), ns[j]? = some i ∧ w = Value.int i t) → IntsAre ws ns
  | [], [], _, _ => .nil
  | w :: ws, n :: ns, hl, h => by
    obtain ⟨i, t, e, ew⟩ := h 0 w rfl
    cases e
    cases ew
    exact .cons _ _ (ints_all (Nat.succ.inj hl) fun j u eu => h (j + 1) u (by simpa using eu))
  | [], _ :: _, hl, _ => by cases hl
  | _ :: _, [], hl, _ => by cases hl
theorem cr_srtD {X : Cx} (calm : X.calm = true) : CallR X (.builtin "sorted") rSrtD := by
  intro P' st sg G ws vs Q2 iv rs qq
  obtain ⟨b, its, ns, rfl, rdd, hkey, qq⟩ := qq
  obtain ⟨u0, rfl, r0⟩ := vals1 rs
  cases r0
  obtain ⟨zz, low, dvs, rl, dob⟩ := dk_rd iv.hok rdd
  obtain ⟨epo, dat⟩ := dob.dictAt
  have keq : dvs.map (·.1) = ns.map Sum.inl := rl.keys.symm.trans hkey
  have len : dvs.length = ns.length := by simpa using congrArg List.length keq
  have le : dvs.length ≤ sizeLine := by rw [← rl.length]; exact zz
  refine Calls.call_function_entry PyProof.Rows.kind_sorted
    PyProof.Rows.plain_sorted PyProof.Rows.entry_sorted
    (PyProof.Rows.args_sorted1 _) ?_
  unfold Builtin.«sorted»
  refine wpAny_bind
    (m := checkCount "sorted" 1 1 _) (wpAny_pure ?_)
  refine wpAny_bind (PySem.W.kdu_collect
    (A := X.A.in1)
    (PySem.W.kdl_dict (knd := mixKind X.prog X.w)
      (kvs := dvs) (ep := epo) low)
    (iv.ok.hd calm) dat le fun hp2 tk2 got kept2 hgot => ?_)
  have gl : got.toList.length = ns.length := by rw [Array.length_toList, hgot.1, len]
  have gi : IntsAre got.toList ns := ints_all gl fun j w ew => by
    obtain ⟨k, w2, e1, e2⟩ := hgot.2 j w (by simpa using ew)
    have e3 : (ns.map (Sum.inl (β := Str)))[j]? = some k := by
      rw [← keq, List.getElem?_map, e1]; rfl
    rw [List.getElem?_map] at e3
    obtain ⟨n, en, rfl⟩ := Option.map_eq_some_iff.mp e3
    have e2' : keyIs (Sum.inl n) w = true := e2
    rcases keyIs_shape e2' with ⟨i, t, ek, ev⟩ | ⟨z, t, ek, ev⟩
    · cases ek; exact ⟨n, t, en, ev⟩
    · cases ek
  have iv2 : Inv X P' sg G { st with heap := hp2, toks := tk2 } := iv.kept kept2
  have gz : got.toList.length ≤ sizeLine := by rw [gl, ← len]; exact le
  refine wpAny_bind (wpAny_newList ?_ gz)
  have at0 : (hp2.push (seqObj "list" got.toList.toArray 0)).get? hp2.objs.size = some (seqObj "list" got.toList.toArray 0) :=
    Heap.get?_push_size _ rfl
  show wpAny _ _ _ _ _ { st with
    heap := hp2.push (seqObj "list" got.toList.toArray 0), toks := tk2 }
  refine wpAny_bind (wpAny_holding (wpAny_call_entry
    PyProof.Rows.slot_list_sort ⟨_, at0, rfl⟩
    PyProof.Rows.entry_list_sort
    (SrtO.list_sort_ord SrtO.swo_int at0 gz (fun two => SrtO.ints_sortable gi two) fun out s1 s2 => ⟨_, rfl, ?_⟩)
    (PyProof.Rows.args_list_sort _)))
  obtain ⟨o1, o2, o3⟩ := SrtO.ints_out gi s1 s2
  obtain ⟨ep2, hh⟩ := PyProof.Rows.sortedHeap_at (vs := got.toList) (out := out.toArray) at0
  have ol : ((out.map SrtO.iv).map V.int).length ≤ sizeLine := by
    rw [List.length_map, o2.length_eq, ← gl]; exact gz
  refine wpAny_pure ⟨_, rfl, .ref hp2.objs.size, upd G hp2.objs.size (.lst ((out.map SrtO.iv).map V.int)),
    iv2.laid (t' := tk2) (fun c u e => ?_) (Nat.le_refl _) (show ObjOk X.prog X.w _ _ _ (.lst ((out.map SrtO.iv).map V.int)) from ⟨ol, out, ep2, vals_of_ints o1, hh⟩),
    rfl, qq _ _ o2 o3 (iv2.hok.fresh (Nat.le_refl _))⟩
  have lt : c < hp2.objs.size := Heap.lt_size e
  have ne := Nat.ne_of_lt lt
  rw [PyProof.Rows.sortedHeap_old ne (by rw [size_push']; exact Nat.lt_succ_of_lt lt)]
  exact Heap.get?_push_of_some _ e
/-- sorted(d), d's keys ints -/
def gSrtD : List D → Option (D × Nat)
  | [.dK kds] => (keyI kds).map fun ks => (.lst ((srt ks).map D.int), 9)
  | _ => none
theorem al_srtD : AL K rSrtD gSrtD := by
  intro Z H vs ds d n Q hz k e q
  unfold gSrtD at e
  split at e
  · rename_i kds
    cases e1 : keyI kds with
    | none => rw [e1] at e; cases e
    | some ks =>
      rw [e1] at e
      cases e
      obtain ⟨x, rfl, ⟨a, kvs, rfl, ha, e2, r⟩⟩ := k.one
      refine ⟨a, kvs, ks, rfl, ha, by rw [e2]; exact keyI_eq e1, fun ys p pm so hn => ?_⟩
      have e3 : ys = srt ks := srt_uniq (pm.trans (srt_perm ks).symm) so (srt_pair ks)
      subst e3
      have := fin_lst (Q := Q) hz (Rps.ofInts (K := K) (Z := Z) (H := H) (srt ks)) (by rw [lev_ints]; exact q)
      exact this p hn
  · cases e
def srtP (ps : List (Int × Int)) : List (Int × Int) := ps.mergeSort fun a b => !SrtO.lexB b a
theorem srtP_perm (ps : List (Int × Int)) : (srtP ps).Perm ps := List.mergeSort_perm _ _
theorem srtP_pair (ps : List (Int × Int)) : SrtO.Srtd SrtO.lexB (srtP ps) := by
  have h := List.pairwise_mergeSort (le := fun a b : Int × Int => !SrtO.lexB b a) (fun a b c h1 h2 => by
    simp only [Bool.not_eq_true', Bool.not_eq_eq_eq_not, Bool.not_true] at *
    have a1 := SrtO.lexB_no.mp h1
    have b1 := SrtO.lexB_no.mp h2
    refine SrtO.lexB_no.mpr ?_
    omega) (fun a b => by
    cases h1 : SrtO.lexB b a with
    | false => simp
    | true =>
      have a1 := SrtO.lexB_iff.mp h1
      have : SrtO.lexB a b = false := SrtO.lexB_no.mpr (by omega)
      simp [this]) ps
  exact h.imp fun h => by simpa using h
theorem srtP_uniq {xs ys : List (Int × Int)} (p : xs.Perm ys) (h1 : SrtO.Srtd SrtO.lexB xs) (h2 : SrtO.Srtd SrtO.lexB ys) : xs = ys :=
  p.eq_of_pairwise (le := fun a b => SrtO.lexB b a = false) (fun a b _ _ g1 g2 => by
    have a1 := SrtO.lexB_no.mp g1
    have a2 := SrtO.lexB_no.mp g2
    exact Prod.ext (by omega) (by omega)) h1 h2
/-- the pairs of some data -/
def pof : List D → Option (List (Int × Int))
  | [] => some []
  | .tup [.int i, .int j] :: ds => (pof ds).map ((i, j) :: ·)
  | _ => none
def prD (p : Int × Int) : D := .tup [.int p.1, .int p.2]
theorem pof_eq : ∀ {ds : List D} {ps : List (Int × Int)}, pof ds = some ps → ds = ps.map prD
  | [], _, h => by cases h; rfl
  | d :: ds, ps, h => by
    unfold pof at h
    split at h
    · rename_i e; cases e
    · rename_i i j ds' e
      cases e
      cases q : pof ds with
      | none => rw [q] at h; cases h
      | some ms => rw [q] at h; cases h; simp [pof_eq q, prD]
    · cases h
@[simp] theorem pof_map (ps : List (Int × Int)) : pof (ps.map prD) = some ps := by
  induction ps with
  | nil => rfl
  | cons p ps ih =>
    rw [List.map_cons]
    show (pof (ps.map prD)).map _ = _
    rw [ih]; rfl
def gSrtP : List D → Option (D × Nat)
  | [.lst ds] => (pof ds).map fun ps => (.lst ((srtP ps).map prD), 9)
  | _ => none
/-- the two ints behind a pair -/
def kOf (H : Hp) (x : V) : Int × Int := match x with
  | .ref t => match H t with
    | some (.tup [.int i, .int j]) => (i, j)
    | _ => (0, 0)
  | _ => (0, 0)
theorem Rp.pairE {Z : Addr → Prop} {v : V} {p : Int × Int} (h : Rp K Z H v (prD p)) : ∃ t, v = .ref t ∧ H t = some (.tup [.int p.1, .int p.2]) := by
  cases h with
  | tup s r =>
    obtain ⟨x, y, rfl, h1, h2⟩ := r.two
    cases h1.intE
    cases h2.intE
    exact ⟨_, rfl, s⟩
theorem Rps.pairs {Z : Addr → Prop} : ∀ {vs : List V} {ps : List (Int × Int)}, Rps K Z H vs (ps.map prD) → vs.map (kOf H) = ps ∧ ∀ x ∈ vs, ∃ t, x = V.ref t ∧ H t = some (.tup [.int (kOf H x).1, .int (kOf H x).2])
  | _, [], h => by cases h; exact ⟨rfl, fun x m => by simp at m⟩
  | _, p :: ps, h => by
    cases h with
    | cons h t =>
      obtain ⟨u, rfl, hu⟩ := Rp.pairE h
      obtain ⟨e, q⟩ := Rps.pairs t
      have ek : kOf H (.ref u) = p := by simp [kOf, hu]
      refine ⟨by rw [List.map_cons, e, ek], fun x m => ?_⟩
      rcases List.mem_cons.mp m with rfl | m
      · exact ⟨u, rfl, by rw [ek]; exact hu⟩
      · exact q x m
theorem Rps.ofPairs {Z : Addr → Prop} : ∀ {vs : List V}, (∀ x ∈ vs, ∃ t, x = V.ref t ∧ H t = some (.tup [.int (kOf H x).1, .int (kOf H x).2])) → Rps K Z H vs ((vs.map (kOf H)).map prD)
  | [], _ => .nil
  | v :: vs, h => by
    obtain ⟨t, e, ht⟩ := h v List.mem_cons_self
    refine .cons ?_ (Rps.ofPairs fun x m => h x (List.mem_cons_of_mem _ m))
    rw [e] at ht ⊢
    exact .tup ht (.cons (.int _) (.cons (.int _) .nil))
theorem al_srtP : AL K (rSortedPO K) gSrtP := by
  intro Z H vs ds d n Q hz k e q
  unfold gSrtP at e
  split at e
  · rename_i ds
    cases e1 : pof ds with
    | none => rw [e1] at e; cases e
    | some ps =>
      rw [e1] at e
      cases e
      cases pof_eq e1
      obtain ⟨x, rfl, ⟨p, xs, rfl, hp, r⟩⟩ := k.one
      obtain ⟨ek, hx⟩ := r.pairs
      refine ⟨p, xs, kOf H, rfl, .inl (.inl hp), hx, fun ys p' so st hn => ?_⟩
      have hy : ∀ y ∈ ys, ∃ t, y = V.ref t ∧ H t = some (.tup [.int (kOf H y).1, .int (kOf H y).2]) := fun y hy => hx y (st.perm.mem_iff.mp hy)
      have ey : ys.map (kOf H) = srtP ps := srtP_uniq ((st.perm.map _).trans (by rw [ek]; exact (srtP_perm ps).symm)) (SrtO.srtd_map so) (srtP_pair ps)
      have ry := Rps.ofPairs (K := K) (Z := Z) hy
      rw [ey] at ry
      have lv : lev ((srtP ps).map prD) = 9 := by unfold lev; rw [imms_map _ (fun p => by simp [prD])]; rfl
      have := fin_lst (Q := Q) hz ry (by rw [lv]; exact q)
      exact this p' hn
  · cases e
section
variable {prg : Program} {wd : World} {Ar : Around} {EE : Value → Shared → Prop} {sh : Shared}
open PyProof.Rows in
theorem collect_tp {tp : Addr} {xs : List Value} {QQ : List Value → Shared → Prop} (isT : sh.heap.IsTuple tp xs.toArray) (sz : xs.length ≤ sizeLine)
    (qq : QQ xs { sh with heap := (sh.heap.push (seqObj "list" #[] 0)).update sh.heap.objs.size (Obj.mapSeq (· ++ xs.toArray)) }) :
    wpAny (model prg wd) Ar (collect (.ref tp)) QQ EE sh := by
  obtain ⟨ob, hob, cls, k, dat⟩ := isT
  have new0 : (sh.heap.push (seqObj "list" #[] 0)).get? sh.heap.objs.size = some (seqObj "list" #[] 0) := Heap.get?_push_size _ rfl
  have old0 : (sh.heap.push (seqObj "list" #[] 0)).get? tp = some ob := Heap.get?_push_of_some _ hob
  unfold collect
  refine wpAny_bind (wpAny_runValue
    (codeAny_builtin entry_proto_collect' ?_))
  show wpAny _ _
    (do again (.builtin "list.__iadd__" ⟨[← newList [], .ref tp], []⟩)) _ _ sh
  refine wpAny_bind (wpAny_newList (wpAny_pure
    ⟨Code.quiet_builtin _ (by decide +kernel), codeAny_builtin entry_list_iadd' ?_⟩))
  show wpAny _ _ (Builtin.List.listExtendWith (.ref sh.heap.objs.size)
    (.ref tp) (.ref sh.heap.objs.size)) _ _ { sh with heap := sh.heap.push (seqObj "list" #[] 0) }
  unfold Builtin.List.listExtendWith
  refine wpAny_bind (wpAny_typeOf (T := "tuple") ⟨ob, old0, cls⟩ ?_)
  have tt : (Value.type "tuple" == Value.type "tuple") = true := by rfl
  rw [if_pos (by rw [tt, Bool.or_true])]
  refine wpAny_bind (listItems_at old0 dat ?_)
  refine wpAny_bind (listItems_at (xs := #[]) (n := 0) new0 rfl ?_)
  rw [if_neg (by simp)]
  refine wpAny_bind (listUpdate_at (xs := #[]) (n := 0) new0 rfl ?_ (Nat.zero_le _)
    (by show (#[] ++ xs.toArray).size ≤ sizeLine + 1; simp only [Array.size_append, List.size_toArray, List.length_nil]; omega))
  refine wpAny_pure ?_
  show wpAny (model prg wd) Ar (do
      let o ← load sh.heap.objs.size
      match o.data with
      | .seq ys _ => pure ys.toList
      | _ => unsupported "internal:collect") QQ EE { sh with heap := (sh.heap.push (seqObj "list" #[] 0)).update sh.heap.objs.size (Obj.mapSeq (· ++ xs.toArray)) }
  refine wpAny_bind (wpAny_load (get?_update_seq new0 _) ?_)
  have ex : ((#[] : Array Value) ++ xs.toArray).toList = xs := by simp
  show wpAny _ _ (pure ((#[] : Array Value) ++ xs.toArray).toList) QQ EE _
  rw [ex]
  exact wpAny_pure qq
open PyProof.Rows in
theorem sorted_tp {tp : Addr} {xs : List Value} {lt : Value → Value → Bool} {QQ : Value → Shared → Prop} (O : SrtO.Swo lt) (isT : sh.heap.IsTuple tp xs.toArray) (sz : xs.length ≤ sizeLine)
    (able : 2 ≤ xs.length → ∀ (h₁ : Heap) (a : Addr), h₁.get? a = some (seqObj "list" xs.toArray 0) → (∀ b o, sh.heap.get? b = some o → b ≠ a ∧ h₁.get? b = some o) → SrtO.SortableO prg wd Ar.in1.in1 { sh with heap := h₁ } a xs lt)
    (qq : ∀ ys : List Value, SrtO.Srtd lt ys → SrtO.Stb lt ys xs → QQ (.ref (sh.heap.objs.size + 1)) { sh with heap := sortedAll sh.heap xs ys.toArray }) :
    wpAny (model prg wd) Ar (call (.builtin "sorted") [.ref tp]) QQ EE sh := by
  refine Calls.call_function_entry kind_sorted plain_sorted
    entry_sorted (args_sorted1 _) ?_
  unfold Builtin.«sorted»
  refine wpAny_bind
    (m := checkCount "sorted" 1 1 _) (wpAny_pure ?_)
  refine wpAny_bind (collect_tp isT sz ?_)
  refine wpAny_bind (wpAny_newList ?_ sz)
  have sz1 : ((sh.heap.push (seqObj "list" #[] 0)).update sh.heap.objs.size (Obj.mapSeq (· ++ xs.toArray))).objs.size = sh.heap.objs.size + 1 := by
    rw [Heap.size_update]; exact size_push' _ _
  have at1 : (((sh.heap.push (seqObj "list" #[] 0)).update sh.heap.objs.size (Obj.mapSeq (· ++ xs.toArray))).push (seqObj "list" xs.toArray 0)).get? (sh.heap.objs.size + 1) = some (seqObj "list" xs.toArray 0) := by
    have := Heap.get?_push_size ((sh.heap.push (seqObj "list" #[] 0)).update sh.heap.objs.size (Obj.mapSeq (· ++ xs.toArray))) (o := seqObj "list" xs.toArray 0) rfl
    rwa [sz1] at this
  have kp : ∀ b o, sh.heap.get? b = some o → b ≠ sh.heap.objs.size + 1 ∧ (((sh.heap.push (seqObj "list" #[] 0)).update sh.heap.objs.size (Obj.mapSeq (· ++ xs.toArray))).push (seqObj "list" xs.toArray 0)).get? b = some o := fun b o e => by
    have lt : b < sh.heap.objs.size := Heap.lt_size e
    have ne := Nat.ne_of_lt lt
    refine ⟨Nat.ne_of_lt (Nat.lt_succ_of_lt lt),
      Heap.get?_push_of_some _ ?_⟩
    rw [Heap.get?_update_ne _ _ _ _ ne]
    exact Heap.get?_push_of_some _ e
  show wpAny _ _ _ _ _ { sh with
    heap := ((sh.heap.push (seqObj "list" #[] 0)).update sh.heap.objs.size (Obj.mapSeq (· ++ xs.toArray))).push (seqObj "list" xs.toArray 0) }
  rw [sz1]
  refine wpAny_bind (wpAny_holding (wpAny_call_entry
    slot_list_sort ⟨_, at1, rfl⟩ entry_list_sort
    (SrtO.list_sort_ord O at1 sz (fun two => able two _ _ at1 kp) fun ys s1 s2 => ⟨_, rfl, ?_⟩) (args_list_sort _)))
  exact wpAny_pure ⟨_, rfl, qq ys s1 s2⟩
end
def rSrtT (K : PySem.W.Frag) : List V → Hp → VK → Prop := fun ws H Q => ∃ (b : Addr) (ns : List Int), ws = [.ref b] ∧ SqT K H b (ns.map V.int) ∧
    ∀ (ms : List Int) (q : Addr), ms.Perm ns → ms.Pairwise (· ≤ ·) → H q = none → Q (.ref q) (upd H q (.lst (ms.map V.int)))
theorem cr_srtT {X : Cx} : CallR X (.builtin "sorted") (rSrtT X.K) := by
  intro P' st sg G ws vs Q2 iv rs qq
  obtain ⟨b, ns, rfl, hs, qq⟩ := qq
  obtain ⟨us, rv, hl, hz⟩ := iv.tuple hs
  rw [Vals.ref1 rs]
  have hi := rv.ints
  have hz2 : us.length ≤ sizeLine := by rw [← rv.length]; exact hz
  refine sorted_tp SrtO.swo_int hl hz2 (fun two h₁ a' _ _ => SrtO.ints_sortable hi two) fun ys s1 s2 => ?_
  obtain ⟨o1, o2, o3⟩ := SrtO.ints_out hi s1 s2
  obtain ⟨ep, hh⟩ := PyProof.Rows.sortedAll_at st.heap us ys.toArray
  have ol : ((ys.map SrtO.iv).map V.int).length ≤ sizeLine := by
    rw [List.length_map, o2.length_eq]; rw [List.length_map] at hz; exact hz
  exact ⟨.ref _, upd G (st.heap.objs.size + 1) (.lst ((ys.map SrtO.iv).map V.int)),
    iv.laid (t' := st.toks) (fun _ _ => PyProof.Rows.sortedAll_old) (Nat.le_succ _) ⟨ol, ys, ep, vals_of_ints o1, hh⟩,
    rfl, qq _ _ o2 o3 (iv.hok.fresh (Nat.le_succ _))⟩
/-- sorted(t), t a tuple of ints -/
def gSrtT : List D → Option (D × Nat)
  | [.tup ds] => (iof ds).map fun ns => (.lst ((srt ns).map D.int), 9)
  | _ => none
theorem al_srtT : AL K (rSrtT K) gSrtT := by
  intro Z H vs ds d n Q hz k e q
  unfold gSrtT at e
  split at e
  · rename_i ds
    cases e1 : iof ds with
    | none => rw [e1] at e; cases e
    | some ns =>
      rw [e1] at e
      cases e
      cases iof_eq e1
      obtain ⟨x, rfl, h1⟩ := k.one
      cases h1 with
      | tup s r =>
        cases r.ints
        refine ⟨_, ns, rfl, .of s, fun ns' p' pm so hn => ?_⟩
        have e2 : ns' = srt ns := srt_uniq (pm.trans (srt_perm ns).symm) so (srt_pair ns)
        subst e2
        have := fin_lst (Q := Q) hz (Rps.ofInts (K := K) (Z := Z) (H := H) (srt ns)) (by rw [lev_ints]; exact q)
        exact this p' hn
  · cases e
def rSrtTP (K : PySem.W.Frag) : List V → Hp → VK → Prop := fun vs H Q => ∃ (b : Addr) (xs : List V) (k : V → Int × Int), vs = [V.ref b] ∧ SqT K H b xs ∧ (∀ x ∈ xs, ∃ t, x = V.ref t ∧ H t = some (.tup [.int (k x).1, .int (k x).2])) ∧
  ∀ ys q, SrtO.Srtd (ltP k) ys → SrtO.Stb (ltP k) ys xs → H q = none → Q (.ref q) (upd H q (.lst ys))
theorem cr_srtTP {X : Cx} : CallR X (.builtin "sorted") (rSrtTP X.K) := by
  intro P' st sg G ws vs Q2 iv rs qq
  obtain ⟨b, xs, kf, rfl, hs, each, qq⟩ := qq
  obtain ⟨us, rv, hl, hz⟩ := iv.tuple hs
  rw [Vals.ref1 rs]
  have hz2 : us.length ≤ sizeLine := by rw [← rv.length]; exact hz
  obtain ⟨e1, e2⟩ := refs_back rv fun x m => by
    obtain ⟨t, e, _⟩ := each x m
    exact ⟨t, e⟩
  have pairs : ∀ v ∈ us, ∃ t, v = Value.ref t ∧ G t = some (.tup [.int (kf (backV v)).1, .int (kf (backV v)).2]) := fun v hv => by
    obtain ⟨t, rfl⟩ := e2 v hv
    have hm : V.ref t ∈ xs := by rw [e1]; exact List.mem_map.mpr ⟨_, hv, rfl⟩
    obtain ⟨t', e, ht⟩ := each _ hm
    cases e
    exact ⟨t, rfl, ht⟩
  have old : ∀ v ∈ us, Srt.IsPair st.heap v (kf (backV v)).1 (kf (backV v)).2 := fun v hv => by
    obtain ⟨t, rfl, ht⟩ := pairs v hv
    obtain ⟨_, its2, r2, o, ho, hc, n, hd⟩ := iv.hok _ _ ht
    obtain ⟨u1, u2, rfl, ri, rj⟩ := vals2 r2
    obtain ⟨t1, rfl⟩ := ri
    obtain ⟨t2, rfl⟩ := rj
    exact ⟨t, o, t1, t2, n, rfl, ho, hc, hd⟩
  refine sorted_tp (lt := fun v u => SrtO.lexB (kf (backV v)) (kf (backV u))) (SrtO.swo_lex fun u => kf (backV u)) hl hz2 (fun two h₁ a' ea kp => ?_) fun ys s1 s2 => ?_
  · refine SrtO.pairs_sortableO (s := { st with heap := h₁ }) (by omega) (fun v hv => ?_) fun o e => ?_
    · exact (old v hv).keeps fun c o e _ => (kp c o e).2
    · have e' : some o = some (seqObj "list" us.toArray 0) := e.symm.trans ea
      cases e'
      intro c
      exact absurd (Value.type.inj c) (by decide)
  · have h3 : ∀ u ∈ ys, ∃ a, u = Value.ref a := fun u hu => e2 u (s2.perm.mem_iff.mp hu)
    obtain ⟨ep, hh⟩ := PyProof.Rows.sortedAll_at st.heap us ys.toArray
    have hb : SrtO.Stb (ltP kf) (ys.map backV) xs := by
      rw [e1]
      exact SrtO.Stb.map (ltP_swo kf) backV s2
    have ol : (ys.map backV).length ≤ sizeLine := by rw [hb.len]; exact hz
    exact ⟨.ref _, upd G (st.heap.objs.size + 1) (.lst (ys.map backV)),
      iv.laid (t' := st.toks) (fun _ _ => PyProof.Rows.sortedAll_old) (Nat.le_succ _) ⟨ol, ys, ep, vals_back h3, hh⟩,
      rfl, qq _ _ (SrtO.srtd_map s1) hb (iv.hok.fresh (Nat.le_succ _))⟩
def gSrtTP : List D → Option (D × Nat)
  | [.tup ds] => (pof ds).map fun ps => (.lst ((srtP ps).map prD), 9)
  | _ => none
theorem al_srtTP : AL K (rSrtTP K) gSrtTP := by
  intro Z H vs ds d n Q hz k e q
  unfold gSrtTP at e
  split at e
  · rename_i ds
    cases e1 : pof ds with
    | none => rw [e1] at e; cases e
    | some ps =>
      rw [e1] at e
      cases e
      cases pof_eq e1
      obtain ⟨x, rfl, h1⟩ := k.one
      cases h1 with
      | tup s r =>
        obtain ⟨ek, hx⟩ := r.pairs
        refine ⟨_, _, kOf H, rfl, .of s, hx, fun ys p' so st hn => ?_⟩
        have hy : ∀ y ∈ ys, ∃ t, y = V.ref t ∧ H t = some (.tup [.int (kOf H y).1, .int (kOf H y).2]) := fun y hy => hx y (st.perm.mem_iff.mp hy)
        have ey : ys.map (kOf H) = srtP ps := srtP_uniq ((st.perm.map _).trans (by rw [ek]; exact (srtP_perm ps).symm)) (SrtO.srtd_map so) (srtP_pair ps)
        have ry := Rps.ofPairs (K := K) (Z := Z) hy
        rw [ey] at ry
        have lv : lev ((srtP ps).map prD) = 9 := by unfold lev; rw [imms_map _ (fun p => by simp [prD])]; rfl
        have := fin_lst (Q := Q) hz ry (by rw [lv]; exact q)
        exact this p' hn
  · cases e
/-- sorted(t), t a tuple -/
def gSrtTT : List D → Option (D × Nat) := fun ds => match ds with
  | [.tup xs] => if (iof xs).isSome = true then gSrtT ds else gSrtTP ds
  | _ => none
def gSrtIP : List D → Option (D × Nat) := fun ds => match ds with
  | [.lst xs] => if (iof xs).isSome = true then gSrtI ds else gSrtP ds
  | _ => gSrtI ds
def gSrt1 : List D → Option (D × Nat) := fun ds => match ds with
  | [.dK _] => gSrtD ds
  | [.tup _] => gSrtTT ds
  | _ => gSrtIP ds
end
section
variable {X : Cx} {e e2 : Expr} {fe fk : Fe} {pos pos' px pt : PySem.Pos} {w : List Nat} {x : Str} {op : Operator} {f : Int → Int → Int}
end
end Zk
namespace Zk
open PySem PySem.Spec PyProof.Rows L2

section
variable {P : Program} {w : World} {K : PySem.W.Frag} {mg : Str → Option Value} {base : Heap} {X : Cx}
theorem _root_.L2.Room.u1 {k : Nat} {A : Around} (hr : Room k A) : A.units + 1 < cLine := by have := hr.un; omega
theorem _root_.L2.Room.u64 {k : Nat} {A : Around} (hr : Room k A) : A.units + 64 < cLine := by have := hr.un; omega
theorem _root_.L2.Room.u65 {k : Nat} {A : Around} (hr : Room k A) : A.units + 65 < cLine := by have := hr.un; omega
/-- a def under its name, with its promise -/
def Ok (P : Program) (w : World) (K : PySem.W.Frag) (mg : Str → Option Value) (base : Heap) (k : Nat) (x : Str) (ps : List Str) (io : Option Nat) (np : Nat) (M : Mir) : Prop :=
  ∃ (f : Addr) (fd : FuncData), FnOk P w K mg base CX0 k f fd ps (spM K io np M) ∧ mg x = some (.ref f) ∧ PySem.W.keepIn K (.ref f) = true ∧ Binds K fd ps []
theorem Ok.mono {j k : Nat} {x : Str} {ps : List Str} {io : Option Nat} {np : Nat} {M : Mir} (o : Ok P w K mg base j x ps io np M) (h : j ≤ k) : Ok P w K mg base k x ps io np M := by
  obtain ⟨f, fd, F, a, b, c⟩ := o
  exact ⟨f, fd, F.mono h, a, b, c⟩
theorem fn_none {k : Nat} {f : Addr} {fd : FuncData} {ps : List Str} {io : Option Nat} {np : Nat} {M : Mir} (h : ∀ ds, M ds = none) : FnOk P w K mg base CX0 k f fd ps (spM K io np M) :=
  have no : ∀ {vs : List V} {H : Hp} {Q : VK} {E : XK}, spM K io np M vs H Q E → False := fun ⟨_, ds, _, _, _, _, _, _, _, d, n, o, e, _⟩ => by rw [h ds] at e; cases e
  ⟨fun vs H Q E q => (no q).elim, fun A outer s H args us vs Q E _ _ _ _ q => (no q).elim⟩
variable {k np : Nat} {ps : List Str} {x : Str} {p pos : PySem.Pos} {e : Expr} {es : List Expr} {fa : Fa} {M : Mir} {io : Option Nat}
/-- f(e, ..) -/
theorem ae_fn (o : Ok X.prog X.w X.K X.mg X.base k x ps io np M) (hr : Room k X.A) (hg : Gl X x) (ha : AA X (e :: es) fa)
    (hnp : ∀ E os E', fa E = some (os, E') → os.length = np) (hdb : (x == ("__debug__" : Str)) = false := by decide) (he : starEach (e :: es) X.env = (false, eval e X.env) :: starEach es X.env := by rfl) (hpl : (backTo pos (starEach es X.env)).any (·.1) = false := by rfl) :
    AE X (.Call (.Name x p) (e :: es) [] pos) (mCall io M fa) := by
  obtain ⟨f, fd, F, a, b, c⟩ := o
  exact ae_call F hr hg a b c ha hnp hdb he hpl
/-- the law's promise -/
theorem law_sp {M : Mir} {H : Hp} {a : Addr} {ns : List Int} {n : Nat} (h : ∀ ns : List Int, ns.length ≤ n → ∃ m o, M [.scr ns] = some (.bl true, m, o)) (hl : ns.length ≤ n) (hO : Only H) (hS : SqL K H a (ns.map V.int)) :
    spM K none 1 M [.ref a] H (fun v _ => v = .bl true) fun _ _ _ => False := by
  obtain ⟨m, o, e⟩ := h ns hl
  refine ⟨fun _ => False, [.scr ns], fun _ => [], rfl, rfl, fun a h => h.elim, fun i v d hv hd => ?_, fun _ _ => rfl, fun _ => List.nodup_nil, .bl true, m, o, e, fun v Z' H' rs' rr _ _ _ _ _ ow _ => ?_⟩
  · cases i with
    | zero =>
      cases hv
      cases hd
      rw [if_neg (by simp)]
      refine .scr ?_
      unfold SqF
      rcases hS with (h | ⟨o, h⟩) | h
      · rcases hO a with z | ⟨o, xs, z⟩
        · rw [z] at h; cases h
        · rw [z] at h; cases h
      · exact .inl ⟨o, h⟩
      · exact .inr h
    | succ i => simp at hv
  · exact (ow.imm (by simp)).2.blE
end
section
variable {K : PySem.W.Frag} {Z Z' Zf Z0 : Addr → Prop} {H H' H0 : Hp} {σ : L2.St} {E E' : Ev} {R R' R0 : Rs}
instance (a b : Int) : Decidable (RgOk a b) := inferInstanceAs (Decidable (_ ∧ _))
theorem rgV_rng {K : PySem.W.Frag} {Z : Addr → Prop} {H : Hp} (a b : Int) : Rps K Z H (rgV a b) (rng a (b - a).toNat) := by
  have e : rgV a b = ((List.range (b - a).toNat).map fun k => a + ((k : Nat) : Int)).map V.int := by unfold rgV; rw [List.map_map]; rfl
  have e2 : rng a (b - a).toNat = ((List.range (b - a).toNat).map fun k => a + ((k : Nat) : Int)).map D.int := by unfold rng; rw [List.map_map]; rfl
  rw [e, e2]
  exact Rps.ofInts _
theorem lev_rng (a : Int) (n : Nat) : lev (rng a n) = 9 := by
  have e2 : rng a n = ((List.range n).map fun k => a + ((k : Nat) : Int)).map D.int := by unfold rng; rw [List.map_map]; rfl
  rw [e2]; exact lev_ints _
def gLrg : List D → Option (D × Nat)
  | [.int j] => if RgOk 0 j then some (.lst (rng 0 j.toNat), 9) else none
  | [.int i, .int j] => if RgOk i j then some (.lst (rng i (j - i).toNat), 9) else none
  | _ => none
def rLrg : List V → Hp → VK → Prop := fun xs H Q => (∃ j, xs = [.int j] ∧ RgOk 0 j ∧ ∀ q, H q = none → Q (.ref q) (upd H q (.lst (rgV 0 j)))) ∨ ∃ i j, xs = [.int i, .int j] ∧ RgOk i j ∧ ∀ q, H q = none → Q (.ref q) (upd H q (.lst (rgV i j)))
theorem al_lrg : AL K rLrg gLrg := by
  intro Z H vs ds d n Q hz k e q
  unfold gLrg at e
  split at e
  · rename_i j
    split at e
    · rename_i ok
      cases e
      obtain ⟨x, rfl, h1⟩ := k.one
      cases Rp.intE h1
      refine .inl ⟨j, rfl, ok, ?_⟩
      have r := rgV_rng (K := K) (Z := Z) (H := H) 0 j
      rw [Int.sub_zero] at r
      exact fin_lst (Q := Q) hz r (by rw [lev_rng]; exact q)
    · cases e
  · rename_i i j
    split at e
    · rename_i ok
      cases e
      obtain ⟨x, y, rfl, h1, h2⟩ := k.two
      cases Rp.intE h1
      cases Rp.intE h2
      exact .inr ⟨i, j, rfl, ok, fin_lst (Q := Q) hz (rgV_rng (K := K) (Z := Z) (H := H) i j) (by rw [lev_rng]; exact q)⟩
    · cases e
  · cases e
def mPar (i j : Nat) (fa : Fa) : Fs := fun E => (fa E).bind fun p => (tkL p.2 p.1).bind fun q => match q.1 with
  | [(d1, n1), (d2, n2)] => if i < q.2.length ∧ j < q.2.length then some (.nx, (q.2.set i (some (d1, n1))).set j (some (d2, n2))) else none
  | _ => none
theorem par_of {i j : Nat} {fa : Fa} {D : Ends} (q : sOf K [i, j] (mPar i j fa) D σ H) : tPar i j (aOf K fa) D σ H := by
  obtain ⟨Z, E, R, s, fl, E', e, q⟩ := q
  unfold mPar at e
  cases e1 : fa E with
  | none => rw [e1] at e; cases e
  | some p =>
    obtain ⟨os, E1⟩ := p
    rw [e1] at e
    simp only [Option.bind_some] at e
    cases e2 : tkL E1 os with
    | none => rw [e2] at e; cases e
    | some p2 =>
      obtain ⟨ds, E2⟩ := p2
      rw [e2] at e
      simp only [Option.bind_some] at e
      split at e
      · rename_i d1 n1 d2 n2
        split at e
        · rename_i hl
          cases e
          refine ⟨Z, E, R, s, os, E1, e1, fun vs Z1 H1 R1 rss s1 t1 a1 f1 => ?_⟩
          obtain ⟨Zf, R2, s2, t2, tl, no2, sub⟩ := s1.takeL a1 f1.no e2
          cases tl with
          | @cons v _ r1 _ _ _ h1 tl =>
            cases tl with
            | @cons w _ r2 _ _ _ h2 tl =>
              cases tl
              refine ⟨v, w, rfl, ?_⟩
              have nd := f1.nd
              simp only [List.flatten_cons, List.flatten_nil, List.append_nil] at nd no2
              have of := f1.of
              simp only [List.flatten_cons, List.flatten_nil, List.append_nil] at of
              have nd2 := List.nodup_append.mp nd
              have s3 := s2.setSlot (v := v) hl.1 h1 nd2.1 fun a m => no2 a (List.mem_append_left _ m)
              have s4 := s3.setSlot (v := w) (by rw [List.length_set]; exact hl.2) h2 nd2.2.1 fun a m z => by
                rcases ow_put z with z | z
                · exact nd2.2.2 a z a m rfl
                · exact no2 a (List.mem_append_right _ m) z
              refine q _ Zf H1 _ s4 ((t1.trans t2).fin (fun _ h => h) (fun a z => .inl z) (.refl _) fun a z => ?_) fun k hk => ?_
              · rcases ow_put z with z | z
                · exact .inr ((of a (List.mem_append_right _ z)).imp id id)
                · rcases ow_put z with z | z
                  · exact .inr ((of a (List.mem_append_left _ z)).imp id id)
                  · exact .inl z
              · simp only [List.mem_cons, List.not_mem_nil, or_false, not_or] at hk
                rw [List.getElem?_set_ne (Ne.symm hk.2), List.getElem?_set_ne (Ne.symm hk.1)]
        · cases e
      · cases e
end
section
variable {X : Cx} {e e2 a b : Expr} {fe fk : Fe} {fa : Fa} {pos pos' px py pt : PySem.Pos} {x y : Str} {kt k2 : Nat} {pt2 p p2 : PySem.Pos}
theorem as_par (i j : Nat) {x y : Str} {kt k2 pt2} (ha : AA X [a, b] fa) (hN : X.N.Nodup) (hc : X.calm = true := by rfl) (hi : X.N[i]? = some x := by rfl) (hj : X.N[j]? = some y := by rfl) (hij : i ≠ j := by decide)
    (hx : X.env.scope.names.lookup x = some .local := by rfl) (hy : X.env.scope.names.lookup y = some .local := by rfl)
    (hw : swappedStores [.Tuple [.Name x px, .Name y py] kt pt] (.Tuple [a, b] k2 pt2) X.env = pure (some [x, y]) := by rfl)
    (hs : swapsWithSole [.Tuple [.Name x px, .Name y py] kt pt] (.Tuple [a, b] k2 pt2) pos.line X.env = pure false := by rfl) :
    AS X (.Assign [.Tuple [.Name x px, .Name y py] kt pt] (.Tuple [a, b] k2 pt2) pos) [i, j] (mPar i j fa) := PS.mono (ps_par hc hN hi hj hij hx hy ha hw hs) fun D σ H q => par_of q
theorem call_maxA (hc : X.calm = true := by rfl) : CallR X (.builtin "max") (rMaxs X.K) := (cr_max hc).or (call_max2 hc)
theorem call_isiA : CallR X (.builtin "isinstance") (fun vs H Q => rIsi X.K vs H Q ∨ rIsiT X.K vs H Q ∨ rIsiK X.K vs H Q) := call_isi.or (call_isiT.or call_isiK)
def gSrtDT : List D → Option (D × Nat) := fun ds => match ds with
  | [.dK _] => gSrtD ds
  | _ => gSrtTT ds
def mSrt (a : Fe) : Fe := mOp gSrt1 (mAc a mA0)
theorem ae_srt {x : Str} (hg : Gl X x) (hm : X.mg x = none) (ha : AE X a fe) (hx : bootBuiltins x = some (.builtin "sorted") := by exact boot_sorted) (hc : X.calm = true := by rfl) (hn : x ≠ "__name__" := by decide) (hdb : (x == ("__debug__" : Str)) = false := by decide)
    (he : starEach [a] X.env = (false, eval a X.env) :: starEach [] X.env := by rfl) (hpl : (backTo pos (starEach [] X.env)).any (·.1) = false := by rfl) : AE X (.Call (.Name x p) [a] [] pos) (mSrt fe) :=
  PE.mono (PE.or (PE.or (PE.or (PE.or (pe_callB cr_sortedI hg hm hx (aa_cons ha aa_nil he) hn hdb he hpl) (pe_callB cr_sortedPO hg hm hx (aa_cons ha aa_nil he) hn hdb he hpl)) (pe_callB (cr_srtD hc) hg hm hx (aa_cons ha aa_nil he) hn hdb he hpl)) (pe_callB cr_srtT hg hm hx (aa_cons ha aa_nil he) hn hdb he hpl)) (pe_callB cr_srtTP hg hm hx (aa_cons ha aa_nil he) hn hdb he hpl)) fun σ H Q q => by
    have sp : ∀ ds, gSrt1 ds = gSrtIP ds ∨ gSrt1 ds = gSrtDT ds := fun ds => by
      unfold gSrt1 gSrtDT
      split
      · exact .inr rfl
      · exact .inr rfl
      · exact .inl rfl
    have sp3 : ∀ ds, gSrtDT ds = gSrtD ds ∨ gSrtDT ds = gSrtTT ds := fun ds => by
      unfold gSrtDT
      split
      · exact .inl rfl
      · exact .inr rfl
    have sp2 : ∀ ds, gSrtIP ds = gSrtI ds ∨ gSrtIP ds = gSrtP ds := fun ds => by
      unfold gSrtIP
      split
      · split
        · exact .inl rfl
        · exact .inr rfl
      · exact .inl rfl
    rcases op_split sp q with q | q
    · rcases op_split sp2 q with q | q
      · exact .inl (.inl (.inl (.inl (op_of al_srtI q))))
      · exact .inl (.inl (.inl (.inr (op_of al_srtP q))))
    · rcases op_split sp3 q with q | q
      · exact .inl (.inl (.inr (op_of al_srtD q)))
      · have sp4 : ∀ ds, gSrtTT ds = gSrtT ds ∨ gSrtTT ds = gSrtTP ds := fun ds => by
          unfold gSrtTT
          split
          · split
            · exact .inl rfl
            · exact .inr rfl
          · rename_i hne
            refine .inl ?_
            unfold gSrtT
            split
            · rename_i xs
              exact absurd rfl (hne xs)
            · rfl
        rcases op_split sp4 q with q | q
        · exact .inl (.inr (op_of al_srtT q))
        · exact .inr (op_of al_srtTP q)
def mLrg2 (a b : Fe) : Fe := mOp gLrg (mA2 a b)
theorem ae_lrg2 (ha : AE X a fe) (hb : AE X b fk) (hg : Gl X "list") (hm : X.mg "list" = none) (hg2 : Gl X "range") (hm2 : X.mg "range" = none) (hc : X.calm = true := by rfl) (na : starEach [a, b] X.env = (false, eval a X.env) :: starEach [b] X.env := by rfl)
    (na2 : starEach [b] X.env = (false, eval b X.env) :: starEach [] X.env := by rfl) (hp : (backTo pos' (starEach [b] X.env)).any (·.1) = false := by rfl)
    (nb : starEach [.Call (.Name "range" p2) [a, b] [] pos'] X.env = (false, eval (.Call (.Name "range" p2) [a, b] [] pos') X.env) :: starEach [] X.env := by rfl) : AE X (.Call (.Name "list" p) [.Call (.Name "range" p2) [a, b] [] pos'] [] pos) (mLrg2 fe fk) :=
  PE.mono (pe_listRg hc hg hm (prg_2 hg2 hm2 ha hb na na2 hp) nb) fun σ H Q q => eOf_imp (fun v H1 q1 => eOf_imp (fun u H2 q2 => by
    rcases q2 with ⟨j, e, ok, q3⟩ | ⟨i, j, e, ok, q3⟩
    · cases e
    · cases e; exact ⟨i, j, rfl, rfl, ok, q3⟩) q1) (aOf_2 (op_of al_lrg q))
end
end Zk
namespace Zk
open PySem PySem.Spec PyProof.Rows L2

structure Tg {α : Type} (Q : α → Prop) : Type where
/-- x tells something of which Q holds (the tag keeps simp out of Q until x is reckoned) -/
def W {α : Type} (x : Option α) (Q : α → Prop) (_ : Tg Q := ⟨⟩) : Prop := ∃ a, x = some a ∧ Q a
structure Tg2 (A B : Prop) : Type where
section
variable {α β : Type} {x : Option α} {Q Q' : β → Prop} {P P' : α → Prop}
@[simp ↓] theorem W_some {a : α} : W (some a) P ↔ P a := ⟨fun ⟨_, e, h⟩ => by cases e; exact h, fun h => ⟨_, rfl, h⟩⟩
@[simp ↓] theorem W_none : W (none : Option α) P ↔ False := by
  constructor
  · rintro ⟨_, e, _⟩
    cases e
  · intro h
    exact h.elim
@[simp ↓] theorem W_bind {f : α → Option β} : W (x.bind f) Q ↔ W x fun a => W (f a) Q := by
  cases x with
  | none => simp
  | some a => simp
@[simp ↓] theorem W_map {f : α → β} : W (x.map f) Q ↔ W x fun a => Q (f a) := by
  cases x with
  | none => simp
  | some a => simp
theorem W_ite {c : Prop} [Decidable c] {a b : Option α} : W (if c then a else b) P ↔ (c → W a P) ∧ (¬ c → W b P) := by
  by_cases h : c <;> simp [h]
@[simp ↓] theorem W_if1 {c : Prop} [Decidable c] {a : Option α} : W (if c then a else none) P ↔ c ∧ W a P := by
  by_cases h : c <;> simp [h]
theorem W_ext (h : ∀ a, P a ↔ P' a) : W x P ↔ W x P' := ⟨fun ⟨a, e, p⟩ => ⟨a, e, (h a).mp p⟩, fun ⟨a, e, p⟩ => ⟨a, e, (h a).mpr p⟩⟩
/-- one of two -/
def IfB (b : Bool) (A B : Prop) (_ : Tg2 A B := ⟨⟩) : Prop := (b = true → A) ∧ (b = false → B)
@[simp ↓] theorem IfB_t {A B : Prop} : IfB true A B ↔ A := by simp [IfB]
@[simp ↓] theorem IfB_f {A B : Prop} : IfB false A B ↔ B := by simp [IfB]
@[simp] theorem IfB_not {b : Bool} {A B : Prop} : IfB (!b) A B ↔ IfB b B A := by cases b <;> simp
@[simp 50] theorem IfB_of {b : Bool} {A B : Prop} : IfB b A B ↔ (b = true → A) ∧ (b = false → B) := Iff.rfl
@[simp 60] theorem IfB_d {c : Prop} [Decidable c] {A B : Prop} : IfB (decide c) A B ↔ (c → A) ∧ (¬ c → B) := by simp [IfB]
theorem W_iteB {b : Bool} {u v : Option α} : W (if b = true then u else v) P ↔ IfB b (W u P) (W v P) := by cases b <;> simp [W_ite]
theorem W.mono (h : W x P) (m : ∀ a, P a → P' a) : W x P' := by
  obtain ⟨a, e, p⟩ := h
  exact ⟨a, e, m a p⟩
theorem W.mp (h : W x P) : ∃ a, x = some a ∧ P a := h
theorem W.of {a : α} (h : x = some a) (p : P a) : W x P := ⟨a, h, p⟩
theorem W.eq {a : α} (h : x = some a) : W x P ↔ P a := by rw [h, W_some]
end
section
variable {E : Ev} {i n m : Nat} {d : D} {p : Option (D × Nat)} {l : Ev} {a b c : Fe} {fa : Fa} {ft fu : Ft} {s t : Fs} {it : Fi} {g : Fg} {gs : List D → Ev → Option Ev}
  {G : List D → Option D} {G2 : List D → Option (D × Nat)} {M : Mir} {os : List Op} {o : Op} {Qe : Op × Ev → Prop} {Qa : List Op × Ev → Prop} {Qt : Bool × Ev → Prop} {Qs : Fl × Ev → Prop} {Qi : List D × Ev → Prop} {Qg : Ev → Prop} {Qd : D → Prop} {Ql : List D → Prop} {Qk : D × Nat × Ev → Prop}
@[simp] theorem get_z {α : Type} {a : α} {l : List α} : (a :: l)[0]? = some a := rfl
@[simp] theorem get_s {α : Type} {a : α} {l : List α} : (a :: l)[n + 1]? = l[n]? := rfl
@[simp] theorem eg_0 : eg (p :: l) 0 = p := rfl
@[simp] theorem eg_s : eg (p :: l) (n + 1) = eg l n := rfl
@[simp] theorem eg_nil : eg [] n = none := by simp [eg]
@[simp ↓] theorem W_var : W (mVar i E) Qe ↔ (eg E i).isSome = true ∧ Qe (.slot i, E) := by unfold mVar; (repeat (first | exact Iff.rfl | (refine W_ext fun _ => ?_) | (refine W_bind.trans (W_ext fun _ => ?_)) | exact W_map | exact W_if1.trans Iff.rfl | (simp [W_ite, IfB]; done) | simp))
@[simp ↓] theorem W_c : W (mC d E) Qe ↔ Qe (.val d 9, E) := by unfold mC; (repeat (first | exact Iff.rfl | (refine W_ext fun _ => ?_) | (refine W_bind.trans (W_ext fun _ => ?_)) | exact W_map | exact W_if1.trans Iff.rfl | (simp [W_ite, IfB]; done) | simp))
@[simp ↓] theorem W_ro : W (mRO G fa E) Qe ↔ W (fa E) fun p => W (rdL p.2 p.1) fun ds => W (G ds) fun d => Qe (.val d 9, p.2) := by unfold mRO; (repeat (first | exact Iff.rfl | (refine W_ext fun _ => ?_) | (refine W_bind.trans (W_ext fun _ => ?_)) | exact W_map | exact W_if1.trans Iff.rfl | (simp [W_ite, IfB]; done) | simp))
@[simp ↓] theorem W_al : W (mAL G2 fa E) Qe ↔ W (fa E) fun p => W (akL p.2 p.1) fun q => W (G2 q.1) fun d => Qe (.val d.1 d.2, q.2) := by unfold mAL; (repeat (first | exact Iff.rfl | (refine W_ext fun _ => ?_) | (refine W_bind.trans (W_ext fun _ => ?_)) | exact W_map | exact W_if1.trans Iff.rfl | (simp [W_ite, IfB]; done) | simp))
@[simp ↓] theorem W_op : W (mOp G2 fa E) Qe ↔ W (fa E) fun p => W (rdL p.2 p.1) fun ds => W (G2 ds) fun d => IfB (imm d.1) (Qe (.val d.1 9, p.2)) (W (akL p.2 p.1) fun q => Qe (.val d.1 d.2, q.2)) := by
  unfold mOp
  simp only [W_bind, W_iteB, W_some, W_map]
  try (repeat (first | exact Iff.rfl | (refine W_ext fun _ => ?_) | (refine W_bind.trans (W_ext fun _ => ?_)) | exact W_map | exact W_if1.trans Iff.rfl | (simp [W_ite, IfB]; done) | simp))
@[simp ↓] theorem W_a0 : W (mA0 E) Qa ↔ Qa ([], E) := by unfold mA0; (repeat (first | exact Iff.rfl | (refine W_ext fun _ => ?_) | (refine W_bind.trans (W_ext fun _ => ?_)) | exact W_map | exact W_if1.trans Iff.rfl | (simp [W_ite, IfB]; done) | simp))
@[simp ↓] theorem W_a1 : W (mA1 a E) Qa ↔ W (a E) fun p => Qa ([p.1], p.2) := by unfold mA1; (repeat (first | exact Iff.rfl | (refine W_ext fun _ => ?_) | (refine W_bind.trans (W_ext fun _ => ?_)) | exact W_map | exact W_if1.trans Iff.rfl | (simp [W_ite, IfB]; done) | simp))
@[simp ↓] theorem W_a2 : W (mA2 a b E) Qa ↔ W (a E) fun p => W (b p.2) fun q => Qa ([p.1, q.1], q.2) := by unfold mA2; (repeat (first | exact Iff.rfl | (refine W_ext fun _ => ?_) | (refine W_bind.trans (W_ext fun _ => ?_)) | exact W_map | exact W_if1.trans Iff.rfl | (simp [W_ite, IfB]; done) | simp))
@[simp ↓] theorem W_ac : W (mAc a fa E) Qa ↔ W (a E) fun p => W (fa p.2) fun q => Qa (p.1 :: q.1, q.2) := by unfold mAc; (repeat (first | exact Iff.rfl | (refine W_ext fun _ => ?_) | (refine W_bind.trans (W_ext fun _ => ?_)) | exact W_map | exact W_if1.trans Iff.rfl | (simp [W_ite, IfB]; done) | simp))
@[simp ↓] theorem W_rdL_nil : W (rdL E []) Ql ↔ Ql [] := by simp [rdL]; try (repeat (first | exact Iff.rfl | (refine W_ext fun _ => ?_) | (refine W_bind.trans (W_ext fun _ => ?_)) | exact W_map | exact W_if1.trans Iff.rfl | (simp [W_ite, IfB]; done) | simp))
@[simp ↓] theorem W_rdL_cons : W (rdL E (o :: os)) Ql ↔ W (rd E o) fun d => W (rdL E os) fun ds => Ql (d :: ds) := by simp [rdL]; try (repeat (first | exact Iff.rfl | (refine W_ext fun _ => ?_) | (refine W_bind.trans (W_ext fun _ => ?_)) | exact W_map | exact W_if1.trans Iff.rfl | (simp [W_ite, IfB]; done) | simp))
@[simp ↓] theorem W_rd_val : W (rd E (.val d n)) Qd ↔ Qd d := by simp [rd]; try (repeat (first | exact Iff.rfl | (refine W_ext fun _ => ?_) | (refine W_bind.trans (W_ext fun _ => ?_)) | exact W_map | exact W_if1.trans Iff.rfl | (simp [W_ite, IfB]; done) | simp))
@[simp ↓] theorem W_rd_slot : W (rd E (.slot i)) Qd ↔ W (eg E i) fun p => Qd p.1 := by simp [rd]; try (repeat (first | exact Iff.rfl | (refine W_ext fun _ => ?_) | (refine W_bind.trans (W_ext fun _ => ?_)) | exact W_map | exact W_if1.trans Iff.rfl | (simp [W_ite, IfB]; done) | simp))
@[simp ↓] theorem W_akL_nil {Q : List D × Ev → Prop} : W (akL E []) Q ↔ Q ([], E) := by simp [akL]; try (repeat (first | exact Iff.rfl | (refine W_ext fun _ => ?_) | (refine W_bind.trans (W_ext fun _ => ?_)) | exact W_map | exact W_if1.trans Iff.rfl | (simp [W_ite, IfB]; done) | simp))
@[simp ↓] theorem W_akL_cons {Q : List D × Ev → Prop} : W (akL E (o :: os)) Q ↔ W (ak E o) fun p => W (akL p.2 os) fun q => Q (p.1 :: q.1, q.2) := by simp [akL]; try (repeat (first | exact Iff.rfl | (refine W_ext fun _ => ?_) | (refine W_bind.trans (W_ext fun _ => ?_)) | exact W_map | exact W_if1.trans Iff.rfl | (simp [W_ite, IfB]; done) | simp))
@[simp ↓] theorem W_ak_val {Q : D × Ev → Prop} : W (ak E (.val d n)) Q ↔ Q (d, E) := by simp [ak]; try (repeat (first | exact Iff.rfl | (refine W_ext fun _ => ?_) | (refine W_bind.trans (W_ext fun _ => ?_)) | exact W_map | exact W_if1.trans Iff.rfl | (simp [W_ite, IfB]; done) | simp))
@[simp ↓] theorem W_ak_slot {Q : D × Ev → Prop} : W (ak E (.slot i)) Q ↔ W (eg E i) fun p => IfB (imm p.1 || flat p.1 || decide (p.2 ≤ 1)) (Q (p.1, E)) (Q (p.1, E.set i (some (p.1, 0)))) := by
  unfold ak
  cases h : eg E i with
  | none => simp [h]
  | some p =>
    obtain ⟨d, n⟩ := p
    simp only [h, W_some, W_ite, IfB, Bool.or_eq_true, decide_eq_true_eq, Bool.or_eq_false_iff, decide_eq_false_iff_not, not_or, Bool.not_eq_true, or_assoc, and_assoc]
@[simp ↓] theorem W_tk_val : W (tk E (.val d n)) Qk ↔ Qk (d, n, E) := by simp [tk]; try (repeat (first | exact Iff.rfl | (refine W_ext fun _ => ?_) | (refine W_bind.trans (W_ext fun _ => ?_)) | exact W_map | exact W_if1.trans Iff.rfl | (simp [W_ite, IfB]; done) | simp))
@[simp ↓] theorem W_tk_slot : W (tk E (.slot i)) Qk ↔ W (eg E i) fun p => IfB (imm p.1) (Qk (p.1, 9, E)) (Qk (p.1, 0, E.set i (some (p.1, 0)))) := by
  unfold tk
  cases h : eg E i with
  | none => simp [h]
  | some p =>
    obtain ⟨d, n⟩ := p
    simp only [h, W_some, W_iteB]
    cases imm d <;> simp
@[simp ↓] theorem W_mv_val : W (mv E (.val d n)) Qk ↔ Qk (d, n, E) := by simp [mv]; try (repeat (first | exact Iff.rfl | (refine W_ext fun _ => ?_) | (refine W_bind.trans (W_ext fun _ => ?_)) | exact W_map | exact W_if1.trans Iff.rfl | (simp [W_ite, IfB]; done) | simp))
@[simp ↓] theorem W_mv_slot : W (mv E (.slot i)) Qk ↔ W (eg E i) fun p => IfB (imm p.1) (Qk (p.1, 9, E)) (Qk (p.1, p.2, E.set i none)) := by
  unfold mv
  cases h : eg E i with
  | none => simp [h]
  | some p =>
    obtain ⟨d, n⟩ := p
    simp only [h, W_some, W_iteB]
    cases imm d <;> simp
@[simp ↓] theorem W_tkL_nil {Q : List (D × Nat) × Ev → Prop} : W (tkL E []) Q ↔ Q ([], E) := by simp [tkL]; try (repeat (first | exact Iff.rfl | (refine W_ext fun _ => ?_) | (refine W_bind.trans (W_ext fun _ => ?_)) | exact W_map | exact W_if1.trans Iff.rfl | (simp [W_ite, IfB]; done) | simp))
@[simp ↓] theorem W_tkL_cons {Q : List (D × Nat) × Ev → Prop} : W (tkL E (o :: os)) Q ↔ W (tk E o) fun p => W (tkL p.2.2 os) fun q => Q ((p.1, p.2.1) :: q.1, q.2) := by simp [tkL]; try (repeat (first | exact Iff.rfl | (refine W_ext fun _ => ?_) | (refine W_bind.trans (W_ext fun _ => ?_)) | exact W_map | exact W_if1.trans Iff.rfl | (simp [W_ite, IfB]; done) | simp))
@[simp ↓] theorem W_add : W (mAdd a b E) Qe ↔ W (mAL gAdd (mA2 a b) E) Qe := Iff.rfl
@[simp ↓] theorem W_mul : W (mMul a b E) Qe ↔ W (mAL gMul (mA2 a b) E) Qe := Iff.rfl
@[simp ↓] theorem W_sub : W (mSub a b E) Qe ↔ W (mRO gSub (mA2 a b) E) Qe := Iff.rfl
@[simp ↓] theorem W_div : W (mDiv a b E) Qe ↔ W (mRO gDiv (mA2 a b) E) Qe := Iff.rfl
@[simp ↓] theorem W_mod : W (mMod a b E) Qe ↔ W (mRO gMod (mA2 a b) E) Qe := Iff.rfl
@[simp ↓] theorem W_pow : W (mPow a b E) Qe ↔ W (mRO gPow (mA2 a b) E) Qe := Iff.rfl
@[simp ↓] theorem W_shl : W (mShl a b E) Qe ↔ W (mRO gShl (mA2 a b) E) Qe := Iff.rfl
@[simp ↓] theorem W_lt : W (mLt a b E) Qe ↔ W (mRO (gB2 fun i j => decide (i < j)) (mA2 a b) E) Qe := Iff.rfl
@[simp ↓] theorem W_gt : W (mGt a b E) Qe ↔ W (mRO (gB2 fun i j => decide (j < i)) (mA2 a b) E) Qe := Iff.rfl
@[simp ↓] theorem W_ge : W (mGe a b E) Qe ↔ W (mRO (gB2 fun i j => decide (j ≤ i)) (mA2 a b) E) Qe := Iff.rfl
@[simp ↓] theorem W_neg : W (mNeg a E) Qe ↔ W (mRO gNeg (mA1 a) E) Qe := Iff.rfl
@[simp ↓] theorem W_eq : W (mEq a b E) Qe ↔ W (mRO gEq (mA2 a b) E) Qe := Iff.rfl
@[simp ↓] theorem W_ne : W (mNe a b E) Qe ↔ W (mRO gNe (mA2 a b) E) Qe := Iff.rfl
@[simp ↓] theorem W_isN : W (mIsN a E) Qe ↔ W (mRO gIsN (mA1 a) E) Qe := Iff.rfl
@[simp ↓] theorem W_ixd : W (mIxd a b E) Qe ↔ W (mOp gIxd (mA2 a b) E) Qe := Iff.rfl
@[simp ↓] theorem W_in : W (mIn a b E) Qe ↔ W (mOp (gInA false) (mA2 a b) E) Qe := Iff.rfl
@[simp ↓] theorem W_notIn : W (mNotIn a b E) Qe ↔ W (mOp (gInA true) (mA2 a b) E) Qe := Iff.rfl
@[simp ↓] theorem W_sl : W (mSl a b c E) Qe ↔ W (mOp gSl (mAc a (mAc b (mAc c mA0))) E) Qe := Iff.rfl
@[simp ↓] theorem W_srt : W (mSrt a E) Qe ↔ W (mOp gSrt1 (mAc a mA0) E) Qe := Iff.rfl
@[simp ↓] theorem W_lrg2 : W (mLrg2 a b E) Qe ↔ W (mOp gLrg (mA2 a b) E) Qe := Iff.rfl
@[simp ↓] theorem W_int : W (mInt a E) Qe ↔ W (a E) fun p => W (rd p.2 p.1) fun d => (match d with | .int k => Qe (.val (.int k) 9, p.2) | _ => False) := by
  unfold mInt
  simp only [W_bind]
  refine W_ext fun p => ?_; refine W_bind.trans <| W_ext fun d => ?_
  cases d <;> simp
@[simp ↓] theorem W_lst : W (mLst fa E) Qe ↔ W (fa E) fun p => W (tkL p.2 p.1) fun q => q.1.length ≤ sizeLine ∧ Qe (.val (.lst (q.1.map (·.1))) (uni q.1), q.2) := by unfold mLst; (repeat (first | exact Iff.rfl | (refine W_ext fun _ => ?_) | (refine W_bind.trans (W_ext fun _ => ?_)) | exact W_map | exact W_if1.trans Iff.rfl | (simp [W_ite, IfB]; done) | simp))
@[simp ↓] theorem W_tup : W (mTup fa E) Qe ↔ W (fa E) fun p => W (tkL p.2 p.1) fun q => q.1.length ≤ sizeLine ∧ Qe (.val (.tup (q.1.map (·.1))) 0, q.2) := by unfold mTup; (repeat (first | exact Iff.rfl | (refine W_ext fun _ => ?_) | (refine W_bind.trans (W_ext fun _ => ?_)) | exact W_map | exact W_if1.trans Iff.rfl | (simp [W_ite, IfB]; done) | simp))
@[simp ↓] theorem W_andV : W (mAndV a b E) Qe ↔ W (a E) fun p => W (rd p.2 p.1) fun d => W (tru d) fun k => IfB k (W (b p.2) Qe) (Qe p) := by unfold mAndV; simp only [W_bind]; (repeat (first | exact Iff.rfl | (refine W_ext fun _ => ?_) | (refine W_bind.trans (W_ext fun _ => ?_)) | exact W_map | exact W_if1.trans Iff.rfl | (simp [W_ite, IfB]; done) | simp)); try (repeat (first | exact Iff.rfl | (refine W_ext fun _ => ?_) | (refine W_bind.trans (W_ext fun _ => ?_)) | exact W_map | exact W_if1.trans Iff.rfl | (simp [W_ite, IfB]; done) | simp))
@[simp ↓] theorem W_notV : W (mNotV a E) Qe ↔ W (a E) fun p => W (rd p.2 p.1) fun d => W (tru d) fun k => Qe (.val (.bl (!k)) 9, p.2) := by unfold mNotV; (repeat (first | exact Iff.rfl | (refine W_ext fun _ => ?_) | (refine W_bind.trans (W_ext fun _ => ?_)) | exact W_map | exact W_if1.trans Iff.rfl | (simp [W_ite, IfB]; done) | simp))
@[simp ↓] theorem W_b : W (mB a E) Qt ↔ W (a E) fun p => W (rd p.2 p.1) fun d => (match d with | .bl k => Qt (k, p.2) | _ => False) := by
  unfold mB
  simp only [W_bind]
  refine W_ext fun p => ?_; refine W_bind.trans <| W_ext fun d => ?_
  cases d <;> simp
@[simp ↓] theorem W_tr : W (mTr a E) Qt ↔ W (a E) fun p => W (rd p.2 p.1) fun d => W (tru d) fun k => Qt (k, p.2) := by unfold mTr; (repeat (first | exact Iff.rfl | (refine W_ext fun _ => ?_) | (refine W_bind.trans (W_ext fun _ => ?_)) | exact W_map | exact W_if1.trans Iff.rfl | (simp [W_ite, IfB]; done) | simp))
@[simp ↓] theorem W_andT : W (mAndT ft fu E) Qt ↔ W (ft E) fun p => IfB p.1 (W (fu p.2) Qt) (Qt (false, p.2)) := by unfold mAndT; simp only [W_bind]; (repeat (first | exact Iff.rfl | (refine W_ext fun _ => ?_) | (refine W_bind.trans (W_ext fun _ => ?_)) | exact W_map | exact W_if1.trans Iff.rfl | (simp [W_ite, IfB]; done) | simp)); try (repeat (first | exact Iff.rfl | (refine W_ext fun _ => ?_) | (refine W_bind.trans (W_ext fun _ => ?_)) | exact W_map | exact W_if1.trans Iff.rfl | (simp [W_ite, IfB]; done) | simp))
@[simp ↓] theorem W_orT : W (mOrT ft fu E) Qt ↔ W (ft E) fun p => IfB p.1 (Qt (true, p.2)) (W (fu p.2) Qt) := by unfold mOrT; simp only [W_bind]; (repeat (first | exact Iff.rfl | (refine W_ext fun _ => ?_) | (refine W_bind.trans (W_ext fun _ => ?_)) | exact W_map | exact W_if1.trans Iff.rfl | (simp [W_ite, IfB]; done) | simp)); try (repeat (first | exact Iff.rfl | (refine W_ext fun _ => ?_) | (refine W_bind.trans (W_ext fun _ => ?_)) | exact W_map | exact W_if1.trans Iff.rfl | (simp [W_ite, IfB]; done) | simp))
@[simp ↓] theorem W_notT : W (mNotT ft E) Qt ↔ W (ft E) fun p => Qt (!p.1, p.2) := by unfold mNotT; (repeat (first | exact Iff.rfl | (refine W_ext fun _ => ?_) | (refine W_bind.trans (W_ext fun _ => ?_)) | exact W_map | exact W_if1.trans Iff.rfl | (simp [W_ite, IfB]; done) | simp))
@[simp ↓] theorem W_yes : W (mYes E) Qt ↔ Qt (true, E) := by unfold mYes; (repeat (first | exact Iff.rfl | (refine W_ext fun _ => ?_) | (refine W_bind.trans (W_ext fun _ => ?_)) | exact W_map | exact W_if1.trans Iff.rfl | (simp [W_ite, IfB]; done) | simp))
@[simp ↓] theorem W_seq : W (mSeq s t E) Qs ↔ W (s E) fun p => (match p.1 with | .nx => W (t p.2) Qs | fl => Qs (fl, p.2)) := by
  unfold mSeq
  simp only [W_bind]
  refine W_ext fun p => ?_
  obtain ⟨fl, E1⟩ := p
  cases fl <;> simp
@[simp ↓] theorem W_nx : W (mNx E) Qs ↔ Qs (.nx, E) := by unfold mNx; (repeat (first | exact Iff.rfl | (refine W_ext fun _ => ?_) | (refine W_bind.trans (W_ext fun _ => ?_)) | exact W_map | exact W_if1.trans Iff.rfl | (simp [W_ite, IfB]; done) | simp))
@[simp ↓] theorem W_bk : W (mBk E) Qs ↔ Qs (.bk, E) := by unfold mBk; (repeat (first | exact Iff.rfl | (refine W_ext fun _ => ?_) | (refine W_bind.trans (W_ext fun _ => ?_)) | exact W_map | exact W_if1.trans Iff.rfl | (simp [W_ite, IfB]; done) | simp))
@[simp ↓] theorem W_set : W (mSet i a E) Qs ↔ W (a E) fun p => W (tk p.2 p.1) fun q => i < q.2.2.length ∧ Qs (.nx, q.2.2.set i (some (q.1, q.2.1))) := by unfold mSet; (repeat (first | exact Iff.rfl | (refine W_ext fun _ => ?_) | (refine W_bind.trans (W_ext fun _ => ?_)) | exact W_map | exact W_if1.trans Iff.rfl | (simp [W_ite, IfB]; done) | simp))
@[simp ↓] theorem W_ret : W (mRet a E) Qs ↔ W (a E) fun p => W (mv p.2 p.1) fun q => Qs (.rt q.1 q.2.1, q.2.2) := by unfold mRet; (repeat (first | exact Iff.rfl | (refine W_ext fun _ => ?_) | (refine W_bind.trans (W_ext fun _ => ?_)) | exact W_map | exact W_if1.trans Iff.rfl | (simp [W_ite, IfB]; done) | simp))
@[simp ↓] theorem W_ex : W (mEx a E) Qs ↔ W (a E) fun p => Qs (.nx, p.2) := by unfold mEx; (repeat (first | exact Iff.rfl | (refine W_ext fun _ => ?_) | (refine W_bind.trans (W_ext fun _ => ?_)) | exact W_map | exact W_if1.trans Iff.rfl | (simp [W_ite, IfB]; done) | simp))
@[simp ↓] theorem W_ifS : W (mIfS ft s t E) Qs ↔ W (ft E) fun p => IfB p.1 (W (s p.2) Qs) (W (t p.2) Qs) := by unfold mIfS; simp only [W_bind]; (repeat (first | exact Iff.rfl | (refine W_ext fun _ => ?_) | (refine W_bind.trans (W_ext fun _ => ?_)) | exact W_map | exact W_if1.trans Iff.rfl | (simp [W_ite, IfB]; done) | simp)); try (repeat (first | exact Iff.rfl | (refine W_ext fun _ => ?_) | (refine W_bind.trans (W_ext fun _ => ?_)) | exact W_map | exact W_if1.trans Iff.rfl | (simp [W_ite, IfB]; done) | simp))
@[simp ↓] theorem W_tgTl {ds : List D} : W (tgT n gs (.lst ds) E) Qg ↔ ds.length = n ∧ W (gs ds E) Qg := by simp [tgT]; try (repeat (first | exact Iff.rfl | (refine W_ext fun _ => ?_) | (refine W_bind.trans (W_ext fun _ => ?_)) | exact W_map | exact W_if1.trans Iff.rfl | (simp [W_ite, IfB]; done) | simp))
@[simp ↓] theorem W_tgV : W (tgV i d E) Qg ↔ i < E.length ∧ Qg (E.set i (some (d, 0))) := by unfold tgV; (repeat (first | exact Iff.rfl | (refine W_ext fun _ => ?_) | (refine W_bind.trans (W_ext fun _ => ?_)) | exact W_map | exact W_if1.trans Iff.rfl | (simp [W_ite, IfB]; done) | simp))
@[simp ↓] theorem W_tgN : W (tgN [] E) Qg ↔ Qg E := by simp [tgN]; try (repeat (first | exact Iff.rfl | (refine W_ext fun _ => ?_) | (refine W_bind.trans (W_ext fun _ => ?_)) | exact W_map | exact W_if1.trans Iff.rfl | (simp [W_ite, IfB]; done) | simp))
@[simp ↓] theorem W_tgC {ds : List D} : W (tgC g gs (d :: ds) E) Qg ↔ W (g d E) fun E1 => W (gs ds E1) Qg := by simp [tgC]; try (repeat (first | exact Iff.rfl | (refine W_ext fun _ => ?_) | (refine W_bind.trans (W_ext fun _ => ?_)) | exact W_map | exact W_if1.trans Iff.rfl | (simp [W_ite, IfB]; done) | simp))
@[simp ↓] theorem W_tgT {ds : List D} : W (tgT n gs (.tup ds) E) Qg ↔ ds.length = n ∧ W (gs ds E) Qg := by simp [tgT]; try (repeat (first | exact Iff.rfl | (refine W_ext fun _ => ?_) | (refine W_bind.trans (W_ext fun _ => ?_)) | exact W_map | exact W_if1.trans Iff.rfl | (simp [W_ite, IfB]; done) | simp))
@[simp ↓] theorem W_for : W (mFor it g s E) Qs ↔ W (it E) fun p => W (forM g s p.1 p.2) Qs := by unfold mFor; (repeat (first | exact Iff.rfl | (refine W_ext fun _ => ?_) | (refine W_bind.trans (W_ext fun _ => ?_)) | exact W_map | exact W_if1.trans Iff.rfl | (simp [W_ite, IfB]; done) | simp))
@[simp ↓] theorem W_forM_nil : W (forM g s [] E) Qs ↔ Qs (.nx, E) := by simp [forM]; try (repeat (first | exact Iff.rfl | (refine W_ext fun _ => ?_) | (refine W_bind.trans (W_ext fun _ => ?_)) | exact W_map | exact W_if1.trans Iff.rfl | (simp [W_ite, IfB]; done) | simp))
theorem W_forM_cons {ds : List D} : W (forM g s (d :: ds) E) Qs ↔ W (g d E) fun E1 => W (s E1) fun q => (match q.1 with | .nx => W (forM g s ds q.2) Qs | .ct => W (forM g s ds q.2) Qs | .bk => Qs (.nx, q.2) | .rt d k => Qs (.rt d k, q.2)) := by
  simp only [forM, W_bind]
  refine W_ext fun E1 => ?_; refine W_bind.trans <| W_ext fun q => ?_
  obtain ⟨fl, E2⟩ := q
  cases fl <;> simp
@[simp ↓] theorem W_sq : W (mSq a E) Qi ↔ W (a E) fun p => W (tk p.2 p.1) fun q => W (seqD q.1) fun ds => Qi (ds, q.2.2) := by unfold mSq; (repeat (first | exact Iff.rfl | (refine W_ext fun _ => ?_) | (refine W_bind.trans (W_ext fun _ => ?_)) | exact W_map | exact W_if1.trans Iff.rfl | (simp [W_ite, IfB]; done) | simp))
@[simp ↓] theorem W_rg1 : W (mRg1 a E) Qi ↔ W (a E) fun p => W (rd p.2 p.1) fun d => (match d with | .int j => rgOk j ∧ Qi (rng 0 j.toNat, p.2) | _ => False) := by
  unfold mRg1
  simp only [W_bind]
  refine W_ext fun p => ?_; refine W_bind.trans <| W_ext fun d => ?_
  cases d <;> simp
@[simp ↓] theorem W_lstAt {Q : List D × Nat → Prop} : W (lstAt E i) Q ↔ W (eg E i) fun p => (match p with | (.lst ds, n + 1) => Q (ds, n + 1) | _ => False) := by
  unfold lstAt
  cases h : eg E i with
  | none => simp
  | some p =>
    obtain ⟨d, n⟩ := p
    cases d <;> cases n <;> simp
@[simp ↓] theorem W_app : W (mApp i a E) Qe ↔ W (lstAt E i) fun _ => W (a E) fun p => W (tk p.2 p.1) fun q => W (lstAt q.2.2 i) fun l => l.1.length < sizeLine ∧ Qe (.val .non 9, q.2.2.set i (some (.lst (l.1 ++ [q.1]), upl l.2 (.lst l.1) q.1 q.2.1))) := by unfold mApp; (repeat (first | exact Iff.rfl | (refine W_ext fun _ => ?_) | (refine W_bind.trans (W_ext fun _ => ?_)) | exact W_map | exact W_if1.trans Iff.rfl | (simp [W_ite, IfB]; done) | simp))
@[simp ↓] theorem W_pop : W (mPop i E) Qe ↔ W (lstAt E i) fun l => W (l.1[l.1.length - 1]?) fun d => Qe (.val d (l.2 - 1), E.set i (some (.lst l.1.dropLast, l.2))) := by unfold mPop; (repeat (first | exact Iff.rfl | (refine W_ext fun _ => ?_) | (refine W_bind.trans (W_ext fun _ => ?_)) | exact W_map | exact W_if1.trans Iff.rfl | (simp [W_ite, IfB]; done) | simp))
@[simp ↓] theorem W_popAt : W (mPopAt i a E) Qe ↔ W (lstAt E i) fun _ => W (a E) fun p => W (rd p.2 p.1) fun k => W (lstAt p.2 i) fun l => (match k with | .int k => (-(2 ^ 63) ≤ k ∧ k < 2 ^ 63) ∧ W (ixN l.1.length k) fun j => W (l.1[j]?) fun d => Qe (.val d (l.2 - 1), p.2.set i (some (.lst (l.1.eraseIdx j), l.2))) | _ => False) := by
  unfold mPopAt
  simp only [W_bind]
  refine W_ext fun _ => ?_; refine W_bind.trans <| W_ext fun p => ?_; refine W_bind.trans <| W_ext fun k => ?_; refine W_bind.trans <| W_ext fun l => ?_
  cases k with
  | int k =>
    refine W_if1.trans (and_congr_right fun _ => ?_)
    exact W_bind.trans (W_ext fun _ => W_map)
  | _ => simp
@[simp ↓] theorem W_rev : W (mRev i E) Qe ↔ W (lstAt E i) fun l => Qe (.val .non 9, E.set i (some (.lst l.1.reverse, l.2))) := by unfold mRev; (repeat (first | exact Iff.rfl | (refine W_ext fun _ => ?_) | (refine W_bind.trans (W_ext fun _ => ?_)) | exact W_map | exact W_if1.trans Iff.rfl | (simp [W_ite, IfB]; done) | simp))
@[simp ↓] theorem W_put : W (mPut i a b E) Qs ↔ W (b E) fun pv => (eg pv.2 i).isSome = true ∧ W (a pv.2) fun pk => W (rd pk.2 pk.1) fun k => W (tk pk.2 pv.1) fun q => W (putAt q.2.2 i k q.1 q.2.1) fun E' => Qs (.nx, E') := by
  unfold mPut
  refine W_bind.trans (W_ext fun pv => W_if1.trans (and_congr_right fun _ => ?_))
  exact W_bind.trans (W_ext fun pk => W_bind.trans (W_ext fun k => W_bind.trans (W_ext fun q => W_map)))
@[simp ↓] theorem W_par {j : Nat} : W (mPar i j fa E) Qs ↔ W (fa E) fun p => W (tkL p.2 p.1) fun q => (match q.1 with | [(d1, n1), (d2, n2)] => (i < q.2.length ∧ j < q.2.length) ∧ Qs (.nx, (q.2.set i (some (d1, n1))).set j (some (d2, n2))) | _ => False) := by
  unfold mPar
  simp only [W_bind]
  refine W_ext fun p => ?_; refine W_bind.trans <| W_ext fun q => ?_
  obtain ⟨ds, E2⟩ := q
  match ds with
  | [] => simp
  | [_] => simp
  | [(_, _), (_, _)] => simp
  | _ :: _ :: _ :: _ => simp
@[simp ↓] theorem W_call0 : W (mCall none M fa E) Qe ↔ W (fa E) fun p => W (rdL p.2 p.1) fun ds => W (M ds) fun r => IfB (imm r.1) (Qe (.val r.1 9, p.2)) (Qe (.val r.1 r.2.1, dem p.2 p.1)) := by
  unfold mCall
  simp only [W_bind, W_iteB, W_some]
  try (repeat (first | exact Iff.rfl | (refine W_ext fun _ => ?_) | (refine W_bind.trans (W_ext fun _ => ?_)) | exact W_map | exact W_if1.trans Iff.rfl | (simp [W_ite, IfB]; done) | simp))
@[simp ↓] theorem W_call1 : W (mCall (some m) M fa E) Qe ↔ W (fa E) fun p => W (rdL p.2 p.1) fun ds => W (M ds) fun r => W (p.1[m]?) fun o => (match o with
    | .slot j => W (flAt p.2 j) fun n => (p.1.eraseIdx m).all (fun o => !isSlot j o) = true ∧ IfB (imm r.1) (Qe (.val r.1 9, p.2.set j (some (r.2.2, n)))) (Qe (.val r.1 r.2.1, (dem p.2 (p.1.eraseIdx m)).set j (some (r.2.2, n))))
    | _ => False) := by
  unfold mCall
  simp only [W_bind]
  refine W_ext fun p => ?_; refine W_bind.trans <| W_ext fun ds => ?_; refine W_bind.trans <| W_ext fun r => ?_
  cases h : p.1[m]? with
  | none => simp
  | some o =>
    cases o with
    | slot j =>
      rw [W_some]
      refine W_bind.trans (W_ext fun n => W_if1.trans (and_congr_right fun _ => ?_))
      cases imm r.1 <;> simp
    | val d n => simp
@[simp ↓] theorem W_flAt {Q : Nat → Prop} : W (flAt E i) Q ↔ W (eg E i) fun p => (match p with | (d, n + 1) => flat d = true ∧ Q (n + 1) | _ => False) := by
  unfold flAt
  cases h : eg E i with
  | none => simp
  | some p =>
    obtain ⟨d, n⟩ := p
    cases n <;> simp
@[simp] theorem dem_nil : dem E [] = E := rfl
@[simp] theorem dem_val : dem E (.val d n :: os) = dem E os := rfl
@[simp] theorem dem_slot : dem E (.slot i :: os) = dem (dem1 E (.slot i)) os := rfl
@[simp] theorem isSlot_v : isSlot i (.val d n) = false := rfl
@[simp] theorem isSlot_s {j : Nat} : isSlot j (.slot i) = (i == j) := rfl
@[simp ↓] theorem W_mDef {io : Option Nat} {ds : List D} {Q : D × Nat × D → Prop} : W (mDef io n s ds) Q ↔ W (s (ent0 io n ds)) fun p => (match p.1 with
    | .nx => W (outAt io p.2) fun o => Q (.non, 9, o)
    | .rt d k => W (outAt io p.2) fun o => Q (d, k, o)
    | _ => False) := by
  unfold mDef
  simp only [W_bind]
  refine W_ext fun p => ?_
  obtain ⟨fl, E2⟩ := p
  cases fl <;> simp
@[simp ↓] theorem W_out0 {Q : D → Prop} : W (outAt none E) Q ↔ Q .non := by simp [outAt]; try (repeat (first | exact Iff.rfl | (refine W_ext fun _ => ?_) | (refine W_bind.trans (W_ext fun _ => ?_)) | exact W_map | exact W_if1.trans Iff.rfl | (simp [W_ite, IfB]; done) | simp))
@[simp ↓] theorem W_out1 {Q : D → Prop} : W (outAt (some i) E) Q ↔ W (eg E i) fun p => (match p with | (d, n + 1) => flat d = true ∧ Q d | _ => False) := by
  unfold outAt
  simp only
  cases h : eg E i with
  | none => simp
  | some p =>
    obtain ⟨d, n⟩ := p
    cases n <;> simp
@[simp] theorem ent0_0 : ent0 none n [] = List.replicate n none := by simp [ent0, ent]
@[simp] theorem ent_0 {io : Option Nat} : ent io i [] = [] := rfl
@[simp] theorem ent_c {io : Option Nat} {ds : List D} : ent io i (d :: ds) = some (d, if io = some i then 1 else 0) :: ent io (i + 1) ds := rfl
theorem ent0_def {io : Option Nat} {ds : List D} : ent0 io n ds = ent io 0 ds ++ List.replicate (n - ds.length) none := rfl
@[simp] theorem rep_s {α : Type} {x : α} : List.replicate (n + 1) x = x :: List.replicate n x := rfl
end
end Zk
namespace Zk
open PySem PySem.Spec PyProof.Rows L2
@[simp] theorem gAdd_int (i j : Int) : gAdd [.int i, .int j] = some (.int (i + j), 9) := by simp [gAdd]
@[simp] theorem gMul_int (i j : Int) : gMul [.int i, .int j] = if i.natAbs < big ∧ j.natAbs < big then some (.int (i * j), 9) else none := by simp [gMul]
@[simp] theorem gI2_int {c : Int → Int → Prop} [∀ i j, Decidable (c i j)] {f : Int → Int → Int} (i j : Int) : gI2 c f [.int i, .int j] = if c i j then some (.int (f i j)) else none := by simp [gI2]
@[simp] theorem gB2_int {f : Int → Int → Bool} (i j : Int) : gB2 f [.int i, .int j] = some (.bl (f i j)) := by simp [gB2]
@[simp] theorem gNeg_int (i : Int) : gNeg [.int i] = some (.int (-i)) := by simp [gNeg]
@[simp] theorem gEq_int (i j : Int) : gEq [.int i, .int j] = some (.bl (decide (i = j))) := by simp [gEq, dat]
@[simp] theorem gNe_int (i j : Int) : gNe [.int i, .int j] = some (.bl (!decide (i = j))) := by simp [gNe, dat]
@[simp] theorem gLen_lst (ds : List D) : gLen [.lst ds] = some (.int ds.length, 9) := by simp [gLen]
@[simp] theorem gLen_tup (ds : List D) : gLen [.tup ds] = some (.int ds.length, 9) := by simp [gLen]
@[simp] theorem gLen_scr (ds : List Int) : gLen [.scr ds] = some (.int ds.length, 9) := by simp [gLen]
@[simp] theorem gInt_int (i : Int) : gInt [.int i] = some (.int i, 9) := by simp [gInt]
@[simp] theorem gTuple_lst (ds : List D) : gTuple [.lst ds] = some (.tup ds, 0) := by simp [gTuple]
@[simp] theorem gTuple_tup (ds : List D) : gTuple [.tup ds] = some (.tup ds, 0) := by simp [gTuple]
@[simp] theorem gList_lst (ds : List D) : gList [.lst ds] = some (.lst ds, lev ds) := by simp [gList]
@[simp] theorem gList_tup (ds : List D) : gList [.tup ds] = some (.lst ds, lev ds) := by simp [gList]
@[simp] theorem tru_bl (b : Bool) : tru (.bl b) = some b := by simp [tru]
@[simp] theorem tru_int (i : Int) : tru (.int i) = some (i != 0) := by simp [tru]
@[simp] theorem flat_lst (xs : List D) : flat (.lst xs) = imms xs := rfl
@[simp] theorem imms_ints (xs : List Int) : imms (xs.map D.int) = true := imms_map _ (fun _ => by simp) xs
@[simp] theorem imms_app (a b : List D) : imms (a ++ b) = (imms a && imms b) := imms_append a b
section
variable {g : Fg} {body s : Fs} {c : Ft} {f : Fe} {it : Fi} {is : List Nat} {E E0 : Ev} {its : List D} {Qs : Fl × Ev → Prop} {Qe : Op × Ev → Prop}
/-- a loop by an invariant -/
theorem W_forI (I : Nat → Ev → Prop) (h0 : I 0 E) (st : ∀ k d E, its[k]? = some d → I k E → W (g d E) fun E1 => W (body E1) fun q => (match q.1 with
    | .nx => I (k + 1) q.2 | .ct => I (k + 1) q.2 | .bk => Qs (.nx, q.2) | .rt d n => Qs (.rt d n, q.2))) (fin : ∀ E, I its.length E → Qs (.nx, E)) : W (forM g body its E) Qs := by
  have go : ∀ (r : List D) (k : Nat) (E : Ev), its.drop k = r → k ≤ its.length → I k E → W (forM g body r E) Qs := by
    intro r
    induction r with
    | nil =>
      intro k E e hk i
      rw [W_forM_nil]
      have : k = its.length := by
        have := List.drop_eq_nil_iff.mp e
        omega
      exact fin E (this ▸ i)
    | cons d r ih =>
      intro k E e hk i
      have hd : its[k]? = some d := by
        have := congrArg List.head? e
        rw [List.head?_drop] at this
        simpa using this
      have hr : its.drop (k + 1) = r := by
        have := congrArg List.tail e
        rw [List.tail_drop] at this
        simpa using this
      have hk2 : k + 1 ≤ its.length := by
        have := (List.getElem?_eq_some_iff.mp hd).1
        omega
      rw [W_forM_cons]
      refine (st k d E hd i).mono fun E1 h1 => h1.mono fun q h2 => ?_
      obtain ⟨fl, E2⟩ := q
      cases fl with
      | nx => exact ih (k + 1) E2 hr hk2 h2
      | ct => exact ih (k + 1) E2 hr hk2 h2
      | bk => exact h2
      | rt d n => exact h2
  exact go its 0 E rfl (Nat.zero_le _) h0
/-- .. over what stands for xs -/
theorem W_forX {α : Type} {xs : List α} {ι : α → D} (I : List α → Ev → Prop) (h0 : I [] E) (st : ∀ a x b E, xs = a ++ x :: b → I a E → W (g (ι x) E) fun E1 => W (body E1) fun q => (match q.1 with
    | .nx => I (a ++ [x]) q.2 | .ct => I (a ++ [x]) q.2 | .bk => Qs (.nx, q.2) | .rt d n => Qs (.rt d n, q.2))) (fin : ∀ E, I xs E → Qs (.nx, E)) : W (forM g body (xs.map ι) E) Qs := by
  refine W_forI (fun k E => I (xs.take k) E) (by simpa using h0) (fun k d E hd i => ?_) fun E i => fin E (by simpa using i)
  rw [List.getElem?_map] at hd
  cases hx : xs[k]? with
  | none => rw [hx] at hd; cases hd
  | some x =>
    rw [hx] at hd
    cases hd
    have hk := (List.getElem?_eq_some_iff.mp hx).1
    have ex := (List.getElem?_eq_some_iff.mp hx).2
    have e : xs = xs.take k ++ x :: xs.drop (k + 1) := by
      conv => lhs; rw [← List.take_append_drop k xs]
      rw [List.drop_eq_getElem_cons hk, ex]
    have e2 : xs.take (k + 1) = xs.take k ++ [x] := by rw [List.take_add_one, hx]; rfl
    rw [e2]
    exact st _ x _ E e i
@[simp] theorem rng_get (lo : Int) (n k : Nat) : (rng lo n)[k]? = if k < n then some (.int (lo + k)) else none := by
  unfold rng
  rw [List.getElem?_map]
  by_cases h : k < n
  · rw [List.getElem?_range h]; simp [h]
  · rw [List.getElem?_eq_none (by simpa using h)]; simp [h]
/-- .. over a range -/
theorem W_forR {lo : Int} {n : Nat} (I : Nat → Ev → Prop) (h0 : I 0 E) (st : ∀ k E, k < n → I k E → W (g (.int (lo + k)) E) fun E1 => W (body E1) fun q => (match q.1 with
    | .nx => I (k + 1) q.2 | .ct => I (k + 1) q.2 | .bk => Qs (.nx, q.2) | .rt d n => Qs (.rt d n, q.2))) (fin : ∀ E, I n E → Qs (.nx, E)) : W (forM g body (rng lo n) E) Qs :=
  W_forI I h0 (fun k d E hd i => by
    rw [rng_get] at hd
    split at hd
    · rename_i h
      cases hd
      exact st k E h i
    · cases hd) fun E i => fin E (by simpa using i)
/-- a comprehension by an invariant -/
theorem W_lcI {E : Ev} {Q : List (D × Nat) × Ev → Prop} (I : Nat → Ev → List (D × Nat) → Prop) (hl : its.length < sizeLine) (h0 : I 0 E []) (st : ∀ k d E acc, its[k]? = some d → acc.length ≤ k → I k E acc → W (g d E) fun E1 => W (c E1) fun q =>
      IfB q.1 (W (f q.2) fun r => W (tk r.2 r.1) fun t => I (k + 1) (wipeE t.2.2 is) (acc ++ [(t.1, t.2.1)])) (I (k + 1) (wipeE q.2 is) acc)) (fin : ∀ E acc, acc.length ≤ its.length → I its.length E acc → Q (acc, E)) : W (lcM g c f is its E []) Q := by
  have go : ∀ (r : List D) (k : Nat) (E : Ev) (acc : List (D × Nat)), its.drop k = r → k ≤ its.length → acc.length ≤ k → I k E acc → W (lcM g c f is r E acc) Q := by
    intro r
    induction r with
    | nil =>
      intro k E acc e hk ha i
      have : k = its.length := by
        have := List.drop_eq_nil_iff.mp e
        omega
      simp only [lcM, W_some]
      exact fin E acc (by omega) (this ▸ i)
    | cons d r ih =>
      intro k E acc e hk ha i
      have hd : its[k]? = some d := by
        have := congrArg List.head? e
        rw [List.head?_drop] at this
        simpa using this
      have hr : its.drop (k + 1) = r := by
        have := congrArg List.tail e
        rw [List.tail_drop] at this
        simpa using this
      have hk2 : k + 1 ≤ its.length := by
        have := (List.getElem?_eq_some_iff.mp hd).1
        omega
      unfold lcM
      refine W_bind.mpr ((st k d E acc hd ha i).mono fun E1 h1 => W_bind.mpr (h1.mono fun q h2 => W_iteB.mpr ?_))
      obtain ⟨b, E2⟩ := q
      cases b with
      | false =>
        rw [IfB_f] at h2 ⊢
        exact ih (k + 1) _ acc hr hk2 (by omega) h2
      | true =>
        rw [IfB_t] at h2 ⊢
        refine W_bind.mpr (h2.mono fun r1 h3 => W_bind.mpr (h3.mono fun t h4 => W_if1.mpr ?_))
        exact ⟨by omega, ih (k + 1) _ _ hr hk2 (by simp; omega) h4⟩
  exact go its 0 E [] rfl (Nat.zero_le _) (by simp) h0
@[simp ↓] theorem W_lc0 : W (mLc it is g c f E) Qe ↔ W (it E) fun p => W (lcM g c f is p.1 (wipeE p.2 is) []) fun q => Qe (.val (.lst (q.1.map (·.1))) (uni q.1), backE p.2 q.2 is) := by unfold mLc; exact W_bind.trans (W_ext fun p => W_map)
/-- a comprehension that changes nothing, of unchangeable things -/
theorem W_lcX {α : Type} {xs : List α} {ι : α → D} {E0 : Ev} {Q : List (D × Nat) × Ev → Prop} (p : α → Bool) (ρ : α → D) (hρ : ∀ x, imm (ρ x) = true) (hl : xs.length < sizeLine)
    (st : ∀ x ∈ xs, W (g (ι x) E0) fun E1 => W (c E1) fun q => IfB q.1 (p x = true ∧ W (f q.2) fun r => W (tk r.2 r.1) fun t => t.1 = ρ x ∧ wipeE t.2.2 is = E0) (p x = false ∧ wipeE q.2 is = E0))
    (fin : ∀ acc : List (D × Nat), acc.map (·.1) = (xs.filter p).map ρ → uni acc = 9 → Q (acc, E0)) : W (lcM g c f is (xs.map ι) E0 []) Q := by
  refine W_lcI (I := fun k E acc => E = E0 ∧ acc.map (·.1) = ((xs.take k).filter p).map ρ) (by simpa using hl) (by simp) (fun k d E acc hd ha i => ?_) fun E acc ha i => ?_
  · obtain ⟨rfl, i⟩ := i
    rw [List.getElem?_map] at hd
    cases hx : xs[k]? with
    | none => rw [hx] at hd; cases hd
    | some x =>
      rw [hx] at hd
      cases hd
      refine (st x (List.mem_of_getElem? hx)).mono fun E1 h1 => h1.mono fun q h2 => ?_
      obtain ⟨b, E2⟩ := q
      cases b with
      | false =>
        rw [IfB_f] at h2 ⊢
        refine ⟨h2.2, ?_⟩
        rw [List.take_add_one, hx, List.filter_append, i]
        simp [h2.1]
      | true =>
        rw [IfB_t] at h2 ⊢
        refine h2.2.mono fun r1 h3 => h3.mono fun t h4 => ⟨h4.2, ?_⟩
        rw [List.take_add_one, hx, List.filter_append, List.map_append, i]
        simp [h2.1, h4.1]
  · obtain ⟨rfl, i⟩ := i
    simp only [List.length_map, List.take_length] at i
    refine fin acc i ?_
    unfold uni
    rw [if_pos]
    rw [i]
    exact imms_map _ hρ _
@[simp] theorem wipeE_nil : wipeE E [] = E := rfl
@[simp] theorem wipeE_c {i : Nat} : wipeE E (i :: is) = wipeE (E.set i none) is := rfl
@[simp] theorem backE_nil : backE E E0 [] = E0 := rfl
@[simp] theorem backE_c {i : Nat} : backE E E0 (i :: is) = backE E (E0.set i (eg E i)) is := rfl
end
theorem big0 {i : Int} (h : i.natAbs < 2 ^ 64) : i.natAbs < big := big_of h (by decide)
theorem sizeL : sizeLine = 16777216 := sizeLine_eq
theorem ixN_ok {n : Nat} {i : Int} (h0 : 0 ≤ i) (h : i < n) : ixN n i = some i.toNat := by unfold ixN; rw [if_pos h0, if_pos h]
@[simp] theorem seqD_lst (ds : List D) : seqD (.lst ds) = some ds := rfl
@[simp] theorem seqD_tup (ds : List D) : seqD (.tup ds) = some ds := rfl
@[simp] theorem seqD_con (ds : List D) : seqD (.con ds) = some ds := rfl
@[simp] theorem seqD_scr (ns : List Int) : seqD (.scr ns) = some (ns.map D.int) := rfl
@[simp] theorem part_non : part .non = some none := rfl
@[simp] theorem part_int (i : Int) : part (.int i) = some (some i) := rfl
@[simp] theorem gSl_lst (ds : List D) (l h : D) : gSl [.lst ds, l, h] = (part l).bind fun l => (part h).map fun h => (.lst (cutD ds l h), lev (cutD ds l h)) := by simp [gSl]
@[simp] theorem gSl_scr (ds : List Int) (l h : D) : gSl [.scr ds, l, h] = (part l).bind fun l => (part h).map fun h => (.lst (cutD (ds.map D.int) l h), lev (cutD (ds.map D.int) l h)) := by simp [gSl]
@[simp] theorem gSl_tup (ds : List D) (l h : D) : gSl [.tup ds, l, h] = (part l).bind fun l => (part h).map fun h => (.tup (cutD ds l h), 0) := by simp [gSl]
theorem cut_to (xs : List D) (k : Nat) : cutD xs none (some k) = xs.take k := by
  unfold cutD
  rw [HT.sIx_none, show HT.sIx xs.length xs.length (some (k : Int)) = min k xs.length from HT.sIx_nat xs.length xs.length k]
  simp
theorem W_seqJ {s t : Fs} {E : Ev} {Q : Fl × Ev → Prop} (J : Ev → Prop) (h : W (s E) fun p => p.1 = .nx ∧ J p.2) (k : ∀ E1, J E1 → W (t E1) Q) : W (mSeq s t E) Q := by
  rw [W_seq]
  refine h.mono fun p hp => ?_
  obtain ⟨fl, E1⟩ := p
  obtain ⟨rfl, j⟩ := hp
  exact k E1 j
def B72 : Int := 2 ^ 7200
theorem B72_pos : 0 < B72 := by unfold B72; exact Int.pow_pos (by decide)
theorem B72_big {i : Int} (h0 : 0 ≤ i) (h : i < B72 * 100000000000) : i.natAbs < big := by
  refine big_of (k := 7300) ?_ (by decide)
  have e : (B72 * 100000000000 : Int) ≤ 2 ^ 7300 := by
    unfold B72
    have : (2 : Int) ^ 7300 = 2 ^ 7200 * 2 ^ 100 := by rw [← Int.pow_add]
    rw [this]
    exact Int.mul_le_mul_of_nonneg_left (by decide) (Int.le_of_lt (Int.pow_pos (by decide)))
  have e3 : i < ((2 ^ 7300 : Nat) : Int) := by
    rw [Int.natCast_pow]
    exact Int.lt_of_lt_of_le h e
  generalize 2 ^ 7300 = c at e3 ⊢
  omega
@[simp] theorem one_big : 1 < big := by
  have := big0 (i := 1) (by decide)
  simpa using this
@[simp] theorem lev_ints' (ns : List Int) : lev (ns.map D.int) = 9 := lev_ints ns
@[simp] theorem uni_nil : uni [] = 9 := by simp [uni]
@[simp] theorem gIxd_lst (ds : List D) (i : D) : gIxd [.lst ds, i] = gIx [.lst ds, i] := by simp [gIxd]
@[simp] theorem gIxd_tup (ds : List D) (i : D) : gIxd [.tup ds, i] = gIx [.tup ds, i] := by simp [gIxd]
@[simp] theorem gIx_lst (ds : List D) (i : Int) : gIx [.lst ds, .int i] = (atI ds i).map fun d => (d, 0) := by simp [gIx]
@[simp] theorem gIx_tup (ds : List D) (i : Int) : gIx [.tup ds, .int i] = (atI ds i).map fun d => (d, 0) := by simp [gIx]
@[simp] theorem atI_map' {α β : Type} (f : α → β) (xs : List α) (i : Int) : atI (xs.map f) i = (atI xs i).map f := atI_map f xs i
theorem atI_ok {α : Type} {xs : List α} {i : Int} (h0 : 0 ≤ i) (h : i < xs.length) : ∃ x, atI xs i = some x ∧ x ∈ xs ∧ xs[i.toNat]? = some x ∧ ixN xs.length i = some i.toNat := by
  have e := ixN_ok h0 h
  have hl : i.toNat < xs.length := by omega
  refine ⟨xs[i.toNat], ?_, List.getElem_mem _, List.getElem?_eq_getElem hl, e⟩
  unfold atI
  rw [e, Option.bind_some, List.getElem?_eq_getElem hl]
theorem divOk_of {i j : Int} (h : 0 < j) (h2 : j < 2 ^ 64) : divOk i j := ⟨h, Int.lt_of_lt_of_le h2 (by
  have : (2 : Int) ^ 8000 = 2 ^ 64 * 2 ^ 7936 := by rw [← Int.pow_add]
  rw [this]
  have h1 : (1 : Int) ≤ 2 ^ 7936 := Int.pow_pos (by decide)
  have := Int.mul_le_mul_of_nonneg_left h1 (by decide : (0 : Int) ≤ 2 ^ 64)
  rwa [Int.mul_one] at this)⟩
@[simp] theorem divOk_2 {i : Int} : divOk i 2 := divOk_of (by decide) (by decide)
@[simp] theorem divOk_1000 {i : Int} : divOk i 1000 := divOk_of (by decide) (by decide)
@[simp] theorem szl {n : Nat} (h : n ≤ 16777216) : n ≤ sizeLine := by rw [sizeL]; exact h
@[simp] theorem szt {n : Nat} (h : n < 16777216) : n < sizeLine := by rw [sizeL]; exact h
@[simp] theorem nb {n : Nat} (h : n < 2 ^ 64) : n < big := big_of h (by decide)
@[simp] theorem upl_int {n m : Nat} {d : D} {i : Int} : upl n d (.int i) m = n := by simp [upl]
@[simp] theorem upl_bl {n m : Nat} {d : D} {i : Bool} : upl n d (.bl i) m = n := by simp [upl]
theorem upl_imm {n m : Nat} {d e : D} (h : imm e = true) : upl n d e m = n := by simp [upl, h]
@[simp] theorem updl_int {κ : Type} {n : Nat} {kds : List (κ × D)} {i : Int} : updl n kds (.int i) = if imms (kds.map (·.2)) = true then n else 1 := by simp [updl]
def putOf (p : D × Nat) (k dv : D) (nv : Nat) : Option (D × Nat) := match p with
  | (.lst ds, n + 1) => match k with
    | .int i => (ixN ds.length i).map fun j => (.lst (ds.set j dv), upl (n + 1) (.lst ds) dv nv)
    | _ => none
  | (.dK kds, n + 1) => (keyOf k).bind fun k => if kds.length < sizeLine then some (.dK (putD kds k dv), updl (n + 1) kds dv) else none
  | (.dT kds, n + 1) => match k with
    | .tup ks => (keysOf ks).bind fun k => if kds.length < sizeLine then some (.dT (putD kds k dv), updl (n + 1) kds dv) else none
    | _ => none
  | _ => none
theorem putAt_of {E : Ev} {x : Nat} {k dv : D} {nv : Nat} : putAt E x k dv nv = (eg E x).bind fun p => (putOf p k dv nv).map fun r => E.set x (some r) := by
  unfold putAt putOf
  cases eg E x with
  | none => rfl
  | some p =>
    obtain ⟨d, n⟩ := p
    cases n with
    | zero => cases d <;> rfl
    | succ n =>
      cases d with
      | lst ds =>
        cases k with
        | int i => simp [Option.map_map, Function.comp_def]
        | _ => rfl
      | dK ds =>
        simp only [Option.bind_some]
        cases keyOf k with
        | none => rfl
        | some k' =>
          simp only [Option.bind_some]
          split <;> rfl
      | dT ds =>
        cases k with
        | tup ks =>
          simp only [Option.bind_some]
          cases keysOf ks with
          | none => rfl
          | some k' =>
            simp only [Option.bind_some]
            split <;> rfl
        | _ => rfl
      | _ => rfl
@[simp ↓] theorem W_putAt {E : Ev} {x : Nat} {k dv : D} {nv : Nat} {Q : Ev → Prop} : W (putAt E x k dv nv) Q ↔ W (eg E x) fun p => W (putOf p k dv nv) fun r => Q (E.set x (some r)) := by
  rw [putAt_of]
  exact W_bind.trans (W_ext fun p => W_map)
@[simp] theorem putOf_lst {ds : List D} {n nv : Nat} {i : Int} {dv : D} : putOf (.lst ds, n + 1) (.int i) dv nv = (ixN ds.length i).map fun j => (.lst (ds.set j dv), upl (n + 1) (.lst ds) dv nv) := rfl
end Zk
namespace Zk
open PySem PySem.Spec PyProof.Rows L2
open Sem (wp)
open AutoSeq1 (wpAny_loadPart')
section
variable {prog : Program} {w : World} {A : Around} {E : Value → Shared → Prop} {s : Shared}
end
def enD (k : Nat) : List D → List D
  | [] => []
  | d :: ds => .tup [.int (k : Nat), d] :: enD (k + 1) ds
@[simp] theorem enD_len (ds : List D) : ∀ k, (enD k ds).length = ds.length := by
  induction ds with
  | nil => intro k; rfl
  | cons d ds ih => intro k; simp [enD, ih]
theorem enD_get (ds : List D) : ∀ (k i : Nat), (enD k ds)[i]? = (ds[i]?).map fun d => .tup [.int ((k + i : Nat)), d] := by
  induction ds with
  | nil => intro k i; simp [enD]
  | cons d ds ih =>
    intro k i
    cases i with
    | zero => simp [enD]
    | succ i =>
      simp only [enD, List.getElem?_cons_succ, ih]
      rw [show k + 1 + i = k + (i + 1) by omega]
def mEnu (f : Fe) : Fi := fun E => (f E).bind fun p => (tk p.2 p.1).bind fun q => match q.1 with
  | .lst ds => some (enD 0 ds, q.2.2)
  | .tup ds => some (enD 0 ds, q.2.2)
  | .con ds => some (enD 0 ds, q.2.2)
  | _ => none
section
variable {K : PySem.W.Frag} {Z Z' : Addr → Prop} {H H' : Hp} {σ : L2.St} {E E' : Ev} {R R' : Rs}
end
section
variable {X : Cx} {e : Expr} {fe : Fe} {p pos tpos : PySem.Pos} {elts : List Expr} {kk : Nat}
end
@[simp ↓] theorem W_enu {a : Fe} {E : Ev} {Q : List D × Ev → Prop} : W (mEnu a E) Q ↔ W (a E) fun p => W (tk p.2 p.1) fun q => (match q.1 with | .lst ds => Q (enD 0 ds, q.2.2) | .tup ds => Q (enD 0 ds, q.2.2) | .con ds => Q (enD 0 ds, q.2.2) | _ => False) := by
  unfold mEnu
  refine W_bind.trans (W_ext fun p => W_bind.trans (W_ext fun q => ?_))
  obtain ⟨d, n, E2⟩ := q
  cases d <;> simp
end Zk
namespace Zk
open PySem PySem.Spec PyProof.Rows L2 RZ RT
section
variable {K : PySem.W.Frag} {Z Z' Z0 : Addr → Prop} {H H' H0 : Hp} {σ : L2.St} {E E' : Ev} {R R' R0 : Rs}
/-- ends, taken and frozen -/
theorem S.takeLFrz (s : S K Z H σ E R) (t0 : Step Z0 H0 (ow R0) Z H (ow R)) {vs : List V} {os : List Op} {ds : List (D × Nat)} {rss : List (List Addr)} (h : All3 (OV K Z H σ) vs os rss) (f : Fr R0 H0 R rss.flatten) (e : tkL E os = some (ds, E')) :
    ∃ Z' R', S K Z' H σ E' R' ∧ Step Z0 H0 (ow R0) Z' H (ow R') ∧ Rps K Z' H vs (ds.map (·.1)) := by
  obtain ⟨Z2, R2, s2, t2, tl, no2, sub2⟩ := s.takeL h f.no e
  refine ⟨_, R2, s2.chill no2 (TL.there tl), (t0.trans t2).fin (fun _ h => .inl h) (fun a z => ?_) (.refl _) fun a h => .inl h, tl.froz ⟨fun _ h => .inl h, fun _ _ _ h => h, fun _ _ h _ => h⟩ fun a m => ⟨rfl, .inr m⟩⟩
  rcases z with z | z
  · exact .inl z
  · rcases f.of a z with z | z
    · exact .inr (.inr (.inl z))
    · exact .inr (.inr (.inr z))
end
section
variable {X : Cx} {tg e e2 : Expr} {fe f2 : Fe} {p pos tpos : PySem.Pos} {elts : List Expr} {kk : Nat}
end
end Zk
namespace Zk
open PySem PySem.Spec PyProof.Rows L2
section
variable {K : PySem.W.Frag} {H : Hp} {σ : L2.St}
def gGcd : List D → Option (D × Nat)
  | [.int a, .int b] => some (.int ((Nat.gcd a.natAbs b.natAbs : Nat) : Int), 9)
  | _ => none
@[simp] theorem gGcd_int (a b : Int) : gGcd [.int a, .int b] = some (.int ((Nat.gcd a.natAbs b.natAbs : Nat) : Int), 9) := rfl
theorem al_gcd : AL K rGcd gGcd := by
  intro Z H vs ds d n Q hz k e q
  unfold gGcd at e
  split at e
  · cases e
    obtain ⟨x, y, rfl, h1, h2⟩ := k.two
    cases Rp.intE h1
    cases Rp.intE h2
    exact ⟨_, _, rfl, fin_imm (Z := Z) (.int _) (by simp) q⟩
  · cases e
end
section
variable {X : Cx} {o e : Expr} {es : List Expr} {fe : Fe} {fa : Fa} {p pos apos : PySem.Pos} {x : Str}
theorem ae_gcd (hg : Gl X x) (hm : X.mg x = some (.builtin "math.gcd")) (ha : AA X (e :: es) fa) (hdb : (x == ("__debug__" : Str)) = false := by decide)
    (he : starEach (e :: es) X.env = (false, eval e X.env) :: starEach es X.env := by rfl) (hpl : (backTo pos (starEach es X.env)).any (·.1) = false := by rfl) : AE X (.Call (.Name x p) (e :: es) [] pos) (mOp gGcd fa) :=
  PE.mono (pe_callBfun cr_gcd hg hm ha hdb he hpl) fun _ _ _ q => op_of al_gcd q
end
end Zk
namespace Zk
open PySem PySem.Spec PyProof.Rows L2
end Zk
namespace Zk
open PySem PySem.Spec PyProof.Rows L2
section
variable {E0 : Ev} {g : Fg} {f : Fe} {is : List Nat} {α : Type} {xs : List α} {ι : α → D} {Q : List (D × Nat) × Ev → Prop}
/-- all of them, no filter -/
theorem W_lcY {c : Ft} (ρ : α → D) (hρ : ∀ x, imm (ρ x) = true) (hl : xs.length < sizeLine)
    (st : ∀ x ∈ xs, W (g (ι x) E0) fun E1 => W (c E1) fun q => q.1 = true ∧ W (f q.2) fun r => W (tk r.2 r.1) fun t => t.1 = ρ x ∧ wipeE t.2.2 is = E0)
    (fin : ∀ acc : List (D × Nat), acc.map (·.1) = xs.map ρ → uni acc = 9 → Q (acc, E0)) : W (lcM g c f is (xs.map ι) E0 []) Q :=
  W_lcX (p := fun _ => true) ρ hρ hl (fun x hx => (st x hx).mono fun E1 h => h.mono fun q h => by
    rw [h.1, IfB_t]; exact ⟨rfl, h.2⟩) fun acc ha hu => fin acc (by rw [ha, List.filter_eq_self.mpr (by simp)]) hu
/-- ints -/
theorem W_lcN {c : Ft} (v : α → Int) (hl : xs.length < sizeLine)
    (st : ∀ x ∈ xs, W (g (ι x) E0) fun E1 => W (c E1) fun q => q.1 = true ∧ W (f q.2) fun r => W (tk r.2 r.1) fun t => t.1 = .int (v x) ∧ wipeE t.2.2 is = E0)
    (fin : ∀ acc : List (D × Nat), acc.map (·.1) = (xs.map v).map D.int → uni acc = 9 → Q (acc, E0)) : W (lcM g c f is (xs.map ι) E0 []) Q :=
  W_lcY (fun x => .int (v x)) (fun _ => by simp) hl st fun acc ha hu => fin acc (by rw [ha, List.map_map]; rfl) hu
/-- bools -/
theorem W_lcB {c : Ft} (v : α → Bool) (hl : xs.length < sizeLine)
    (st : ∀ x ∈ xs, W (g (ι x) E0) fun E1 => W (c E1) fun q => q.1 = true ∧ W (f q.2) fun r => W (tk r.2 r.1) fun t => t.1 = .bl (v x) ∧ wipeE t.2.2 is = E0)
    (fin : ∀ acc : List (D × Nat), acc.map (·.1) = (xs.map v).map D.bl → uni acc = 9 → Q (acc, E0)) : W (lcM g c f is (xs.map ι) E0 []) Q :=
  W_lcY (fun x => .bl (v x)) (fun _ => by simp) hl st fun acc ha hu => fin acc (by rw [ha, List.map_map]; rfl) hu
end
theorem rng0 (n : Nat) : rng 0 n = (List.range n).map fun b : Nat => D.int (b : Int) := by
  unfold rng
  refine List.map_congr_left fun b _ => ?_
  simp
theorem dat_bls (n : Nat) (bs : List Bool) (h : bs.length ≤ sizeLine) : dat (n + 2) (.lst (bs.map D.bl)) = true := by
  simp [dat, h]
theorem gIn_bl (neg b : Bool) (bs : List Bool) (h : bs.length ≤ sizeLine) : gInA neg [.bl b, .lst (bs.map D.bl)] = some (.bl (bs.contains b ^^ neg), 9) := by
  have e : gInA neg [.bl b, .lst (bs.map D.bl)] = gIn neg [.bl b, .lst (bs.map D.bl)] := rfl
  have d1 : dat 64 (.bl b) = true := rfl
  rw [e]
  simp only [gIn, d1, dat_bls 62 bs h, and_self, if_true, List.any_map]
  congr 3
  rw [List.contains_eq_any_beq]
  have e2 : (fun z => deq z (D.bl b)) ∘ D.bl = fun x => b == x := by
    funext z
    simp [deq, py, PyData.eqv]
    cases z <;> cases b <;> rfl
  rw [e2]
abbrev gDivZ := gI2 (fun _ j => j ≠ 0 ∧ j.natAbs < 2 ^ 8000) fun i j => Int.fdiv i j
def mDivZ (a b : Fe) : Fe := mRO gDivZ (mA2 a b)
section
variable {X : Cx} {a b : Expr} {fa fb : Fe} {pos : PySem.Pos}
theorem log_of {j : Int} (h0 : j ≠ 0) (h : j.natAbs < 2 ^ 8000) : j.natAbs.log2 < 9000 := by
  have := (Nat.log2_lt (n := j.natAbs) (k := 8000) (by omega)).mpr h
  omega
theorem op_divZ : OpR X (binaryOp .FloorDiv) (rI (fun _ j => j ≠ 0 ∧ j.natAbs < 2 ^ 8000) fun i j => .int (Int.fdiv i j)) :=
  opI fun _ _ _ _ _ _ _ hc q => floordiv_int hc.1 q (.inl (PyProof.noPylong_of_log2 (log_of hc.1 hc.2)))
theorem ae_divZ (ha : AE X a fa) (hb : AE X b fb) : AE X (.BinOp a .FloorDiv b pos) (mDivZ fa fb) := PE.mono (pe_op op_divZ ha hb) fun _ _ _ q => tOp_ro (ro_I2 (fun _ _ h => h) fun _ _ _ => rfl) q
@[simp ↓] theorem W_divZ {fa fb : Fe} {E : Ev} {Qe : Op × Ev → Prop} : W (mDivZ fa fb E) Qe ↔ W (mRO gDivZ (mA2 fa fb) E) Qe := Iff.rfl
end
end Zk
namespace Zk
open PySem PySem.Spec PyProof.Rows L2
theorem W_O {α : Type} {x : Option α} {Q : α → Prop} (h : ∀ Q' : α → Prop, (∀ a, Q a → Q' a) → W x Q') : W x Q := h Q fun _ h => h
theorem W_seqO {s t : Fs} {E : Ev} {Q : Fl × Ev → Prop} (J : Ev → Prop) (h : ∀ J' : Ev → Prop, (∀ E, J E → J' E) → W (s E) fun p => p.1 = .nx ∧ J' p.2) (k : ∀ E1, J E1 → W (t E1) Q) : W (mSeq s t E) Q :=
  W_seqJ J (h J fun _ h => h) k
section
variable {g : Fg} {body : Fs} {E : Ev} {Qs : Fl × Ev → Prop}
theorem W_forXO {α : Type} {xs : List α} {ι : α → D} (I : List α → Ev → Prop) (h0 : I [] E) (st : ∀ a x b E (I' : Ev → Prop), xs = a ++ x :: b → I a E → (∀ E, I (a ++ [x]) E → I' E) → W (g (ι x) E) fun E1 => W (body E1) fun q => (match q.1 with
    | .nx => I' q.2 | .ct => I' q.2 | .bk => Qs (.nx, q.2) | .rt d n => Qs (.rt d n, q.2))) (fin : ∀ E, I xs E → Qs (.nx, E)) : W (forM g body (xs.map ι) E) Qs :=
  W_forX I h0 (fun a x b E e i => st a x b E _ e i fun _ h => h) fin
theorem W_forRO {lo : Int} {n : Nat} (I : Nat → Ev → Prop) (h0 : I 0 E) (st : ∀ k E (I' : Ev → Prop), k < n → I k E → (∀ E, I (k + 1) E → I' E) → W (g (.int (lo + k)) E) fun E1 => W (body E1) fun q => (match q.1 with
    | .nx => I' q.2 | .ct => I' q.2 | .bk => Qs (.nx, q.2) | .rt d n => Qs (.rt d n, q.2))) (fin : ∀ E, I n E → Qs (.nx, E)) : W (forM g body (rng lo n) E) Qs :=
  W_forR I h0 (fun k E hk i => st k E _ hk i fun _ h => h) fin
end
end Zk
namespace Zk
open PySem PySem.Spec PyProof.Rows L2
section
variable {K : PySem.W.Frag}
end
section
variable {X : Cx} {a b c : Expr} {fa fb fc : Fe} {pos : PySem.Pos}
end
section
variable {E : Ev} {a b c : Fe} {Qe : Op × Ev → Prop}
end
end Zk
set_option maxHeartbeats 4000000
namespace Zk
open PySem PySem.Spec PyProof.Rows L2
section
variable {prg : Program} {wd : World} {Ar : Around} {EE : Value → Shared → Prop} {sh : Shared}
/-- a new set -/
abbrev set0 (wd : World) : Obj := { cls := .type "set", dict := none, data := .set #[] 0 (.fresh 0 0 (!wd.params.followText "set-order")) }
theorem set_lst {lp : Addr} {its : Array Value} (ns : List Int) {QQ : Value → Shared → Prop} (hd : Ar.handled = none) (isL : sh.heap.IsList lp its) (are : IntsAre its.toList ns) (few : ns.length + 1 < scanBound)
    (qq : ∀ (hp : Heap) (tk c : Nat), SetR wd hp sh.heap.objs.size (fun j => decide (j ∈ ns)) c → c ≤ ns.length → (∀ b o, sh.heap.get? b = some o → hp.get? b = some o) → QQ (.ref sh.heap.objs.size) { sh with heap := hp, toks := tk }) :
    wpAny (model prg wd) Ar (call (.type "set") [.ref lp]) QQ EE sh := by
  have szn : its.size = ns.length := by
    rw [← are.length, Array.length_toList]
  obtain ⟨c0, tl0, mro0⟩ := F.called_set.mro
  have made0 := F.called_set.made
  have sub0 := F.called_set.sub
  refine wpAny_call
    (codeAny_of_tree ?_)
  show wpAny _ _ (callAny (.type "set") _) _ _ _
  refine wpAny_pure
    ⟨Code.quiet_builtin _ (by decide +kernel), codeAny_builtin F.entry_type_call ?_⟩
  rw [Around.under_plain
    (weight_type_call_type "set" [.ref lp] []) rfl]
  have nt0 := F.called_set.notType
  have cc0 := F.called_set.canCreate
  have tc0 := F.typeCall_set_1 (.ref lp)
  repeat (any_goals (first
    | assumption | wp_step))
  refine codeAny_mono (code_set_led1 (.ref lp) (E := EE) (Q₁ := fun ob s1 => ob = .ref sh.heap.objs.size ∧ s1 = { sh with heap := sh.heap.push (set0 wd) }) ⟨rfl, rfl⟩) fun rr s1 hr => ?_
  cases rr with
  | error e => exact hr
  | ok fl =>
    cases fl with
    | ret ob =>
      obtain ⟨rfl, rfl⟩ := hr
      have at0 : (sh.heap.push (set0 wd)).get? sh.heap.objs.size = some (set0 wd) := Heap.get?_push_size _ rfl
      have ty0 : Shared.TypeIs { sh with heap := sh.heap.push (set0 wd) } (.ref sh.heap.objs.size) "set" := ⟨_, at0, rfl⟩
      have look0 := F.called_set.init.lookup
      have bind0 := F.called_set.init.bind (.ref sh.heap.objs.size)
      repeat (any_goals (first
        | assumption | wp_step))
      refine codeAny_mono (codeAny_call_builtin (R := wants (fun r s2 => r = .none ∧ ∃ hp tk c, s2 = { sh with heap := hp, toks := tk } ∧ SetR wd hp sh.heap.objs.size (fun j => decide (j ∈ ns)) c ∧ c ≤ ns.length ∧
          (∀ b o, sh.heap.get? b = some o → hp.get? b = some o)) EE) F.called_set.init.plain F.entry_set_init (check_set_init_1 ty0 ?_)) fun r2 s2 hr2 => ?_
      · obtain ⟨ol, hol, cl, k, dl⟩ := isL
        obtain ⟨ocl, odi, oda, osl⟩ := ol
        simp only at cl dl
        subst cl; subst dl
        have hol2 : (sh.heap.push (set0 wd)).get? lp = some { cls := .type "list", dict := odi, data := .seq its k, slots := osl } := Heap.get?_push_of_some _ hol
        have sb1 := F.sub_list_set
        have sb2 := F.sub_list_frozenset
        have nd0 : (Value.type "list" == Value.type "dict") = false := by decide
        have il1 : (sh.heap.push (set0 wd)).IsList lp its := ⟨_, hol2, rfl, k, rfl⟩
        unfold Builtin.«set.__init__» noKeywords
          Builtin.Frozenset.updateFrom
        generalize hPI : pyIter = PI
        wp_walk
        subst hPI
        refine wpAny_pyIter_list il1 ?_
        refine wpAny_bind (wpAny_runValue ?_)
        have lt0 : lp < sh.heap.objs.size := Heap.lt_size hol
        have hd3 : Ar.in1.in1.in1.handled = none := by simp [hd]
        have ne0 : lp ≠ (sh.heap.push (set0 wd)).objs.size := by
          rw [Heap.size_push]
          exact Nat.ne_of_lt (Nat.lt_succ_of_lt lt0)
        have nf0 : sh.heap.objs.size ∉ [(sh.heap.push (set0 wd)).objs.size, lp] := by
          rw [Heap.size_push]
          simp only [List.mem_cons, List.not_mem_nil, or_false, not_or]
          exact ⟨Nat.ne_of_lt (Nat.lt_succ_self _), Nat.ne_of_gt lt0⟩
        have vals0 : ∀ (i : Nat) (v : Value), its[i]? = some v → ∃ k t, ns[i]? = some k ∧ v = .int k t := fun i v hv => by
          have hi : i < ns.length := by rw [← szn]; exact (Array.getElem?_eq_some_iff.mp hv).1
          obtain ⟨t, e⟩ := IntsAre.int_at are i v (by rw [Array.getElem?_toList]; exact hv)
          refine ⟨ns[i], t, List.getElem?_eq_getElem hi, ?_⟩
          rw [e, List.getD_eq_getElem?_getD, List.getElem?_eq_getElem hi]; rfl
        refine set_update_ints ((Walks.list hd3 _ lp ne0 its).toS) sh.heap.objs.size
          nf0 ns szn few vals0 (its.size - 0) 0 _ (by omega) (Nat.zero_le _)
          ⟨⟨_, Heap.get?_push_size _ rfl, rfl, rfl⟩, (il1.push _)⟩ ?g0 ?g1
        case g0 =>
          have at1 : ((sh.heap.push (set0 wd)).push { cls := .type "list_iterator", data := .fields #[.ref lp, .int 0 0] }).get? sh.heap.objs.size = some (set0 wd) := Heap.get?_push_of_some _ at0
          exact ⟨0, Nat.le_refl 0, setR_new_at at1⟩
        case g1 =>
          intro s3 c3 mv le3 R3
          obtain ⟨hp3, gs3, dr3, tk3, os3⟩ := s3
          have eg : gs3 = sh.gens := mv.gens
          have ed : dr3 = sh.drawn := mv.drawn
          have eo : os3 = sh.os := mv.os
          subst eg; subst ed; subst eo
          show wpAny _ _ _ _ _ _
          refine wpAny_pure ?_
          show wpAny _ _ (ret Value.none) _ _ _
          rw [szn] at le3
          refine wpAny_pure ⟨rfl, hp3, tk3, c3, rfl, R3, le3, fun b o e => ?_⟩
          have lt1 : b < sh.heap.objs.size := Heap.lt_size e
          have ne1 : b ≠ sh.heap.objs.size := Nat.ne_of_lt lt1
          have ne2 : b ≠ (sh.heap.push (set0 wd)).objs.size := by
            rw [Heap.size_push]
            exact Nat.ne_of_lt (Nat.lt_succ_of_lt lt1)
          refine mv.heap b o (by simp only [List.mem_cons, List.not_mem_nil, or_false, not_or]; exact ⟨ne1, ne2⟩) ?_
          exact Heap.get?_push_of_some _ (Heap.get?_push_of_some _ e)
      · cases r2 with
        | error e => exact hr2
        | ok fl2 =>
          cases fl2 with
          | ret r =>
            obtain ⟨rfl, hp3, tk3, c3, rfl, R3, le3, kp3⟩ := hr2
            repeat (any_goals (first
              | assumption | wp_step))
            exact qq _ _ _ R3 le3 kp3
          | _ => exact hr2.elim
    | _ => exact hr.elim
/-- sorted, of a set of ints -/
theorem sorted_setA {a : Addr} {S : Int → Bool} {n : Nat} {QQ : Value → Shared → Prop} (R : SetR wd sh.heap a S n) (hd : Ar.handled = none)
    (qq : ∀ s2 p (out : List Value) (c : Nat) (ns : List Int), (∀ b o, sh.heap.get? b = some o → s2.heap.get? b = some o) → s2.gens = sh.gens → s2.os = sh.os → sh.heap.objs.size ≤ p →
      s2.heap.get? p = some (seqObj "list" out.toArray c) → IntsAre out ns → ns.Pairwise (· ≤ ·) → ns.Nodup → (∀ k, k ∈ ns ↔ S k = true) → QQ (.ref p) s2) :
    wpAny (model prg wd) Ar (call (.builtin "sorted") [.ref a]) QQ EE sh := by
  obtain ⟨o, es, ep, t, ho, ex, hdt, good, nd, mem, few, fits, cnt, ris, led⟩ := R
  refine Calls.call_function_entry kind_sorted plain_sorted
    entry_sorted (args_sorted1 _) ?_
  unfold Builtin.«sorted»
  refine wpAny_bind
    (m := checkCount "sorted" 1 1 _) (wpAny_pure ?_)
  refine wpAny_bind (collect_set (A := Ar.in1) hd ⟨o, ho, ex.1, hdt⟩ fits few ris led fun s1 vs kp hz g1 o1 pm => ?_)
  have all : ∀ v ∈ vs, ∃ i t, v = Value.int i t := fun v hv => by
    obtain ⟨e, he, q⟩ := List.mem_map.mp (pm.mem_iff.mp hv)
    obtain ⟨k, tk, h1, _⟩ := good e he
    exact ⟨k, tk, by rw [← q]; exact h1⟩
  have hI : IntsAre vs (vs.map SrtO.iv) := SrtO.ints_iv all
  have hl : vs.length < scanBound := by rw [pm.length_eq, List.length_map, Array.length_toList]; exact few
  have hz2 : vs.length ≤ sizeLine := by rw [sizeLine_eq]; unfold scanBound at hl; omega
  have pk : (vs.map SrtO.iv).Perm (es.toList.map L2.keyOf) := by
    have q := pm.map SrtO.iv
    rw [List.map_map] at q
    have e : es.toList.map (SrtO.iv ∘ fun x => x.2) = es.toList.map L2.keyOf := List.map_congr_left fun e he => by
      obtain ⟨k, tk, h1, _⟩ := good e he
      show SrtO.iv e.2 = L2.keyOf e
      unfold L2.keyOf
      rw [h1]; rfl
    rw [e] at q
    exact q
  refine wpAny_bind (wpAny_newList ?_ hz2)
  have at1 : (s1.heap.push (seqObj "list" vs.toArray 0)).get? s1.heap.objs.size = some (seqObj "list" vs.toArray 0) :=
    Heap.get?_push_size _ rfl
  refine wpAny_bind (wpAny_holding (wpAny_call_entry
    slot_list_sort ⟨_, at1, rfl⟩ entry_list_sort
    (SrtO.list_sort_ord SrtO.swo_int at1 hz2 (fun two => SrtO.ints_sortable hI two) fun out s1' s2' => ⟨_, rfl, ?_⟩) (args_list_sort _)))
  obtain ⟨o1', o2', o3'⟩ := SrtO.ints_out hI s1' s2'
  obtain ⟨c, hc⟩ := sortedHeap_at (vs := vs) (out := out.toArray) at1
  have pn : (out.map SrtO.iv).Perm (es.toList.map L2.keyOf) := o2'.trans pk
  refine wpAny_pure ⟨_, rfl, qq _ s1.heap.objs.size out c _ (fun b u e => ?_) g1 o1 hz hc o1' o3' (pn.nodup_iff.mpr nd) fun k => by rw [pn.mem_iff, ← mem k]⟩
  have q := kp b u e
  have lt := Heap.lt_size q
  have ne := Nat.ne_of_lt lt
  show (sortedHeap (s1.heap.push (seqObj "list" vs.toArray 0)) s1.heap.objs.size vs out.toArray).get? b = some u
  rw [sortedHeap_old ne (by rw [size_push']; exact Nat.lt_succ_of_lt lt)]
  exact Heap.get?_push_of_some _ q
end
theorem nodup_dd (l : List Int) : l.eraseDups.Nodup := by
  generalize hn : l.length = n
  induction n using Nat.strongRecOn generalizing l with
  | ind n ih =>
    cases l with
    | nil => simp
    | cons a l =>
      rw [List.eraseDups_cons, List.nodup_cons]
      have hl : (l.filter fun b => !b == a).length < n := by
        have := List.length_filter_le (fun b => !b == a) l
        simp at hn
        omega
      refine ⟨fun h => ?_, ih _ hl _ rfl⟩
      rw [List.mem_eraseDups] at h
      simp at h
theorem len_dd (l : List Int) : l.eraseDups.length ≤ l.length := (nodup_dd l).length_le_of_subset fun _ h => List.mem_eraseDups.mp h
section
variable {X : Cx} {a : Expr} {ta : TE} {p p2 q pos : PySem.Pos}
/-- x is a list or a tuple of these ints -/
def SqI (K : PySem.W.Frag) (H : Hp) (l : Addr) (ns : List Int) : Prop := SqL K H l (ns.map V.int) ∨ SqT K H l (ns.map V.int)
def tSrtSet (K : PySem.W.Frag) (ta : TE) : TE := fun σ H Q => ta σ H fun x H1 => ∃ (l : Addr) (ns : List Int), x = .ref l ∧ SqI K H1 l ns ∧ ns.length ≤ 4000 ∧ ∀ p, H1 p = none → Q (.ref p) (upd H1 p (.lst ((srt ns.eraseDups).map V.int)))
/-- set(x), x a list or a tuple of ints, in any state -/
theorem set_any {pins : List (Addr × Obj)} {s1 : Shared} {σ : L2.St} {H1 : Hp} {l : Addr} {ns : List Int} {QQ : Value → Shared → Prop} {EE : Value → Shared → Prop} (hc : X.calm = true) (I1 : Inv X pins σ H1 s1) (hq : SqI X.K H1 l ns) (hl : ns.length ≤ 4000) {Ar : Around} (hd : Ar.handled = none)
    (qq : ∀ (hp : Heap) (tk c : Nat), SetR X.w hp s1.heap.objs.size (fun j => decide (j ∈ ns)) c → Inv X pins σ H1 { s1 with heap := hp, toks := tk } → QQ (.ref s1.heap.objs.size) { s1 with heap := hp, toks := tk }) :
    wpAny (model X.prog X.w) Ar (call (.type "set") [.ref l]) QQ EE s1 := by
  have few : ns.length + 1 < scanBound := by unfold scanBound; omega
  rcases hq with hq | hq
  · obtain ⟨its, r, pl, hz⟩ := I1.list hq
    refine set_lst ns hd pl.isList (by simpa using r.ints) few fun hp tk c R _ kp => ?_
    exact qq hp tk c R (I1.kept kp)
  · obtain ⟨its, r, pt, hz⟩ := I1.tuple hq
    refine call_set_tupI ns hd (show s1.heap.IsTuple l its.toArray from pt) (by simpa using r.ints) few fun hp tk c R _ kp => ?_
    exact qq hp tk c R (I1.kept kp)
theorem pe_srtSetA (hc : X.calm = true) (hg : Gl X "sorted") (hm : X.mg "sorted" = none) (hg2 : Gl X "set") (hm2 : X.mg "set" = none) (ha : PE X a ta)
    (na : starEach [a] X.env = (false, eval a X.env) :: starEach [] X.env := by rfl) : PE X (.Call (.Name "sorted" p) [.Call (.Name "set" p2) [a] [] q] [] pos) (tSrtSet X.K ta) := by
  refine ⟨fun pins s σ H Q I h => ?_⟩
  refine Call_ (ld_blt I hg hm boot_sorted ?_)
  refine callWith_builtin1
    (args_cons ?_ rfl) rfl rfl
  refine Call_ (ld_blt I hg2 hm2 boot_set ?_)
  refine callWith_type1
    (args_cons (thn (ha.run pins s σ H _ I h) fun v s1 ⟨x, H1, I1, r1, q1⟩ => args_nil ?_) na) na rfl
  obtain ⟨l, ns, rfl, hq, hl, q1⟩ := q1
  cases r1
  refine set_any hc I1 hq hl (I1.ok.hd hc) fun hp tk c R I2 => ?_
  refine args_nil ?_
  refine sorted_setA (sh := { s1 with heap := hp, toks := tk }) R (I1.ok.hd hc) fun s2 p out c2 ms kp hg1 ho1 hsz at1 his srtd nd mem => ?_
  have pm : ms.Perm ns.eraseDups := (List.perm_ext_iff_of_nodup nd (nodup_dd ns)).mpr fun k => by
    rw [mem k, List.mem_eraseDups]; simp
  have em : ms = srt ns.eraseDups := srt_uniq (pm.trans (srt_perm _).symm) srtd (srt_pair _)
  have le := len_dd ns
  have ml : (ms.map V.int).length ≤ sizeLine := by
    rw [List.length_map, pm.length_eq, sizeLine_eq]; omega
  have hn : H1 p = none := I2.hok.fresh hsz
  have J : Inv X pins σ (upd H1 p (.lst (ms.map V.int))) { ({ s1 with heap := hp, toks := tk } : Shared) with heap := s2.heap, gens := s2.gens, drawn := s2.drawn, toks := s2.toks } :=
    I2.call (ch := []) (Un.laid kp hsz hn) (I2.hok.laid kp hsz ⟨ml, out, c2, vals_of_ints his, at1⟩) (by rw [hg1]; exact I2.bare) (fun _ z => nomatch z)
  have es : s2 = { s1 with heap := s2.heap, gens := s2.gens, drawn := s2.drawn, toks := s2.toks } := by
    cases s2
    cases s1
    cases ho1
    rfl
  rw [es]
  exact ⟨.ref p, _, J, rfl, by rw [em]; exact q1 p hn⟩
end
def iofS : D → Option (List Int)
  | .lst ds => iof ds
  | .tup ds => iof ds
  | _ => none
def gSrtS : List D → Option (D × Nat)
  | [d] => (iofS d).bind fun ns => if ns.length ≤ 4000 then some (.lst ((srt ns.eraseDups).map D.int), 9) else none
  | _ => none
def gLenS : List D → Option (D × Nat)
  | [d] => (iofS d).bind fun ns => if ns.length ≤ 4000 then some (.int (ns.eraseDups.length : Nat), 9) else none
  | _ => none
@[simp] theorem gSrtS_lst (ns : List Int) : gSrtS [.lst (ns.map D.int)] = if ns.length ≤ 4000 then some (.lst ((srt ns.eraseDups).map D.int), 9) else none := by simp [gSrtS, iofS]
@[simp] theorem gSrtS_tup (ns : List Int) : gSrtS [.tup (ns.map D.int)] = if ns.length ≤ 4000 then some (.lst ((srt ns.eraseDups).map D.int), 9) else none := by simp [gSrtS, iofS]
@[simp] theorem gLenS_lst (ns : List Int) : gLenS [.lst (ns.map D.int)] = if ns.length ≤ 4000 then some (.int (ns.eraseDups.length : Nat), 9) else none := by simp [gLenS, iofS]
@[simp] theorem gLenS_tup (ns : List Int) : gLenS [.tup (ns.map D.int)] = if ns.length ≤ 4000 then some (.int (ns.eraseDups.length : Nat), 9) else none := by simp [gLenS, iofS]
section
variable {K : PySem.W.Frag}
theorem sqI_of {Z : Addr → Prop} {H : Hp} {v : V} {d : D} {ns : List Int} (k : Kf K Z H v d) (e : iofS d = some ns) : ∃ l, v = .ref l ∧ SqI K H l ns := by
  cases d with
  | lst ds =>
    cases iof_eq (show iof ds = some ns from e)
    obtain ⟨p, xs, rfl, hp, r⟩ := k
    cases r.ints
    exact ⟨p, rfl, .inl (.inl (.inl hp))⟩
  | tup ds =>
    cases iof_eq (show iof ds = some ns from e)
    cases k with
    | tup s r =>
      cases r.ints
      exact ⟨_, rfl, .inr (.of s)⟩
  | _ => cases e
theorem al_srtS : AL K (fun vs H Q => ∃ (l : Addr) (ns : List Int), vs = [.ref l] ∧ SqI K H l ns ∧ ns.length ≤ 4000 ∧ ∀ p, H p = none → Q (.ref p) (upd H p (.lst ((srt ns.eraseDups).map V.int)))) gSrtS := by
  intro Z H vs ds d n Q hz k e q
  unfold gSrtS at e
  split at e
  · rename_i d0
    cases e1 : iofS d0 with
    | none => rw [e1] at e; cases e
    | some ns =>
      rw [e1] at e
      simp only [Option.bind_some] at e
      split at e
      · rename_i hl
        cases e
        obtain ⟨x, rfl, h1⟩ := k.one
        obtain ⟨l, rfl, hs⟩ := sqI_of h1 e1
        exact ⟨l, ns, rfl, hs, hl, fin_lst hz (Rps.ofInts (K := K) (Z := Z) (H := H) (srt ns.eraseDups)) (by rw [lev_ints]; exact q)⟩
      · cases e
  · cases e
end
def mSrtS (a : Fe) : Fe := mOp gSrtS (mA1 a)
section
variable {X : Cx} {a : Expr} {fa : Fe} {p p2 q pos : PySem.Pos}
theorem ae_srtS (ha : AE X a fa) (hg : Gl X "sorted") (hm : X.mg "sorted" = none) (hg2 : Gl X "set") (hm2 : X.mg "set" = none) (hc : X.calm = true := by rfl)
    (na : starEach [a] X.env = (false, eval a X.env) :: starEach [] X.env := by rfl) : AE X (.Call (.Name "sorted" p) [.Call (.Name "set" p2) [a] [] q] [] pos) (mSrtS fa) :=
  PE.mono (pe_srtSetA hc hg hm hg2 hm2 ha na) fun σ H Q r => eOf_imp (fun v H1 h => by
    obtain ⟨l, ns, e, z⟩ := h
    cases e
    exact ⟨l, ns, rfl, z⟩) (aOf_1 (op_of al_srtS r))
@[simp ↓] theorem W_srtS {fa : Fe} {E : Ev} {Qe : Op × Ev → Prop} : W (mSrtS fa E) Qe ↔ W (mOp gSrtS (mA1 fa) E) Qe := Iff.rfl
end
end Zk
namespace Zk
open PySem PySem.Spec PyProof.Rows L2
section
variable {K : PySem.W.Frag} {Z Z' Zf Z0 Z1 Z2 Z5 Z6 : Addr → Prop} {H H' H0 H1 H2 H5 H6 : Hp} {σ σ' τ : L2.St} {E E' E1 E2 EF : Ev} {R R' R0 R1 R2 R5 R6 Rw : Rs} {D0 : Addr} {accV : List V} {accD accF : List (D × Nat)} {rss : List (List Addr)}
/-- the new list at D0 and its items, told since Z1, H1, Rw -/
structure LS (K : PySem.W.Frag) (Z1 : Addr → Prop) (H1 : Hp) (Rw : Rs) (D0 : Addr) (Z2 : Addr → Prop) (H2 : Hp) (R2 : Rs) (accV : List V) (accD : List (D × Nat)) (rss : List (List Addr)) : Prop where
  h2D : H2 D0 = some (.lst accV)
  z2D : ¬ Z2 D0
  o2D : ¬ ow R2 D0
  tl : TL K Z2 H2 accV accD rss
  tnd : rss.flatten.Nodup
  tno : ∀ a ∈ rss.flatten, ¬ ow R2 a ∧ a ≠ D0 ∧ (ow Rw a ∨ H1 a = none)
  t2 : Step Z1 H1 (ow Rw) Z2 H2 (ow R2)
theorem LS.keep (L : LS K Z1 H1 Rw D0 Z2 H2 R2 accV accD rss) (s2 : S K Z2 H2 σ E2 R2) (t : Step Z2 H2 (ow R2) Z6 H6 (ow R6)) : LS K Z1 H1 Rw D0 Z6 H6 R6 accV accD rss := by
  obtain ⟨h2D, z2D, o2D, tl, tnd, tno, t2⟩ := L
  refine ⟨t.hh D0 _ h2D o2D, fun z => ?_, fun z => ?_, All3.imp tl fun v d rs m o => (s2.pend t o fun a ma => (tno a (mem_flatten_of m ma)).1).1, tnd, fun a ma => ⟨fun z => ?_, (tno a ma).2⟩, t2.trans t⟩
  · rcases t.zn D0 z with z | z | z
    · exact z2D z
    · rw [h2D] at z; cases z
    · exact o2D z
  · rcases t.on D0 z with z | z
    · exact o2D z
    · rw [h2D] at z; cases z
  · rcases t.on a z with z | z
    · exact (tno a ma).1 z
    · exact TL.there tl a ma z
/-- slots forgotten -/
theorem LS.less (L : LS K Z1 H1 Rw D0 Z2 H2 R2 accV accD rss) (s2 : S K Z2 H2 σ E2 R2) (h : ∀ a, ow R6 a → ow R2 a) : LS K Z1 H1 Rw D0 Z2 H2 R6 accV accD rss :=
  L.keep s2 ⟨fun _ h => h, fun _ h => .inl h, fun _ _ h _ => h, fun a z => .inl (h a z), fun _ h => h⟩
theorem ow_wipe {is : List Nat} (h1 : ∀ k, k ∉ is → R' k = R k) (h2 : ∀ k ∈ is, R' k = []) : ∀ a, ow R' a → ow R a := fun a ⟨k, m⟩ => by
  by_cases ck : k ∈ is
  · rw [h2 k ck] at m; simp at m
  · exact ⟨k, by rw [← h1 k ck]; exact m⟩
/-- one item more -/
theorem LS.item {f : Fe} {o6 : Op} {E6 E7 : Ev} {dv : D} {nv : Nat} {Nx : Hp → Prop} (s5 : S K Z5 H5 τ E R5) (hD1 : H1 D0 = none) (L : LS K Z1 H1 Rw D0 Z5 H5 R5 accV accD rss) (e6 : f E = some (o6, E6)) (e7 : tk E6 o6 = some (dv, nv, E7)) (hsz : accD.length < sizeLine)
    (k : ∀ (y : V) (Z7 : Addr → Prop) (H7 : Hp) (R7 : Rs) (rs : List Addr), S K Z7 H7 τ E7 R7 → LS K Z1 H1 Rw D0 Z7 H7 R7 (accV ++ [y]) (accD ++ [(dv, nv)]) (rss ++ [rs]) → Pers Z5 H5 Z7 H7 → Nx H7) :
    eOf K f τ H5 fun y H7 => ∃ acc, H7 D0 = some (.lst acc) ∧ acc.length < sizeLine ∧ Nx (upd H7 D0 (.lst (acc ++ [y]))) := by
  refine ⟨Z5, E, R5, s5, o6, E6, e6, fun y6 Z6 H6 R6 rs6 s6 t6 ov6 f6 => ?_⟩
  obtain ⟨Z7, R7, s7, t7, o7, n7, sub7⟩ := s6.take ov6 f6.no e7
  have t57 := t6.trans t7
  have L7 := L.keep s5 t57
  have p57 := s5.pers t57
  refine ⟨accV, L7.h2D, by rw [TL.len L.tl]; exact hsz, ?_⟩
  have neD : ∀ a ∈ rs6, a ≠ D0 := fun a ma e => by
    subst e
    rcases f6.of a ma with z | z
    · exact L.o2D z
    · rw [L.h2D] at z; cases z
  have apart : ∀ a ∈ rs6, a ∉ rss.flatten := fun a ma z => by
    rcases f6.of a ma with y | y
    · exact (L.tno a z).1 y
    · exact TL.there L.tl a z y
  obtain ⟨s8, p8⟩ := s7.free (o' := .lst (accV ++ [y6])) L7.h2D trivial L7.o2D L7.z2D
  have tl8 : TL K Z7 (upd H6 D0 (.lst (accV ++ [y6]))) (accV ++ [y6]) (accD ++ [(dv, nv)]) (rss ++ [rs6]) :=
    All3.append (All3.imp L7.tl fun v d rs m o => o.keep p8 fun a ma => ⟨upd_ne (L7.tno a (mem_flatten_of m ma)).2.1, (o.mut a ma).2⟩)
      (.cons (o7.keep p8 fun a ma => ⟨upd_ne (neD a ma), (o7.mut a ma).2⟩) .nil)
  have t8 : Step Z1 H1 (ow Rw) Z7 (upd H6 D0 (.lst (accV ++ [y6]))) (ow R7) := by
    have tt := L7.t2
    refine ⟨tt.zz, tt.zn, fun a o ho h => ?_, tt.on, fun a h e => ?_⟩
    · have ne : a ≠ D0 := fun e => by rw [e, hD1] at ho; cases ho
      rw [upd_ne ne]; exact tt.hh a o ho h
    · by_cases ca : a = D0
      · rw [ca, upd_same] at e; cases e
      · rw [upd_ne ca] at e; exact tt.dm a h e
  refine k y6 Z7 _ R7 rs6 s8 ⟨upd_same, L7.z2D, L7.o2D, tl8, ?_, fun a ma => ?_, t8⟩ (p57.trans p8)
  · rw [List.flatten_append]
    simp only [List.flatten_cons, List.flatten_nil, List.append_nil]
    exact List.nodup_append.mpr ⟨L.tnd, f6.nd, fun a ma b mb e => apart b mb (e ▸ ma)⟩
  · rw [List.flatten_append] at ma
    simp only [List.flatten_cons, List.flatten_nil, List.append_nil, List.mem_append] at ma
    rcases ma with ma | ma
    · exact L7.tno a ma
    · refine ⟨n7 a ma, neD a ma, ?_⟩
      rcases f6.of a ma with z | z
      · exact L.t2.on a z
      · cases cc : H1 a with
        | none => exact .inr rfl
        | some u => exact absurd z (L.t2.dm a (by rw [cc]; simp))
def lcM2 (it2 : Fi) (g g2 : Fg) (c c2 : Ft) (f : Fe) (is is2 : List Nat) : List D → Ev → List (D × Nat) → Option (List (D × Nat) × Ev)
  | [], E, acc => some (acc, E)
  | d :: ds, E, acc => (g d E).bind fun E1 => (c E1).bind fun q => if q.1 = true then
      (it2 q.2).bind fun p => (lcM g2 c2 f is2 p.1 (wipeE p.2 is2) acc).bind fun r => lcM2 it2 g g2 c c2 f is is2 ds (wipeE r.2 is) r.1
    else lcM2 it2 g g2 c c2 f is is2 ds (wipeE q.2 is) acc
def mLc2 (it : Fi) (is : List Nat) (g : Fg) (c : Ft) (it2 : Fi) (is2 : List Nat) (g2 : Fg) (c2 : Ft) (f : Fe) : Fe := fun E => (it E).bind fun p => (lcM2 it2 g g2 c c2 f is is2 p.1 (wipeE p.2 is) []).map fun q => (.val (.lst (q.1.map (·.1))) (uni q.1), backE p.2 q.2 is)
end
section
variable {X : Cx} {elt tg iter tg1 iter1 : Expr} {ifs ifs1 : List Expr} {fe : Fe} {ft ft1 : Ft} {fi fi1 : Fi} {g g1 : Fg} {scope : Scope} {pos spos py : PySem.Pos} {w w1 : List Nat} {own : List (Str × Nat)} {vs1 : List Nat}
end
section
variable {E E0 : Ev} {it it2 : Fi} {g g2 : Fg} {c c2 : Ft} {f : Fe} {is is2 : List Nat} {Qe : Op × Ev → Prop} {Q : List (D × Nat) × Ev → Prop} {α β : Type}
theorem W_lc20 : W (mLc2 it is g c it2 is2 g2 c2 f E) Qe ↔ W (it E) fun p => W (lcM2 it2 g g2 c c2 f is is2 p.1 (wipeE p.2 is) []) fun q => Qe (.val (.lst (q.1.map (·.1))) (uni q.1), backE p.2 q.2 is) := by
  unfold mLc2
  exact W_bind.trans (W_ext fun p => W_map)
/-- a comprehension that goes on with what there is -/
theorem W_lcXa {ι : β → D} (p : β → Bool) (ρ : β → D) : ∀ (ys : List β) (acc0 : List (D × Nat)), acc0.length + ys.length ≤ sizeLine →
    (∀ y ∈ ys, W (g (ι y) E0) fun E1 => W (c E1) fun q => IfB q.1 (p y = true ∧ W (f q.2) fun r => W (tk r.2 r.1) fun t => t.1 = ρ y ∧ wipeE t.2.2 is = E0) (p y = false ∧ wipeE q.2 is = E0)) →
    (∀ acc : List (D × Nat), acc.map (·.1) = acc0.map (·.1) ++ (ys.filter p).map ρ → acc.length ≤ acc0.length + ys.length → Q (acc, E0)) → W (lcM g c f is (ys.map ι) E0 acc0) Q := by
  intro ys
  induction ys with
  | nil =>
    intro acc0 hl st fin
    exact W_some.mpr (fin acc0 (by simp) (by simp))
  | cons y ys ih =>
    intro acc0 hl st fin
    rw [List.length_cons] at hl
    rw [List.map_cons]
    unfold lcM
    refine W_bind.mpr ((st y List.mem_cons_self).mono fun E1 h1 => W_bind.mpr (h1.mono fun q h2 => W_iteB.mpr ?_))
    obtain ⟨b, E2⟩ := q
    cases b with
    | false =>
      rw [IfB_f] at h2 ⊢
      rw [h2.2]
      refine ih acc0 (by omega) (fun z hz => st z (List.mem_cons_of_mem _ hz)) fun acc ha hl2 => fin acc ?_ (by simp; omega)
      rw [ha, List.filter_cons_of_neg (by simp [h2.1])]
    | true =>
      rw [IfB_t] at h2 ⊢
      refine W_bind.mpr (h2.2.mono fun r h3 => W_bind.mpr (h3.mono fun t h4 => W_if1.mpr ⟨by omega, ?_⟩))
      rw [h4.2]
      refine ih _ (by simp; omega) (fun z hz => st z (List.mem_cons_of_mem _ hz)) fun acc ha hl2 => fin acc ?_ (by simp at hl2 ⊢; omega)
      rw [ha, List.filter_cons_of_pos (by simp [h2.1])]
      simp [h4.1]
/-- two clauses that change nothing, of unchangeable things -/
theorem W_lc2X {ι : α → D} (ys : α → List β) (κ : α → β → D) (EE : α → Ev) (p : α → β → Bool) (ρ : α → β → D) (hρ : ∀ x y, imm (ρ x y) = true) (n : Nat) : ∀ (xs : List α) (acc0 : List (D × Nat)), acc0.length + xs.length * n ≤ sizeLine → imms (acc0.map (·.1)) = true →
    (∀ x ∈ xs, (ys x).length ≤ n ∧ W (g (ι x) E0) fun E1 => W (c E1) fun q => q.1 = true ∧ W (it2 q.2) fun r => r.1 = (ys x).map (κ x) ∧ wipeE r.2 is2 = EE x ∧ wipeE (EE x) is = E0) →
    (∀ x ∈ xs, ∀ y ∈ ys x, W (g2 (κ x y) (EE x)) fun E1 => W (c2 E1) fun q => IfB q.1 (p x y = true ∧ W (f q.2) fun r => W (tk r.2 r.1) fun t => t.1 = ρ x y ∧ wipeE t.2.2 is2 = EE x) (p x y = false ∧ wipeE q.2 is2 = EE x)) →
    (∀ acc : List (D × Nat), acc.map (·.1) = acc0.map (·.1) ++ (xs.flatMap fun x => ((ys x).filter (p x)).map (ρ x)) → uni acc = 9 → Q (acc, E0)) → W (lcM2 it2 g g2 c c2 f is is2 (xs.map ι) E0 acc0) Q := by
  intro xs
  induction xs with
  | nil =>
    intro acc0 hl im st st2 fin
    exact W_some.mpr (fin acc0 (by simp) (by unfold uni; rw [im]; rfl))
  | cons x xs ih =>
    intro acc0 hl im st st2 fin
    rw [List.length_cons, Nat.succ_mul] at hl
    obtain ⟨hx, hw⟩ := st x List.mem_cons_self
    rw [List.map_cons]
    unfold lcM2
    refine W_bind.mpr (hw.mono fun E1 h1 => W_bind.mpr (h1.mono fun q h2 => W_iteB.mpr ?_))
    rw [h2.1, IfB_t]
    refine W_bind.mpr (h2.2.mono fun r h3 => W_bind.mpr ?_)
    rw [h3.1, h3.2.1]
    refine W_lcXa (p x) (ρ x) (ys x) acc0 (by omega) (st2 x List.mem_cons_self) fun acc ha hl2 => ?_
    show W (lcM2 it2 g g2 c c2 f is is2 (xs.map ι) (wipeE (EE x) is) acc) Q
    rw [h3.2.2]
    refine ih acc (by omega) ?_ (fun z hz => st z (List.mem_cons_of_mem _ hz)) (fun z hz => st2 z (List.mem_cons_of_mem _ hz)) fun acc2 ha2 hu => fin acc2 ?_ hu
    · rw [ha, imms_append, im]
      exact imms_map _ (fun y => hρ x y) _
    · rw [ha2, ha, List.flatMap_cons, List.append_assoc]
end
end Zk
namespace Zk
open PySem PySem.Spec PyProof.Rows L2
section
variable {X : Cx} {a b c d : Expr} {pos : PySem.Pos} {ta tb tc td : TE} {fa fb fc fd : Fe}
end
section
variable {E : Ev} {a b c d : Fe} {Qe : Op × Ev → Prop}
end
section
variable {prog : Program} {w : World} {A : Around} {Ex : Value → Shared → Prop} {s : Shared}
end
section
variable {X : Cx}
end
section
variable {K : PySem.W.Frag} {Z Z' : Addr → Prop} {H H' : Hp} {σ : L2.St}
end
section
variable {X : Cx} {a : Expr} {fa : Fe} {pos : PySem.Pos}
end
end Zk
namespace Zk
open PySem PySem.Spec PyProof.Rows L2
section
variable {X : Cx}
end
section
variable {κ : Type} [DecidableEq κ] {K : PySem.W.Frag} {Z Z' Zf Z0 Z1 Z2 : Addr → Prop} {H H' H0 H1 H2 : Hp} {σ σ' : L2.St} {E E' E1 EF : Ev} {R R' R0 R1 R2 Rw : Rs} {D0 : Addr}
end
section
variable {X : Cx} {kx vx tg iter : Expr} {ifs : List Expr} {fk fv : Fe} {ft : Ft} {fi : Fi} {g : Fg} {scope : Scope} {pos : PySem.Pos} {w : List Nat} {own : List (PySem.Str × Nat)}
end
section
variable {κ : Type} [DecidableEq κ] {E E0 : Ev} {it : Fi} {g : Fg} {c : Ft} {fk fv : Fe} {is : List Nat} {Qe : Op × Ev → Prop} {con : List (κ × D) → D} {ko : D → Option κ} {Q : List (κ × D) × Ev → Prop}
end
end Zk
namespace Zk
open PySem PySem.Spec PyProof.Rows L2
section
variable {prog : Program} {w : World} {A : Around} {s : Shared}
/-- the ints of a tuple on the heap -/
def IsTI (h : Heap) (v : Value) (ns : List Int) : Prop := ∃ (a : Addr) (o : Obj) (us : List Value) (n : Nat), v = .ref a ∧ h.get? a = some o ∧ o.cls = .type "tuple" ∧ o.data = .seq us.toArray n ∧ IntsAre us ns
theorem IsTI.keeps {h h' : Heap} {v : Value} {ns : List Int} (x : IsTI h v ns) (kp : ∀ b o, h.get? b = some o → o.cls = .type "tuple" → h'.get? b = some o) : IsTI h' v ns := by
  obtain ⟨a, o, us, n, e, ho, hc, hd, hi⟩ := x
  exact ⟨a, o, us, n, e, kp _ _ ho hc, hc, hd, hi⟩
end
def tof : List D → Option (List (List Int))
  | [] => some []
  | .tup es :: ds => (iof es).bind fun ns => (tof ds).map (ns :: ·)
  | _ => none
section
variable {K : PySem.W.Frag} {H : Hp}
end
section
variable {X : Cx} {a : Expr} {fe : Fe} {pos p : PySem.Pos}
end
end Zk
namespace Zk
noncomputable section
open PySem PySem.Spec PyProof.Rows L2
def S_law_drawsb : Fs := (mSeq (mSet 2 (mLc (mSq (mSl (mVar 0) (mC .non) (mInt (mC (.int 63))))) [3] (tgV 3) mYes (mMod (mOp gInt (mAc (mVar 3) mA0)) (mShl (mC (.int 1)) (mC (.int 7200)))))) (mSeq (mIfS (mB (mEq (mOp gLen (mAc (mVar 2) mA0)) (mC (.int 0)))) (mEx (mApp 2 (mC (.int 0)))) mNx) (mSeq (mSet 4 (mOp gList (mAc (mVar 2) mA0))) (mSeq (mSet 5 (mLst mA0)) (mSeq (mFor (mRg1 (mVar 1)) (tgV 6) (mSeq (mSet 7 (mMod (mOp gInt (mAc (mVar 6) mA0)) (mOp gLen (mAc (mVar 2) mA0)))) (mIfS (mAndT (mB (mGe (mIxd (mVar 2) (mVar 7)) (mPow (mC (.int 10)) (mC (.int 18))))) (mB (mGt (mIxd (mVar 4) (mVar 7)) (mC (.int 0))))) (mSeq (mEx (mApp 5 (mMod (mOp gInt (mAc (mIxd (mVar 4) (mVar 7)) mA0)) (mC (.int 1000))))) (mPut 4 (mVar 7) (mDiv (mIxd (mVar 4) (mVar 7)) (mC (.int 1000))))) (mSeq (mSet 8 (mMod (mOp gInt (mAc (mAdd (mAdd (mMul (mIxd (mVar 2) (mVar 7)) (mC (.int 48271))) (mMul (mVar 6) (mC (.int 69621)))) (mC (.int 11))) mA0)) (mC (.int 2147483647)))) (mEx (mApp 5 (mMod (mOp gInt (mAc (mAdd (mAdd (mMul (mVar 8) (mVar 8)) (mMul (mC (.int 3)) (mVar 8))) (mVar 6)) mA0)) (mC (.int 1000003))))))))) (mSeq (mEx (mRev 5)) (mRet (mVar 5))))))))
def S_law_draws : Mir := mDef none 9 S_law_drawsb
def S_law_takeb : Fs := (mSeq (mIfS (mB (mEq (mOp gLen (mAc (mVar 0) mA0)) (mC (.int 0)))) (mRet (mC (.int 0))) mNx) (mRet (mMod (mOp gInt (mAc (mPop 0) mA0)) (mVar 1))))
def S_law_take : Mir := mDef (some 0) 2 S_law_takeb
def S_law_pickb : Fs := (mRet (mIxd (mVar 1) (mCall (some 0) S_law_take (mAc (mVar 0) (mAc (mOp gLen (mAc (mVar 1) mA0)) mA0)))))
def S_law_pick : Mir := mDef (some 0) 2 S_law_pickb
def S_law_sameb (M : Mir) : Fs := (mSeq (mIfS (mTr (mOp gIsi (mAc (mVar 1) (mAc (mTup (mAc (mC (.ty "tuple")) (mAc (mC (.ty "list")) mA0))) mA0)))) (mSeq (mIfS (mOrT (mB (mNe (mOp gIsi (mAc (mVar 0) (mAc (mC (.ty "tuple")) mA0))) (mOp gIsi (mAc (mVar 1) (mAc (mC (.ty "tuple")) mA0))))) (mB (mNe (mOp gIsi (mAc (mVar 0) (mAc (mC (.ty "list")) mA0))) (mOp gIsi (mAc (mVar 1) (mAc (mC (.ty "list")) mA0)))))) (mRet (mC (.bl false))) mNx) (mSeq (mIfS (mB (mNe (mOp gLen (mAc (mVar 0) mA0)) (mOp gLen (mAc (mVar 1) mA0)))) (mRet (mC (.bl false))) mNx) (mRet (mNotIn (mC (.bl false)) (mLc (mRg1 (mOp gLen (mAc (mVar 1) mA0))) [2] (tgV 2) mYes (mCall none M (mAc (mIxd (mVar 0) (mVar 2)) (mAc (mIxd (mVar 1) (mVar 2)) mA0)))))))) mNx) (mSeq (mIfS (mOrT (mB (mNe (mOp gIsi (mAc (mVar 0) (mAc (mC (.ty "bool")) mA0))) (mOp gIsi (mAc (mVar 1) (mAc (mC (.ty "bool")) mA0))))) (mB (mNe (mOp gIsi (mAc (mVar 0) (mAc (mC (.ty "int")) mA0))) (mOp gIsi (mAc (mVar 1) (mAc (mC (.ty "int")) mA0)))))) (mRet (mC (.bl false))) mNx) (mSeq (mIfS (mOrT (mB (mNe (mOp gIsi (mAc (mVar 0) (mAc (mC (.ty "str")) mA0))) (mOp gIsi (mAc (mVar 1) (mAc (mC (.ty "str")) mA0))))) (mB (mNe (mIsN (mVar 0)) (mIsN (mVar 1))))) (mRet (mC (.bl false))) mNx) (mRet (mEq (mVar 0) (mVar 1))))))
def S_law_same : Nat → Mir
  | 0 => fun _ => none
  | n + 1 => mDef none 3 (S_law_sameb (S_law_same n))
def S_law_shuffledb : Fs := (mSeq (mSet 2 (mOp gList (mAc (mVar 1) mA0))) (mSeq (mSet 3 (mLst mA0)) (mSeq (mFor (mRg1 (mOp gLen (mAc (mVar 2) mA0))) (tgV 4) (mEx (mApp 3 (mPopAt 2 (mCall (some 0) S_law_take (mAc (mVar 0) (mAc (mOp gLen (mAc (mVar 2) mA0)) mA0))))))) (mRet (mVar 3)))))
def S_law_shuffled : Mir := mDef (some 0) 5 S_law_shuffledb
end
end Zk
namespace Zk
noncomputable section
open PySem PySem.Spec PyProof.Rows L2
/-- a list of draws -/
def dr (s : List Int) : D := .lst (s.map D.int)
@[simp] theorem imm_dr (s : List Int) : imm (dr s) = false := by simp [dr]
@[simp] theorem flat_dr (s : List Int) : flat (dr s) = true := by simp [dr]
/-- what is drawn -/
def dv (s : List Int) (n : Int) : Int := s.getLastD 0 % n
theorem dv_nn {s : List Int} {n : Int} (h : 0 < n) : 0 ≤ dv s n := Int.emod_nonneg _ (by omega)
theorem dv_lt {s : List Int} {n : Int} (h : 0 < n) : dv s n < n := Int.emod_lt_of_pos _ h
theorem take_eq (s : List Int) (n : Int) (h : 0 < n) : S_law_take [dr s, .int n] = some (.int (dv s n), 9, dr s.dropLast) := by
  have go : W (S_law_take [dr s, .int n]) fun r => r = (.int (dv s n), 9, dr s.dropLast) := by
    rcases List.eq_nil_or_concat s with e | ⟨xs, x, e⟩
    · subst e
      simp [S_law_take, S_law_takeb, ent0_def, dr, dv]
    · subst e
      simp [S_law_take, S_law_takeb, ent0_def, dr, dv, h]
      omega
  obtain ⟨r, e, rfl⟩ := go
  exact e
@[simp ↓, simp] theorem W_take {s : List Int} {n : Int} {Q : D × Nat × D → Prop} (h : 0 < n) : W (S_law_take [dr s, .int n]) Q ↔ Q (.int (dv s n), 9, dr s.dropLast) := W.eq (take_eq s n h)
/-- a thing picked -/
def pk {α : Type} (s : List Int) (xs : List α) (h : xs ≠ []) : α := xs[(dv s xs.length).toNat]'(by
  have h1 : 0 < xs.length := List.length_pos_iff.mpr h
  have := dv_lt (s := s) (n := xs.length) (by omega)
  have := dv_nn (s := s) (n := xs.length) (by omega)
  omega)
theorem pk_mem {α : Type} {s : List Int} {xs : List α} {h : xs ≠ []} : pk s xs h ∈ xs := List.getElem_mem _
theorem pk_at {α : Type} {s : List Int} {xs : List α} {h : xs ≠ []} : atI xs (dv s xs.length) = some (pk s xs h) := by
  have h1 : 0 < xs.length := List.length_pos_iff.mpr h
  have a := dv_lt (s := s) (n := xs.length) (by omega)
  have b := dv_nn (s := s) (n := xs.length) (by omega)
  unfold atI
  rw [ixN_ok b a]
  unfold pk
  rw [Option.bind_some, List.getElem?_eq_getElem]
theorem pick_eq {d : D} {xs : List D} (hd : d = .lst xs ∨ d = .tup xs) (s : List Int) (h : xs ≠ []) (i : imm (pk s xs h) = true) : S_law_pick [dr s, d] = some (pk s xs h, 9, dr s.dropLast) := by
  have h1 : 0 < (xs.length : Int) := by have := List.length_pos_iff.mpr h; omega
  have go : W (S_law_pick [dr s, d]) fun r => r = (pk s xs h, 9, dr s.dropLast) := by
    rcases hd with rfl | rfl
    · simp (disch := first | assumption | (simp; done) | omega) [S_law_pick, S_law_pickb, ent0_def, gIxd, gIx, dem1, pk_at (h := h), i]
    · simp (disch := first | assumption | (simp; done) | omega) [S_law_pick, S_law_pickb, ent0_def, gIxd, gIx, dem1, pk_at (h := h), i]
  obtain ⟨r, e, rfl⟩ := go
  exact e
theorem pk_map {α β : Type} {s : List Int} {xs : List α} {f : α → β} {h : xs ≠ []} {h' : xs.map f ≠ []} : pk s (xs.map f) h' = f (pk s xs h) := by
  unfold pk
  simp
@[simp ↓, simp] theorem W_pickL {s : List Int} {xs : List D} {Q : D × Nat × D → Prop} (h : xs ≠ []) (hi : imms xs = true) : W (S_law_pick [dr s, .lst xs]) Q ↔ Q (pk s xs h, 9, dr s.dropLast) := W.eq (pick_eq (.inl rfl) s h (by
  rw [imms_all, List.all_eq_true] at hi
  exact hi _ pk_mem))
@[simp ↓, simp] theorem W_pickT {s : List Int} {xs : List D} {Q : D × Nat × D → Prop} (h : xs ≠ []) (hi : imms xs = true) : W (S_law_pick [dr s, .tup xs]) Q ↔ Q (pk s xs h, 9, dr s.dropLast) := W.eq (pick_eq (.inr rfl) s h (by
  rw [imms_all, List.all_eq_true] at hi
  exact hi _ pk_mem))
theorem draws_spec (ns : List Int) (many : Int) (h0 : 0 ≤ many) (h : many ≤ 1000000) : W (S_law_draws [.scr ns, .int many]) fun r => ∃ s, r = (dr s, 9, .non) := by
  have hB : (1 : Int).natAbs < big := big0 (by decide)
  have h2 : cutD (ns.map D.int) none (some 63) = (ns.map D.int).take 63 := cut_to _ 63
  have h7 : (1 : Int) * 2 ^ (7200 : Int).toNat = B72 := by rw [Int.one_mul]; rfl
  have p7 := B72_pos
  unfold S_law_draws S_law_drawsb
  rw [W_mDef]
  -- cells
  refine W_seqJ (J := fun E => ∃ cs : List Int, (∀ c ∈ cs, 0 ≤ c ∧ c < B72) ∧ cs.length ≤ 63 ∧ E = [some (.scr ns, 0), some (.int many, 0), some (.lst (cs.map D.int), 9), none, none, none, none, none, none]) ?_ ?_
  · simp [ent0_def, W_lc0, h2, ← List.map_take]
    refine W_lcX (p := fun _ => true) (ρ := fun x => .int (x % B72)) (fun x => by simp) (by simp [sizeL]; omega) (fun x hx => ?_) fun acc ha hu => ?_
    · have e7 : (2 : Int) ^ 7200 = B72 := rfl
      simp [e7, p7]
    · simp [ha, hu]
      refine ⟨(ns.take 63).map (· % B72), ?_, ?_, ?_⟩
      · intro c hc
        obtain ⟨x, hx, rfl⟩ := List.mem_map.mp hc
        exact ⟨Int.emod_nonneg _ (by omega), Int.emod_lt_of_pos _ p7⟩
      · simp; omega
      · simp [List.filter_eq_self.mpr, Function.comp_def]
  rintro _ ⟨cs, hcs, hl, rfl⟩
  refine W_seqJ (J := fun E => ∃ cs : List Int, cs ≠ [] ∧ (∀ c ∈ cs, 0 ≤ c ∧ c < B72) ∧ cs.length ≤ 63 ∧ E = [some (.scr ns, 0), some (.int many, 0), some (.lst (cs.map D.int), 9), none, none, none, none, none, none]) ?_ ?_
  · simp
    refine ⟨fun e => ⟨by simp [e, sizeL], [0], by simp, by simp [p7], by simp, ?_⟩, fun e => ⟨cs, e, hcs, hl, rfl⟩⟩
    simp [e, upl]
  rintro _ ⟨cs, hne, hcs, hl, rfl⟩
  have hlen : 0 < cs.length := List.length_pos_iff.mpr hne
  simp
  refine ⟨⟨by omega, by omega⟩, ?_⟩
  refine W_forR (I := fun k E => ∃ (ls ds : List Int) (u v w : Option (D × Nat)), (∀ c ∈ ls, 0 ≤ c ∧ c < B72) ∧ ls.length = cs.length ∧ ds.length ≤ k ∧ E = [some (.scr ns, 0), some (.int many, 0), some (.lst (cs.map D.int), 9), none, some (.lst (ls.map D.int), 9), some (.lst (ds.map D.int), 9), u, v, w])
    ⟨cs, [], none, none, none, hcs, rfl, by simp, by simp⟩ (fun k E hk hE => ?_) fun E hE => ?_
  · obtain ⟨ls, ds, u, v, w, hls, hll, hds, rfl⟩ := hE
    have hp0 : 0 ≤ (k : Int) % cs.length := Int.emod_nonneg _ (by omega)
    have hp1 : (k : Int) % cs.length < cs.length := Int.emod_lt_of_pos _ (by omega)
    obtain ⟨c, hc, cm, _, _⟩ := atI_ok hp0 hp1
    obtain ⟨l, hl1, lm, _, lN⟩ := atI_ok (xs := ls) hp0 (by omega)
    have c1 := hcs c cm
    have l1 := hls l lm
    have b1 : c.natAbs < big := B72_big c1.1 (by omega)
    have b2 : (48271 : Int).natAbs < big := big0 (by decide)
    have b3 : (k : Int).natAbs < big := big0 (by omega)
    have b4 : (69621 : Int).natAbs < big := big0 (by decide)
    have sz : ds.length < sizeLine := by rw [sizeL]; omega
    have m1 : ((c * 48271 + (k : Int) * 69621 + 11) % 2147483647).natAbs < big := by
      have := Int.emod_nonneg (c * 48271 + (k : Int) * 69621 + 11) (show (2147483647 : Int) ≠ 0 by decide)
      have := Int.emod_lt_of_pos (c * 48271 + (k : Int) * 69621 + 11) (show (0 : Int) < 2147483647 by decide)
      exact big0 (by omega)
    have b3 : k < big := nb (by omega)
    simp [hlen, hc, hl1, lN, b1, b3, sz, m1]
    refine ⟨fun _ => ⟨fun _ => ⟨ls.set ((k : Int) % cs.length).toNat (l / 1000), ?_, by simpa using hll, ds ++ [l % 1000], by simp; omega, by simp [List.map_set], by simp⟩, fun _ => ⟨ls, hls, hll, ds ++ [_], by simp; omega, rfl, by simp; rfl⟩⟩, fun _ => ⟨ls, hls, hll, ds ++ [_], by simp; omega, rfl, by simp; rfl⟩⟩
    intro x hx
    rcases List.mem_or_eq_of_mem_set hx with hx | rfl
    · exact hls x hx
    · omega
  · obtain ⟨ls, ds, u, v, w, hls, hll, hds, rfl⟩ := hE
    simp
    exact ⟨ds.reverse, by simp [dr]⟩
end
end Zk
namespace Zk
noncomputable section
open PySem PySem.Spec PyProof.Rows L2
/-- what _law_same takes, by its depth -/
def pl : Nat → D → Bool
  | _, .non => true
  | _, .bl _ => true
  | _, .int _ => true
  | _, .str x => PyData.strOk x
  | n + 1, .tup xs => xs.all (pl n) && decide (xs.length < 16777216)
  | n + 1, .lst xs => xs.all (pl n) && decide (xs.length < 16777216)
  | _, _ => false
theorem same_scalar (n : Nat) (a : D) (h : a = .non ∨ (∃ b, a = .bl b) ∨ (∃ i, a = .int i) ∨ ∃ x, a = .str x ∧ PyData.strOk x = true) : W (S_law_same (n + 1) [a, a]) fun r => r = (.bl true, 9, .non) := by
  unfold S_law_same S_law_sameb
  rcases h with rfl | ⟨b, rfl⟩ | ⟨i, rfl⟩ | ⟨x, rfl, hx⟩
  · simp [ent0_def, gIsi, tyOf, isi, gNe, dat, gIsN, isNon, gEq, sizeL]
  · simp [ent0_def, gIsi, tyOf, isi, gNe, dat, gIsN, isNon, gEq, sizeL]
  · simp [ent0_def, gIsi, tyOf, isi, gNe, dat, gIsN, isNon, gEq, sizeL]
  · simp [ent0_def, gIsi, tyOf, isi, gNe, dat, gIsN, isNon, gEq, sizeL, hx, deq, py, PyData.eqv]

theorem same_seq (n : Nat) (a : D) (xs : List D) (ha : a = .tup xs ∨ a = .lst xs) (hl : xs.length < 16777216) (ih : ∀ x ∈ xs, S_law_same n [x, x] = some (.bl true, 9, .non)) : W (S_law_same (n + 1) [a, a]) fun r => r = (.bl true, 9, .non) := by
  unfold S_law_same S_law_sameb
  have dt : ∀ m : Nat, (dat 64 (.lst ((List.replicate m ()).map fun _ => D.bl true))) = true := fun m => by simp [dat]
  have step : ∀ (E0 : Ev) (k : Nat) (b : D), (b = .tup xs ∨ b = .lst xs) → k < xs.length → E0 = [some (b, 0), some (b, 0), none] → W (tgV 2 (.int (0 + (k : Int))) E0) fun E1 => W (mYes E1) fun q =>
      IfB q.1 (True ∧ W (mCall none (S_law_same n) (mAc (mIxd (mVar 0) (mVar 2)) (mAc (mIxd (mVar 1) (mVar 2)) mA0)) q.2) fun r => W (tk r.2 r.1) fun t => t.1 = .bl true ∧ wipeE t.2.2 [2] = E0) (False ∧ wipeE q.2 [2] = E0) := by
    intro E0 k b hb hk e
    subst e
    obtain ⟨x, hx, xm, _, _⟩ := atI_ok (xs := xs) (i := (k : Int)) (by omega) (by omega)
    have e1 := ih x xm
    have w1 : ∀ {Q : D × Nat × D → Prop}, W (S_law_same n [x, x]) Q ↔ Q (.bl true, 9, .non) := fun {Q} => W.eq e1
    rcases hb with rfl | rfl
    · by_cases c1 : imm x = true
      · simp [hx, c1, w1]
      · simp at c1
        simp [hx, c1, w1]
    · by_cases c1 : imm x = true
      · simp [hx, c1, w1]
      · simp at c1
        simp [hx, c1, w1]
  have fin : ∀ (b : D) (Q : List (D × Nat) × Ev → Prop), (b = .tup xs ∨ b = .lst xs) → (∀ acc : List (D × Nat), acc.map (·.1) = List.replicate xs.length (.bl true) → uni acc = 9 → Q (acc, [some (b, 0), some (b, 0), none])) →
      W (lcM (tgV 2) mYes (mCall none (S_law_same n) (mAc (mIxd (mVar 0) (mVar 2)) (mAc (mIxd (mVar 1) (mVar 2)) mA0))) [2] (rng 0 xs.length) [some (b, 0), some (b, 0), none] []) Q := by
    intro b Q hb k
    have e : rng 0 xs.length = (List.range xs.length).map fun k => D.int (0 + (k : Nat)) := rfl
    rw [e]
    refine W_lcX (p := fun _ => true) (ρ := fun _ => .bl true) (fun x => by simp) (by simp [sizeL]; omega) (fun x hx => ?_) fun acc h1 h2 => k acc ?_ h2
    · have := step _ x b hb (by simpa using hx) rfl
      refine this.mono fun E1 h => h.mono fun q h => ?_
      cases hq : q.1
      · rw [hq] at h; rw [IfB_f] at h ⊢; exact h.1.elim
      · rw [hq] at h; rw [IfB_t] at h ⊢; exact ⟨rfl, h.2⟩
    · rw [h1, List.filter_eq_self.mpr (by simp)]
      simp [List.eq_replicate_iff]
  have rk : rgOk (xs.length : Int) := ⟨by omega, by omega⟩
  rcases ha with rfl | rfl
  · simp [ent0_def, gIsi, tyOf, isi, gNe, dat, W_lc0, rk]
    refine fin _ _ (.inl rfl) fun acc h1 h2 => ?_
    simp [h1, h2, gInA, gIn, dat]
  · simp [ent0_def, gIsi, tyOf, isi, gNe, dat, W_lc0, rk]
    refine fin _ _ (.inr rfl) fun acc h1 h2 => ?_
    simp [h1, h2, gInA, gIn, dat]
theorem same_eq : ∀ (n : Nat) (a : D), pl n a = true → S_law_same (n + 1) [a, a] = some (.bl true, 9, .non) := by
  have sc : ∀ (n : Nat) (a : D), (a = .non ∨ (∃ b, a = .bl b) ∨ (∃ i, a = .int i) ∨ ∃ x, a = .str x ∧ PyData.strOk x = true) → S_law_same (n + 1) [a, a] = some (.bl true, 9, .non) := fun n a h => by
    obtain ⟨r, e, rfl⟩ := same_scalar n a h
    exact e
  intro n
  induction n with
  | zero =>
    intro a h
    cases a with
    | non => exact sc 0 _ (.inl rfl)
    | bl b => exact sc 0 _ (.inr (.inl ⟨b, rfl⟩))
    | int b => exact sc 0 _ (.inr (.inr (.inl ⟨b, rfl⟩)))
    | str b => exact sc 0 _ (.inr (.inr (.inr ⟨b, rfl, by simpa [pl] using h⟩)))
    | _ => simp [pl] at h
  | succ n ih =>
    intro a h
    cases a with
    | non => exact sc _ _ (.inl rfl)
    | bl b => exact sc _ _ (.inr (.inl ⟨b, rfl⟩))
    | int b => exact sc _ _ (.inr (.inr (.inl ⟨b, rfl⟩)))
    | str b => exact sc _ _ (.inr (.inr (.inr ⟨b, rfl, by simpa [pl] using h⟩)))
    | tup xs =>
      simp only [pl, Bool.and_eq_true, decide_eq_true_eq, List.all_eq_true] at h
      obtain ⟨r, e, rfl⟩ := same_seq (n + 1) _ xs (.inl rfl) h.2 fun x hx => ih x (h.1 x hx)
      exact e
    | lst xs =>
      simp only [pl, Bool.and_eq_true, decide_eq_true_eq, List.all_eq_true] at h
      obtain ⟨r, e, rfl⟩ := same_seq (n + 1) _ xs (.inr rfl) h.2 fun x hx => ih x (h.1 x hx)
      exact e
    | _ => simp [pl] at h
theorem W_same {a : D} {Q : D × Nat × D → Prop} (h : pl 7 a = true) : W (S_law_same 8 [a, a]) Q ↔ Q (.bl true, 9, .non) := W.eq (same_eq 7 a h)
end
end Zk
namespace Zk
noncomputable section
open PySem PySem.Spec PyProof.Rows L2
theorem imms_map' {α : Type} {f : α → D} (h : ∀ x, imm (f x) = true) (xs : List α) : imms (xs.map f) = true := imms_map f h xs
theorem lev_map {α : Type} {f : α → D} (h : ∀ x, imm (f x) = true) (xs : List α) : lev (xs.map f) = 9 := by unfold lev; rw [imms_map f h]; rfl
theorem perm_erase {α : Type} {x : α} : ∀ {l : List α} {i : Nat}, l[i]? = some x → (x :: l.eraseIdx i).Perm l
  | [], i, h => by simp at h
  | a :: l, 0, h => by
    simp at h
    subst h
    exact List.Perm.refl _
  | a :: l, i + 1, h => by
    simp at h
    exact (List.Perm.swap a x _).trans ((perm_erase (l := l) (i := i) (by simpa using h)).cons a)
theorem map_erase {α β : Type} (f : α → β) : ∀ (l : List α) (i : Nat), (l.map f).eraseIdx i = (l.eraseIdx i).map f
  | [], i => by simp
  | a :: l, 0 => by simp
  | a :: l, i + 1 => by simp [map_erase f l i]
theorem shuffled_spec {α : Type} (s : List Int) (ts : List α) (f : α → D) (hf : ∀ x, imm (f x) = true) (d : D) (hd : d = .lst (ts.map f) ∨ d = .tup (ts.map f)) (hl : ts.length < 16777216) :
    W (S_law_shuffled [dr s, d]) fun r => ∃ (us : List α) (s' : List Int), r = (.lst (us.map f), 9, dr s') ∧ us.Perm ts := by
  unfold S_law_shuffled S_law_shuffledb
  have im := imms_map' hf
  have lv := lev_map hf
  have start : W (mSet 2 (mOp gList (mAc (mVar 1) mA0)) [some (dr s, 1), some (d, 0), none, none, none]) fun p => p.1 = .nx ∧ p.2 = [some (dr s, 1), some (d, 0), some (.lst (ts.map f), 9), none, none] := by
    rcases hd with rfl | rfl
    · simp [lv]
    · simp [lv]
  rw [W_mDef]
  refine W_seqJ (J := fun E => E = [some (dr s, 1), some (d, 0), some (.lst (ts.map f), 9), none, none]) (by simpa [ent0_def] using start) ?_
  rintro _ rfl
  simp
  refine ⟨⟨by omega, by omega⟩, W_forR (I := fun k E => ∃ (s : List Int) (ls us : List α) (u : Option (D × Nat)), (us ++ ls).Perm ts ∧ us.length = k ∧ E = [some (dr s, 1), some (d, 0), some (.lst (ls.map f), 9), some (.lst (us.map f), 9), u]) ⟨s, ts, [], none, by simp, rfl, rfl⟩ (fun k E hk hE => ?_) fun E hE => ?_⟩
  · obtain ⟨s1, ls, us, u, hp, hu, rfl⟩ := hE
    have hn : us.length + ls.length = ts.length := by have := hp.length_eq; simpa using this
    have h1 : 0 < (ls.length : Int) := by omega
    have h2 := dv_nn (s := s1) h1
    have h3 := dv_lt (s := s1) h1
    obtain ⟨x, _, xm, xg, xN⟩ := atI_ok (xs := ls) h2 h3
    have h4 : -9223372036854775808 ≤ dv s1 ls.length ∧ dv s1 ls.length < 9223372036854775808 := by omega
    obtain ⟨hj1, hj2⟩ := List.getElem?_eq_some_iff.mp xg
    simp (disch := first | assumption | (simp; done) | omega) [im, dem1, h4, xN, hj2, upl_imm (hf x)]
    refine ⟨s1.dropLast, ls.eraseIdx (dv s1 ls.length).toNat, us ++ [x], ?_, by simpa using hu, rfl, by rw [map_erase], by simp⟩
    refine List.Perm.trans ?_ hp
    rw [List.append_assoc]
    exact List.Perm.append_left _ (perm_erase xg)
  · obtain ⟨s1, ls, us, u, hp, hu, rfl⟩ := hE
    have hn : us.length + ls.length = ts.length := by have := hp.length_eq; simpa using this
    have : ls = [] := List.eq_nil_of_length_eq_zero (by omega)
    subst this
    simp
    exact ⟨us, ⟨rfl, s1, rfl⟩, by simpa using hp⟩

theorem any_int (fs : List Int) (x : Int) : ((fs.map D.int).any fun z => deq z (.int x)) = decide (x ∈ fs) := by
  induction fs with
  | nil => simp
  | cons a fs ih =>
    simp only [List.map_cons, List.any_cons, ih, deq_int, List.mem_cons]
    by_cases h : a = x
    · simp [h]
    · simp [h, Ne.symm h, eq_comm]
theorem all_dat_int (fs : List Int) (n : Nat) : (fs.map D.int).all (dat n) = true := by
  rw [List.all_map, List.all_eq_true]
  intro x _
  cases n <;> simp [dat]
@[simp] theorem dat_int (n : Nat) (i : Int) : dat n (.int i) = true := by cases n <;> simp [dat]
@[simp] theorem gInA_ints (neg : Bool) (x : Int) (fs : List Int) : gInA neg [.int x, .lst (fs.map D.int)] = some (.bl (decide (x ∈ fs) ^^ neg), 9) := by
  unfold gInA
  simp only [gIn]
  rw [if_pos ⟨dat_int _ _, by simp only [dat]; exact all_dat_int fs 63⟩, any_int]
@[simp] theorem gSrt1_ints (ns : List Int) : gSrt1 [.lst (ns.map D.int)] = some (.lst ((srt ns).map D.int), 9) := by simp [gSrt1, gSrtIP, gSrtI]
theorem srt_mem {ns : List Int} {x : Int} : x ∈ srt ns ↔ x ∈ ns := (srt_perm ns).mem_iff
theorem srt_nodup {ns : List Int} : (srt ns).Nodup ↔ ns.Nodup := (srt_perm ns).nodup_iff
theorem srt_len {ns : List Int} : (srt ns).length = ns.length := (srt_perm ns).length_eq
/-- the greatest count that is drawn -/
def cMax : Int := 10 ^ 40 + 121
/-- a pair of ints -/
def pr (p : Int × Int) : D := .tup [.int p.1, .int p.2]
@[simp] theorem imm_pr (p : Int × Int) : imm (pr p) = true := by simp [pr]
@[simp] theorem imms_prs (ps : List (Int × Int)) : imms (ps.map pr) = true := imms_map' imm_pr ps
@[simp] theorem upl_pr {n m : Nat} {d : D} {p : Int × Int} : upl n d (pr p) m = n := upl_imm (imm_pr p)
end
end Zk
namespace Zk
noncomputable section
open PySem PySem.Spec PyProof.Rows L2
def getI (m : List (Int × Int)) (k : Int) : Option Int := (m.find? fun p => decide (p.1 = k)).map (·.2)
theorem get_none {m : List (Int × Int)} {k : Int} : getI m k = none ↔ k ∉ m.map (·.1) := by
  unfold getI
  rw [Option.map_eq_none_iff, List.find?_eq_none]
  constructor
  · intro h hm
    obtain ⟨p, hp, e⟩ := List.mem_map.mp hm
    exact h p hp (by simpa using e)
  · intro h p hp e
    exact h (List.mem_map.mpr ⟨p, hp, by simpa using e⟩)
theorem get_some {m : List (Int × Int)} {k : Int} (h : k ∈ m.map (·.1)) : ∃ v, getI m k = some v := by
  cases e : getI m k with
  | none => exact absurd h (get_none.mp e)
  | some v => exact ⟨v, rfl⟩
/-- the sum of the counts of a key -/
def ksum (st : List (Int × Int)) (k : Int) : Int := ((st.filter fun p => decide (p.1 = k)).map (·.2)).sum
@[simp] theorem ksum_nil (k : Int) : ksum [] k = 0 := rfl
theorem ksum_app (a b : List (Int × Int)) (k : Int) : ksum (a ++ b) k = ksum a k + ksum b k := by simp [ksum]
theorem ksum_one (p : Int × Int) (k : Int) : ksum [p] k = if p.1 = k then p.2 else 0 := by
  unfold ksum
  by_cases h : p.1 = k <;> simp [h]
/-- the counts of a stream, ascending, without 0 -/
def cof (st : List (Int × Int)) : List (Int × Int) := ((srt (st.map (·.1)).eraseDups).filter fun k => decide (ksum st k ≠ 0)).map fun k => (k, ksum st k)
def keysI (m : List (Int × Int)) : List Int := m.map (·.1)
theorem nodup_eraseDups (l : List Int) : l.eraseDups.Nodup := by
  generalize hn : l.length = n
  induction n using Nat.strongRecOn generalizing l with
  | ind n ih =>
    cases l with
    | nil => simp
    | cons a l =>
      rw [List.eraseDups_cons, List.nodup_cons]
      have hl : (l.filter fun b => !b == a).length < n := by
        have := List.length_filter_le (fun b => !b == a) l
        simp at hn
        omega
      refine ⟨fun h => ?_, ih _ hl _ rfl⟩
      rw [List.mem_eraseDups] at h
      simp at h
theorem srt_perm_eq {a b : List Int} (h : a.Perm b) : srt a = srt b := srt_uniq ((srt_perm a).trans (h.trans (srt_perm b).symm)) (srt_pair a) (srt_pair b)
theorem gSum_ints (ns : List Int) : gSum [.lst (ns.map D.int)] = some (.int ns.sum, 9) := by simp [gSum]
end
end Zk
namespace Zk
open PySem PySem.Spec PyProof.Rows L2
section
variable {κ : Type} [DecidableEq κ]
@[simp] theorem valD_nil (k : κ) : valD ([] : List (κ × D)) k = none := rfl
end
@[simp] theorem keyOf_int (i : Int) : keyOf (.int i) = some (.inl i) := rfl
@[simp] theorem look_dK (kds : List (Key × D)) (k : Int) : look (.dK kds) (.int k) = some (valD kds (.inl k)) := rfl
@[simp] theorem look_dT (kds : List (List Key × D)) (ks : List D) : look (.dT kds) (.tup ks) = (keysOf ks).map fun k => valD kds k := rfl
@[simp] theorem keysOf_nil : keysOf [] = some [] := rfl
@[simp] theorem keysOf_c (i : Int) (ds : List D) : keysOf (.int i :: ds) = (keysOf ds).map fun ks => .inl i :: ks := rfl
@[simp] theorem gInA_dK (neg : Bool) (x : D) (kds : List (Key × D)) : gInA neg [x, .dK kds] = (look (.dK kds) x).map fun o => (.bl (o.isSome ^^ neg), 9) := rfl
@[simp] theorem gInA_dT (neg : Bool) (x : D) (kds : List (List Key × D)) : gInA neg [x, .dT kds] = (look (.dT kds) x).map fun o => (.bl (o.isSome ^^ neg), 9) := rfl
theorem W_seqE {s t : Fs} {E E1 : Ev} {Q : Fl × Ev → Prop} (h : W (s E) fun p => p.1 = .nx ∧ p.2 = E1) (k : W (t E1) Q) : W (mSeq s t E) Q := W_seqJ (fun E => E = E1) h fun _ e => e ▸ k
end Zk
namespace Zk
open PySem PySem.Spec PyProof.Rows L2
section
variable {K : PySem.W.Frag} {Z Z' Zf Z0 Z1 : Addr → Prop} {H H' H0 H1 : Hp} {σ : L2.St} {E E' E1 : Ev} {R R' R0 R1 : Rs}
/-- a slot's thing is laid aside .. -/
theorem S.lift (s : S K Z H σ E R) (x : Nat) : S K Z H σ (E.set x none) (put R x []) ∧ Step Z H (ow R) Z H (ow (put R x [])) ∧ ∀ a ∈ R x, ¬ ow (put R x []) a := by
  refine ⟨s.dropSlot, ⟨fun _ h => h, fun _ h => .inl h, fun _ _ h _ => h, fun a h => ?_, fun _ h => h⟩, fun a m z => ?_⟩
  · rcases ow_put h with h | h
    · simp at h
    · exact .inl h
  · obtain ⟨j, mj⟩ := z
    by_cases q : j = x
    · subst q; rw [put_same] at mj; simp at mj
    · rw [put_ne q] at mj; exact q (s.dj j x a mj m)
end
section
variable {X : Cx} {e e1 e2 : Expr} {fi fk fe : Fe} {pos px pt pt2 : PySem.Pos} {op : Operator} {f : Int → Int → Int} {w : List Nat}
end
section
variable {E : Ev} {fi fk fe : Fe} {x : Nat} {f : Int → Int → Int} {Qs : Fl × Ev → Prop} {Qe : Op × Ev → Prop}
end
end Zk
namespace Zk
open PySem PySem.Spec PyProof.Rows L2
section
variable {K : PySem.W.Frag} {Z Z' Zf Z0 Z1 : Addr → Prop} {H H' H0 H1 : Hp} {σ σ1 : L2.St} {E E' E1 : Ev} {R R' R0 R1 : Rs}
/-- x = y, y is given up -/
def mMov (i j : Nat) : Fs := fun E => (eg E j).bind fun p => if i < E.length then some (.nx, (E.set j none).set i (some p)) else none
theorem mov_of {i j : Nat} {De : Ends} (q : sOf K [i] (mMov i j) De σ H) : ∃ v, σ[j]? = some (some v) ∧ De.nx (σ.set i (some v)) H := by
  obtain ⟨Z, E, R, s, fl, E', e, q⟩ := q
  unfold mMov at e
  cases g : eg E j with
  | none => rw [g] at e; cases e
  | some p =>
  obtain ⟨d, n⟩ := p
  rw [g] at e
  simp only [Option.bind_some] at e
  split at e
  case isFalse => cases e
  rename_i hi
  cases e
  obtain ⟨v, ev, ov⟩ := s.slot j d n g
  refine ⟨v, ev, ?_⟩
  obtain ⟨s2, t2, f2⟩ := s.lift j
  have s3 := s2.setSlot (i := i) (by simpa using hi) ov (s.nd j) f2
  refine q _ Z H _ s3 ⟨fun _ h => h, fun _ h => .inl h, fun _ _ h _ => h, fun a h => ?_, fun _ h => h⟩ fun k hk => ?_
  · rcases ow_put h with h | h
    · exact .inl ⟨j, h⟩
    · exact t2.on a h
  · rw [List.getElem?_set_ne (fun c => hk (by simp [c]))]
end
section
variable {X : Cx} {e : Expr} {fi : Fe} {pos pos' px pt : PySem.Pos} {rest : List Stmt} {w : List Nat} {body : Fs}
theorem as_mov (i j : Nat) {x y : Str} (hN : X.N.Nodup) (hi : X.N[i]? = some x := by rfl) (hj : X.N[j]? = some y := by rfl) (hx : Loc X.env.scope x := by first | exact Or.inl rfl | exact Or.inr rfl) (hvis : Vis X.env.scope y := by first | exact Or.inl rfl | exact Or.inr (Or.inl rfl) | exact Or.inr (Or.inr rfl))
    (hd : (y == ("__debug__" : Str)) = false := by decide) (hcd : (y == ("__classdict__" : Str)) = false := by decide)
    (hs : swapsWith (.Name y px) (some (.Name x pos')) pos.line X.env = pure false := by rfl)
    (hf : X.fn x = true ∨ X.env.scope.names.lookup x = some .local := by first | exact .inl rfl | exact .inr rfl) : AS X (.Assign [.Name x pos'] (.Name y px) pos) [i] (mMov i j) :=
  PS.mono (ps_set hN hi hx (pe_var hj hvis hd hcd) hs hf) fun D σ H q => mov_of q
end
section
variable {E : Ev} {fi : Fe} {x c i j : Nat} {body : Fs} {Qs : Fl × Ev → Prop}
@[simp ↓] theorem W_mov : W (mMov i j E) Qs ↔ W (eg E j) fun p => i < E.length ∧ Qs (.nx, (E.set j none).set i (some p)) := by
  unfold mMov
  (repeat (first | exact Iff.rfl | (refine W_if1.trans (and_congr_right fun _ => ?_)) | (refine W_bind.trans (W_ext fun _ => ?_)) | exact W_some | exact W_map | exact W_if1))
end
end Zk
namespace Zk
noncomputable section
open PySem PySem.Spec PyProof.Rows L2
end
end Zk
namespace Zk
noncomputable section
open PySem PySem.Spec PyProof.Rows L2
/-- a row as a tuple -/
def tI (xs : List Int) : D := .tup (xs.map D.int)
@[simp] theorem imm_tI (xs : List Int) : imm (tI xs) = true := by simp [tI]
@[simp] theorem imms_tIs (xs : List (List Int)) : imms (xs.map tI) = true := imms_map' imm_tI xs
@[simp] theorem upl_tI {n m : Nat} {d : D} {p : List Int} : upl n d (tI p) m = n := upl_imm (imm_tI p)
@[simp] theorem gMul_rep (a : List D) (k : Int) : gMul [.lst a, .int k] = if -(2 ^ 63) ≤ k ∧ k < 2 ^ 63 ∧ a.length * k.toNat ≤ sizeLine then some (.lst (List.replicate k.toNat a).flatten, lev (List.replicate k.toNat a).flatten) else none := by simp [gMul]
theorem ksum_out {st : List (Int × Int)} {k : Int} (h : ∀ p ∈ st, p.1 ≠ k) : ksum st k = 0 := by
  unfold ksum
  rw [List.filter_eq_nil_iff.mpr (by simpa using h)]
  rfl
theorem cof_mem {st : List (Int × Int)} {p : Int × Int} : p ∈ cof st ↔ p.2 = ksum st p.1 ∧ p.2 ≠ 0 := by
  unfold cof
  constructor
  · intro h
    obtain ⟨k, hk, rfl⟩ := List.mem_map.mp h
    simp only [List.mem_filter, decide_eq_true_eq] at hk
    exact ⟨rfl, hk.2⟩
  · rintro ⟨h1, h2⟩
    refine List.mem_map.mpr ⟨p.1, ?_, by rw [← h1]⟩
    rw [List.mem_filter, srt_mem, List.mem_eraseDups]
    refine ⟨?_, by rw [← h1]; simpa using h2⟩
    by_cases h : p.1 ∈ st.map (·.1)
    · exact h
    · exfalso
      apply h2
      rw [h1]
      exact ksum_out fun q hq e => h (List.mem_map.mpr ⟨q, hq, e⟩)
theorem cof_keys {st : List (Int × Int)} {p : Int × Int} (h : p ∈ cof st) : ∃ q ∈ st, q.1 = p.1 := by
  obtain ⟨h1, h2⟩ := cof_mem.mp h
  apply Classical.byContradiction
  intro hn
  apply h2
  rw [h1]
  exact ksum_out fun q hq e => hn ⟨q, hq, e⟩
theorem cof_nodup (st : List (Int × Int)) : ((cof st).map (·.1)).Nodup := by
  have e : (cof st).map (·.1) = (srt (st.map (·.1)).eraseDups).filter fun k => decide (ksum st k ≠ 0) := by
    unfold cof
    rw [List.map_map]
    exact List.map_id _
  rw [e]
  exact (srt_nodup.mpr (nodup_eraseDups _)).filter _
theorem cast_pow (m : Nat) : ((2 ^ m : Nat) : Int) = (2 : Int) ^ m := by rw [Int.natCast_pow]; rfl
end
end Zk
namespace Zk
noncomputable section
open PySem PySem.Spec PyProof.Rows L2
end
end Zk
namespace Zk
noncomputable section
open PySem PySem.Spec PyProof.Rows L2
theorem cut_upto {xs : List D} {i : Int} (h : 0 ≤ i) : cutD xs none (some i) = xs.take i.toNat := by
  have := cut_to xs i.toNat
  rwa [Int.toNat_of_nonneg h] at this
@[simp] theorem gAdd_lst (a b : List D) : gAdd [.lst a, .lst b] = if a.length + b.length ≤ sizeLine then some (.lst (a ++ b), lev (a ++ b)) else none := by simp [gAdd]
@[simp] theorem gAdd_tup (a b : List D) : gAdd [.tup a, .tup b] = if a.length + b.length ≤ sizeLine then some (.tup (a ++ b), 0) else none := by simp [gAdd]
end
end Zk
namespace Zk
open PySem PySem.Spec PyProof.Rows L2
end Zk
namespace Zk
noncomputable section
open PySem PySem.Spec PyProof.Rows L2
end
end Zk
namespace Zk
noncomputable section
open PySem PySem.Spec PyProof.Rows L2
/-- a field: of p members, or of 2 ** m -/
inductive Fd where
  | prm (q : Nat) | bin (m : Nat)
namespace Fd
def d : Fd → D
  | .prm q => .int q
  | .bin m => .tup [.int 2, .int m]
def n : Fd → Nat
  | .prm q => q
  | .bin m => 2 ^ m
def ok : Fd → Prop
  | .prm q => 1 ≤ q ∧ q ≤ 1000000
  | .bin m => 1 ≤ m ∧ m ≤ 4
end Fd
def poly (m : Nat) : Nat := [0, 3, 7, 11, 19].getD m 0
def pmS (m b : Nat) (s : Nat × Nat) (bit : Nat) : Nat × Nat :=
  (if b / 2 ^ bit % 2 = 1 then s.1 ^^^ s.2 else s.1, if s.2 * 2 / 2 ^ m = 0 then s.2 * 2 else s.2 * 2 ^^^ poly m)
/-- the product of polynomials, as the program finds it -/
def pm (m a b : Nat) : Nat := ((List.range m).foldl (pmS m b) (0, a)).1
def lm1 (a b : Nat) (s bit : Nat) : Nat := if b / 2 ^ bit % 2 = 1 then s ^^^ (a * 2 ^ bit) else s
def lm2 (m : Nat) (s k : Nat) : Nat := if s / 2 ^ (2 * m - 1 - k) % 2 = 1 then s ^^^ (poly m * 2 ^ (2 * m - 1 - k - m)) else s
/-- as the law finds it -/
def lm (m a b : Nat) : Nat := (List.range m).foldl (lm2 m) ((List.range m).foldl (lm1 a b) 0)
namespace Fd
def add : Fd → Nat → Nat → Nat
  | .prm q, a, b => (a + b) % q
  | .bin _, a, b => a ^^^ b
def mul : Fd → Nat → Nat → Nat
  | .prm q, a, b => a * b % q
  | .bin m, a, b => pm m a b
def neg : Fd → Nat → Nat
  | .prm q, a => (q - a) % q
  | .bin _, a => a
theorem add_comm : ∀ (F : Fd) (a b : Nat), F.add a b = F.add b a
  | .prm q, a, b => by simp only [add, Nat.add_comm]
  | .bin m, a, b => Nat.xor_comm a b
theorem mul_comm : ∀ {F : Fd} {a b : Nat}, F.ok → a < F.n → b < F.n → F.mul a b = F.mul b a
  | .prm q, a, b, _, _, _ => by simp only [mul, Nat.mul_comm]
  | .bin m, a, b, h, ha, hb => by
    have : ∀ m < 5, ∀ a < 2 ^ m, ∀ b < 2 ^ m, 1 ≤ m → pm m a b = pm m b a := by decide +kernel
    exact this m (by have := h.2; omega) a ha b hb h.1
theorem mul_assoc : ∀ {F : Fd} {a b c : Nat}, F.ok → a < F.n → b < F.n → c < F.n → F.mul (F.mul a b) c = F.mul a (F.mul b c)
  | .prm q, a, b, c, _, _, _, _ => by unfold mul; simp [Nat.mul_assoc]
  | .bin m, a, b, c, h, ha, hb, hc => by
    have : ∀ m < 5, ∀ a < 2 ^ m, ∀ b < 2 ^ m, ∀ c < 2 ^ m, 1 ≤ m → pm m (pm m a b) c = pm m a (pm m b c) := by decide +kernel
    exact this m (by have := h.2; omega) a ha b hb c hc h.1
theorem mul_add : ∀ {F : Fd} {a b c : Nat}, F.ok → a < F.n → b < F.n → c < F.n → F.mul a (F.add b c) = F.add (F.mul a b) (F.mul a c)
  | .prm q, a, b, c, _, _, _, _ => by unfold mul add; simp [Nat.mul_add]
  | .bin m, a, b, c, h, ha, hb, hc => by
    have : ∀ m < 5, ∀ a < 2 ^ m, ∀ b < 2 ^ m, ∀ c < 2 ^ m, 1 ≤ m → pm m a (b ^^^ c) = pm m a b ^^^ pm m a c := by decide +kernel
    exact this m (by have := h.2; omega) a ha b hb c hc h.1
theorem one_mul : ∀ {F : Fd} {a : Nat}, F.ok → a < F.n → F.mul 1 a = a
  | .prm q, a, h, ha => by simp only [mul, Nat.one_mul]; exact Nat.mod_eq_of_lt ha
  | .bin m, a, h, ha => by
    have : ∀ m < 5, ∀ a < 2 ^ m, 1 ≤ m → pm m 1 a = a := by decide +kernel
    exact this m (by have := h.2; omega) a ha h.1
theorem zero_mul : ∀ {F : Fd} {a : Nat}, F.ok → a < F.n → F.mul 0 a = 0
  | .prm q, a, h, ha => by simp only [mul, Nat.zero_mul, Nat.zero_mod]
  | .bin m, a, h, ha => by
    have : ∀ m < 5, ∀ a < 2 ^ m, 1 ≤ m → pm m 0 a = 0 := by decide +kernel
    exact this m (by have := h.2; omega) a ha h.1
/-- a key as a member -/
def mem : Fd → Nat → Nat
  | .prm q, k => k % q
  | .bin _, k => k
/-- the value at x, from the greatest power down -/
def hor (F : Fd) (x : Nat) (cs : List Nat) : Nat := cs.foldr (fun c r => F.add (F.mul r x) c) 0
/-- the value of a draw at a key -/
def val (F : Fd) (cs : List Nat) (k : Nat) : Nat := hor F (F.mem k) cs
end Fd
end
end Zk
namespace Zk
noncomputable section
open PySem PySem.Spec PyProof.Rows L2
end
end Zk
namespace Zk
noncomputable section
open PySem PySem.Spec PyProof.Rows L2
end
end Zk
namespace Zk
noncomputable section
open PySem PySem.Spec PyProof.Rows L2
/-- 1 for an even number of ones, else -1 -/
def par (n : Nat) : Int := if h : n = 0 then 1 else (if n % 2 = 1 then -1 else 1) * par (n / 2)
def sgn (i k : Nat) : Int := par (i &&& k)
def sumN : Nat → (Nat → Int) → Int
  | 0, _ => 0
  | n + 1, f => sumN n f + f n
theorem sumN_add {n : Nat} {f g : Nat → Int} : sumN n (fun i => f i + g i) = sumN n f + sumN n g := by
  induction n with
  | zero => rfl
  | succ n ih => simp only [sumN, ih]; omega
theorem sumN_zero {n : Nat} {f : Nat → Int} (h : ∀ i, i < n → f i = 0) : sumN n f = 0 := by
  induction n with
  | zero => rfl
  | succ n ih => simp only [sumN]; rw [ih fun i hi => h i (by omega), h n (by omega)]; rfl
end
end Zk
namespace Zk
noncomputable section
open PySem PySem.Spec PyProof.Rows L2
/-- the transform -/
def wt (m : Nat) (f : Nat → Int) (i : Nat) : Int := sumN (2 ^ m) fun l => sgn i l * f l
theorem sumN_one {n k : Nat} {f : Nat → Int} (hk : k < n) (c : Int) : sumN n (fun l => (if k = l then c else 0) * f l) = c * f k := by
  induction n with
  | zero => omega
  | succ n ih =>
    simp only [sumN]
    by_cases h : k = n
    · subst h
      rw [if_pos rfl, sumN_zero fun i hi => by rw [if_neg (by omega), Int.zero_mul]]
      omega
    · rw [ih (by omega), if_neg h]
      omega
end
end Zk
namespace Zk
noncomputable section
open PySem PySem.Spec PyProof.Rows L2
end
end Zk
namespace Zk
noncomputable section
open PySem PySem.Spec PyProof.Rows L2
end
end Zk
namespace Zk
noncomputable section
open PySem PySem.Spec PyProof.Rows L2
/-- the counts of a stream by its keys -/
def K (st : List (Int × Int)) : Nat → Int := fun b => ksum st (b : Int)
theorem K_cons (p : Int × Int) (st : List (Int × Int)) (b : Nat) : K (p :: st) b = (if p.1 = (b : Int) then p.2 else 0) + K st b := by
  unfold K
  rw [show p :: st = [p] ++ st from rfl, ksum_app, ksum_one]
/-- a sum over a stream, by its keys -/
theorem wsum {N : Nat} {st : List (Int × Int)} (h : ∀ p ∈ st, 0 ≤ p.1 ∧ p.1 < (N : Int)) (g : Nat → Int) : sumN N (fun l => g l * K st l) = (st.map fun p => g p.1.toNat * p.2).sum := by
  induction st with
  | nil =>
    rw [sumN_zero fun i _ => by unfold K; simp]; rfl
  | cons p st ih =>
    have hp := h p List.mem_cons_self
    rw [List.map_cons, List.sum_cons, ← ih fun q hq => h q (List.mem_cons_of_mem _ hq)]
    have e : (fun l => g l * K (p :: st) l) = fun l => (if p.1.toNat = l then p.2 else 0) * g l + g l * K st l := by
      funext l
      rw [K_cons]
      have : p.1 = (l : Int) ↔ p.1.toNat = l := by omega
      simp only [this]
      grind
    rw [e, sumN_add, sumN_one (by omega)]
    grind
end
end Zk
namespace Zk
noncomputable section
open PySem PySem.Spec PyProof.Rows L2
end
end Zk
namespace Zk
noncomputable section
open PySem PySem.Spec PyProof.Rows L2
theorem pl_I (n : Nat) (i : Int) : pl n (.int i) = true := by cases n <;> rfl
end
end Zk
namespace Zk
noncomputable section
open PySem PySem.Spec PyProof.Rows L2
/-- counts below 2 ** 200 -/
def CB (st : List (Int × Int)) : Prop := ∀ p ∈ st, p.2.natAbs ≤ 2 ^ 200
end
end Zk
namespace Zk
noncomputable section
open PySem PySem.Spec PyProof.Rows L2
@[simp] theorem gSrt1_tup (ns : List Int) : gSrt1 [.tup (ns.map D.int)] = some (.lst ((srt ns).map D.int), 9) := by
  have e : gSrt1 [.tup (ns.map D.int)] = gSrtTT [.tup (ns.map D.int)] := rfl
  rw [e]; simp [gSrtTT, gSrtT]
end
end Zk
namespace Zk
noncomputable section
open PySem PySem.Spec PyProof.Rows L2
end
end Zk
namespace Zk
noncomputable section
open PySem PySem.Spec PyProof.Rows L2
@[simp] theorem gMin_ints (i j : Int) : gMin [.int i, .int j] = some (.int (min i j), 9) := rfl
@[simp] theorem gMax_ints (i j : Int) : gMax [.int i, .int j] = some (.int (max i j), 9) := rfl
end
end Zk
namespace Zk
noncomputable section
open PySem PySem.Spec PyProof.Rows L2
theorem at1 {α : Type} (x y : α) (l : List α) : atI (x :: y :: l) 1 = some y := by
  have : ixN (x :: y :: l).length 1 = some 1 := ixN_ok (by decide) (by simp; omega)
  unfold atI; rw [this]; rfl
end
end Zk
namespace Zk
noncomputable section
open PySem PySem.Spec PyProof.Rows L2
def S_fractionb : Fs := (mSeq (mIfS (mB (mLt (mVar 1) (mC (.int 0)))) (mPar 0 1 (mAc (mNeg (mVar 0)) (mAc (mNeg (mVar 1)) mA0))) mNx) (mSeq (mSet 2 (mOp gGcd (mAc (mVar 0) (mAc (mVar 1) mA0)))) (mRet (mTup (mAc (mDiv (mVar 0) (mVar 2)) (mAc (mDiv (mVar 1) (mVar 2)) mA0))))))
def S_fraction : Mir := mDef none 3 S_fractionb
def S_law_gcdb : Fs := (mSeq (mSet 2 (mOp gAbs (mAc (mVar 0) mA0))) (mSeq (mSet 3 (mOp gAbs (mAc (mVar 1) mA0))) (mSeq (mFor (mRg1 (mC (.int 20000))) (tgV 4) (mSeq (mIfS (mB (mEq (mVar 3) (mC (.int 0)))) mBk mNx) (mSeq (mSet 5 (mMod (mOp gInt (mAc (mVar 2) mA0)) (mVar 3))) (mSeq (mSet 2 (mVar 3)) (mSet 3 (mVar 5)))))) (mRet (mVar 2)))))
def S_law_gcd : Mir := mDef none 6 S_law_gcdb
def S_law_fracb : Fs := (mSeq (mSet 2 (mOp gMax (mAc (mC (.int 1)) (mAc (mCall none S_law_gcd (mAc (mVar 0) (mAc (mVar 1) mA0))) mA0)))) (mSeq (mIfS (mB (mLt (mVar 1) (mC (.int 0)))) (mSet 2 (mSub (mC (.int 0)) (mVar 2))) mNx) (mRet (mTup (mAc (mDivZ (mVar 0) (mVar 2)) (mAc (mDivZ (mVar 1) (mVar 2)) mA0))))))
def S_law_frac : Mir := mDef none 3 S_law_fracb
def S_law_plusb : Fs := (mRet (mCall none S_law_frac (mAc (mAdd (mMul (mIxd (mVar 0) (mC (.int 0))) (mIxd (mVar 1) (mC (.int 1)))) (mMul (mIxd (mVar 1) (mC (.int 0))) (mIxd (mVar 0) (mC (.int 1))))) (mAc (mMul (mIxd (mVar 0) (mC (.int 1))) (mIxd (mVar 1) (mC (.int 1)))) mA0))))
def S_law_plus : Mir := mDef none 2 S_law_plusb
end
end Zk
namespace Zk
noncomputable section
open PySem PySem.Spec PyProof.Rows L2
/-- a fraction in lowest terms -/
def fr (q : Rat) : D := .tup [.int q.num, .int q.den]
@[simp] theorem imm_fr (q : Rat) : imm (fr q) = true := by simp [fr]
@[simp] theorem imms_fr (qs : List Rat) : imms (qs.map fr) = true := imms_map' imm_fr qs
@[simp] theorem upl_fr {n m : Nat} {d : D} {p : Rat} : upl n d (fr p) m = n := upl_imm (imm_fr p)
theorem pl_fr (n : Nat) (q : Rat) : pl (n + 1) (fr q) = true := by simp [pl, fr, pl_I]
theorem big_8000 {i : Int} (h : i.natAbs ≤ 2 ^ 8000) : i.natAbs < big := by
  have : (2 : Nat) ^ 8000 < 2 ^ 8001 := Nat.pow_lt_pow_right (by decide) (by decide)
  exact big_of (k := 8001) (by omega) (by decide)
theorem gAbs_nat (i : Int) : gAbs [.int i] = some (.int (i.natAbs : Nat), 9) := by
  have : (if i < 0 then -i else i) = (i.natAbs : Int) := by split <;> omega
  simp [gAbs, this]
theorem law_gcd_eq {x y : Int} (hx : x.natAbs < 2 ^ 8000) (hy : y.natAbs < 2 ^ 8000) : S_law_gcd [.int x, .int y] = some (.int ((Nat.gcd x.natAbs y.natAbs : Nat) : Int), 9, .non) := by
  have go : W (S_law_gcd [.int x, .int y]) fun r => r = (.int ((Nat.gcd x.natAbs y.natAbs : Nat) : Int), 9, .non) := by
    unfold S_law_gcd S_law_gcdb
    rw [W_mDef]
    refine W_seqJ (J := fun E => E = [some (.int x, 0), some (.int y, 0), some (.int (x.natAbs : Nat), 9), none, none, none]) (by simp [ent0_def, gAbs_nat]) ?_
    rintro _ rfl
    refine W_seqJ (J := fun E => E = [some (.int x, 0), some (.int y, 0), some (.int (x.natAbs : Nat), 9), some (.int (y.natAbs : Nat), 9), none, none]) (by simp [gAbs_nat]) ?_
    rintro _ rfl
    refine W_seqO (J := fun E => ∃ u3 u4 u5 : Option (D × Nat), E = [some (.int x, 0), some (.int y, 0), some (.int ((Nat.gcd x.natAbs y.natAbs : Nat) : Int), 9), u3, u4, u5]) ?_ ?_
    · intro J' hJ
      simp (disch := first | assumption | (simp; done) | omega) []
      refine ⟨⟨by decide, by decide⟩, ?_⟩
      refine W_forRO (I := fun k E => ∃ (a b : Nat) (u4 u5 : Option (D × Nat)), Nat.gcd a b = Nat.gcd x.natAbs y.natAbs ∧ (k = 0 → a < 2 ^ 8000 ∧ b < 2 ^ 8000) ∧ (0 < k → b < a ∧ a * b * 2 ^ (k - 1) ≤ 2 ^ 16000) ∧
        E = [some (.int x, 0), some (.int y, 0), some (.int (a : Nat), 9), some (.int (b : Nat), 9), u4, u5]) ⟨x.natAbs, y.natAbs, none, none, rfl, fun _ => ⟨hx, hy⟩, fun h => absurd h (by decide), by simp⟩ (fun k E I' hk hE hI => ?_) fun E hE => ?_
      · obtain ⟨a, b, u4, u5, g1, g2, g3, rfl⟩ := hE
        by_cases h0 : b = 0
        · subst h0
          simp (disch := first | assumption | (simp; done) | omega) []
          rw [Nat.gcd_zero_right] at g1
          rw [g1]
          exact hJ _ ⟨_, _, _, rfl⟩
        · have hb : (0 : Int) < b := by omega
          have hb2 : 0 < b := by omega
          simp (disch := first | assumption | (simp; done) | omega) [h0, hb, hb2]
          refine hI _ ⟨b, a % b, _, _, ?_, fun h => absurd h (by omega), fun _ => ⟨Nat.mod_lt _ hb2, ?_⟩, rfl⟩
          · rw [← g1, Nat.gcd_comm a b, Nat.gcd_rec b a, Nat.gcd_comm]
          · rw [Nat.add_sub_cancel]
            rcases Nat.eq_zero_or_pos k with e | e
            · subst e
              obtain ⟨a1, b1⟩ := g2 rfl
              have : a % b ≤ 2 ^ 8000 := Nat.le_of_lt (Nat.lt_trans (Nat.mod_lt _ hb2) b1)
              have h := Nat.mul_le_mul (Nat.le_of_lt b1) this
              rw [← Nat.pow_add] at h
              simpa using h
            · obtain ⟨l1, l2⟩ := g3 e
              have m2 : 2 * (a % b) ≤ a := by
                have h1 := Nat.div_add_mod a b
                have h2 := Nat.mod_lt a hb2
                have h3 : 1 ≤ a / b := (Nat.one_le_div_iff hb2).mpr (by omega)
                have h4 : b * 1 ≤ b * (a / b) := Nat.mul_le_mul_left b h3
                omega
              have e2 : b * (a % b) * 2 ^ k = b * (2 * (a % b)) * 2 ^ (k - 1) := by
                conv => lhs; rw [show k = (k - 1) + 1 by omega, Nat.pow_succ]
                grind
              rw [e2]
              refine Nat.le_trans (Nat.mul_le_mul_right _ (Nat.mul_le_mul_left b m2)) ?_
              rw [Nat.mul_comm b a]; exact l2
      · obtain ⟨a, b, u4, u5, g1, g2, g3, rfl⟩ := hE
        have b0 : b = 0 := by
          apply Classical.byContradiction
          intro hb
          obtain ⟨l1, l2⟩ := g3 (by decide)
          have h1 : 1 ≤ a * b := Nat.mul_pos (by omega) (by omega)
          have h2 : 1 * 2 ^ (20000 - 1) ≤ a * b * 2 ^ (20000 - 1) := Nat.mul_le_mul_right _ h1
          have h3 : (2 : Nat) ^ 16000 < 2 ^ (20000 - 1) := Nat.pow_lt_pow_right (by decide) (by decide)
          rw [Nat.one_mul] at h2
          exact absurd (Nat.lt_of_lt_of_le h3 (Nat.le_trans h2 l2)) (Nat.lt_irrefl _)
        subst b0
        rw [Nat.gcd_zero_right] at g1
        rw [g1]
        exact ⟨rfl, hJ _ ⟨_, _, _, rfl⟩⟩
    · rintro _ ⟨u3, u4, u5, rfl⟩
      simp
  obtain ⟨r, e, rfl⟩ := go
  exact e
theorem num_of {n d : Int} (hd : d ≠ 0) : (Rat.divInt n d).num = (if d < 0 then -n else n) / ((Nat.gcd n.natAbs d.natAbs : Nat) : Int) := by
  rw [Rat.num_divInt, Int.gcd_eq_natAbs_gcd_natAbs, Nat.gcd_comm]
  by_cases h : d < 0
  · rw [if_pos h, Int.sign_eq_neg_one_of_neg h]; congr 1; omega
  · rw [if_neg h, Int.sign_eq_one_of_pos (by omega), Int.one_mul]
theorem den_of {n d : Int} (hd : d ≠ 0) : (((Rat.divInt n d).den : Nat) : Int) = (if d < 0 then -d else d) / ((Nat.gcd n.natAbs d.natAbs : Nat) : Int) := by
  rw [Rat.den_divInt, if_neg hd, Int.gcd_eq_natAbs_gcd_natAbs, Nat.gcd_comm, Int.natCast_ediv]
  by_cases h : d < 0
  · rw [if_pos h]; congr 1; omega
  · rw [if_neg h]; congr 1; omega
theorem gcd_pos {n d : Int} (hd : d ≠ 0) : 0 < Nat.gcd n.natAbs d.natAbs := Nat.gcd_pos_of_pos_right _ (by omega)
theorem gcd_le {n d : Int} (hd : d ≠ 0) : Nat.gcd n.natAbs d.natAbs ≤ d.natAbs := Nat.gcd_le_right _ (by omega)
theorem fraction_eq {n d : Int} (hd : d ≠ 0) (hs : d.natAbs < 2 ^ 8000) : S_fraction [.int n, .int d] = some (fr (Rat.divInt n d), 0, .non) := by
  have g0 := gcd_pos (n := n) hd
  have g1 := gcd_le (n := n) hd
  have go : W (S_fraction [.int n, .int d]) fun r => r = (fr (Rat.divInt n d), 0, .non) := by
    refine W_O fun Q' hQ => ?_
    have key : Q' (.tup [.int ((if d < 0 then -n else n) / ((Nat.gcd n.natAbs d.natAbs : Nat) : Int)), .int ((if d < 0 then -d else d) / ((Nat.gcd n.natAbs d.natAbs : Nat) : Int))], 0, .non) := by
      refine hQ _ ?_
      unfold fr
      rw [num_of hd, den_of hd]
    have dv : ∀ t : Int, divOk t ((Nat.gcd n.natAbs d.natAbs : Nat) : Int) := fun t => ⟨by omega, by
      have h1 : Nat.gcd n.natAbs d.natAbs < 2 ^ 8000 := Nat.lt_of_le_of_lt g1 hs
      have := Int.ofNat_lt.mpr h1
      rwa [Int.natCast_pow] at this⟩
    unfold S_fraction S_fractionb
    by_cases h : d < 0
    · simp only [if_pos h] at key
      simp (disch := first | assumption | (simp; done) | omega) [ent0_def, h, dv]
      exact key
    · simp only [if_neg h] at key
      simp (disch := first | assumption | (simp; done) | omega) [ent0_def, h, dv]
      exact key
  obtain ⟨r, e, rfl⟩ := go
  exact e
theorem frac_eq {n d : Int} (hd : d ≠ 0) (hn : n.natAbs < 2 ^ 8000) (hs : d.natAbs < 2 ^ 8000) : S_law_frac [.int n, .int d] = some (fr (Rat.divInt n d), 0, .non) := by
  have g0 := gcd_pos (n := n) hd
  have g1 := gcd_le (n := n) hd
  have ge := law_gcd_eq hn hs
  have go : W (S_law_frac [.int n, .int d]) fun r => r = (fr (Rat.divInt n d), 0, .non) := by
    refine W_O fun Q' hQ => ?_
    have key : Q' (.tup [.int ((if d < 0 then -n else n) / ((Nat.gcd n.natAbs d.natAbs : Nat) : Int)), .int ((if d < 0 then -d else d) / ((Nat.gcd n.natAbs d.natAbs : Nat) : Int))], 0, .non) := by
      refine hQ _ ?_
      unfold fr
      rw [num_of hd, den_of hd]
    have dn : ((Nat.gcd n.natAbs d.natAbs : Nat) : Int) ∣ n := Int.ofNat_dvd_left.mpr (Nat.gcd_dvd_left _ _)
    have dd : ((Nat.gcd n.natAbs d.natAbs : Nat) : Int) ∣ d := Int.ofNat_dvd_left.mpr (Nat.gcd_dvd_right _ _)
    generalize Nat.gcd n.natAbs d.natAbs = g at *
    have mx : max 1 (g : Int) = g := by omega
    have gb : ((g : Nat) : Int) ≠ 0 := by omega
    have gb1 : g ≠ 0 := by omega
    have gs : g < 2 ^ 8000 := Nat.lt_of_le_of_lt g1 hs
    unfold S_law_frac S_law_fracb
    by_cases h : d < 0
    · simp only [if_pos h] at key
      have e1 : Int.fdiv n (-(g : Int)) = -n / g := by
        obtain ⟨k, rfl⟩ := dn
        rw [show (g : Int) * k = (-(g : Int)) * (-k) by grind, Int.mul_fdiv_cancel_left _ (by omega), show -(-(g : Int) * -k) = (g : Int) * (-k) by grind, Int.mul_ediv_cancel_left _ gb]
      have e2 : Int.fdiv d (-(g : Int)) = -d / g := by
        obtain ⟨k, e⟩ := dd
        rw [e, show (g : Int) * k = (-(g : Int)) * (-k) by grind, Int.mul_fdiv_cancel_left _ (by omega), show -(-(g : Int) * -k) = (g : Int) * (-k) by grind, Int.mul_ediv_cancel_left _ gb]
      simp (disch := first | assumption | (simp; done) | omega) [ent0_def, h, dem1, ge, mx, gb1]
      rw [e1, e2]; exact ⟨gs, key⟩
    · simp only [if_neg h] at key
      have e1 : Int.fdiv n (g : Int) = n / g := Int.fdiv_eq_ediv_of_nonneg _ (by omega)
      have e2 : Int.fdiv d (g : Int) = d / g := Int.fdiv_eq_ediv_of_nonneg _ (by omega)
      simp (disch := first | assumption | (simp; done) | omega) [ent0_def, h, dem1, ge, mx, gb1]
      rw [e1, e2]; exact ⟨gs, key⟩
  obtain ⟨r, e, rfl⟩ := go
  exact e
end
end Zk
namespace Zk
noncomputable section
open PySem PySem.Spec PyProof.Rows L2
/-- how great a fraction's parts are, in bits -/
def szR (a b : Nat) (q : Rat) : Prop := q.num.natAbs ≤ 2 ^ a ∧ q.den ≤ 2 ^ b
theorem szR.mono {a b a' b' : Nat} {q : Rat} (h : szR a b q) (ha : a ≤ a') (hb : b ≤ b') : szR a' b' q :=
  ⟨Nat.le_trans h.1 (Nat.pow_le_pow_right (by decide) ha), Nat.le_trans h.2 (Nat.pow_le_pow_right (by decide) hb)⟩
theorem div_le_abs (i : Int) (g : Nat) : (i / (g : Int)).natAbs ≤ i.natAbs := by
  rcases Nat.eq_zero_or_pos g with rfl | h
  · simp
  · exact Int.natAbs_ediv_le_natAbs i g
theorem szR_divInt {a b : Nat} {n d : Int} (hn : n.natAbs ≤ 2 ^ a) (hd0 : d ≠ 0) (hd : d.natAbs ≤ 2 ^ b) : szR a b (Rat.divInt n d) := by
  constructor
  · rw [num_of hd0]
    refine Nat.le_trans (div_le_abs _ _) ?_
    split <;> simpa using hn
  · have := den_of (n := n) hd0
    have h2 := div_le_abs (if d < 0 then -d else d) (Nat.gcd n.natAbs d.natAbs)
    rw [← this] at h2
    have h3 : (if d < 0 then -d else d).natAbs = d.natAbs := by split <;> simp
    rw [h3] at h2
    simp at h2
    omega
theorem den_ne (q : Rat) : ((q.den : Nat) : Int) ≠ 0 := by have := q.den_nz; omega
theorem abs_lt_8000 {i : Int} {k : Nat} (h : i.natAbs ≤ 2 ^ k) (hk : k ≤ 7999) : i.natAbs < 2 ^ 8000 :=
  Nat.lt_of_le_of_lt h (Nat.pow_lt_pow_right (by decide) (by omega))
theorem abs_big {i : Int} {k : Nat} (h : i.natAbs ≤ 2 ^ k) (hk : k ≤ 8000) : i.natAbs < big := big_8000 (Nat.le_trans h (Nat.pow_le_pow_right (by decide) hk))
theorem mul_abs {x y : Int} {a b : Nat} (hx : x.natAbs ≤ 2 ^ a) (hy : y.natAbs ≤ 2 ^ b) : (x * y).natAbs ≤ 2 ^ (a + b) := by
  rw [Int.natAbs_mul, Nat.pow_add]; exact Nat.mul_le_mul hx hy
theorem add_abs {x y : Int} {a b : Nat} (hx : x.natAbs ≤ 2 ^ a) (hy : y.natAbs ≤ 2 ^ b) : (x + y).natAbs ≤ 2 ^ (max a b + 1) := by
  have h1 : x.natAbs ≤ 2 ^ max a b := Nat.le_trans hx (Nat.pow_le_pow_right (by decide) (Nat.le_max_left a b))
  have h2 : y.natAbs ≤ 2 ^ max a b := Nat.le_trans hy (Nat.pow_le_pow_right (by decide) (Nat.le_max_right a b))
  have := Int.natAbs_add_le x y
  rw [Nat.pow_succ]; omega
theorem sub_abs {x y : Int} {a b : Nat} (hx : x.natAbs ≤ 2 ^ a) (hy : y.natAbs ≤ 2 ^ b) : (x - y).natAbs ≤ 2 ^ (max a b + 1) := by
  rw [Int.sub_eq_add_neg]
  exact add_abs hx (by simpa using hy)
section
variable {f g : Rat} {a b c e : Nat}
theorem at_fr0 (q : Rat) : atI [D.int q.num, D.int q.den] 0 = some (.int q.num) := rfl
theorem at_fr1 (q : Rat) : atI [D.int q.num, D.int q.den] 1 = some (.int q.den) := rfl
theorem add_div (f g : Rat) : Rat.divInt (f.num * g.den + g.num * f.den) ((f.den : Int) * g.den) = f + g := by
  have := Rat.divInt_add_divInt f.num g.num (den_ne f) (den_ne g)
  rw [Rat.num_divInt_den, Rat.num_divInt_den] at this
  exact this.symm
theorem sub_div (f g : Rat) : Rat.divInt (f.num * g.den - g.num * f.den) ((f.den : Int) * g.den) = f - g := by
  have := Rat.divInt_sub_divInt f.num g.num (den_ne f) (den_ne g)
  rw [Rat.num_divInt_den, Rat.num_divInt_den] at this
  exact this.symm
theorem mul_div (f g : Rat) : Rat.divInt (f.num * g.num) ((f.den : Int) * g.den) = f * g := by
  have := Rat.divInt_mul_divInt f.num g.num (d₁ := f.den) (d₂ := g.den)
  rw [Rat.num_divInt_den, Rat.num_divInt_den] at this
  exact this.symm
theorem den_mul_ne (f g : Rat) : (f.den : Int) * g.den ≠ 0 := Int.mul_ne_zero (den_ne f) (den_ne g)
theorem law_plus_eq (hf : szR a b f) (hg : szR c e g) (h1 : a + e ≤ 7990) (h2 : c + b ≤ 7990) (h3 : b + e ≤ 7990) :
    S_law_plus [fr f, fr g] = some (fr (f + g), 9, .non) ∧ szR (max (a + e) (c + b) + 1) (b + e) (f + g) := by
  have d1 : ((f.den : Nat) : Int).natAbs ≤ 2 ^ b := hf.2
  have d2 : ((g.den : Nat) : Int).natAbs ≤ 2 ^ e := hg.2
  have n1 := mul_abs hf.1 d2
  have n2 := mul_abs hg.1 d1
  have n3 := add_abs n1 n2
  have n4 := mul_abs d1 d2
  have fe := frac_eq (den_mul_ne f g) (abs_lt_8000 n3 (by omega)) (abs_lt_8000 n4 (by omega))
  rw [add_div] at fe
  refine ⟨?_, by rw [← add_div]; exact szR_divInt n3 (den_mul_ne f g) n4⟩
  have b1 := abs_big hf.1 (by omega)
  have b2 := abs_big hg.1 (by omega)
  have b3 := abs_big d1 (by omega)
  have b4 := abs_big d2 (by omega)
  have go : W (S_law_plus [fr f, fr g]) fun r => r = (fr (f + g), 9, .non) := by
    unfold S_law_plus S_law_plusb
    simp only [Int.natAbs_natCast] at b3 b4
    simp (disch := first | assumption | (simp; done) | omega) [ent0_def, fr, at_fr0, at_fr1, b1, b2, b3, b4, dem1, fe]
  obtain ⟨r, e, rfl⟩ := go
  exact e
end
end
end Zk
namespace Zk
noncomputable section
open PySem PySem.Spec PyProof.Rows L2
/-- pairs of some indexes with their numbers -/
def Sel (N : Nat) (w : Nat → Int) (kp : List (Int × Int)) : Prop := (∀ p ∈ kp, ∃ a : Nat, a < N ∧ p = ((a : Int), w a)) ∧ (kp.map (·.1)).Nodup
theorem ksum_nodup {st : List (Int × Int)} (nd : (st.map (·.1)).Nodup) {p : Int × Int} (hp : p ∈ st) : ksum st p.1 = p.2 := by
  obtain ⟨a, b, e⟩ := List.append_of_mem hp
  rw [e] at nd ⊢
  have e2 : p :: b = [p] ++ b := rfl
  rw [e2, ksum_app, ksum_app, ksum_one, if_pos rfl]
  rw [List.map_append, List.map_cons] at nd
  have n2 := List.nodup_append.mp nd
  have ka : ksum a p.1 = 0 := ksum_out fun q hq e => n2.2.2 q.1 (List.mem_map.mpr ⟨q, hq, rfl⟩) p.1 (by simp) e
  have kb : ksum b p.1 = 0 := ksum_out fun q hq e => (List.nodup_cons.mp n2.2.1).1 (List.mem_map.mpr ⟨q, hq, e⟩)
  rw [ka, kb]; omega
theorem Sel.two {N : Nat} {w : Nat → Int} {kp : List (Int × Int)} (h : Sel N w kp) (a : Nat) : K kp a = 0 ∨ K kp a = w a := by
  by_cases c : ∃ p ∈ kp, p.1 = (a : Int)
  · obtain ⟨p, hp, e⟩ := c
    right
    obtain ⟨b, hb, rfl⟩ := h.1 p hp
    have := ksum_nodup h.2 hp
    unfold K
    rw [← e, this]
    simp only at e ⊢
    rw [show a = b by omega]
  · left
    exact ksum_out fun q hq e => c ⟨q, hq, e⟩
theorem Sel.rng {N : Nat} {w : Nat → Int} {kp : List (Int × Int)} (h : Sel N w kp) : ∀ p ∈ kp, 0 ≤ p.1 ∧ p.1 < (N : Int) := fun p hp => by
  obtain ⟨b, hb, rfl⟩ := h.1 p hp
  exact ⟨by simp, by simp only; omega⟩
/-- the squares of the kept ones -/
def sq2 (kp : List (Int × Int)) : Int := (kp.map fun p => p.2 * p.2).sum
theorem Sel.sq {N : Nat} {w : Nat → Int} {kp : List (Int × Int)} (h : Sel N w kp) : sumN N (fun a => K kp a * K kp a) = sq2 kp := by
  rw [wsum h.rng (K kp)]
  unfold sq2
  congr 1
  refine List.map_congr_left fun p hp => ?_
  have e := ksum_nodup h.2 hp
  have := (h.rng p hp).1
  unfold K
  rw [show ((p.1.toNat : Nat) : Int) = p.1 by omega, e]
end
end Zk
namespace Zk
noncomputable section
open PySem PySem.Spec PyProof.Rows L2
def nzp (N : Nat) (w : Nat → Int) : List (Int × Int) := ((List.range N).filter fun a => decide (w a ≠ 0)).map fun (a : Nat) => (-((w a).natAbs : Int), (a : Int))
def top (N : Nat) (w : Nat → Int) (k : Nat) : List (Int × Int) := (srtP (nzp N w)).take k
end
end Zk
namespace Zk
noncomputable section
open PySem PySem.Spec PyProof.Rows L2
theorem fr_int (x : Int) : fr (x : Rat) = .tup [.int x, .int 1] := rfl
theorem szR_int {x : Int} {a : Nat} (h : x.natAbs ≤ 2 ^ a) : szR a 0 (x : Rat) := ⟨h, Nat.le_refl _⟩
end
end Zk
namespace Zk
noncomputable section
open PySem PySem.Spec PyProof.Rows L2
@[simp] theorem imm_Fd (F : Fd) : imm F.d = true := by cases F <;> simp [Fd.d]
def tN (cs : List Nat) : D := .tup (cs.map fun c : Nat => D.int (c : Int))
@[simp] theorem imm_tN (cs : List Nat) : imm (tN cs) = true := by
  unfold tN
  rw [imm_tup]
  exact imms_map' (fun _ => by simp) _
@[simp] theorem seqD_tN (cs : List Nat) : seqD (tN cs) = some (cs.map fun c : Nat => D.int (c : Int)) := rfl
section
variable {F : Fd} {a b : Nat}
/-- the sign of a draw at a key -/
def Fd.sgn (F : Fd) (cs : List Nat) (k : Nat) : Int := if F.val cs k % 2 = 0 then 1 else -1
end
end
end Zk
namespace Zk
noncomputable section
open PySem PySem.Spec PyProof.Rows L2
end
end Zk
namespace Zk
noncomputable section
open PySem PySem.Spec PyProof.Rows L2
end
end Zk
namespace Zk
noncomputable section
open PySem PySem.Spec PyProof.Rows L2
end
end Zk
namespace Zk
noncomputable section
open PySem PySem.Spec PyProof.Rows L2
/-- the block b of a level lies within the span -/
def wi (low high : Int) (j : Nat) (b : Int) : Prop := low ≤ b * 2 ^ j ∧ (b + 1) * 2 ^ j ≤ high + 1
theorem p2 (j : Nat) : (0 : Int) < 2 ^ j := Int.pow_pos (by decide)
theorem wi_s {low high : Int} {j : Nat} {b : Int} : wi low high (j + 1) b ↔ wi low high j (2 * b) ∧ wi low high j (2 * b + 1) := by
  unfold wi
  have h := p2 j
  rw [Int.pow_succ]
  generalize (2 : Int) ^ j = q at *
  have e1 : b * (q * 2) = 2 * (b * q) := by grind
  have e2 : (b + 1) * (q * 2) = 2 * (b * q) + 2 * q := by grind
  have e3 : 2 * b * q = 2 * (b * q) := by grind
  have e4 : (2 * b + 1) * q = 2 * (b * q) + q := by grind
  have e5 : (2 * b + 1 + 1) * q = 2 * (b * q) + 2 * q := by grind
  rw [e1, e2, e3, e4, e5]
  omega
theorem div_s (x : Int) (i : Nat) : x / 2 ^ (i + 1) = x / 2 ^ i / 2 := by
  rw [Int.pow_succ, ← Int.ediv_ediv_of_nonneg (Int.le_of_lt (p2 i))]
/-- the blocks below, around a place -/
theorem wi_down {low high x : Int} {i : Nat} : ∀ {d : Nat}, wi low high (i + d) (x / 2 ^ (i + d)) → wi low high i (x / 2 ^ i)
  | 0, h => h
  | d + 1, h => by
    refine wi_down (d := d) ?_
    rw [show i + (d + 1) = (i + d) + 1 by omega, div_s, wi_s] at h
    generalize x / 2 ^ (i + d) = q at *
    have : q = 2 * (q / 2) ∨ q = 2 * (q / 2) + 1 := by omega
    rcases this with e | e
    · rw [e]; exact h.1
    · rw [e]; exact h.2
theorem wi_le {low high x : Int} {i j : Nat} (hij : i ≤ j) (h : wi low high j (x / 2 ^ j)) : wi low high i (x / 2 ^ i) := by
  obtain ⟨d, rfl⟩ := Nat.exists_eq_add_of_le hij
  exact wi_down h
/-- a block of the fewest -/
def Cov (m : Nat) (low high : Int) (p : Int × Int) : Prop := ∃ j : Nat, j ≤ m ∧ p.1 = j ∧ wi low high j p.2 ∧ (j < m → ¬ wi low high (j + 1) (p.2 / 2))
/-- two of them around one place are one -/
theorem Cov.uniq {m : Nat} {low high x : Int} {j j' : Nat} (h : Cov m low high (j, x / 2 ^ j)) (h' : Cov m low high (j', x / 2 ^ j')) : j = j' := by
  obtain ⟨i, hi, e, w1, w2⟩ := h
  obtain ⟨i', hi', e', w1', w2'⟩ := h'
  have e : j = i := by simp only at e; omega
  have e' : j' = i' := by simp only at e'; omega
  subst e e'
  simp only at w1 w2 w1' w2'
  rcases Nat.lt_trichotomy j j' with c | c | c
  · exfalso
    refine w2 (by omega) ?_
    rw [← div_s]
    exact wi_le (by omega) w1'
  · exact c
  · exfalso
    refine w2' (by omega) ?_
    rw [← div_s]
    exact wi_le (by omega) w1
theorem mul_at {b : Int} (j : Nat) : b * 2 ^ j / 2 ^ j = b := Int.mul_ediv_cancel b (Int.ne_of_gt (p2 j))
end
end Zk
namespace Zk
noncomputable section
open PySem PySem.Spec PyProof.Rows L2
@[simp] theorem prD_pr : prD = pr := rfl
@[simp] theorem gSrt1_prs (ps : List (Int × Int)) : gSrt1 [.lst (ps.map pr)] = some (.lst ((srtP ps).map pr), 9) := by
  cases ps with
  | nil =>
    have e : srtP [] = [] := List.Perm.eq_nil (srtP_perm [])
    rw [e]
    have := gSrt1_ints []
    have e2 : srt [] = [] := List.Perm.eq_nil (srt_perm [])
    rw [e2] at this
    exact this
  | cons p ps =>
    have e : gSrt1 [.lst ((p :: ps).map pr)] = gSrtP [.lst ((p :: ps).map pr)] := rfl
    rw [e]
    have : pof ((p :: ps).map pr) = some (p :: ps) := pof_map (p :: ps)
    simp only [gSrtP, this, Option.map_some, prD_pr]
/-- the list of the fewest blocks, ascending -/
def IsCvr (m : Nat) (low high : Int) (L : List (Int × Int)) : Prop := SrtO.Srtd SrtO.lexB L ∧ L.Nodup ∧ ∀ p, p ∈ L ↔ Cov m low high p
theorem lex_snoc {L : List (Int × Int)} {p : Int × Int} (h : L.Pairwise fun a b => SrtO.lexB a b = true) (hp : ∀ q ∈ L, SrtO.lexB q p = true) : (L ++ [p]).Pairwise fun a b => SrtO.lexB a b = true := by
  rw [List.pairwise_append]
  exact ⟨h, by simp, fun a ha b hb => by simp at hb; subst hb; exact hp a ha⟩
/-- what the program keeps before a level -/
structure PC (m : Nat) (low high : Int) (k : Nat) (f l : Int) (L : List (Int × Int)) : Prop where
  srt : L.Pairwise fun a b => SrtO.lexB a b = true
  mem : ∀ p, p ∈ L ↔ Cov m low high p ∧ p.1 < k
  blk : k ≤ m → ∀ b, Zk.wi low high k b ↔ f ≤ b ∧ b ≤ l
  len : L.length ≤ 2 * k
  len2 : m < k → L.length ≤ max 1 (2 * m)
theorem PC.done {m k : Nat} {low high f l : Int} {L : List (Int × Int)} (h : PC m low high k f l L) (he : k ≤ m → l < f) : IsCvr m low high L := by
  refine ⟨h.srt.imp fun {a b} q => ?_, h.srt.imp fun {a b} q e => ?_, fun p => ⟨fun hp => ((h.mem p).mp hp).1, fun hp => (h.mem p).mpr ⟨hp, ?_⟩⟩⟩
  · have := SrtO.lexB_iff.mp q
    exact SrtO.lexB_no.mpr (by omega)
  · have := SrtO.lexB_iff.mp q
    rw [e] at this
    omega
  · obtain ⟨j, hj, e, w1, w2⟩ := hp
    rw [e]
    apply Classical.byContradiction
    intro hc
    have hk : k ≤ j := by omega
    have w := wi_le (x := p.2 * 2 ^ j) hk (by rw [mul_at]; exact w1)
    have := (h.blk (by omega) _).mp w
    have := he (by omega)
    omega
theorem cov_lvl {m k : Nat} {low high : Int} (hk : k ≤ m) {b : Int} : Cov m low high ((k : Int), b) ↔ wi low high k b ∧ (k < m → ¬ wi low high (k + 1) (b / 2)) := by
  constructor
  · rintro ⟨j, hj, e, w1, w2⟩
    have e : (k : Int) = j := e
    have : k = j := by omega
    subst this
    exact ⟨w1, w2⟩
  · rintro ⟨w1, w2⟩
    exact ⟨k, hk, rfl, w1, w2⟩
/-- at the last level there is one block at most -/
theorem wi_top {m : Nat} {low high b : Int} (h0 : 0 ≤ low) (h2 : high < 2 ^ m) (w : wi low high m b) : b = 0 := by
  unfold wi at w
  have q := p2 m
  have a : 0 ≤ b := by
    apply Classical.byContradiction
    intro hc
    have : b * 2 ^ m < 0 := Int.mul_neg_of_neg_of_pos (by omega) q
    omega
  have c : b + 1 ≤ 1 := by
    apply Classical.byContradiction
    intro hc
    have h3 : 2 * (2 : Int) ^ m ≤ (b + 1) * 2 ^ m := Int.mul_le_mul_of_nonneg_right (by omega) (Int.le_of_lt q)
    omega
  omega
/-- one level of the program -/
theorem PC.step {m k : Nat} {low high f l : Int} {L : List (Int × Int)} (h0 : 0 ≤ low) (h2 : high < 2 ^ m) (h : PC m low high k f l L) (hk : k ≤ m) (hf : f ≤ l) :
    let c1 := f % 2 = 1 ∨ k = m
    let f1 := if c1 then f + 1 else f
    let c2 := f1 ≤ l ∧ l % 2 = 0
    PC m low high (k + 1) (f1 / 2) ((if c2 then l - 1 else l) / 2) ((L ++ if c1 then [((k : Int), f)] else []) ++ if c2 then [((k : Int), l)] else []) := by
  intro c1 f1 c2
  have lt1 : ∀ q ∈ L, ∀ b : Int, SrtO.lexB q ((k : Int), b) = true := fun q hq b => SrtO.lexB_iff.mpr (.inl ((h.mem q).mp hq).2)
  have wk := h.blk hk
  have top : k = m → f = 0 ∧ l = 0 := fun e => by
    subst e
    exact ⟨wi_top h0 h2 ((wk f).mpr ⟨Int.le_refl _, hf⟩), wi_top h0 h2 ((wk l).mpr ⟨hf, Int.le_refl _⟩)⟩
  have up : ∀ b, wi low high (k + 1) b ↔ f ≤ 2 * b ∧ 2 * b + 1 ≤ l := fun b => by
    rw [wi_s, wk, wk]; omega
  -- which blocks of this level are of the fewest
  have cl : ∀ b, Cov m low high ((k : Int), b) ↔ (c1 ∧ b = f) ∨ (c2 ∧ b = l) := fun b => by
    rw [cov_lvl hk, wk, up]
    by_cases hm : k = m
    · obtain ⟨e1, e2⟩ := top hm
      have t1 : c1 := .inr hm
      have t2 : ¬ c2 := by show ¬ ((if c1 then f + 1 else f) ≤ l ∧ l % 2 = 0); rw [if_pos t1]; omega
      simp only [t1, t2, true_and, false_and, or_false]
      omega
    · have hm2 : k < m := by omega
      by_cases o : f % 2 = 1
      · have t1 : c1 := .inl o
        have e3 : f1 = f + 1 := if_pos t1
        show _ ↔ (c1 ∧ b = f) ∨ ((f1 ≤ l ∧ l % 2 = 0) ∧ b = l)
        rw [e3]
        simp only [t1, true_and]
        omega
      · have t1 : ¬ c1 := fun z => z.elim o hm
        have e3 : f1 = f := if_neg t1
        show _ ↔ (c1 ∧ b = f) ∨ ((f1 ≤ l ∧ l % 2 = 0) ∧ b = l)
        rw [e3]
        simp only [t1, false_and, false_or]
        omega
  have emp : k = m → L = [] := fun e => by
    obtain ⟨e1, e2⟩ := top e
    subst e
    apply List.eq_nil_iff_forall_not_mem.mpr
    rintro ⟨x, b⟩ hp
    obtain ⟨⟨j, hj, ej, w1, w2⟩, lt⟩ := (h.mem _).mp hp
    simp only at ej w1 w2 lt
    refine w2 (by omega) ?_
    have q := p2 j
    have w1' := w1
    unfold Zk.wi at w1'
    have e3 : (b + 1) * 2 ^ j = b * 2 ^ j + 2 ^ j := by grind
    have ex : b * 2 ^ j / 2 ^ k = 0 := Int.ediv_eq_zero_of_lt (by omega) (by omega)
    have wt : Zk.wi low high k (b * 2 ^ j / 2 ^ k) := by
      rw [ex]; exact (wk 0).mpr (by omega)
    have := wi_le (i := j + 1) (by omega) wt
    rw [div_s, mul_at] at this
    exact this
  refine ⟨?_, fun p => ?_, fun hk1 b => ?_, ?_, fun hmk => ?_⟩
  · have s1 : (L ++ if c1 then [((k : Int), f)] else []).Pairwise fun a b => SrtO.lexB a b = true := by
      split
      · exact lex_snoc h.srt fun q hq => lt1 q hq f
      · rw [List.append_nil]; exact h.srt
    by_cases hc2 : c2
    · rw [if_pos hc2]
      refine lex_snoc s1 fun q hq => ?_
      rcases List.mem_append.mp hq with hq | hq
      · exact lt1 q hq l
      · split at hq
        · rename_i hc1
          simp at hq
          subst hq
          have : f1 = f + 1 := if_pos hc1
          have := hc2.1
          exact SrtO.lexB_iff.mpr (.inr ⟨rfl, by simp only; omega⟩)
        · simp at hq
    · rw [if_neg hc2, List.append_nil]; exact s1
  · obtain ⟨x, b⟩ := p
    have hsplit : ((x, b) ∈ (L ++ if c1 then [((k : Int), f)] else []) ++ if c2 then [((k : Int), l)] else []) ↔ (x, b) ∈ L ∨ (x = k ∧ ((c1 ∧ b = f) ∨ (c2 ∧ b = l))) := by
      rw [List.mem_append, List.mem_append]
      by_cases a1 : c1 <;> by_cases a2 : c2 <;> simp [a1, a2]
      · constructor
        · rintro ((h | ⟨rfl, rfl⟩) | ⟨rfl, rfl⟩)
          · exact .inl h
          · exact .inr ⟨rfl, .inl rfl⟩
          · exact .inr ⟨rfl, .inr rfl⟩
        · rintro (h | ⟨rfl, rfl | rfl⟩)
          · exact .inl (.inl h)
          · exact .inl (.inr ⟨rfl, rfl⟩)
          · exact .inr ⟨rfl, rfl⟩
    rw [hsplit, h.mem]
    constructor
    · rintro (⟨c, lt⟩ | ⟨rfl, hb⟩)
      · exact ⟨c, by simp only at lt ⊢; omega⟩
      · exact ⟨(cl b).mpr hb, by simp only; omega⟩
    · rintro ⟨c, lt⟩
      by_cases e : x = k
      · subst e
        exact .inr ⟨rfl, (cl b).mp c⟩
      · exact .inl ⟨c, by simp only at lt ⊢; omega⟩
  · rw [up]
    have hm : ¬ k = m := by omega
    by_cases o : f % 2 = 1
    · have t1 : c1 := .inl o
      have e3 : f1 = f + 1 := if_pos t1
      by_cases a2 : c2
      · have a3 : f1 ≤ l ∧ l % 2 = 0 := a2
        rw [e3] at a3
        rw [if_pos a2, e3]
        omega
      · have a3 : ¬ (f1 ≤ l ∧ l % 2 = 0) := a2
        rw [e3] at a3
        rw [if_neg a2, e3]
        omega
    · have t1 : ¬ c1 := fun z => z.elim o hm
      have e3 : f1 = f := if_neg t1
      by_cases a2 : c2
      · have a3 : f1 ≤ l ∧ l % 2 = 0 := a2
        rw [e3] at a3
        rw [if_pos a2, e3]
        omega
      · have a3 : ¬ (f1 ≤ l ∧ l % 2 = 0) := a2
        rw [e3] at a3
        rw [if_neg a2, e3]
        omega
  · have := h.len
    split <;> split <;> simp <;> omega
  · have e : k = m := by omega
    obtain ⟨e1, e2⟩ := top e
    have t1 : c1 := .inr e
    have t2 : ¬ c2 := by show ¬ ((if c1 then f + 1 else f) ≤ l ∧ l % 2 = 0); rw [if_pos t1]; omega
    rw [if_pos t1, if_neg t2, emp e]
    simp
    omega

end
end Zk
namespace Zk
noncomputable section
open PySem PySem.Spec PyProof.Rows L2
end
end Zk
namespace Zk
noncomputable section
open PySem PySem.Spec PyProof.Rows L2
end
end Zk
namespace Zk
noncomputable section
open PySem PySem.Spec PyProof.Rows L2
end
end Zk
namespace Zk
noncomputable section
open PySem PySem.Spec PyProof.Rows L2
end
end Zk
namespace Zk
noncomputable section
open PySem PySem.Spec PyProof.Rows L2
def S_law_is_intb : Fs := (mRet (mAndV (mOp gIsi (mAc (mVar 0) (mAc (mC (.ty "int")) mA0))) (mNotV (mOp gIsi (mAc (mVar 0) (mAc (mC (.ty "bool")) mA0))))))
def S_law_is_int : Mir := mDef none 1 S_law_is_intb
end
end Zk
namespace Zk
noncomputable section
open PySem PySem.Spec PyProof.Rows L2
def cnt (ns : List Int) (x : Int) : Nat := (ns.filter fun k => decide (k = x)).length
def gd (ns : List Int) (j : Nat) : Int := ns.getD j 0
end
end Zk
namespace Zk
noncomputable section
open PySem PySem.Spec PyProof.Rows L2
end
end Zk
namespace Zk
noncomputable section
open PySem PySem.Spec PyProof.Rows L2
end
end Zk
namespace Zk
noncomputable section
open PySem PySem.Spec PyProof.Rows L2
end
end Zk
namespace Zk
noncomputable section
open PySem PySem.Spec PyProof.Rows L2
def inr (n : Nat) (p : Int × Int) : Prop := 0 ≤ p.1 ∧ p.1 < p.2 ∧ p.2 < n
inductive At where | i (j : Int) | t (ys : List Int)
inductive El where | i (j : Int) | t (xs : List At)
def aD : At → D
  | .i j => .int j
  | .t ys => .tup (ys.map D.int)
def eD : El → D
  | .i j => .int j
  | .t xs => .tup (xs.map aD)
def el (p : Int × Int) : El := .t [.i p.1, .i p.2]
@[simp] theorem aD_i (j : Int) : aD (.i j) = .int j := rfl
@[simp] theorem aD_t (ys : List Int) : aD (.t ys) = .tup (ys.map D.int) := rfl
@[simp] theorem eD_i (j : Int) : eD (.i j) = .int j := rfl
@[simp] theorem eD_t (xs : List At) : eD (.t xs) = .tup (xs.map aD) := rfl
@[simp] theorem eD_el (p : Int × Int) : eD (el p) = pr p := rfl
@[simp] theorem imm_aD (a : At) : imm (aD a) = true := by cases a <;> simp
theorem imms_map'' {α : Type} {f : α → D} (h : ∀ x, imm (f x) = true) (xs : List α) : imms (xs.map f) = true := imms_map f h xs
@[simp] theorem imm_eD (a : El) : imm (eD a) = true := by cases a <;> simp [imms_map'' imm_aD]
end
end Zk
namespace Zk
noncomputable section
open PySem PySem.Spec PyProof.Rows L2
instance (n : Nat) (p : Int × Int) : Decidable (inr n p) := by unfold inr; infer_instance
def dU (us : List Int) : D := .dK (us.map fun k => (Sum.inl k, .bl true))
@[simp] theorem imm_dU (m : List Int) : imm (dU m) = false := by simp [dU]
@[simp] theorem flat_dU (m : List Int) : flat (dU m) = true := by
  simp only [dU, flat, List.map_map]
  exact imms_map' (fun _ => by simp) m
theorem valD_u {κ : Type} [DecidableEq κ] (m : List κ) (k : κ) : valD (m.map fun p => (p, D.bl true)) k = if k ∈ m then some (D.bl true) else none := by
  unfold valD
  induction m with
  | nil => rfl
  | cons p m ih =>
    simp only [List.map_cons, List.find?_cons, List.mem_cons]
    by_cases h : p = k
    · subst h; simp
    · have h2 : ¬ k = p := fun e => h e.symm
      simp only [h, decide_false, h2, false_or]
      exact ih
theorem uMap (m : List Int) : (m.map fun k => ((Sum.inl k : Key), D.bl true)) = (m.map fun k => (Sum.inl k : Key)).map fun k => (k, D.bl true) := by rw [List.map_map]; rfl
theorem uMem (m : List Int) (k : Int) : ((Sum.inl k : Key) ∈ m.map fun k => (Sum.inl k : Key)) ↔ k ∈ m := by simp
theorem valD_dU (m : List Int) (k : Int) : valD (m.map fun p => ((Sum.inl p : Key), D.bl true)) (Sum.inl k) = if k ∈ m then some (D.bl true) else none := by
  rw [uMap, valD_u]
  by_cases h : k ∈ m
  · rw [if_pos h, if_pos ((uMem m k).mpr h)]
  · rw [if_neg h, if_neg (fun e => h ((uMem m k).mp e))]
@[simp] theorem look_dU (m : List Int) (k : Int) : look (dU m) (.int k) = some (if k ∈ m then some (D.bl true) else none) := by
  simp only [dU, look, keyOf, Option.map_some, valD_dU]
@[simp] theorem gInA_dU (neg : Bool) (m : List Int) (k : Int) : gInA neg [.int k, dU m] = some (.bl (decide (k ∈ m) ^^ neg), 9) := by
  have e : gInA neg [.int k, dU m] = gInD neg [.int k, dU m] := rfl
  rw [e]
  simp only [gInD, look_dU, Option.map_some]
  by_cases h : k ∈ m <;> simp [h]
end
end Zk
namespace Zk
noncomputable section
open PySem PySem.Spec PyProof.Rows L2
@[simp] theorem imms_eD (es : List El) : imms (es.map eD) = true := imms_map'' imm_eD es
@[simp] theorem imms_aD (es : List At) : imms (es.map aD) = true := imms_map'' imm_aD es
end
end Zk
namespace Zk
noncomputable section
open PySem PySem.Spec PyProof.Rows L2
/-- a pair that the judge takes -/
def tk2 (ns : List Int) (p : Int × Int) : Prop := inr ns.length p ∧ gd ns p.1.toNat ≠ gd ns p.2.toNat
end
end Zk
namespace Zk
noncomputable section
open PySem PySem.Spec PyProof.Rows L2
end
end Zk
namespace Zk
noncomputable section
open PySem PySem.Spec PyProof.Rows L2
def tE (es : List El) : D := .tup (es.map eD)
@[simp] theorem imm_tE (es : List El) : imm (tE es) = true := by simp [tE]
@[simp] theorem imms_tE (T : List (List El)) : imms (T.map tE) = true := imms_map'' imm_tE T
def Few (T : List (List El)) : Prop := (∀ es ∈ T, es.length ≤ 502) ∧ T.length ≤ 100
theorem Few.more {T : List (List El)} {n : Nat} (h : (∀ es ∈ T, es.length ≤ 502) ∧ T.length = n) {U : List (List El)} (hu : ∀ es ∈ U, es.length ≤ 502) : (∀ es ∈ T ++ U, es.length ≤ 502) ∧ (T ++ U).length = n + U.length :=
  ⟨fun es he => (List.mem_append.mp he).elim (h.1 es) (hu es), by rw [List.length_append, h.2]⟩
def ev (ns : List Int) (P : List (Int × Int)) (s : List Int) (T : List (List El)) (k a b q u8 u9 u10 u11 u12 : Option (D × Nat)) : Ev := [some (dr s, 1), some (.tup (ns.map D.int), 0), some (tE (P.map el), 0), some (.lst (T.map tE), 9), k, a, b, q, u8, u9, u10, u11, u12]
end
end Zk
namespace Zk
noncomputable section
open PySem PySem.Spec PyProof.Rows L2
end
end Zk
namespace Zk
noncomputable section
open PySem PySem.Spec PyProof.Rows L2
def S_plusb : Fs := (mRet (mCall none S_fraction (mAc (mAdd (mMul (mIxd (mVar 0) (mC (.int 0))) (mIxd (mVar 1) (mC (.int 1)))) (mMul (mIxd (mVar 1) (mC (.int 0))) (mIxd (mVar 0) (mC (.int 1))))) (mAc (mMul (mIxd (mVar 0) (mC (.int 1))) (mIxd (mVar 1) (mC (.int 1)))) mA0))))
def S_plus : Mir := mDef none 2 S_plusb
def S_sum_ofb : Fs := (mSeq (mSet 1 (mTup (mAc (mC (.int 0)) (mAc (mC (.int 1)) mA0)))) (mSeq (mFor (mSq (mVar 0)) (tgV 2) (mSet 1 (mCall none S_plus (mAc (mVar 1) (mAc (mVar 2) mA0))))) (mRet (mVar 1))))
def S_sum_of : Mir := mDef none 3 S_sum_ofb
end
end Zk
namespace Zk
noncomputable section
open PySem PySem.Spec PyProof.Rows L2
def sg (x i : Nat) : Int := if x / 2 ^ i % 2 = 0 then 1 else -1
def con (m : Nat) (c : Nat → Nat → Int) (p : Nat × Nat) (x : Nat) : Int := if x / 2 ^ (p.1 + 1) = p.2 then sg x p.1 * c p.1 p.2 * 2 ^ (m - 1 - p.1) else 0
/-- places of the rows, each once -/
def Pos (m : Nat) (ps : List (Nat × Nat)) : Prop := (∀ p ∈ ps, p.1 < m ∧ p.2 < 2 ^ (m - 1 - p.1)) ∧ ps.Nodup
end
end Zk
namespace Zk
noncomputable section
open PySem PySem.Spec PyProof.Rows L2
section
variable (m : Nat) (ln : Nat → Nat) (c : Nat → Nat → Int)
end
section
variable {m : Nat} {ln : Nat → Nat} {c : Nat → Nat → Int} {k : Nat}
end
end
end Zk
namespace Zk
noncomputable section
open PySem PySem.Spec PyProof.Rows L2
end
end Zk
namespace Zk
noncomputable section
open PySem PySem.Spec PyProof.Rows L2
def hsum (h : Int → Int) (st : List (Int × Int)) : Int := (st.map fun p => h p.1 * p.2).sum
@[simp] theorem hsum_nil (h : Int → Int) : hsum h [] = 0 := rfl
end
end Zk
namespace Zk
noncomputable section
open PySem PySem.Spec PyProof.Rows L2
def Td (T : List (List Nat)) (r : Nat) : List Nat := T.getD r []
def Vt (F : Fd) (T : List (List Nat)) (r k : Nat) : Nat := F.val (Td T r) k
def ind (F : Fd) (T : List (List Nat)) (r b : Nat) (k : Int) : Int := if Vt F T r k.toNat = b then 1 else 0
/-- rows of draws over the field -/
def Tok (F : Fd) (T : List (List Nat)) : Prop := ∀ cs ∈ T, ∀ c ∈ cs, c < F.n
section
variable {p : Nat} {T : List (List Nat)}
theorem nat_of {k : Int} (h : 0 ≤ k) : ∃ n : Nat, k = (n : Int) := Int.eq_ofNat_of_zero_le h
end
end
end Zk
namespace Zk
noncomputable section
open PySem PySem.Spec PyProof.Rows L2
section
variable {p : Nat} {T : List (List Nat)}
end
end
end Zk
namespace Zk
noncomputable section
open PySem PySem.Spec PyProof.Rows L2
section
variable {p : Nat} {T : List (List Nat)}
end
end
end Zk
namespace Zk
noncomputable section
open PySem PySem.Spec PyProof.Rows L2
end
end Zk
namespace Zk
noncomputable section
open PySem PySem.Spec PyProof.Rows L2
def tkv (g : Nat → Int) : Nat → Nat
  | 0 => 0
  | n + 1 => tkv g n + if g 0 < 2 * g (n + 1) then 2 ^ n else 0
section
variable {n : Nat} {g : Nat → Int}
end
end
end Zk
namespace Zk
noncomputable section
open PySem PySem.Spec PyProof.Rows L2
/-- what a key adds to the part x of the cell c of row r -/
def hb (F : Fd) (T : List (List Nat)) (w r c x : Nat) (k : Int) : Int := if Vt F T r k.toNat % w = c then (if x = 0 then 1 else ((k.toNat / 2 ^ (x - 1) % 2 : Nat) : Int)) else 0
section
variable {p n w : Nat} {T : List (List Nat)}
end
end
end Zk
namespace Zk
noncomputable section
open PySem PySem.Spec PyProof.Rows L2
section
variable {F : Fd} {T : List (List Nat)} {w n r : Nat} {st : List (Int × Int)}
end
end
end Zk
namespace Zk
noncomputable section
open PySem PySem.Spec PyProof.Rows L2
section
variable {p n w : Nat} {T : List (List Nat)}
end
end
end Zk
namespace Zk
noncomputable section
open PySem PySem.Spec PyProof.Rows L2
section
variable {p n w : Nat} {T : List (List Nat)}
/-- the cell of a key in row r -/
def ccl (F : Fd) (T : List (List Nat)) (w : Nat) (G : Nat → Nat → Nat → Int) (r k : Nat) : Nat → Int := G r (Vt F T r k % w)
/-- a row's own cell tells the key -/
def tells (F : Fd) (T : List (List Nat)) (w n : Nat) (G : Nat → Nat → Nat → Int) (r k : Nat) : Bool := decide (ccl F T w G r k 0 ≠ 0 ∧ tkv (ccl F T w G r k) n = k)
theorem enD_rows (w : Nat) (f : Nat → D) : enD 0 ((List.range w).map f) = (List.range w).map fun c : Nat => D.tup [.int (c : Int), f c] := by
  apply List.ext_getElem?
  intro i
  rw [enD_get, List.getElem?_map, List.getElem?_map]
  by_cases h : i < w
  · rw [List.getElem?_range h]; simp
  · rw [List.getElem?_eq_none (show (List.range w).length ≤ i by simpa using h)]; simp
end
end
end Zk
namespace Zk
noncomputable section
open PySem PySem.Spec PyProof.Rows L2
end
end Zk
namespace Zk
noncomputable section
open PySem PySem.Spec PyProof.Rows L2
abbrev Sg := List (List Nat × List Nat)
section
variable {m w : Nat} {T : Sg}
end
end
end Zk
namespace Zk
noncomputable section
open PySem PySem.Spec PyProof.Rows L2
theorem W_tg2 {a b : D} {i j : Nat} {E : Ev} {Q : Ev → Prop} (hi : i < E.length) (hj : j < E.length) (h : Q ((E.set i (some (a, 0))).set j (some (b, 0)))) : W (tgT 2 (tgC (tgV i) (tgC (tgV j) tgN)) (.tup [a, b]) E) Q :=
  W_tgT.mpr ⟨rfl, W_tgC.mpr (W_tgV.mpr ⟨hi, W_tgC.mpr (W_tgV.mpr ⟨by rw [List.length_set]; exact hj, W_tgN.mpr h⟩)⟩)⟩
section
variable {m w : Nat} {T : Sg}
end
end
end Zk
namespace Zk
noncomputable section
open PySem PySem.Spec PyProof.Rows L2
theorem imms_tNs (l : List (List Nat)) : imms (l.map tN) = true := imms_map' imm_tN _
theorem lev_tNs (l : List (List Nat)) : lev (l.map tN) = 9 := by unfold lev; rw [imms_tNs]; rfl
end
end Zk
namespace Zk
noncomputable section
open PySem PySem.Spec PyProof.Rows L2
/-- streams of drawn counts with keys below 2 ** m -/
def Sst (m : Nat) (st : List (Int × Int)) : Prop := st.length ≤ 1000 ∧ ∀ q ∈ st, (0 ≤ q.1 ∧ q.1 < 2 ^ m) ∧ q.2.natAbs ≤ 2 ^ 134
section
variable {m w : Nat} {T : Sg} {st : List (Int × Int)}
theorem Sst.b (h : Sst m st) : ∀ q ∈ st, q.2.natAbs < big := fun q hq => abs_big (h.2 q hq).2 (by decide)
theorem Sst.keys (h : Sst m st) : ∀ q ∈ st, 0 ≤ q.1 ∧ q.1 < 2 ^ m := fun q hq => (h.2 q hq).1
theorem Sst.of {ks : List Int} (hl : st.length ≤ 1000) (hk : ∀ k ∈ ks, 0 ≤ k ∧ k < 2 ^ m) (h : ∀ p ∈ st, p.1 ∈ ks ∧ -cMax ≤ p.2 ∧ p.2 ≤ cMax ∧ p.2 ≠ 0) : Sst m st := ⟨hl, fun q hq => ⟨hk _ (h q hq).1, by
  have e3 : cMax = 10000000000000000000000000000000000000121 := rfl
  obtain ⟨_, a, b, _⟩ := h q hq
  rw [e3] at a b
  have : 10000000000000000000000000000000000000121 ≤ 2 ^ 134 := by decide
  omega⟩⟩
theorem Sst.sub (h : Sst m st) {a : List (Int × Int)} (hl : a.length ≤ st.length) (hs : ∀ q ∈ a, q ∈ st) : Sst m a := ⟨by have := h.1; omega, fun q hq => h.2 q (hs q hq)⟩
end
end
end Zk
namespace Zk
noncomputable section
open PySem PySem.Spec PyProof.Rows L2
end
end Zk
namespace Zk
noncomputable section
def lsum {α : Type} (l : List α) (f : α → Int) : Int := (l.map f).sum
section
variable {α β : Type}
@[simp] theorem lsum_nil (f : α → Int) : lsum [] f = 0 := rfl
@[simp] theorem lsum_cons (a : α) (l : List α) (f : α → Int) : lsum (a :: l) f = f a + lsum l f := by simp [lsum]
theorem lsum_app (a b : List α) (f : α → Int) : lsum (a ++ b) f = lsum a f + lsum b f := by simp [lsum]
theorem lsum_ext {l : List α} {f g : α → Int} (h : ∀ x ∈ l, f x = g x) : lsum l f = lsum l g := by unfold lsum; rw [List.map_congr_left h]
theorem lsum_add (l : List α) (f g : α → Int) : lsum l (fun x => f x + g x) = lsum l f + lsum l g := by
  induction l with
  | nil => rfl
  | cons a l ih => simp only [lsum_cons, ih]; omega
theorem lsum_sub (l : List α) (f g : α → Int) : lsum l (fun x => f x - g x) = lsum l f - lsum l g := by
  induction l with
  | nil => rfl
  | cons a l ih => simp only [lsum_cons, ih]; omega
theorem lsum_mul (l : List α) (c : Int) (f : α → Int) : lsum l (fun x => c * f x) = c * lsum l f := by
  induction l with
  | nil => simp
  | cons a l ih => simp only [lsum_cons, ih, Int.mul_add]
theorem lsum_zero (l : List α) : lsum l (fun _ => 0) = 0 := by
  induction l with
  | nil => rfl
  | cons a l ih => simp [ih]
theorem lsum_map (l : List β) (h : β → α) (f : α → Int) : lsum (l.map h) f = lsum l fun x => f (h x) := by simp [lsum, List.map_map, Function.comp_def]
end
section
variable {m : Nat}
def dl (i j : Nat) : Int := if i = j then 1 else 0
def d4 (a b c d : Nat) : Int := dl a b * dl c d + dl a c * dl b d + dl a d * dl b c - 2 * (dl a b * dl a c * dl a d)
end
end
end Zk
namespace Zk
noncomputable section
abbrev Nl := List (Nat × Int)
def Kb (m : Nat) (l : Nl) : Prop := ∀ p ∈ l, p.1 < 2 ^ m
def Nd (l : Nl) : Prop := (l.map (·.1)).Nodup
theorem dl_ne {a b : Nat} (h : a ≠ b) : dl a b = 0 := if_neg h
theorem dl_self (a : Nat) : dl a a = 1 := if_pos rfl
theorem lsum_off {l : Nl} {k : Nat} (h : k ∉ l.map (·.1)) (g : Nat × Int → Int) : lsum l (fun q => dl k q.1 * g q) = 0 := by
  rw [← lsum_zero l]
  exact lsum_ext fun q hq => by rw [dl_ne (fun e => h (by rw [e]; exact List.mem_map_of_mem hq)), Int.zero_mul]
theorem lsum_pick {l : Nl} (nd : Nd l) {p : Nat × Int} (hp : p ∈ l) (g : Nat × Int → Int) : lsum l (fun q => dl p.1 q.1 * g q) = g p := by
  induction l with
  | nil => exact absurd hp (by simp)
  | cons a l ih =>
    obtain ⟨n1, n2⟩ := List.nodup_cons.mp nd
    rw [lsum_cons]
    rcases List.mem_cons.mp hp with rfl | h
    · rw [dl_self, lsum_off n1]; omega
    · rw [ih n2 h, dl_ne (fun e => n1 (by have t : p.1 ∈ l.map (·.1) := List.mem_map_of_mem h; rw [e] at t; exact t))]; omega
section
variable {m : Nat}
def F2 (l : Nl) : Int := lsum l fun p => p.2 * p.2
def F4 (l : Nl) : Int := lsum l fun p => p.2 * p.2 * (p.2 * p.2)
theorem in4 {l : Nl} (nd : Nd l) {p q r : Nat × Int} (hp : p ∈ l) (hq : q ∈ l) (hr : r ∈ l) : lsum l (fun s => d4 p.1 q.1 r.1 s.1 * s.2) = dl p.1 q.1 * r.2 + dl p.1 r.1 * q.2 + dl q.1 r.1 * p.2 - 2 * (dl p.1 q.1 * dl p.1 r.1 * p.2) := by
  have e : ∀ s : Nat × Int, d4 p.1 q.1 r.1 s.1 * s.2 = dl p.1 q.1 * (dl r.1 s.1 * s.2) + dl p.1 r.1 * (dl q.1 s.1 * s.2) + dl q.1 r.1 * (dl p.1 s.1 * s.2) - 2 * (dl p.1 q.1 * dl p.1 r.1) * (dl p.1 s.1 * s.2) := fun s => by
    unfold d4
    rw [Int.sub_mul, Int.add_mul, Int.add_mul]
    simp only [Int.mul_assoc, Int.mul_comm, Int.mul_left_comm]
  rw [lsum_ext fun s _ => e s, lsum_sub, lsum_add, lsum_add, lsum_mul, lsum_mul, lsum_mul, lsum_mul, lsum_pick nd hr (·.2), lsum_pick nd hq (·.2), lsum_pick nd hp (·.2)]
  simp only [Int.mul_assoc]
theorem in3 {l : Nl} (nd : Nd l) {p q : Nat × Int} (hp : p ∈ l) (hq : q ∈ l) : lsum l (fun r => r.2 * lsum l fun s => d4 p.1 q.1 r.1 s.1 * s.2) = dl p.1 q.1 * F2 l + 2 * (p.2 * q.2) - 2 * (dl p.1 q.1 * (p.2 * p.2)) := by
  have e : ∀ r ∈ l, (r.2 * lsum l fun s => d4 p.1 q.1 r.1 s.1 * s.2) = dl p.1 q.1 * (r.2 * r.2) + q.2 * (dl p.1 r.1 * r.2) + p.2 * (dl q.1 r.1 * r.2) - 2 * (dl p.1 q.1 * p.2) * (dl p.1 r.1 * r.2) := fun r hr => by
    rw [in4 nd hp hq hr]
    simp only [Int.mul_sub, Int.mul_add, Int.mul_assoc, Int.mul_comm, Int.mul_left_comm]
  rw [lsum_ext e, lsum_sub, lsum_add, lsum_add, lsum_mul, lsum_mul, lsum_mul, lsum_mul, lsum_pick nd hp (·.2), lsum_pick nd hq (·.2)]
  show dl p.1 q.1 * F2 l + q.2 * p.2 + p.2 * q.2 - 2 * (dl p.1 q.1 * p.2) * p.2 = _
  rw [Int.mul_comm q.2 p.2, Int.mul_assoc 2, Int.mul_assoc (dl p.1 q.1)]
  omega
theorem in2 {l : Nl} (nd : Nd l) {p : Nat × Int} (hp : p ∈ l) : lsum l (fun q => q.2 * lsum l fun r => r.2 * lsum l fun s => d4 p.1 q.1 r.1 s.1 * s.2) = 3 * (p.2 * F2 l) - 2 * (p.2 * (p.2 * p.2)) := by
  have e : ∀ q ∈ l, (q.2 * lsum l fun r => r.2 * lsum l fun s => d4 p.1 q.1 r.1 s.1 * s.2) = F2 l * (dl p.1 q.1 * q.2) + 2 * p.2 * (q.2 * q.2) - 2 * (p.2 * p.2) * (dl p.1 q.1 * q.2) := fun q hq => by
    rw [in3 nd hp hq]
    simp only [Int.mul_sub, Int.mul_add, Int.mul_assoc, Int.mul_comm, Int.mul_left_comm]
  rw [lsum_ext e, lsum_sub, lsum_add, lsum_mul, lsum_mul, lsum_mul, lsum_pick nd hp (·.2)]
  show F2 l * p.2 + 2 * p.2 * F2 l - 2 * (p.2 * p.2) * p.2 = _
  rw [Int.mul_comm (F2 l), Int.mul_assoc 2, Int.mul_assoc 2, Int.mul_assoc p.2]
  omega
theorem in1 {l : Nl} (nd : Nd l) : lsum l (fun p => p.2 * lsum l fun q => q.2 * lsum l fun r => r.2 * lsum l fun s => d4 p.1 q.1 r.1 s.1 * s.2) = 3 * (F2 l * F2 l) - 2 * F4 l := by
  have e : ∀ p ∈ l, (p.2 * lsum l fun q => q.2 * lsum l fun r => r.2 * lsum l fun s => d4 p.1 q.1 r.1 s.1 * s.2) = 3 * F2 l * (p.2 * p.2) - 2 * (p.2 * p.2 * (p.2 * p.2)) := fun p hp => by
    rw [in2 nd hp]
    simp only [Int.mul_sub, Int.mul_assoc, Int.mul_comm, Int.mul_left_comm]
  rw [lsum_ext e, lsum_sub, lsum_mul, lsum_mul]
  show 3 * F2 l * F2 l - 2 * F4 l = _
  rw [Int.mul_assoc]
end
end
end Zk
namespace Zk
noncomputable section
open PySem PySem.Spec PyProof.Rows L2
abbrev iN (c : Nat) : D := .int (c : Int)
section
variable {m : Nat} {st : List (Int × Int)}
theorem Sst.nat (h : Sst m st) {q : Int × Int} (hq : q ∈ st) : ∃ k : Nat, q.1 = (k : Int) ∧ k < 2 ^ m := by
  obtain ⟨k, hk⟩ := nat_of (h.keys q hq).1
  refine ⟨k, hk, ?_⟩
  have := (h.keys q hq).2
  rw [hk] at this
  exact Int.ofNat_lt.mp (by rw [Int.natCast_pow]; exact this)
theorem Sst.natc (h : Sst m st) {q : Int × Int} (hq : q ∈ cof st) : ∃ k : Nat, q.1 = (k : Int) ∧ k < 2 ^ m := by
  obtain ⟨q', hq', e⟩ := cof_keys hq
  rw [← e]
  exact h.nat hq'
end
end
end Zk
namespace Zk
noncomputable section
open PySem PySem.Spec PyProof.Rows L2
section
variable {E E0 E0' : Ev} {it it2 : Fi} {g g2 : Fg} {c c2 : Ft} {f : Fe} {is is2 : List Nat} {Qe : Op × Ev → Prop} {Q : List (D × Nat) × Ev → Prop} {α β : Type}
end
section
variable {m : Nat} {st : List (Int × Int)}
def nl (st : List (Int × Int)) : Nl := (cof st).map fun q => (q.1.toNat, q.2)
theorem Sst.kb (h : Sst m st) : Kb m (nl st) := fun p hp => by
  obtain ⟨q, hq, rfl⟩ := List.mem_map.mp hp
  obtain ⟨k, hk, kl⟩ := h.natc hq
  show q.1.toNat < 2 ^ m
  rw [hk, Int.toNat_natCast]; exact kl
theorem Sst.nd (h : Sst m st) : Nd (nl st) := by
  have n1 := cof_nodup st
  unfold Nd nl
  rw [List.map_map]
  refine List.pairwise_map.mpr ?_
  have n2 := List.pairwise_map.mp n1
  refine n2.imp_of_mem fun {a b} ha hb hab => ?_
  obtain ⟨k, hk, kl⟩ := h.natc ha
  obtain ⟨k', hk', kl'⟩ := h.natc hb
  show a.1.toNat ≠ b.1.toNat
  omega
end
end
end Zk
namespace Zk
noncomputable section
open PySem PySem.Spec PyProof.Rows L2
section
variable {m : Nat} {st ot : List (Int × Int)}
theorem Sst.cb (hs : Sst m st) : CB st := fun q hq => Nat.le_trans (hs.2 q hq).2 (Nat.pow_le_pow_right (by decide) (by decide))
end
end
end Zk
namespace Zk
noncomputable section
open PySem PySem.Spec PyProof.Rows L2
section
variable {m : Nat} {st ot : List (Int × Int)}
end
end
end Zk
namespace Zk
noncomputable section
open PySem PySem.Spec PyProof.Rows L2
end
end Zk
namespace Zk
noncomputable section
open PySem PySem.Spec PyProof.Rows L2
/-- a dict m tells the sums of the pairs -/
def TabOf (m st : List (Int × Int)) : Prop := (keysI m).Nodup ∧ (∀ k, k ∈ keysI m ↔ k ∈ keysI st) ∧ (∀ k, (getI m k).getD 0 = ksum st k) ∧ m.length ≤ st.length
theorem TabOf.nil : TabOf [] [] := ⟨by simp [keysI], by simp, fun k => rfl, by simp⟩
def hkeys (st : List (Int × Int)) : List Int := srt (st.map (·.1)).eraseDups
theorem TabOf.srt {m st : List (Int × Int)} (h : TabOf m st) : Zk.srt (m.map (·.1)) = hkeys st := by
  have pm : (keysI m).Perm (st.map (·.1)).eraseDups := (List.perm_ext_iff_of_nodup h.1 (nodup_eraseDups _)).mpr fun k => by rw [List.mem_eraseDups]; exact h.2.1 k
  exact srt_perm_eq pm
theorem hkeys_mem {st : List (Int × Int)} {k : Int} : k ∈ hkeys st ↔ k ∈ st.map (·.1) := by unfold hkeys; rw [srt_mem, List.mem_eraseDups]
theorem TabOf.get {m st : List (Int × Int)} (h : TabOf m st) {k : Int} (hk : k ∈ hkeys st) : getI m k = some (ksum st k) := by
  have hk2 : k ∈ keysI m := (h.2.1 k).mpr (hkeys_mem.mp hk)
  obtain ⟨v, hv⟩ := get_some (m := m) hk2
  have := h.2.2.1 k
  rw [hv] at this ⊢
  simpa using this
/-- the same things as often -/
def Leq (a b : List Nat) : Prop := ∀ g : Nat → Int, lsum a g = lsum b g
theorem Leq.refl (a : List Nat) : Leq a a := fun _ => rfl
theorem Leq.trans {a b c : List Nat} (h : Leq a b) (h2 : Leq b c) : Leq a c := fun g => (h g).trans (h2 g)
def dbl (l : List Nat) (q : Nat) : List Nat := l ++ l.map fun r => r ^^^ q
theorem dbl_sum (l : List Nat) (q : Nat) (g : Nat → Int) : lsum (dbl l q) g = lsum l g + lsum l fun r => g (r ^^^ q) := by rw [dbl, lsum_app, lsum_map]
theorem Leq.dbl {a b : List Nat} (h : Leq a b) (q : Nat) : Leq (dbl a q) (dbl b q) := fun g => by rw [dbl_sum, dbl_sum, h, h]
theorem Leq.foldl {a b : List Nat} (h : Leq a b) (qs : List Nat) : Leq (qs.foldl Zk.dbl a) (qs.foldl Zk.dbl b) := by
  induction qs generalizing a b with
  | nil => exact h
  | cons q qs ih => exact ih (h.dbl q)
/-- a list of numbers that holds 0 and all xors, each once -/
def Sub (s : List Nat) : Prop := s.Nodup ∧ 0 ∈ s ∧ ∀ a ∈ s, ∀ b ∈ s, a ^^^ b ∈ s
theorem xor_cancel (a b : Nat) : a ^^^ b ^^^ b = a := by rw [Nat.xor_assoc, Nat.xor_self, Nat.xor_zero]
theorem xor_inj {a b q : Nat} (h : a ^^^ q = b ^^^ q) : a = b := by rw [← xor_cancel a q, h, xor_cancel]
theorem nodup_mapx {s : List Nat} (h : s.Nodup) (q : Nat) : (s.map fun r => r ^^^ q).Nodup := List.pairwise_map.mpr (h.imp fun {a b} hab e => hab (xor_inj e))
def spnS (s : List Nat) (q : Nat) : List Nat := if q ∈ s then s else dbl s q
theorem Sub.step {s : List Nat} (h : Sub s) (q : Nat) : Sub (spnS s q) := by
  unfold spnS
  split
  · exact h
  · rename_i hq
    refine ⟨?_, ?_, ?_⟩
    · unfold dbl
      rw [List.nodup_append]
      refine ⟨h.1, nodup_mapx h.1 q, fun a ha b hb e => ?_⟩
      obtain ⟨r, hr, rfl⟩ := List.mem_map.mp hb
      subst e
      have := h.2.2 _ ha _ hr
      rw [Nat.xor_comm r q, Nat.xor_assoc, Nat.xor_self, Nat.xor_zero] at this
      exact hq this
    · exact List.mem_append.mpr (.inl h.2.1)
    · intro a ha b hb
      unfold dbl at ha hb ⊢
      have key : ∀ x y, x ^^^ q ^^^ (y ^^^ q) = x ^^^ y := fun x y => by rw [Nat.xor_comm y q, ← Nat.xor_assoc, xor_cancel]
      rcases List.mem_append.mp ha with ha | ha <;> rcases List.mem_append.mp hb with hb | hb
      · exact List.mem_append.mpr (.inl (h.2.2 a ha b hb))
      · obtain ⟨r, hr, rfl⟩ := List.mem_map.mp hb
        exact List.mem_append.mpr (.inr (List.mem_map.mpr ⟨a ^^^ r, h.2.2 a ha r hr, Nat.xor_assoc a r q⟩))
      · obtain ⟨r, hr, rfl⟩ := List.mem_map.mp ha
        exact List.mem_append.mpr (.inr (List.mem_map.mpr ⟨r ^^^ b, h.2.2 r hr b hb, by show r ^^^ b ^^^ q = r ^^^ q ^^^ b; rw [Nat.xor_assoc, Nat.xor_comm b q, Nat.xor_assoc]⟩))
      · obtain ⟨r, hr, rfl⟩ := List.mem_map.mp ha
        obtain ⟨t, ht, rfl⟩ := List.mem_map.mp hb
        show r ^^^ q ^^^ (t ^^^ q) ∈ _
        rw [key]
        exact List.mem_append.mpr (.inl (h.2.2 r hr t ht))
theorem sub_zero : Sub [0] := ⟨by simp, by simp, by simp⟩
end
end Zk
namespace Zk
noncomputable section
open PySem PySem.Spec PyProof.Rows L2
theorem gInA_nats (neg : Bool) (q : Nat) (l : List Nat) : gInA neg [.int (q : Int), .lst (l.map iN)] = some (.bl (decide (q ∈ l) ^^ neg), 9) := by
  have e : l.map iN = (l.map fun c : Nat => (c : Int)).map D.int := by rw [List.map_map]; rfl
  rw [e, gInA_ints]
  have : ((q : Int) ∈ l.map fun c : Nat => (c : Int)) ↔ q ∈ l := by
    constructor
    · intro h
      obtain ⟨c, hc, e⟩ := List.mem_map.mp h
      have : c = q := by omega
      exact this ▸ hc
    · intro h
      exact List.mem_map.mpr ⟨q, h, rfl⟩
  simp only [this]
section
variable {m : Nat} {st ot : List (Int × Int)}
end
end
end Zk
namespace Zk
noncomputable section
open PySem PySem.Spec PyProof.Rows L2
end
end Zk
namespace Zk
noncomputable section
open PySem PySem.Spec PyProof.Rows L2
end
end Zk
namespace Zk
noncomputable section
open PySem PySem.Spec PyProof.Rows L2
def qsum (qs : List Rat) : Rat := qs.foldl (· + ·) 0
theorem qsum_app (a : List Rat) (q : Rat) : qsum (a ++ [q]) = qsum a + q := by simp [qsum]
theorem plus_W {f g : Rat} {a b c e : Nat} (hf : szR a b f) (hg : szR c e g) (ha : a ≤ 8000) (hb : b ≤ 3900) (hc : c ≤ 8000) (he : e ≤ 3900) : S_plus [fr f, fr g] = some (fr (f + g), 9, .non) := by
  have go : W (S_plus [fr f, fr g]) fun r => r = (fr (f + g), 9, .non) := by
    refine W_O fun Q' hQ => ?_
    unfold S_plus S_plusb
    have n1 := abs_big hf.1 ha
    have n2 := abs_big hg.1 hc
    have d1 : f.den < big := abs_big (i := (f.den : Int)) (k := b) hf.2 (by omega)
    have d2 : g.den < big := abs_big (i := (g.den : Int)) (k := e) hg.2 (by omega)
    have dd : ((f.den : Int) * g.den).natAbs < 2 ^ 8000 := by
      have := mul_abs (x := (f.den : Int)) (y := (g.den : Int)) hf.2 hg.2
      exact Nat.lt_of_le_of_lt this (Nat.pow_lt_pow_right (by decide) (by omega))
    have fe := fraction_eq (n := f.num * g.den + g.num * f.den) (den_mul_ne f g) dd
    rw [add_div] at fe
    have x0 : ∀ q : Rat, gIxd [fr q, .int 0] = some (.int q.num, 0) := fun q => rfl
    have x1 : ∀ q : Rat, gIxd [fr q, .int 1] = some (.int q.den, 0) := fun q => rfl
    simp (disch := first | assumption | (simp; done) | omega) [ent0_def, dem1, n1, n2, d1, d2, fe, x0, x1]
    exact hQ _ rfl
  obtain ⟨r, e, rfl⟩ := go
  exact e
theorem sum_of_W {qs : List Rat} (d : D) (hd : d = .lst (qs.map fr) ∨ d = .tup (qs.map fr)) (hp : ∀ a b, qs = a ++ b → szR 8000 3900 (qsum a)) (he : ∀ q ∈ qs, szR 8000 3900 q) : S_sum_of [d] = some (fr (qsum qs), 9, .non) := by
  have go : W (S_sum_of [d]) fun r => r = (fr (qsum qs), 9, .non) := by
    refine W_O fun Q' hQ => ?_
    unfold S_sum_of S_sum_ofb
    have f0 : D.tup [.int 0, .int 1] = fr (qsum []) := rfl
    rcases hd with rfl | rfl
    all_goals
      simp (disch := first | assumption | (simp; done) | omega) [ent0_def, f0]
      refine W_forXO (I := fun a E => ∃ (l : Nat) (u : Option (D × Nat)) (x : Option (D × Nat)), E = [x, some (fr (qsum a), l), u]) ⟨_, _, _, rfl⟩ (fun a q b E I' e hE hI => ?_) fun E hE => ?_
      · obtain ⟨l, u, x, rfl⟩ := hE
        have pe := plus_W (hp a (q :: b) e) (he q (by rw [e]; simp)) (by decide) (by decide) (by decide) (by decide)
        simp (disch := first | assumption | (simp; done) | omega) [dem1, pe]
        exact hI _ ⟨9, _, _, by rw [qsum_app]⟩
      · obtain ⟨l, u, x, rfl⟩ := hE
        simp (disch := first | assumption | (simp; done) | omega) []
        exact hQ _ rfl
  obtain ⟨r, e, rfl⟩ := go
  exact e
end
end Zk
namespace Zk
noncomputable section
open PySem PySem.Spec PyProof.Rows L2
section
variable {size : Int} {m : Nat} {c : Nat → Nat → Int} {ps : List (Nat × Nat)}
end
end
end Zk
namespace Zk
noncomputable section
open PySem PySem.Spec PyProof.Rows L2
section
variable {m : Nat} {st ot : List (Int × Int)}
end
end
end Zk
namespace Zk
noncomputable section
open PySem PySem.Spec PyProof.Rows L2
section
variable {m : Nat} {st ot : List (Int × Int)}
end
end
end Zk
namespace Zk
noncomputable section
open PySem PySem.Spec PyProof.Rows L2
end
end Zk
namespace Zk
noncomputable section
open PySem PySem.Spec PyProof.Rows L2
section
variable {p m w : Nat} {st : List (Int × Int)} {Tb : Nat → List (List Nat)}
end
end
end Zk
namespace Zk
open PySem PySem.Spec PyProof.Rows L2
/-- slots that may hold anything -/
def AllU : List Nat → (Ev → Prop) → Ev → Prop
  | [], P, E => P E
  | i :: is, P, E => ∀ v : Option (D × Nat), AllU is P (E.set i v)
def sets : List (Nat × Option (D × Nat)) → Ev → Ev
  | [], E => E
  | p :: r, E => sets r (E.set p.1 p.2)
def ExU : List Nat → (Ev → Prop) → Ev → Prop
  | [], P, E => P E
  | i :: is, P, E => ∃ v : Option (D × Nat), ExU is P (E.set i v)
theorem ex_all {P R : Ev → Prop} : ∀ {ws : List Nat} {E : Ev}, AllU ws P E → ExU ws R E → ∃ E1, P E1 ∧ R E1
  | [], E, h, r => ⟨E, h, r⟩
  | _ :: _, _, h, ⟨v, r⟩ => ex_all (h v) r
theorem all_of {P : Ev → Prop} : ∀ {ws : List Nat} {E : Ev}, (∀ E1, ExU ws (fun E => E = E1) E → P E1) → AllU ws P E
  | [], E, h => h E rfl
  | _ :: _, _, h => fun v => all_of fun E1 x => h E1 ⟨v, x⟩
theorem set_ex {E : Ev} {i : Nat} : ∃ v, E.set i v = E := by
  by_cases h : i < E.length
  · exact ⟨E[i], by simp⟩
  · exact ⟨none, List.set_eq_of_length_le (by omega)⟩
theorem ex_refl : ∀ (ws : List Nat) (E : Ev), ExU ws (fun E' => E' = E) E
  | [], E => rfl
  | i :: ws, E => by
    obtain ⟨v, e⟩ := set_ex (E := E) (i := i)
    refine ⟨v, ?_⟩
    rw [e]
    exact ex_refl ws E
theorem W_seqK {s t : Fs} {E : Ev} {Q : Fl × Ev → Prop} (h : ∀ K : Ev → Prop, (∀ E1, W (t E1) Q → K E1) → W (s E) fun p => p.1 = .nx ∧ K p.2) : W (mSeq s t E) Q :=
  W_seqJ (fun E => W (t E) Q) (h _ fun _ h => h) fun _ h => h
theorem W_end {s : Fs} {E : Ev} {Q : Fl × Ev → Prop} (h : W (mSeq s mNx E) Q) : W (s E) Q := by
  rw [W_seq] at h
  refine h.mono fun p hp => ?_
  obtain ⟨fl, E1⟩ := p
  cases fl with
  | nx => exact W_nx.mp hp
  | _ => exact hp
@[simp] theorem imms_mapS {α : Type} {f : α → D} {xs : List α} (h : ∀ x, imm (f x) = true) : imms (xs.map f) = true := imms_map' h xs
@[simp] theorem upl_immS {n m : Nat} {d e : D} (h : imm e = true) : upl n d e m = n := upl_imm h
@[simp] theorem atI_z {α : Type} {x : α} {l : List α} : atI (x :: l) 0 = some x := by
  unfold atI
  rw [ixN_ok (by decide) (by simp)]; rfl
theorem atI_s {α : Type} {x : α} {l : List α} {i : Int} (h : 0 < i) : atI (x :: l) i = if i ≤ l.length then l[(i - 1).toNat]? else atI (x :: l) i := by
  split
  · unfold atI
    rw [ixN_ok (by omega) (by simp; omega), Option.bind_some]
    obtain ⟨j, rfl⟩ : ∃ j : Nat, i = ((j + 1 : Nat) : Int) := ⟨(i - 1).toNat, by omega⟩
    rw [Int.toNat_natCast, List.getElem?_cons_succ]
    congr 1
    omega
  · rfl
@[simp] theorem atI_1 {α : Type} {x y : α} {l : List α} : atI (x :: y :: l) 1 = some y := by
  rw [atI_s (by decide), if_pos (by simp; omega)]; rfl
@[simp] theorem atI_2 {α : Type} {x y z : α} {l : List α} : atI (x :: y :: z :: l) 2 = some z := by
  rw [atI_s (by decide), if_pos (by simp; omega)]; rfl
@[simp] theorem atI_3 {α : Type} {x y z w : α} {l : List α} : atI (x :: y :: z :: w :: l) 3 = some w := by
  rw [atI_s (by decide), if_pos (by simp; omega)]; rfl
@[simp] theorem seqD_tI (xs : List Int) : seqD (tI xs) = some (xs.map D.int) := rfl
theorem dvN (s : List Int) (n : Int) (h : 0 < n) : ∃ v : Nat, dv s n = (v : Int) ∧ (v : Int) < n := by
  refine ⟨(dv s n).toNat, ?_, ?_⟩
  · have := dv_nn (s := s) h; omega
  · have := dv_lt (s := s) h; have := dv_nn (s := s) h; omega
def StpG (I' : Ev → Prop) (X : Fl × Ev → Prop) (q : Fl × Ev) : Prop := match q.1 with
  | .nx => I' q.2 | .ct => I' q.2 | .bk => X (.nx, q.2) | .rt d n => X (.rt d n, q.2)
section
variable {I' : Ev → Prop} {X : Fl × Ev → Prop} {E : Ev} {d : D} {n : Nat}
@[simp ↓] theorem StpG_nx : StpG I' X (.nx, E) ↔ I' E := Iff.rfl
@[simp ↓] theorem StpG_ct : StpG I' X (.ct, E) ↔ I' E := Iff.rfl
@[simp ↓] theorem StpG_bk : StpG I' X (.bk, E) ↔ X (.nx, E) := Iff.rfl
@[simp ↓] theorem StpG_rt : StpG I' X (.rt d n, E) ↔ X (.rt d n, E) := Iff.rfl
end
section
variable {it : Fi} {g : Fg} {body rest : Fs} {E : Ev} {Q : Fl × Ev → Prop}
theorem W_forSx {α γ : Type} (E1 : Ev) (xs : List α) (ι : α → D) (ws : List Nat) (S : γ → List α → List (Nat × Option (D × Nat))) (P : γ → List α → Prop) (c0 : γ)
    (hi : W (it E) fun p => p.1 = xs.map ι ∧ p.2 = E1) (hE : sets (S c0 []) E1 = E1) (h0 : P c0 [])
    (st : ∀ (X : Fl × Ev → Prop), (∀ E, W (rest E) Q → X (.nx, E)) → (∀ d n E, Q (.rt d n, E) → X (.rt d n, E)) → ∀ (c : γ) (a : List α) (x : α) (b : List α) (I' : Ev → Prop), xs = a ++ x :: b → P c a → (∀ c', P c' (a ++ [x]) → AllU ws I' (sets (S c' (a ++ [x])) E1)) →
      AllU ws (fun E => W (g (ι x) E) fun E2 => W (body E2) (StpG I' X)) (sets (S c a) E1))
    (fin : ∀ c, P c xs → AllU ws (fun E => W (rest E) Q) (sets (S c xs) E1)) : W (mSeq (mFor it g body) rest E) Q := by
  let X : Fl × Ev → Prop := fun q => (match q.1 with | .nx => W (rest q.2) Q | fl => Q (fl, q.2))
  have go : W (mFor it g body E) X := by
    rw [W_for]
    refine hi.mono fun p hp => ?_
    obtain ⟨its, E'⟩ := p
    obtain ⟨e1, e2⟩ := hp
    simp only at e1 e2
    subst e1 e2
    refine W_forX (I := fun a E => ∃ c, P c a ∧ ExU ws (fun E2 => E2 = E) (sets (S c a) E')) ⟨c0, h0, ?_⟩ (fun a x b E' e hI => ?_) fun E hI => ?_
    · rw [hE]; exact ex_refl ws _
    · obtain ⟨c, hc, hx⟩ := hI
      obtain ⟨E3, w, rfl⟩ := ex_all (st X (fun _ h => h) (fun _ _ _ h => h) c a x b (fun E => ∃ c', P c' (a ++ [x]) ∧ ExU ws (fun E2 => E2 = E) (sets (S c' (a ++ [x])) _)) e hc fun c' h' => all_of fun E1 h => ⟨c', h', h⟩) hx
      exact w
    · obtain ⟨c, hc, hx⟩ := hI
      obtain ⟨E3, w, rfl⟩ := ex_all (fin c hc) hx
      exact w
  rw [W_seq]
  refine go.mono fun p hp => ?_
  obtain ⟨fl, E2⟩ := p
  exact hp
/-- without break or return -/
theorem W_forS {α γ : Type} (E1 : Ev) (xs : List α) (ι : α → D) (ws : List Nat) (S : γ → List α → List (Nat × Option (D × Nat))) (P : γ → List α → Prop) (c0 : γ)
    (hi : W (it E) fun p => p.1 = xs.map ι ∧ p.2 = E1) (hE : sets (S c0 []) E1 = E1) (h0 : P c0 [])
    (st : ∀ (c : γ) (a : List α) (x : α) (b : List α) (I' : Ev → Prop), xs = a ++ x :: b → P c a → (∀ c', P c' (a ++ [x]) → AllU ws I' (sets (S c' (a ++ [x])) E1)) →
      AllU ws (fun E => W (g (ι x) E) fun E2 => W (body E2) (StpG I' fun _ => False)) (sets (S c a) E1))
    (fin : ∀ c, P c xs → AllU ws (fun E => W (rest E) Q) (sets (S c xs) E1)) : W (mSeq (mFor it g body) rest E) Q := by
  refine W_forSx E1 xs ι ws S P c0 hi hE h0 (fun X h1 h2 c a x b I' e hc hI => ?_) fin
  refine all_of fun E3 hx => ?_
  obtain ⟨E4, w, rfl⟩ := ex_all (st c a x b I' e hc hI) hx
  refine w.mono fun E2 w2 => w2.mono fun q hq => ?_
  obtain ⟨fl, E5⟩ := q
  cases fl <;> first | exact hq | exact hq.elim
/-- over a range from 0 -/
theorem W_forNx {γ : Type} (E1 : Ev) (n : Nat) (ws : List Nat) (S : γ → Nat → List (Nat × Option (D × Nat))) (P : γ → Nat → Prop) (c0 : γ)
    (hi : W (it E) fun p => p.1 = rng 0 n ∧ p.2 = E1) (hE : sets (S c0 0) E1 = E1) (h0 : P c0 0)
    (st : ∀ (X : Fl × Ev → Prop), (∀ E, W (rest E) Q → X (.nx, E)) → (∀ d n E, Q (.rt d n, E) → X (.rt d n, E)) → ∀ (c : γ) (k : Nat) (I' : Ev → Prop), k < n → P c k → (∀ c', P c' (k + 1) → AllU ws I' (sets (S c' (k + 1)) E1)) →
      AllU ws (fun E => W (g (.int (k : Int)) E) fun E2 => W (body E2) (StpG I' X)) (sets (S c k) E1))
    (fin : ∀ c, P c n → AllU ws (fun E => W (rest E) Q) (sets (S c n) E1)) : W (mSeq (mFor it g body) rest E) Q := by
  refine W_forSx E1 (List.range n) (fun k : Nat => D.int (k : Int)) ws (fun c a => S c a.length) (fun c a => P c a.length) c0 (by rw [← rng0]; exact hi) hE h0 (fun X h1 h2 c a x b I' e hc hI => ?_) (by simpa using fin)
  have hx : x = a.length := by
    have h := congrArg (fun l => l[a.length]?) e
    simp only [List.getElem?_append_right (Nat.le_refl _), Nat.sub_self, List.getElem?_cons_zero] at h
    have hl : a.length < n := by
      have := congrArg List.length e
      simp at this
      omega
    rw [List.getElem?_range hl] at h
    simpa using h.symm
  have hl : a.length < n := by
    have := congrArg List.length e
    simp at this
    omega
  subst hx
  simp only [List.length_append, List.length_singleton] at hI
  exact st X h1 h2 c a.length I' hl hc hI
theorem W_forN {γ : Type} (E1 : Ev) (n : Nat) (ws : List Nat) (S : γ → Nat → List (Nat × Option (D × Nat))) (P : γ → Nat → Prop) (c0 : γ)
    (hi : W (it E) fun p => p.1 = rng 0 n ∧ p.2 = E1) (hE : sets (S c0 0) E1 = E1) (h0 : P c0 0)
    (st : ∀ (c : γ) (k : Nat) (I' : Ev → Prop), k < n → P c k → (∀ c', P c' (k + 1) → AllU ws I' (sets (S c' (k + 1)) E1)) →
      AllU ws (fun E => W (g (.int (k : Int)) E) fun E2 => W (body E2) (StpG I' fun _ => False)) (sets (S c k) E1))
    (fin : ∀ c, P c n → AllU ws (fun E => W (rest E) Q) (sets (S c n) E1)) : W (mSeq (mFor it g body) rest E) Q := by
  refine W_forNx E1 n ws S P c0 hi hE h0 (fun X h1 h2 c k I' e hc hI => ?_) fin
  refine all_of fun E3 hx => ?_
  obtain ⟨E4, w, rfl⟩ := ex_all (st c k I' e hc hI) hx
  refine w.mono fun E2 w2 => w2.mono fun q hq => ?_
  obtain ⟨fl, E5⟩ := q
  cases fl <;> first | exact hq | exact hq.elim
end
end Zk
namespace Zk
open PySem PySem.Spec PyProof.Rows L2
section
variable {K : PySem.W.Frag}
variable {X : Cx} {a : Expr} {fe : Fe} {p pos kpos q1 : PySem.Pos} {j : Nat}
end
end Zk
namespace Zk
open PySem PySem.Spec PyProof.Rows L2
variable {X : Cx}
theorem addI_ok {pins : List (Addr × Obj)} {σ : L2.St} {H : Hp} {s : Shared} {E : Value → Shared → Prop} {D : Addr} {k : Int} {tk : Nat} {S : Int → Bool} {n : Nat} {Q : Value → Shared → Prop} (V : Inv X pins σ H s) (hD : H D = some (SetO X.w D S n)) (room : n + 1 < scanBound)
    (h : ∀ s', Inv X pins σ (upd H D (SetO X.w D (fun j => S j || decide (j = k)) (if S k = true then n else n + 1))) s' → Q .none s') : wpAny (model X.prog X.w) X.A (call (.builtin "set.add") [.ref D, .int k tk]) Q E s := by
  refine setR_add (setO_get V hD) room fun hp same new => ?_
  obtain ⟨o, es, ep, t, ho, rest⟩ := new
  exact h _ (V.write (e := D) (t' := s.toks + 1) (by rw [hD]; trivial) (.inl rfl) (fun b u nb ub => (same.2 b nb).trans ub) ⟨o, ho⟩ (setO_new ⟨o, es, ep, t, ho, rest⟩))
def rSrtSO (w : World) : List V → Hp → VK → Prop := fun vs H Q => ∃ (a : Addr) (S : Int → Bool) (n : Nat) (ns : List Int), vs = [.ref a] ∧ H a = some (SetO w a S n) ∧ (∀ j, S j = decide (j ∈ ns)) ∧ ns.length ≤ 4000 ∧
  ∀ p, H p = none → Q (.ref p) (upd H p (.lst ((srt ns.eraseDups).map V.int)))
def rLenSO (w : World) : List V → Hp → VK → Prop := fun vs H Q => ∃ (a : Addr) (S : Int → Bool) (n : Nat) (ns : List Int), vs = [.ref a] ∧ H a = some (SetO w a S n) ∧ (∀ j, S j = decide (j ∈ ns)) ∧ ns.length ≤ 4000 ∧ Q (.int (ns.eraseDups.length : Nat)) H
theorem cr_srtSO (hc : X.calm = true) : CallR X (.builtin "sorted") (rSrtSO X.w) := by
  intro pins s1 σ H1 vs us Q I2 r h
  obtain ⟨a, S, n, ns, rfl, ha, eS, hl, q1⟩ := h
  obtain rfl := Vals.ref1 r
  have R : SetR X.w s1.heap a (fun j => decide (j ∈ ns)) n := (setO_get I2 ha).congr fun k => (eS k).symm
  refine sorted_setA (sh := s1) R (I2.ok.hd hc) fun s2 p out c2 ms kp hg1 ho1 hsz at1 his srtd nd mem => ?_
  have pm : ms.Perm ns.eraseDups := (List.perm_ext_iff_of_nodup nd (nodup_dd ns)).mpr fun k => by
    rw [mem k, List.mem_eraseDups]; simp
  have em : ms = srt ns.eraseDups := srt_uniq (pm.trans (srt_perm _).symm) srtd (srt_pair _)
  have le := len_dd ns
  have ml : (ms.map V.int).length ≤ sizeLine := by
    rw [List.length_map, pm.length_eq, sizeLine_eq]; omega
  have hn : H1 p = none := I2.hok.fresh hsz
  have J : Inv X pins σ (upd H1 p (.lst (ms.map V.int))) { s1 with heap := s2.heap, gens := s2.gens, drawn := s2.drawn, toks := s2.toks } :=
    I2.call (ch := []) (Un.laid kp hsz hn) (I2.hok.laid kp hsz ⟨ml, out, c2, vals_of_ints his, at1⟩) (by rw [hg1]; exact I2.bare) (fun _ z => nomatch z)
  have es : s2 = { s1 with heap := s2.heap, gens := s2.gens, drawn := s2.drawn, toks := s2.toks } := by
    cases s2
    cases s1
    cases ho1
    rfl
  rw [es]
  exact ⟨.ref p, _, J, rfl, by rw [em]; exact q1 p hn⟩
section
variable {K : PySem.W.Frag} {Z Z' Zf Z0 Z1 Z2 : Addr → Prop} {H H' H0 H1 H2 : Hp} {σ σ' : L2.St} {E E' E1 EF : Ev} {R R' R0 R1 R2 Rw : Rs} {D0 : Addr}
/-- the end of a comprehension, for any new thing -/
theorem nw_end2 {is : List Nat} {Q : VK} {vF : V} {rsF : List Addr} {d : D} {n : Nat} (s1 : S K Z1 H1 σ E1 R1) (t1 : Step Z H (ow R) Z1 H1 (ow R1)) (w1 : ∀ k, k ∉ is → Rw k = R1 k) (w2 : ∀ k ∈ is, Rw k = []) (p2 : Pers Z1 H1 Z2 H2)
    (s2 : S K Z2 H2 (L2.wipe σ is) EF R2) (r2 : ∀ k ∈ is, R2 k = []) (l2 : EF.length = E1.length) (t2 : Step Z1 H1 (ow Rw) Z2 H2 (ow R2)) (fN : rsF.Nodup) (fD : ∀ a ∈ rsF, H1 a = none ∧ ¬ ow R2 a) (own : Own K Z2 H2 n vF d rsF)
    (q : ∀ v Z' H' R' rs, S K Z' H' σ (backE E1 EF is) R' → Step Z H (ow R) Z' H' (ow R') → OV K Z' H' σ v (.val d n) rs → Fr R H R' rs → Q v H') : Q vF H2 := by
  have owR : ∀ a, ow Rw a → ow R1 a := ow_wipe w1 w2
  have hidN : ∀ k ∈ is, ∀ a ∈ R1 k, ¬ ow Rw a := fun k hk a ma ⟨l, ml⟩ => by
    by_cases cl : l ∈ is
    · rw [w2 l cl] at ml; simp at ml
    · rw [w1 l cl] at ml
      exact cl ((s1.dj k l a ma ml) ▸ hk)
  have hidH : ∀ k ∈ is, ∀ a ∈ R1 k, H2 a = H1 a ∧ ¬ Z2 a ∧ ¬ ow R2 a := fun k hk a ma => by
    have th := s1.there ⟨k, ma⟩
    refine ⟨?_, fun z => ?_, fun z => ?_⟩
    · cases cc : H1 a with
      | none => exact absurd cc th
      | some u => exact t2.hh a u cc (hidN k hk a ma)
    · rcases t2.zn a z with z | z | z
      · exact (s1.owns ⟨k, ma⟩).2 z
      · exact th z
      · exact hidN k hk a ma z
    · rcases t2.on a z with z | z
      · exact hidN k hk a ma z
      · exact th z
  let RF : Rs := fun k => if k ∈ is then R1 k else R2 k
  obtain ⟨bl, bg⟩ := backE_get is E1 EF
  have sF : S K Z2 H2 σ (backE E1 EF is) RF := by
    refine ⟨by rw [bl, l2, ← s1.len], fun k d n ek => ?_, fun k ek => ?_, fun k => ?_, fun k l a m1 m2 => ?_, s2.zd⟩
    · rw [bg k] at ek
      by_cases ck : k ∈ is
      · by_cases cl : k < EF.length
        · rw [if_pos ⟨ck, cl⟩] at ek
          obtain ⟨v, hv, ov⟩ := s1.slot k d n ek
          refine ⟨v, hv, ?_⟩
          have eR : RF k = R1 k := if_pos ck
          rw [eR]
          exact ov.keep p2 fun a ma => ⟨(hidH k ck a ma).1, (hidH k ck a ma).2.1⟩
        · rw [if_neg fun h => cl h.2] at ek
          exact absurd (eg_lt ek) cl
      · rw [if_neg fun h => ck h.1] at ek
        obtain ⟨v, hv, ov⟩ := s2.slot k d n ek
        have eR : RF k = R2 k := if_neg ck
        rw [eR]
        exact ⟨v, by rw [← wipe_out ck]; exact hv, ov⟩
    · rw [bg k] at ek
      by_cases ck : k ∈ is
      · have eR : RF k = R1 k := if_pos ck
        rw [eR]
        by_cases cl : k < EF.length
        · rw [if_pos ⟨ck, cl⟩] at ek
          exact s1.emp k ek
        · refine s1.emp k ?_
          unfold eg
          rw [List.getElem?_eq_none (by omega)]; rfl
      · rw [if_neg fun h => ck h.1] at ek
        have eR : RF k = R2 k := if_neg ck
        rw [eR]
        exact s2.emp k ek
    · by_cases ck : k ∈ is
      · have eR : RF k = R1 k := if_pos ck
        rw [eR]; exact s1.nd k
      · have eR : RF k = R2 k := if_neg ck
        rw [eR]; exact s2.nd k
    · by_cases ck : k ∈ is
      · have eR : RF k = R1 k := if_pos ck
        rw [eR] at m1
        by_cases cl : l ∈ is
        · have eR : RF l = R1 l := if_pos cl
          rw [eR] at m2
          exact s1.dj k l a m1 m2
        · have eR : RF l = R2 l := if_neg cl
          rw [eR] at m2
          exact absurd ⟨l, m2⟩ (hidH k ck a m1).2.2
      · have eR : RF k = R2 k := if_neg ck
        rw [eR] at m1
        by_cases cl : l ∈ is
        · have eR : RF l = R1 l := if_pos cl
          rw [eR] at m2
          exact absurd ⟨k, m1⟩ (hidH l cl a m2).2.2
        · have eR : RF l = R2 l := if_neg cl
          rw [eR] at m2
          exact s2.dj k l a m1 m2
  have back : ∀ a, H1 a = none → H a = none := fun a h => by
    cases cc : H a with
    | none => rfl
    | some u => exact absurd h (t1.dm a (by rw [cc]; simp))
  have owF : ∀ a, ow RF a → ow R1 a ∨ ow R2 a := fun a ⟨k, m⟩ => by
    by_cases ck : k ∈ is
    · have eR : RF k = R1 k := if_pos ck
      rw [eR] at m; exact .inl ⟨k, m⟩
    · have eR : RF k = R2 k := if_neg ck
      rw [eR] at m; exact .inr ⟨k, m⟩
  have R2on : ∀ a, ow R2 a → ow R a ∨ H a = none := fun a h => by
    rcases t2.on a h with z | z
    · exact t1.on a (owR a z)
    · exact .inr (back a z)
  have tF : Step Z H (ow R) Z2 H2 (ow RF) := by
    refine ⟨fun a z => p2.zz a (t1.zz a z), fun a z => ?_, fun a u hu ha => ?_, fun a h => ?_, fun a h => t2.dm a (t1.dm a h)⟩
    · rcases t2.zn a z with z | z | z
      · exact t1.zn a z
      · exact .inr (.inl (back a z))
      · rcases t1.on a (owR a z) with y | y
        · exact .inr (.inr y)
        · exact .inr (.inl y)
    · refine t2.hh a u (t1.hh a u hu ha) fun z => ?_
      rcases t1.on a (owR a z) with y | y
      · exact ha y
      · rw [hu] at y; cases y
    · rcases owF a h with z | z
      · exact t1.on a z
      · exact R2on a z
  refine q vF Z2 H2 RF rsF sF tF own ⟨fN, fun a m z => ?_, fun a m => .inr (back a (fD a m).1)⟩
  rcases owF a z with y | y
  · exact s1.there y (fD a m).1
  · exact (fD a m).2 y
theorem lcM_pre {g : Fg} {c : Ft} {f : Fe} {is : List Nat} : ∀ (ds : List D) (E : Ev) (acc : List (D × Nat)) {accF : List (D × Nat)} {EF : Ev}, lcM g c f is ds E acc = some (accF, EF) → ∃ t, accF = acc ++ t
  | [], E, acc, accF, EF, h => by cases h; exact ⟨[], by simp⟩
  | d :: ds, E, acc, accF, EF, h => by
    simp only [lcM] at h
    cases e1 : g d E with
    | none => rw [e1] at h; cases h
    | some E1 =>
      rw [e1] at h
      simp only [Option.bind_some] at h
      cases e2 : c E1 with
      | none => rw [e2] at h; cases h
      | some q =>
        rw [e2] at h
        simp only [Option.bind_some] at h
        split at h
        · cases e3 : f q.2 with
          | none => rw [e3] at h; cases h
          | some r =>
            rw [e3] at h
            simp only [Option.bind_some] at h
            cases e4 : tk r.2 r.1 with
            | none => rw [e4] at h; cases h
            | some t =>
              rw [e4] at h
              simp only [Option.bind_some] at h
              split at h
              · obtain ⟨u, rfl⟩ := lcM_pre ds _ _ h
                exact ⟨(t.1, t.2.1) :: u, by simp⟩
              · cases h
        · exact lcM_pre ds _ _ h
theorem tk_int {o : Op} {k : Int} {n : Nat} (h : tk E o = some (.int k, n, E')) : rd E o = some (.int k) ∧ E' = E := by
  cases o with
  | val d m =>
    simp only [tk, Option.some.injEq, Prod.mk.injEq] at h
    obtain ⟨rfl, _, rfl⟩ := h
    exact ⟨rfl, rfl⟩
  | slot i =>
    simp only [tk] at h
    cases e : eg E i with
    | none => rw [e] at h; cases h
    | some p =>
      obtain ⟨d, m⟩ := p
      rw [e] at h
      simp only at h
      split at h
      · simp only [Option.some.injEq, Prod.mk.injEq] at h
        obtain ⟨rfl, _, rfl⟩ := h
        exact ⟨by simp [rd, e], rfl⟩
      · rename_i hi
        simp only [Option.some.injEq, Prod.mk.injEq] at h
        obtain ⟨rfl, _⟩ := h
        simp at hi
theorem iof_mem : ∀ {ds : List D} {ns : List Int}, iof ds = some ns → ∀ d ∈ ds, ∃ k, d = .int k := fun h d hd => by
  have := iof_eq h
  subst this
  obtain ⟨k, _, rfl⟩ := List.mem_map.mp hd
  exact ⟨k, rfl⟩
/-- a list comprehension's mirror whose list is made a set at once -/
def gSetX (b : Bool) : List D → Option (D × Nat) := if b = true then gSrtS else gLenS
def mScX (b : Bool) (a : Fe) : Fe := mOp (gSetX b) (mA1 a)
def rSetX (wd : World) (b : Bool) : List V → Hp → VK → Prop := if b = true then rSrtSO wd else rLenSO wd
theorem mScX_out {b : Bool} {a : Fe} {o : Op} (h : mScX b a E = some (o, E')) : ∀ (E2 : Ev) (d : D) (m : Nat), a E = some (.val d m, E2) → E2 = E' ∧ ∃ x, gSetX b [d] = some x ∧ o = .val x.1 9 := by
  intro E2 d m e
  unfold mScX mOp mA1 at h
  rw [e] at h
  simp only [Option.bind_some, rdL, rd, Option.map_some] at h
  cases e2 : gSetX b [d] with
  | none => rw [e2] at h; cases h
  | some x =>
    rw [e2] at h
    obtain ⟨dx, nx⟩ := x
    have hn : nx = 9 := by
      unfold gSetX at e2
      cases b
      · simp only [Bool.false_eq_true, if_false, gLenS] at e2
        cases e3 : iofS d with
        | none => rw [e3] at e2; cases e2
        | some ns =>
          rw [e3] at e2
          simp only [Option.bind_some] at e2
          split at e2 <;> cases e2
          rfl
      · simp only [if_true, gSrtS] at e2
        cases e3 : iofS d with
        | none => rw [e3] at e2; cases e2
        | some ns =>
          rw [e3] at e2
          simp only [Option.bind_some] at e2
          split at e2 <;> cases e2
          rfl
    subst hn
    simp only [Option.bind_some, akL, ak, Option.map_some] at h
    split at h <;> cases h <;> exact ⟨rfl, _, rfl, rfl⟩
theorem gSetX_lst {b : Bool} {ds : List D} {x : D × Nat} (h : gSetX b [.lst ds] = some x) : ∃ ns, iof ds = some ns ∧ ns.length ≤ 4000 ∧ x.1 = if b = true then .lst ((srt ns.eraseDups).map D.int) else .int (ns.eraseDups.length : Nat) := by
  unfold gSetX at h
  cases b
  · simp only [Bool.false_eq_true, if_false, gLenS, iofS] at h
    cases e3 : iof ds with
    | none => rw [e3] at h; cases h
    | some ns =>
      rw [e3] at h
      simp only [Option.bind_some] at h
      split at h
      · rename_i hl; cases h; exact ⟨ns, rfl, hl, rfl⟩
      · cases h
  · simp only [if_true, gSrtS, iofS] at h
    cases e3 : iof ds with
    | none => rw [e3] at h; cases h
    | some ns =>
      rw [e3] at h
      simp only [Option.bind_some] at h
      split at h
      · rename_i hl; cases h; exact ⟨ns, rfl, hl, rfl⟩
      · cases h
/-- what is known of the growing set -/
structure SetG (wd : World) (Z1 : Addr → Prop) (H1 : Hp) (Rw : Rs) (D0 : Addr) (Z2 : Addr → Prop) (H2 : Hp) (R2 : Rs) (acc : List (D × Nat)) : Prop where
  t : Step Z1 H1 (ow Rw) Z2 H2 (ow R2)
  z : ¬ Z2 D0
  o : ¬ ow R2 D0
  h : ∃ S n, H2 D0 = some (SetO wd D0 S n) ∧ n ≤ acc.length ∧ ∀ j, S j = true ↔ D.int j ∈ acc.map (·.1)
theorem SetG.keep {wd : World} {Z6 : Addr → Prop} {H6 : Hp} {R6 : Rs} {acc : List (D × Nat)} (G : SetG wd Z1 H1 Rw D0 Z2 H2 R2 acc) (t : Step Z2 H2 (ow R2) Z6 H6 (ow R6)) : SetG wd Z1 H1 Rw D0 Z6 H6 R6 acc := by
  obtain ⟨S, n, e, hn, hs⟩ := G.h
  refine ⟨G.t.trans t, fun z => ?_, fun z => ?_, S, n, t.hh D0 _ e G.o, hn, hs⟩
  · rcases t.zn D0 z with z | z | z
    · exact G.z z
    · rw [e] at z; cases z
    · exact G.o z
  · rcases t.on D0 z with z | z
    · exact G.o z
    · rw [e] at z; cases z
theorem SetG.add {wd : World} {acc : List (D × Nat)} {k : Int} {m : Nat} (hD : H1 D0 = none) (G : SetG wd Z1 H1 Rw D0 Z2 H2 R2 acc) (s2 : S K Z2 H2 σ E R2) {S : Int → Bool} {n : Nat} (e : H2 D0 = some (SetO wd D0 S n)) (hn : n ≤ acc.length) (hs : ∀ j, S j = true ↔ D.int j ∈ acc.map (·.1)) :
    Zk.S K Z2 (upd H2 D0 (SetO wd D0 (fun j => S j || decide (j = k)) (if S k = true then n else n + 1))) σ E R2 ∧ SetG wd Z1 H1 Rw D0 Z2 (upd H2 D0 (SetO wd D0 (fun j => S j || decide (j = k)) (if S k = true then n else n + 1))) R2 (acc ++ [(.int k, m)]) := by
  obtain ⟨s8, p8⟩ := s2.free (o' := SetO wd D0 (fun j => S j || decide (j = k)) (if S k = true then n else n + 1)) e trivial G.o G.z
  refine ⟨s8, ⟨G.t.zz, G.t.zn, fun a o ho h => ?_, G.t.on, fun a h e2 => ?_⟩, G.z, G.o, _, _, upd_same, ?_, fun j => ?_⟩
  · have ne : a ≠ D0 := fun e => by rw [e, hD] at ho; cases ho
    rw [upd_ne ne]; exact G.t.hh a o ho h
  · by_cases ca : a = D0
    · rw [ca, upd_same] at e2; cases e2
    · rw [upd_ne ca] at e2; exact G.t.dm a h e2
  · rw [List.length_append, List.length_singleton]
    split <;> omega
  · rw [Bool.or_eq_true, hs, List.map_append, List.mem_append]
    simp
/-- the set's end: the sorted list, or the number -/
theorem set_end {wd : World} {b : Bool} {is : List Nat} {Q : VK} {accF : List (D × Nat)} {x : D × Nat} (s1 : S K Z1 H1 σ E1 R1) (t1 : Step Z H (ow R) Z1 H1 (ow R1)) (w1 : ∀ k, k ∉ is → Rw k = R1 k) (w2 : ∀ k ∈ is, Rw k = []) (p2 : Pers Z1 H1 Z2 H2)
    (s2 : S K Z2 H2 (L2.wipe σ is) EF R2) (r2 : ∀ k ∈ is, R2 k = []) (l2 : EF.length = E1.length) (G : SetG wd Z1 H1 Rw D0 Z2 H2 R2 accF) (hx : gSetX b [.lst (accF.map (·.1))] = some x)
    (q : ∀ v Z' H' R' rs, S K Z' H' σ (backE E1 EF is) R' → Step Z H (ow R) Z' H' (ow R') → OV K Z' H' σ v (.val x.1 9) rs → Fr R H R' rs → Q v H') : rSetX wd b [.ref D0] H2 Q := by
  obtain ⟨ns, hi, hl, ex⟩ := gSetX_lst hx
  obtain ⟨S, n, e, hn, hs⟩ := G.h
  have hS : ∀ j, S j = decide (j ∈ ns) := fun j => by
    have := hs j
    rw [iof_eq hi] at this
    rw [Bool.eq_iff_iff, this]
    simp
  cases b with
  | true =>
    simp only [if_true] at ex
    refine ⟨D0, S, n, ns, rfl, e, hS, hl, fun p hp => ?_⟩
    have m := More.upd (o := .lst ((srt ns.eraseDups).map V.int)) hp
    have h1 : H1 p = none := by
      cases c : H1 p with
      | none => rfl
      | some u => exact absurd hp (G.t.dm p (by rw [c]; simp))
    refine nw_end2 (d := x.1) (n := 9) (vF := .ref p) (rsF := [p]) s1 t1 w1 w2 (p2.trans (m.pers fun _ h => h)) (s2.more m) r2 l2 (G.t.trans (m.step _)) (by simp) (fun a ma => ?_) ?_ q
    · have : a = p := by simpa using ma
      subst this
      exact ⟨h1, fun h => s2.there h hp⟩
    · rw [ex]
      have := Own.newL (K := K) (fun a z => fun h => s2.zd a z h) hp (Rps.ofInts (K := K) (Z := Z2) (H := H2) (srt ns.eraseDups))
      rw [lev_ints] at this
      exact this
  | false =>
    simp only [Bool.false_eq_true, if_false] at ex
    refine ⟨D0, S, n, ns, rfl, e, hS, hl, ?_⟩
    refine nw_end2 (d := x.1) (n := 9) (vF := .int (ns.eraseDups.length : Nat)) (rsF := []) s1 t1 w1 w2 p2 s2 r2 l2 G.t (by simp) (fun a ma => by simp at ma) ?_ q
    rw [ex]
    exact Own.ofImm (.int _) (by simp)
end
section
variable {X : Cx} {elt tg iter : Expr} {ifs : List Expr} {fe : Fe} {ft : Ft} {fi : Fi} {g : Fg} {scope : Scope} {pos pos1 p : PySem.Pos} {w : List Nat} {own : List (PySem.Str × Nat)}
@[simp ↓] theorem W_scT {fa : Fe} {E : Ev} {Qe : Op × Ev → Prop} : W (mScX true fa E) Qe ↔ W (mOp gSrtS (mA1 fa) E) Qe := Iff.rfl
@[simp ↓] theorem W_scF {fa : Fe} {E : Ev} {Qe : Op × Ev → Prop} : W (mScX false fa E) Qe ↔ W (mOp gLenS (mA1 fa) E) Qe := Iff.rfl
end
end Zk
namespace Zk
open PySem PySem.Spec PyProof.Rows L2
section
variable {g : Fg} {c : Ft} {f : Fe} {is : List Nat} {Q : List (D × Nat) × Ev → Prop}
end
end Zk
namespace Zk
open PySem PySem.Spec PyProof.Rows L2
section
variable {K : PySem.W.Frag} {X : Cx}
def gMaxT : List D → Option (D × Nat)
  | [.tup ds] => (iof ds).bind fun ns => if ns = [] then none else some (.int (maxL ns), 9)
  | _ => none
@[simp] theorem gMaxT_ints {ns : List Int} (h : ns ≠ []) : gMaxT [.tup (ns.map D.int)] = some (.int (maxL ns), 9) := by simp [gMaxT, iof_map, h]
end
end Zk
namespace Zk
open PySem PySem.Spec PyProof.Rows L2
section
variable {it : Fi} {g : Fg} {body rest : Fs} {E : Ev} {Q : Fl × Ev → Prop}
theorem W_forQx {γ : Type} (E1 : Ev) (n : Nat) (ι : Nat → D) (ws : List Nat) (S : γ → Nat → List (Nat × Option (D × Nat))) (P : γ → Nat → Prop) (c0 : γ)
    (hi : W (it E) fun p => p.1 = (List.range n).map ι ∧ p.2 = E1) (hE : sets (S c0 0) E1 = E1) (h0 : P c0 0)
    (st : ∀ (X : Fl × Ev → Prop), (∀ E, W (rest E) Q → X (.nx, E)) → (∀ d n E, Q (.rt d n, E) → X (.rt d n, E)) → ∀ (c : γ) (k : Nat) (I' : Ev → Prop), k < n → P c k → (∀ c', P c' (k + 1) → AllU ws I' (sets (S c' (k + 1)) E1)) →
      AllU ws (fun E => W (g (ι k) E) fun E2 => W (body E2) (StpG I' X)) (sets (S c k) E1))
    (fin : ∀ c, P c n → AllU ws (fun E => W (rest E) Q) (sets (S c n) E1)) : W (mSeq (mFor it g body) rest E) Q := by
  refine W_forSx E1 (List.range n) ι ws (fun c a => S c a.length) (fun c a => P c a.length) c0 hi hE h0 (fun X h1 h2 c a x b I' e hc hI => ?_) (by simpa using fin)
  have hl : a.length < n := by
    have := congrArg List.length e
    simp at this
    omega
  have hx : x = a.length := by
    have h := congrArg (fun l => l[a.length]?) e
    simp only [List.getElem?_append_right (Nat.le_refl _), Nat.sub_self, List.getElem?_cons_zero] at h
    rw [List.getElem?_range hl] at h
    simpa using h.symm
  subst hx
  simp only [List.length_append, List.length_singleton] at hI
  exact st X h1 h2 c a.length I' hl hc hI
theorem W_forQ {γ : Type} (E1 : Ev) (n : Nat) (ι : Nat → D) (ws : List Nat) (S : γ → Nat → List (Nat × Option (D × Nat))) (P : γ → Nat → Prop) (c0 : γ)
    (hi : W (it E) fun p => p.1 = (List.range n).map ι ∧ p.2 = E1) (hE : sets (S c0 0) E1 = E1) (h0 : P c0 0)
    (st : ∀ (c : γ) (k : Nat) (I' : Ev → Prop), k < n → P c k → (∀ c', P c' (k + 1) → AllU ws I' (sets (S c' (k + 1)) E1)) →
      AllU ws (fun E => W (g (ι k) E) fun E2 => W (body E2) (StpG I' fun _ => False)) (sets (S c k) E1))
    (fin : ∀ c, P c n → AllU ws (fun E => W (rest E) Q) (sets (S c n) E1)) : W (mSeq (mFor it g body) rest E) Q := by
  refine W_forQx E1 n ι ws S P c0 hi hE h0 (fun X h1 h2 c k I' e hc hI => ?_) fin
  refine all_of fun E3 hx => ?_
  obtain ⟨E4, w, rfl⟩ := ex_all (st c k I' e hc hI) hx
  refine w.mono fun E2 w2 => w2.mono fun q hq => ?_
  obtain ⟨fl, E5⟩ := q
  cases fl <;> first | exact hq | exact hq.elim
end
theorem W_ifT {ft : Ft} {s t : Fs} {E E1 : Ev} {Q : Fl × Ev → Prop} (h : W (ft E) fun p => p.1 = true ∧ p.2 = E1) (k : W (s E1) Q) : W (mIfS ft s t E) Q := by
  rw [W_ifS]
  refine h.mono fun p hp => ?_
  obtain ⟨b, E2⟩ := p
  obtain ⟨rfl, rfl⟩ := hp
  exact IfB_t.mpr k
theorem W_ifF {ft : Ft} {s t : Fs} {E E1 : Ev} {Q : Fl × Ev → Prop} (h : W (ft E) fun p => p.1 = false ∧ p.2 = E1) (k : W (t E1) Q) : W (mIfS ft s t E) Q := by
  rw [W_ifS]
  refine h.mono fun p hp => ?_
  obtain ⟨b, E2⟩ := p
  obtain ⟨rfl, rfl⟩ := hp
  exact IfB_f.mpr k
end Zk
namespace Zk
open PySem PySem.Spec PyProof.Rows L2
section
variable {K : PySem.W.Frag} {X : Cx} {a b : Expr} {fa fb : Fe} {pos : PySem.Pos}
end
end Zk
namespace Zk
open PySem PySem.Spec PyProof.Rows L2
section
variable {prg : Program} {wd : World} {Ar : Around} {EE : Value → Shared → Prop} {sh : Shared}
end
section
variable {X : Cx} {a : Expr} {ta : TE} {p p2 q pos : PySem.Pos}
end
section
variable {K : PySem.W.Frag}
variable {X : Cx} {a : Expr} {fa : Fe} {p p2 q pos : PySem.Pos}
end
end Zk
namespace Zk
open PySem PySem.Spec PyProof.Rows L2
section
variable {X : Cx} {e : Expr} {te : TE} {p apos cpos pos : PySem.Pos}
end
section
variable {K : PySem.W.Frag}
variable {X : Cx} {e : Expr} {fe : Fe} {p apos cpos pos : PySem.Pos}
end
end Zk
namespace Zk
open PySem PySem.Spec PyProof.Rows L2
section
variable {K : PySem.W.Frag} {Z : Addr → Prop} {H : Hp} {a : Addr} {kvs : List (Key × V)} {od : Obj}
variable {σ : L2.St} {E : Ev} {R : Rs}
theorem Rp.key (k : Key) : Rp K Z H (kV k) (kD k) := by
  cases k with
  | inl i => exact .int i
  | inr x => exact .str x
theorem KR.at {κ : Type} {kvs : List (κ × V)} {kds : List (κ × D)} {H : Hp} {Z : Addr → Prop} (e : kvs.map (·.1) = kds.map (·.1)) (r : Rps K Z H (kvs.map (·.2)) (kds.map (·.2))) {i : Nat} {k : κ} {v : V} (h : kvs[i]? = some (k, v)) : ∃ d, kds[i]? = some (k, d) ∧ Rp K Z H v d := by
  have h1 : (kvs.map (·.2))[i]? = some v := by rw [List.getElem?_map, h]; rfl
  have h2 : (kvs.map (·.1))[i]? = some k := by rw [List.getElem?_map, h]; rfl
  obtain ⟨d, h3, h4⟩ := r.get h1
  rw [e, List.getElem?_map] at h2
  rw [List.getElem?_map] at h3
  cases hq : kds[i]? with
  | none => rw [hq] at h2; cases h2
  | some p =>
    rw [hq] at h2 h3
    cases h2
    cases h3
    exact ⟨p.2, rfl, h4⟩
end
end Zk
namespace Zk
open PySem PySem.Spec PyProof.Rows L2
section
variable {X : Cx} {kx vx elt : Expr} {elts : List Expr} {kk : Nat} {tpos px apos cpos : PySem.Pos} {x : PySem.Str} {ifs : List Expr} {fk fv fe : Fe} {ft : Ft} {g : Fg} {scope : Scope} {pos : PySem.Pos} {w w1 w2 : List Nat} {own : List (PySem.Str × Nat)} {body : List Stmt} {f : Fs}
end
section
variable {E : Ev} {j : Nat} {Qe : Op × Ev → Prop} {Qs : Fl × Ev → Prop} {Qi : List D × Ev → Prop} {its : List D}
end
end Zk
namespace Zk
open PySem PySem.Spec PyProof.Rows L2
section
variable {K : PySem.W.Frag} {Z : Addr → Prop} {H H2 : Hp} {a : Addr} {kvs : List (Key × V)} {od : Obj}
theorem rd_not {u : HO} (h : Rd H a (.dK kvs)) (e : H a = some u) (n : ∀ o, u ≠ .frz o (.dK kvs)) : u = .dK kvs := by
  rcases h with h | ⟨o, h⟩
  · rw [h] at e; cases e; rfl
  · rw [h] at e; cases e; exact absurd rfl (n o)
mutual
theorem Rp.swap (off : ∀ b, b ≠ a → H2 b = H b) (h1 : Rd H a (.dK kvs)) (h2 : Rd H2 a (.dK kvs)) : ∀ {v : V} {d : D}, Rp K Z H v d → Rp K Z H2 v d
  | _, _, .non => .non
  | _, _, .bl b => .bl b
  | _, _, .int i => .int i
  | _, _, .str x => .str x
  | _, _, .ty x => .ty x
  | _, _, .con h r => .con h (Rps.swap off h1 h2 r)
  | _, _, .tup h r => .tup (by rw [off _ (fun e => by rw [e] at h; exact absurd (rd_not h1 h (fun _ => by simp)) (by simp))]; exact h) (Rps.swap off h1 h2 r)
  | _, _, .lst z h r => .lst z (by rw [off _ (fun e => by rw [e] at h; exact absurd (rd_not h1 h (fun _ => by simp)) (by simp))]; exact h) (Rps.swap off h1 h2 r)
  | _, _, .dK (a := b) (kvs := ks) z h e r => .dK z (by
    by_cases c : b = a
    · subst c
      have : ks = kvs := by
        rcases h with h | ⟨o, h⟩ <;> rcases h1 with g | ⟨o', g⟩ <;> rw [h] at g <;> cases g <;> rfl
      rw [this]
      exact h2
    · rcases h with h | ⟨o, h⟩
      · exact .inl (by rw [off _ c]; exact h)
      · exact .inr ⟨o, by rw [off _ c]; exact h⟩) e (Rps.swap off h1 h2 r)
  | _, _, .dT z h e r => .dT z (by rw [off _ (fun e => by rw [e] at h; exact absurd (rd_not h1 h (fun _ => by simp)) (by simp))]; exact h) e (Rps.swap off h1 h2 r)
  | _, _, .set z h e n d => .set z (by rw [off _ (fun e => by rw [e] at h; exact absurd (rd_not h1 h (fun _ => by simp)) (by simp))]; exact h) e n d
  | _, _, .scr (a := b) h => .scr (by
    rcases h with ⟨o, h⟩ | h
    · refine .inl ⟨o, ?_⟩
      rw [off _ (fun e => by rw [e] at h; exact absurd (rd_not h1 h (fun _ => by simp)) (by simp))]
      exact h
    · exact .inr h)
theorem Rps.swap (off : ∀ b, b ≠ a → H2 b = H b) (h1 : Rd H a (.dK kvs)) (h2 : Rd H2 a (.dK kvs)) : ∀ {vs : List V} {ds : List D}, Rps K Z H vs ds → Rps K Z H2 vs ds
  | _, _, .nil => .nil
  | _, _, .cons h t => .cons (Rp.swap off h1 h2 h) (Rps.swap off h1 h2 t)
end
theorem Own.swap (off : ∀ b, b ≠ a → H2 b = H b) (h1 : Rd H a (.dK kvs)) (h2 : Rd H2 a (.dK kvs)) : ∀ {n : Nat} {v : V} {d : D} {rs : List Addr}, a ∉ rs → Own K Z H n v d rs → Own K Z H2 n v d rs
  | 0, _, _, _, _, h => ⟨h.1, h.2.swap off h1 h2⟩
  | n + 1, _, .lst ds, rs, k, h => by
    obtain ⟨b, vs, rss, e, ha, z, r, rfl⟩ := h
    exact ⟨b, vs, rss, e, by rw [off b (fun e => k (by rw [← e]; exact List.mem_cons_self))]; exact ha, z, r.imp fun v d rs m o => Own.swap off h1 h2 (fun hb => k (List.mem_cons_of_mem _ (mem_flatten_of m hb))) o, rfl⟩
  | n + 1, _, .dK ds, rs, k, h => by
    obtain ⟨b, vs, rss, e, ha, z, e2, r, rfl⟩ := h
    exact ⟨b, vs, rss, e, by rw [off b (fun e => k (by rw [← e]; exact List.mem_cons_self))]; exact ha, z, e2, r.imp fun v d rs m o => Own.swap off h1 h2 (fun hb => k (List.mem_cons_of_mem _ (mem_flatten_of m hb))) o, rfl⟩
  | n + 1, _, .dT ds, rs, k, h => by
    obtain ⟨b, vs, rss, e, ha, z, e2, r, rfl⟩ := h
    exact ⟨b, vs, rss, e, by rw [off b (fun e => k (by rw [← e]; exact List.mem_cons_self))]; exact ha, z, e2, r.imp fun v d rs m o => Own.swap off h1 h2 (fun hb => k (List.mem_cons_of_mem _ (mem_flatten_of m hb))) o, rfl⟩
  | n + 1, _, .set xs, rs, k, h => by
    obtain ⟨b, S, m, e, ha, z, e2, e3, e4, rfl⟩ := h
    exact ⟨b, S, m, e, by rw [off b (fun e => k (by rw [← e]; exact List.mem_cons_self))]; exact ha, z, e2, e3, e4, rfl⟩
  | n + 1, _, .non, rs, k, h => ⟨h.1, h.2.swap off h1 h2⟩
  | n + 1, _, .bl _, rs, k, h => ⟨h.1, h.2.swap off h1 h2⟩
  | n + 1, _, .int _, rs, k, h => ⟨h.1, h.2.swap off h1 h2⟩
  | n + 1, _, .str _, rs, k, h => ⟨h.1, h.2.swap off h1 h2⟩
  | n + 1, _, .ty _, rs, k, h => ⟨h.1, h.2.swap off h1 h2⟩
  | n + 1, _, .tup _, rs, k, h => ⟨h.1, h.2.swap off h1 h2⟩
  | n + 1, _, .con _, rs, k, h => ⟨h.1, h.2.swap off h1 h2⟩
  | n + 1, _, .scr _, rs, k, h => ⟨h.1, h.2.swap off h1 h2⟩
variable {σ : L2.St} {E : Ev} {R : Rs}
theorem S.swap (s : S K Z H σ E R) (off : ∀ b, b ≠ a → H2 b = H b) (h1 : Rd H a (.dK kvs)) (h2 : Rd H2 a (.dK kvs)) (no : ¬ ow R a) : S K Z H2 σ E R where
  len := s.len
  slot := fun i d n e => by
    obtain ⟨v, g1, g2⟩ := s.slot i d n e
    exact ⟨v, g1, g2.swap off h1 h2 fun m => no ⟨i, m⟩⟩
  emp := s.emp
  nd := s.nd
  dj := s.dj
  zd := fun b hb => by
    by_cases c : b = a
    · subst c
      rcases h2 with h | ⟨o, h⟩ <;> rw [h] <;> exact fun z => by cases z
    · rw [off b c]; exact s.zd b hb
end
end Zk
namespace Zk
open PySem PySem.Spec PyProof.Rows L2
section
variable {X : Cx} {tg iter kx vx elt : Expr} {elts : List Expr} {kk : Nat} {tpos px apos cpos : PySem.Pos} {x : PySem.Str} {ifs : List Expr} {fk fv fe : Fe} {ft : Ft} {g : Fg} {scope : Scope} {pos : PySem.Pos} {w w1 w2 : List Nat} {own : List (PySem.Str × Nat)} {body : List Stmt} {f : Fs} {wi : TE → TI} {its : List (Key × D) → List D}
end
section
variable {E : Ev} {j : Nat} {Qe : Op × Ev → Prop} {Qs : Fl × Ev → Prop} {Qi : List D × Ev → Prop} {its : List (Key × D) → List D}
end
end Zk
namespace Zk
open PySem PySem.Spec PyProof.Rows L2
section
variable {K : PySem.W.Frag} {X : Cx}
end
end Zk
namespace Zk
open PySem PySem.Spec PyProof.Rows L2
section
variable {X : Cx}
end
section
variable {K : PySem.W.Frag}
variable {X : Cx} {a b : Expr} {fa fb : Fe} {apos cpos : PySem.Pos}
end
end Zk
namespace Zk
open PySem PySem.Spec PyProof.Rows L2
def dropD {κ : Type} [DecidableEq κ] (kvs : List (κ × D)) (k : κ) : List (κ × D) := kvs.filter fun kv => decide (kv.1 ≠ k)
section
variable {K : PySem.W.Frag} {Z Z' Z0 : Addr → Prop} {H H' H0 : Hp} {σ : L2.St} {E E' : Ev} {R R0 : Nat → List Addr}
theorem KR.drop {κ : Type} [DecidableEq κ] (k : κ) : ∀ {kvs : List (κ × V)} {kds : List (κ × D)}, KR K Z H kvs kds → KR K Z H (dropK kvs k) (dropD kds k) := by
  intro kvs
  induction kvs with
  | nil =>
    intro kds h
    rcases h.cases with ⟨_, rfl⟩ | ⟨_, _, _, _, _, e, _⟩
    · exact .nil
    · cases e
  | cons p r ih =>
    intro kds h
    rcases h.cases with ⟨e, _⟩ | ⟨k', v', d', r', s, e, rfl, h1, h2⟩
    · cases e
    · cases e
      have := ih h2
      unfold dropK dropD at this ⊢
      rw [List.filter_cons, List.filter_cons]
      by_cases c : k' = k
      · rw [if_neg (by simp [c]), if_neg (by simp [c])]; exact this
      · rw [if_pos (by simp [c]), if_pos (by simp [c])]; exact .cons h1 this
end
section
variable {X : Cx} {e : Expr} {fk : Fe} {pos : PySem.Pos}
end
section
variable {E : Ev} {fk : Fe} {j : Nat} {Qs : Fl × Ev → Prop}
end
end Zk
namespace Zk
open PySem PySem.Spec PyProof.Rows L2
section
variable {X : Cx} {K : PySem.W.Frag}
theorem vals_back : ∀ {xs : List V} {us : List Value} {i : Nat} {u : Value}, Vals xs us → us[i]? = some u → ∃ x, xs[i]? = some x ∧ RelV x u
  | _, _, _, _, .nil, e => by simp at e
  | _, _, 0, _, .cons r t, e => ⟨_, rfl, by simp at e; rw [← e]; exact r⟩
  | _, _, i + 1, _, .cons r t, e => by
    obtain ⟨x, h1, h2⟩ := vals_back (i := i) t (by simpa using e)
    exact ⟨x, by simpa using h1, h2⟩
end
end Zk
namespace Zk
open PySem PySem.Spec PyProof.Rows L2
section
variable {β : Type} {f : β → D}
def getV (m : List (Int × β)) (k : Int) : Option β := (m.find? fun p => decide (p.1 = k)).map (·.2)
def dVk (f : β → D) (m : List (Int × β)) : List (Key × D) := m.map fun p => ((Sum.inl p.1 : Key), f p.2)
def dV (f : β → D) (m : List (Int × β)) : D := .dK (dVk f m)
@[simp] theorem imm_dV (m : List (Int × β)) : imm (dV f m) = false := by simp [dV]
theorem valD_dV (m : List (Int × β)) (k : Int) : valD (dVk f m) (Sum.inl k) = (getV m k).map f := by
  unfold valD getV dVk
  induction m with
  | nil => rfl
  | cons p m ih =>
    simp only [List.map_cons, List.find?_cons]
    by_cases h : p.1 = k
    · simp [h]
    · simp only [h, Sum.inl.injEq, decide_false]
      simpa using ih
@[simp] theorem look_dV (m : List (Int × β)) (k : Int) : look (dV f m) (.int k) = some ((getV m k).map f) := by
  simp only [dV, look, keyOf, Option.map_some, valD_dV]
@[simp] theorem gIxd_dV (m : List (Int × β)) (k : Int) : gIxd [dV f m, .int k] = (getV m k).map fun v => (f v, 0) := by
  have e : gIxd [dV f m, .int k] = gDg [dV f m, .int k] := rfl
  rw [e]
  simp only [gDg, look_dV, Option.bind_some]
  cases getV m k <;> rfl
@[simp] theorem gInA_dV (neg : Bool) (m : List (Int × β)) (k : Int) : gInA neg [.int k, dV f m] = some (.bl ((getV m k).isSome ^^ neg), 9) := by
  have e : gInA neg [.int k, dV f m] = gInD neg [.int k, dV f m] := rfl
  rw [e]
  simp only [gInD, look_dV, Option.map_some]
  cases getV m k <;> rfl
theorem keyI_dV (m : List (Int × β)) : keyI (dVk f m) = some (m.map (·.1)) := by
  unfold dVk
  induction m with
  | nil => rfl
  | cons p m ih => simp [keyI, ih]
@[simp] theorem gSrt1_dV (m : List (Int × β)) : gSrt1 [dV f m] = some (.lst ((srt (m.map (·.1))).map D.int), 9) := by
  have e : gSrt1 [dV f m] = gSrtD [.dK (dVk f m)] := rfl
  rw [e]
  simp only [gSrtD, keyI_dV, Option.map_some]
end
end Zk
namespace Zk
open PySem PySem.Spec PyProof.Rows L2
theorem compTurn2_outS (elt t0 i0 t1 i1 : Expr) (ifs0 ifs1 : List Expr) (scope : Scope) (pos : PySem.Pos) (it acc : Value) (env : Env) :
    compTurn (.SetComp elt [⟨t0, i0, ifs0, 0⟩, ⟨t1, i1, ifs1, 0⟩] scope pos) 0 it acc env = (do
      standAt i0.pos
      match ← pyNext it with
      | none => pure (.done .next)
      | some v =>
        letOwnedTupleGo t0 it v
        assign t0 env v
        let mut ok := true
        for c in ifs0 do
          if ok then ok ← isTrue c env (eval c env)
        if ok then
          let x ← eval i1 env
          standAt i1.pos
          let x ← foldedSetIterable i1 env x
          let _ ← runOwn (.compStart (.SetComp elt [⟨t0, i0, ifs0, 0⟩, ⟨t1, i1, ifs1, 0⟩] scope pos) 1 (← holding [x] (pyIter x)) acc env) env
        again (.compLoop (.SetComp elt [⟨t0, i0, ifs0, 0⟩, ⟨t1, i1, ifs1, 0⟩] scope pos) 0 it acc env)) := by rfl
theorem compTurn2_inS (elt t0 i0 t1 i1 : Expr) (ifs0 ifs1 : List Expr) (scope : Scope) (pos : PySem.Pos) (it acc : Value) (env : Env) :
    compTurn (.SetComp elt [⟨t0, i0, ifs0, 0⟩, ⟨t1, i1, ifs1, 0⟩] scope pos) 1 it acc env = (do
      standAt i1.pos
      match ← pyNext it with
      | none => pure (.done .next)
      | some v =>
        letOwnedTupleGo t1 it v
        assign t1 env v
        let mut ok := true
        for c in ifs1 do
          if ok then ok ← isTrue c env (eval c env)
        if ok then
          (do let v ← eval elt env; standAt elt.pos; let _ ← call (.builtin "set.add") [acc, v])
        again (.compLoop (.SetComp elt [⟨t0, i0, ifs0, 0⟩, ⟨t1, i1, ifs1, 0⟩] scope pos) 1 it acc env)) := by rfl

section
variable {prog : Program} {w : World} {A : Around} {R : Result → Shared → Prop} {s : Shared} {elt t0 i0 t1 i1 : Expr} {ifs0 ifs1 : List Expr} {scope : Scope} {pos : PySem.Pos} {it acc : Value} {env : Env}
/-- the loop of the first clause -/
theorem compLoop2_outS (hs : ∀ x, foldedSetIterable i1 env x = pure x) (I : Nat → Shared → Prop)
    (turn : ∀ n s, I n s → wpAny (model prog w) A (pyNext it) (fun r s₁ => match r with
      | none => R (.ok .next) s₁
      | some v => wpAny (model prog w) A (letOwnedTupleGo t0 it v) (fun _ s₁' => wpAny (model prog w) A (assign t0 env v) (fun _ s₂ =>
          wpAny (model prog w) A (forIn ifs0 true fun c r => if r = true then do let ok ← isTrue c env (eval c env); pure (ForInStep.yield ok) else pure (ForInStep.yield r)) (fun ok s₃ =>
            if ok = true then wpAny (model prog w) A (eval i1 env) (fun x s₄ => wpAny (model prog w) A (pyIter x) (fun it1 s₅ =>
              codeAny (model prog w) A (.compStart (.SetComp elt [⟨t0, i0, ifs0, 0⟩, ⟨t1, i1, ifs1, 0⟩] scope pos) 1 it1 acc env) (fun r s' => match r with
                | .ok _ => ∃ m, m < n ∧ I m s'
                | .error _ => False) s₅) (notedBy (model prog w) A env fun e s' => R (.error e) s') s₄) (notedBy (model prog w) A env fun e s' => R (.error e) s') s₃
            else ∃ m, m < n ∧ I m s₃) (notedBy (model prog w) A env fun e s' => R (.error e) s') s₂) (notedBy (model prog w) A env fun e s' => R (.error e) s') s₁') (notedBy (model prog w) A env fun e s' => R (.error e) s') s₁) (notedBy (model prog w) A env fun e s' => R (.error e) s') s)
    (n : Nat) (h : I n s) :
    codeAny (model prog w) A (.compLoop (.SetComp elt [⟨t0, i0, ifs0, 0⟩, ⟨t1, i1, ifs1, 0⟩] scope pos) 0 it acc env) R s := by
  refine codeAny_loop rfl I (fun n s hI => ?_) n h
  show wpAny _ A ((compTurn (.SetComp elt [⟨t0, i0, ifs0, 0⟩, ⟨t1, i1, ifs1, 0⟩] scope pos) 0 it acc env).onRaise (fun x => do noteFrame x env; theTreesLotGoes x)) _ _ s
  refine wpAny_noted ?_
  rw [compTurn2_outS]
  refine wpAny_bind (wpAny_standAt (wpAny_bind (wpAny_mono (turn n s hI) (fun r s₁ h₁ => ?_) fun _ _ h' => h')))
  cases r with
  | none => exact wpAny_pure h₁
  | some v =>
    refine wpAny_bind (wpAny_mono h₁ (fun _ s₁' h₁' => ?_) fun _ _ h' => h')
    refine wpAny_bind (wpAny_mono h₁' (fun _ s₂ h₂ => wpAny_bind (wpAny_mono h₂ (fun ok s₃ h₃ => ?_) fun _ _ h' => h')) fun _ _ h' => h')
    cases ok with
    | false => exact wpAny_pure ⟨rfl, h₃⟩
    | true =>
      refine wpAny_bind (wpAny_mono h₃ (fun x s₄ h₄ => ?_) fun _ _ h' => h')
      refine wpAny_bind (wpAny_standAt (wpAny_bind (wpAny_of_eq (hs x) (wpAny_bind (wpAny_holding (wpAny_mono h₄ (fun it1 s₅ h₅ => ?_) fun _ _ h' => h'))))))
      refine wpAny_bind (wpAny_runOwn ?_)
      rw [Around.mark_none]
      refine codeAny_mono h₅ fun r s' hr => ?_
      cases r with
      | ok f =>
        first
          | exact wpAny_pure ⟨rfl, hr⟩
          | exact wpAny_bind (wpAny_pure (wpAny_pure ⟨rfl, hr⟩))
      | error e => exact hr.elim
/-- the loop of the second -/
theorem compLoop2_inS (I : Nat → Shared → Prop)
    (turn : ∀ n s, I n s → wpAny (model prog w) A (pyNext it) (fun r s₁ => match r with
      | none => R (.ok .next) s₁
      | some v => wpAny (model prog w) A (letOwnedTupleGo t1 it v) (fun _ s₁' => wpAny (model prog w) A (assign t1 env v) (fun _ s₂ =>
          wpAny (model prog w) A (forIn ifs1 true fun c r => if r = true then do let ok ← isTrue c env (eval c env); pure (ForInStep.yield ok) else pure (ForInStep.yield r)) (fun ok s₃ =>
            if ok = true then wpAny (model prog w) A (eval elt env) (fun x s₄ =>
              wpAny (model prog w) A (call (.builtin "set.add") [acc, x]) (fun _ s₅ => ∃ m, m < n ∧ I m s₅) (notedBy (model prog w) A env fun e s' => R (.error e) s') s₄) (notedBy (model prog w) A env fun e s' => R (.error e) s') s₃
            else ∃ m, m < n ∧ I m s₃) (notedBy (model prog w) A env fun e s' => R (.error e) s') s₂) (notedBy (model prog w) A env fun e s' => R (.error e) s') s₁') (notedBy (model prog w) A env fun e s' => R (.error e) s') s₁) (notedBy (model prog w) A env fun e s' => R (.error e) s') s)
    (n : Nat) (h : I n s) :
    codeAny (model prog w) A (.compLoop (.SetComp elt [⟨t0, i0, ifs0, 0⟩, ⟨t1, i1, ifs1, 0⟩] scope pos) 1 it acc env) R s := by
  refine codeAny_loop rfl I (fun n s hI => ?_) n h
  show wpAny _ A ((compTurn (.SetComp elt [⟨t0, i0, ifs0, 0⟩, ⟨t1, i1, ifs1, 0⟩] scope pos) 1 it acc env).onRaise (fun x => do noteFrame x env; theTreesLotGoes x)) _ _ s
  refine wpAny_noted ?_
  rw [compTurn2_inS]
  refine wpAny_bind (wpAny_standAt (wpAny_bind (wpAny_mono (turn n s hI) (fun r s₁ h₁ => ?_) fun _ _ h' => h')))
  cases r with
  | none => exact wpAny_pure h₁
  | some v =>
    refine wpAny_bind (wpAny_mono h₁ (fun _ s₁' h₁' => ?_) fun _ _ h' => h')
    refine wpAny_bind (wpAny_mono h₁' (fun _ s₂ h₂ => wpAny_bind (wpAny_mono h₂ (fun ok s₃ h₃ => ?_) fun _ _ h' => h')) fun _ _ h' => h')
    cases ok with
    | false => exact wpAny_pure ⟨rfl, h₃⟩
    | true =>
      exact wpAny_bind (wpAny_bind (wpAny_mono h₃ (fun x s₄ h₄ => wpAny_bind (wpAny_standAt (wpAny_bind (wpAny_mono h₄ (fun _ s₅ h₅ => wpAny_pure (wpAny_pure ⟨rfl, h₅⟩)) fun _ _ h' => h')))) fun _ _ h' => h'))
/-- the second clause's start -/
theorem compStart1_okS (h0 : codeAny (model prog w) A (.compLoop (.SetComp elt [⟨t0, i0, ifs0, 0⟩, ⟨t1, i1, ifs1, 0⟩] scope pos) 1 it acc env) R s)
    (h : wpAny (model prog w) A (pyIter it) (fun it' s' => codeAny (model prog w) A (.compLoop (.SetComp elt [⟨t0, i0, ifs0, 0⟩, ⟨t1, i1, ifs1, 0⟩] scope pos) 1 it' acc env) R s')
      (notedBy (model prog w) A env fun x s' => R (.error x) s') s) :
    codeAny (model prog w) A (.compStart (.SetComp elt [⟨t0, i0, ifs0, 0⟩, ⟨t1, i1, ifs1, 0⟩] scope pos) 1 it acc env) R s := by
  refine codeAny_of_tree ?_
  show wpAny _ _ ((compStart (.SetComp elt [⟨t0, i0, ifs0, 0⟩, ⟨t1, i1, ifs1, 0⟩] scope pos) 1 it acc env).onRaise (fun x => do noteFrame x env; standAt theWindowsPlace)) _ _ s
  refine wpAny_notedAt ?_
  unfold compStart
  show wpAny _ _ (ask >>= _) _ _ s
  refine wpAny_bind (wpAny_askSetting (wpAny_ite ?_))
  split
  · first
      | exact wpAny_bind (wpAny_pure (wpAny_pure (And.intro rfl h0)))
      | exact wpAny_pure (And.intro rfl h0)
  · first
      | exact wpAny_bind (wpAny_rule (wpAny_bind (wpAny_standAt (wpAny_bind (wpAny_mono h (fun it' s' h' => wpAny_pure (And.intro rfl h')) fun _ _ x => x)))))
      | (refine wpAny_bind (wpAny_rule ?_); show wpAny _ _ (standAt i1.pos >>= _) _ _ s; exact wpAny_bind (wpAny_standAt (wpAny_bind (wpAny_mono h (fun it' s' h' => wpAny_pure (And.intro rfl h')) fun _ _ x => x))))
end

/-- [elt for tg in iter if .. for tg1 in iter1 if ..]: behind the first clause's store and tests the second source's own loop, from which Nx is reached. vs: the block's names; vs1: those of the second target -/
def tSc2 (w : World) (wi : TI) (g : TG) (tt : TT) (wi1 : TI) (g1 : TG) (tt1 : TT) (te : TE) (vs vs1 : List Nat) : TE := fun σ H Q => wi σ H fun J H1 => ∀ D, H1 D = none → ∃ W : Nat → Nat → Hp → Prop, (∃ m, W 0 m (upd H1 D (SetO w D (fun _ => false) 0))) ∧ ∀ i m H, W i m H →
  (J.stop i H ∧ Q (.ref D) H) ∨ (J.go i H ∧ ∃ Nx : Hp → Prop, (∀ H', Nx H' → ∃ m', m' < m ∧ W (i + 1) m' H') ∧ ∀ x H', J.yld i H x H' → g x (L2.wipe σ vs) H' fun σ2 H2 => L2.wipe σ2 vs = L2.wipe σ vs ∧ tt σ2 H2 fun b H3 =>
    if b = true then wi1 σ2 H3 fun J1 H4 => ∃ W1 : Nat → Nat → Hp → Prop, (∃ m, W1 0 m H4) ∧ ∀ j k H, W1 j k H →
      (J1.stop j H ∧ Nx H) ∨ (J1.go j H ∧ ∃ Nx1 : Hp → Prop, (∀ H', Nx1 H' → ∃ k', k' < k ∧ W1 (j + 1) k' H') ∧ ∀ x H', J1.yld j H x H' → g1 x (L2.wipe σ2 vs1) H' fun σ3 H5 => L2.wipe σ3 vs1 = L2.wipe σ2 vs1 ∧ tt1 σ3 H5 fun b H6 =>
        if b = true then te σ3 H6 fun y H7 => ∃ (c : Int) (S : Int → Bool) (n : Nat), y = .int c ∧ H7 D = some (SetO w D S n) ∧ n + 1 < scanBound ∧ Nx1 (upd H7 D (SetO w D (fun j => S j || decide (j = c)) (if S c = true then n else n + 1))) else Nx1 H6)
    else Nx H3)
theorem sc2_core {pins : List (Addr × Obj)} {s : Shared} {σ : L2.St} {H : Hp} {Q : VK} {elt tg iter tg1 iter1 : Expr} {ifs ifs1 : List Expr} {scope : Scope} {own : List (PySem.Str × Nat)} {vs1 : List Nat} {pos pos' : PySem.Pos} {wi wi1 : TI} {g g1 : TG} {tt tt1 : TT} {te : TE} {use : Option (Value → Sem Unit)} {Qf : Value → Shared → Prop}
    (hc : X.calm = true) (hN : X.N.Nodup) (I : Inv X pins σ H s) (hi : PI X tg iter wi) (ok : BlkOk X.N X.env.scope scope own) (hv : ∀ i ∈ vs1, i ∈ own.map (·.2))
    (hg : ∀ (s : Shared) (H : Hp) (C : Addr) (cl : List (PySem.Str × Addr)) (fp : List Addr), PG (X.blk s H scope (compEnvC scope cl C X.env) fp) tg g) (ht : ∀ (s : Shared) (H : Hp) (C : Addr) (cl : List (PySem.Str × Addr)) (fp : List Addr), PTs (X.blk s H scope (compEnvC scope cl C X.env) fp) ifs tt)
    (he : ∀ (s : Shared) (H : Hp) (C : Addr) (cl : List (PySem.Str × Addr)) (fp : List Addr), PE (X.blk s H scope (compEnvC scope cl C X.env) fp) elt te) (hs : ∀ x, foldedSetIterable iter X.env x = pure x)
    (hi1 : ∀ (s : Shared) (H : Hp) (C : Addr) (cl : List (PySem.Str × Addr)) (fp : List Addr), PI (X.blk s H scope (compEnvC scope cl C X.env) fp) tg1 iter1 wi1)
    (hg1 : ∀ (s : Shared) (H : Hp) (C : Addr) (cl : List (PySem.Str × Addr)) (fp : List Addr), PG (X.blk s H scope (compEnvC scope cl C X.env) fp) tg1 g1)
    (ht1 : ∀ (s : Shared) (H : Hp) (C : Addr) (cl : List (PySem.Str × Addr)) (fp : List Addr), PTs (X.blk s H scope (compEnvC scope cl C X.env) fp) ifs1 tt1)
    (hs1 : ∀ env x, foldedSetIterable iter1 env x = pure x)
    (h : tSc2 X.w wi g tt wi1 g1 tt1 te (own.map (·.2)) vs1 σ H Q)
    (hRR : ∀ D C s' m H', Inv X pins σ H' s' → Q (.ref D) H' → s'.heap.Ns C m → FpOk X pins H' C → compPost (model X.prog X.w) X.A X.xe use Qf (.ref D) C (.ok .next) s') :
    wpAny (model X.prog X.w) X.A (comprehension (.SetComp elt [⟨tg, iter, ifs, 0⟩, ⟨tg1, iter1, ifs1, 0⟩] scope pos) scope X.env pos' (newSet (.type "set")) false (eval iter X.env) use) Qf X.xe s := by
  have hfree : ∀ y ∈ scope.names, y.2 = .free → ∃ c, X.env.cells.lookup y.1 = some c := fun y hy e => by
    rcases ok.free y hy e with k | k
    · exact I.ok.has _ (.inl k)
    · exact I.ok.has _ (.inr k)
  refine wpAny_comprehension_free (use := use) rfl hs (closure_ok hfree) ok.kind (fun y hy e => by rw [ok.uniq y hy, e])
    (thn (hi.run pins s σ H _ I h) fun xv s1 hx => thn hx fun itv s2 h2 => ?_)
  obtain ⟨it, fp, tn, J, H2, e, I2, T, st2, f2, q⟩ := h2
  subst e
  refine PpSet.newSet_ok (newEnv_comp ?_)
  generalize hD : s2.heap.objs.size = D
  have hDn : H2 D = none := I2.hok.fresh (Nat.le_of_eq hD)
  obtain ⟨W, ⟨m0, w0⟩, turn⟩ := q D hDn
  -- the new list
  generalize hs3 : ({ s2 with heap := s2.heap.push { cls := .type "set", dict := none, data := .set #[] 0 (.fresh 0 0 (!X.w.params.followText "set-order")) } } : Shared) = s3
  have I3 : Inv X pins σ (upd H2 D (SetO X.w D (fun _ => false) 0)) s3 := by
    rw [← hs3]
    refine I2.laid (t' := s2.toks) (fun b o e => Heap.get?_push_of_some _ e) (Nat.le_of_eq hD) ?_
    rw [← hD]
    exact setO_new (setR_fresh X.w)
  have h3 : s3.heap = s2.heap.push { cls := .type "set", dict := none, data := .set #[] 0 (.fresh 0 0 (!X.w.params.followText "set-order")) } := by rw [← hs3]
  have sz : ∀ b ∈ fp, b < s2.heap.objs.size := fun b hb => by
    obtain ⟨o, e, _⟩ := T.obj _ _ st2 b hb
    exact Heap.lt_size e
  have f3 : ∀ b ∈ fp, FpOk X pins (upd H2 D (SetO X.w D (fun _ => false) 0)) b ∧ b < s3.heap.objs.size := fun b hb => by
    have hlt := sz b hb
    refine ⟨⟨?_, (f2 b hb).2⟩, by rw [h3, Heap.size_push]; exact Nat.lt_succ_of_lt hlt⟩
    rw [upd_ne (by rw [← hD]; exact Nat.ne_of_lt hlt)]
    exact (f2 b hb).1
  have st3 : tn 0 s3.heap := T.keep _ _ _ st2 fun b _ o e => by rw [h3]; exact Heap.get?_push_of_some _ e
  have I4 := block_start I3 ok hN f3
  have pg := hg s3 (upd H2 D (SetO X.w D (fun _ => false) 0)) s3.heap.objs.size (cellsFrom (s3.heap.objs.size + 1) scope.names (cloFrom X.env.cells scope.names [])) fp
  have pt := ht s3 (upd H2 D (SetO X.w D (fun _ => false) 0)) s3.heap.objs.size (cellsFrom (s3.heap.objs.size + 1) scope.names (cloFrom X.env.cells scope.names [])) fp
  have pe := he s3 (upd H2 D (SetO X.w D (fun _ => false) 0)) s3.heap.objs.size (cellsFrom (s3.heap.objs.size + 1) scope.names (cloFrom X.env.cells scope.names [])) fp
  have pi1 := hi1 s3 (upd H2 D (SetO X.w D (fun _ => false) 0)) s3.heap.objs.size (cellsFrom (s3.heap.objs.size + 1) scope.names (cloFrom X.env.cells scope.names [])) fp
  have pg1 := hg1 s3 (upd H2 D (SetO X.w D (fun _ => false) 0)) s3.heap.objs.size (cellsFrom (s3.heap.objs.size + 1) scope.names (cloFrom X.env.cells scope.names [])) fp
  have pt1 := ht1 s3 (upd H2 D (SetO X.w D (fun _ => false) 0)) s3.heap.objs.size (cellsFrom (s3.heap.objs.size + 1) scope.names (cloFrom X.env.cells scope.names [])) fp
  show codeAny _ _ (.compStart (.SetComp elt [⟨tg, iter, ifs, 0⟩, ⟨tg1, iter1, ifs1, 0⟩] scope pos) 0 (.ref it) (.ref D) (compEnvC scope (cellsFrom (s3.heap.objs.size + 1) scope.names (cloFrom X.env.cells scope.names [])) s3.heap.objs.size X.env)) (compPost (model X.prog X.w) X.A X.xe use Qf (.ref D) s3.heap.objs.size) { s3 with heap := pushCells (s3.heap.push { cls := .type "dict", data := .dict #[] }) scope.names }
  have nfp : ∀ b ∈ fp, (upd H2 D (SetO X.w D (fun _ => false) 0)) b = none := fun b hb => (f3 b hb).1.1
  generalize hce : compEnvC scope (cellsFrom (s3.heap.objs.size + 1) scope.names (cloFrom X.env.cells scope.names [])) s3.heap.objs.size X.env = ce at I4 pg pt pe pi1 pg1 pt1 ⊢
  have cL : ce.locals = s3.heap.objs.size := by subst hce; rfl
  generalize hH3 : upd H2 D (SetO X.w D (fun _ => false) 0) = H3 at I3 I4 pg pt pe pi1 pg1 pt1 w0 nfp f3
  generalize hs4 : ({ s3 with heap := pushCells (s3.heap.push { cls := .type "dict", data := .dict #[] }) scope.names } : Shared) = s4 at I4 ⊢
  have st4 : tn 0 s4.heap := T.keep _ _ _ st3 fun b _ o e => by rw [← hs4]; exact pushCells_keeps _ _ _ _ (Heap.get?_push_of_some _ e)
  have stat : ∀ {σ' : L2.St} {H' : Hp} {s' : Shared}, Inv (X.blk s3 H3 scope ce fp) [] σ' H' s' → (∀ b ∈ fp, H' b = none) → ∀ b ∈ fp, FpOk (X.blk s3 H3 scope ce fp) [] H' b := fun {σ' H' s'} I' hn b hb =>
    ⟨hn b hb, (I'.ok.exf b hb).1, I'.ok.exfs b hb, .inl hb, fun x c e => (I'.ok.exf b hb).2 x c e, fun p hp => absurd (show p ∈ ([] : List (Addr × Obj)) ++ [] from hp) (by simp)⟩
  have loop : codeAny (model X.prog X.w) X.A (.compLoop (.SetComp elt [⟨tg, iter, ifs, 0⟩, ⟨tg1, iter1, ifs1, 0⟩] scope pos) 0 (.ref it) (.ref D) ce) (compPost (model X.prog X.w) X.A X.xe use Qf (.ref D) s3.heap.objs.size) s4 := by
    refine compLoop2_outS (hs1 ce) (fun n s' => ∃ i H', Inv (X.blk s3 H3 scope ce fp) [] (L2.wipe σ (own.map (·.2))) H' s' ∧ tn i s'.heap ∧ (∀ b ∈ fp, H' b = none) ∧ W i n H') ?_ m0 ⟨0, H3, I4, st4, nfp, w0⟩
    rintro n s5 ⟨i, H5, I5, st5, n5, w5⟩
    rcases turn i n H5 w5 with ⟨stop, qq⟩ | ⟨go, Nx, hNx, step⟩
    · have td := T.done (X.blk s3 H3 scope ce fp) rfl rfl rfl hc i [] s5 _ H5 (fun _ _ => False) I5 (stat I5 n5) st5 stop
      refine thnF td fun r s6 ⟨hr, I6⟩ => ?_
      subst hr
      -- back in the def's context
      have I7 : Inv X pins σ H5 s6 := I3.call' (ch := fp) I6.os I6.base I6.hok I6.bare fun b hb => ⟨(f3 b hb).1.2.2.2.1, (f3 b hb).1.2.1, (f3 b hb).1.2.2.2.2.1, (f3 b hb).1.2.2.2.2.2⟩
      have nC : H5 s3.heap.objs.size = none := by
        have z : H5 ce.locals = none := I6.free
        rw [cL] at z
        exact z
      obtain ⟨m, hn, _⟩ := I6.loc
      have hn : s6.heap.Ns ce.locals m := hn
      rw [cL] at hn
      exact hRR D s3.heap.objs.size s6 m H5 I7 qq hn (I3.fpOk (Nat.le_refl _) nC)
    · have ti := T.item (X.blk s3 H3 scope ce fp) rfl rfl rfl hc i [] s5 _ H5 (fun _ _ => False) I5 (stat I5 n5) st5 go
      refine thnF ti fun r s6 ⟨u, hr, h6⟩ => ?_
      subst hr
      refine thnF h6 fun _ s7 ⟨x, H7, I7, r7, y7, st7, n7⟩ => ?_
      have I7' := I7.pinned (stat I7 n7) (T.obj _ _ st7)
      refine thnF (pg.run _ s7 _ H7 x u _ I7' r7 (step x H7 y7)) fun _ s8 ⟨σ8, H8, I8, hw8, q8⟩ => ?_
      refine thnF (pt.run _ s8 σ8 H8 _ I8 q8) fun b s9 ⟨H9, I9, q9⟩ => ?_
      -- the turn's end, from any slots that know what the block knew at its start
      have fin : ∀ {σ9 : L2.St} {s' : Shared} {H' : Hp}, Inv (X.blk s3 H3 scope ce fp) ([] ++ pinsAt fp s7.heap) σ9 H' s' → (L2.wipe σ (own.map (·.2))).length = σ9.length → (∀ (j : Nat) v, (L2.wipe σ (own.map (·.2)))[j]? = some (some v) → σ9[j]? = some (some v)) → Nx H' →
          ∃ m, m < n ∧ ∃ i H', Inv (X.blk s3 H3 scope ce fp) [] (L2.wipe σ (own.map (·.2))) H' s' ∧ tn i s'.heap ∧ (∀ b ∈ fp, H' b = none) ∧ W i m H' := fun {σ9 s' H'} I' hl hk nx => by
        obtain ⟨m', hm, w'⟩ := hNx H' nx
        have pin' : ∀ b ∈ fp, ∀ o, s7.heap.get? b = some o → s'.heap.get? b = some o ∧ H' b = none := fun b hb o e =>
          let z := I'.pin (b, o) (List.mem_append_right _ (List.mem_append_right _ (mem_pinsAt hb e)))
          ⟨z.1, z.2.1⟩
        refine ⟨m', hm, i + 1, H', (I'.unpinned (pins := [])).weak hl hk, T.keep _ _ _ st7 fun b hb o e => (pin' b hb o e).1, fun b hb => ?_, w'⟩
        obtain ⟨o, e, _⟩ := T.obj _ _ st7 b hb
        exact (pin' b hb o e).2
      have hl8 : (L2.wipe σ (own.map (·.2))).length = σ8.length := by rw [← hw8, wipe_length]
      have hk8 : ∀ (j : Nat) v, (L2.wipe σ (own.map (·.2)))[j]? = some (some v) → σ8[j]? = some (some v) := fun j v e => by
        rw [← hw8] at e
        exact (wipe_some e).1
      have hk9 : ∀ (j : Nat) v, (L2.wipe σ (own.map (·.2)))[j]? = some (some v) → (L2.wipe σ8 vs1)[j]? = some (some v) := fun j v e => by
        rw [← hw8] at e
        obtain ⟨e1, e2⟩ := wipe_some e
        rw [wipe_out fun z => e2 (hv j z)]
        exact e1
      cases b with
      | false =>
        simp only [Bool.false_eq_true, if_false] at q9 ⊢
        exact fin I9 hl8 hk8 q9
      | true =>
        simp only [if_true] at q9 ⊢
        refine thnF (pi1.run _ s9 σ8 H9 _ I9 q9) fun xv s10 hx => thnF hx fun itv s11 h11 => ?_
        obtain ⟨it1, fp1, tn1, J1, H11, e1, I11, T1, st11, f11, W1, ⟨m1, w1⟩, turn1⟩ := h11
        subst e1
        -- the inner loop
        have stat1 : ∀ {H' : Hp}, (∀ b ∈ fp1, H' b = none) → ∀ b ∈ fp1, FpOk (X.blk s3 H3 scope ce fp) ([] ++ pinsAt fp s7.heap) H' b := fun hn b hb => ⟨hn b hb, (f11 b hb).2⟩
        have loop1 : codeAny (model X.prog X.w) X.A (.compLoop (.SetComp elt [⟨tg, iter, ifs, 0⟩, ⟨tg1, iter1, ifs1, 0⟩] scope pos) 1 (.ref it1) (.ref D) ce)
            (fun r s' => match r with
              | .ok _ => ∃ m, m < n ∧ ∃ i H', Inv (X.blk s3 H3 scope ce fp) [] (L2.wipe σ (own.map (·.2))) H' s' ∧ tn i s'.heap ∧ (∀ b ∈ fp, H' b = none) ∧ W i m H'
              | .error _ => False) s11 := by
          refine compLoop2_inS (fun k s' => ∃ j H', Inv (X.blk s3 H3 scope ce fp) ([] ++ pinsAt fp s7.heap) (L2.wipe σ8 vs1) H' s' ∧ tn1 j s'.heap ∧ (∀ b ∈ fp1, H' b = none) ∧ W1 j k H') ?_ m1 ⟨0, H11, I11.weak (wipe_length _ _) (fun j v e => (wipe_some e).1), st11, fun b hb => (f11 b hb).1, w1⟩
          rintro k s12 ⟨j, H12, I12, st12, n12, w12⟩
          rcases turn1 j k H12 w12 with ⟨stop1, nx1⟩ | ⟨go1, Nx1, hNx1, step1⟩
          · refine thnF (T1.done (X.blk s3 H3 scope ce fp) rfl rfl rfl hc j _ s12 (L2.wipe σ8 vs1) H12 (fun _ _ => False) I12 (stat1 n12) st12 stop1) fun r s13 ⟨hr, I13⟩ => ?_
            subst hr
            exact fin I13 (hl8.trans (wipe_length σ8 vs1).symm) hk9 nx1
          · refine thnF (T1.item (X.blk s3 H3 scope ce fp) rfl rfl rfl hc j _ s12 (L2.wipe σ8 vs1) H12 (fun _ _ => False) I12 (stat1 n12) st12 go1) fun r s13 ⟨u1, hr, h13⟩ => ?_
            subst hr
            refine thnF h13 fun _ s14 ⟨x1, H14, I14, r14, y14, st14, n14⟩ => ?_
            have I14' := I14.pinned (stat1 n14) (T1.obj _ _ st14)
            refine thnF (pg1.run _ s14 (L2.wipe σ8 vs1) H14 x1 u1 _ I14' r14 (step1 x1 H14 y14)) fun _ s15 ⟨σ15, H15, I15, hw15, q15⟩ => ?_
            refine thnF (pt1.run _ s15 σ15 H15 _ I15 q15) fun b1 s16 ⟨H16, I16, q16⟩ => ?_
            have fin1 : ∀ {s' : Shared} {H' : Hp}, Inv (X.blk s3 H3 scope ce fp) (([] ++ pinsAt fp s7.heap) ++ pinsAt fp1 s14.heap) σ15 H' s' → Nx1 H' → ∃ m, m < k ∧ ∃ j H', Inv (X.blk s3 H3 scope ce fp) ([] ++ pinsAt fp s7.heap) (L2.wipe σ8 vs1) H' s' ∧ tn1 j s'.heap ∧ (∀ b ∈ fp1, H' b = none) ∧ W1 j m H' := fun {s' H'} I' nx => by
              obtain ⟨m', hm, w'⟩ := hNx1 H' nx
              have pin' : ∀ b ∈ fp1, ∀ o, s14.heap.get? b = some o → s'.heap.get? b = some o ∧ H' b = none := fun b hb o e =>
                let z := I'.pin (b, o) (List.mem_append_right _ (List.mem_append_right _ (mem_pinsAt hb e)))
                ⟨z.1, z.2.1⟩
              refine ⟨m', hm, j + 1, H', I'.unpinned.weak (by rw [← hw15, wipe_length]) (fun j v e => by rw [← hw15] at e; exact (wipe_some e).1), T1.keep _ _ _ st14 fun b hb o e => (pin' b hb o e).1, fun b hb => ?_, w'⟩
              obtain ⟨o, e, _⟩ := T1.obj _ _ st14 b hb
              exact (pin' b hb o e).2
            cases b1 with
            | false =>
              simp only [Bool.false_eq_true, if_false] at q16 ⊢
              exact fin1 I16 q16
            | true =>
              simp only [if_true] at q16 ⊢
              refine thnF (pe.run _ s16 σ15 H16 _ I16 q16) fun z s17 ⟨yv, H17, I17, r17, kk, SS, nn, ey, eD, room, nx⟩ => ?_
              subst ey
              obtain ⟨tk, rfl⟩ := r17
              exact addI_ok (X := X.blk s3 H3 scope ce fp) I17 eD room fun s18 I18 => fin1 I18 nx
        exact compStart1_okS loop1 (T1.self X.A 0 _ _ _ st11 loop1)
  exact PpSet.codeAny_compStart_set loop (T.self X.A 0 _ _ _ st4 loop)
/-- as a value -/
theorem pe_sc2 {elt tg iter tg1 iter1 : Expr} {ifs ifs1 : List Expr} {scope : Scope} {own : List (PySem.Str × Nat)} {vs1 : List Nat} {pos : PySem.Pos} {wi wi1 : TI} {g g1 : TG} {tt tt1 : TT} {te : TE} (hc : X.calm = true) (hN : X.N.Nodup) (hi : PI X tg iter wi) (ok : BlkOk X.N X.env.scope scope own) (hv : ∀ i ∈ vs1, i ∈ own.map (·.2))
    (hg : ∀ (s : Shared) (H : Hp) (C : Addr) (cl : List (PySem.Str × Addr)) (fp : List Addr), PG (X.blk s H scope (compEnvC scope cl C X.env) fp) tg g) (ht : ∀ (s : Shared) (H : Hp) (C : Addr) (cl : List (PySem.Str × Addr)) (fp : List Addr), PTs (X.blk s H scope (compEnvC scope cl C X.env) fp) ifs tt)
    (hi1 : ∀ (s : Shared) (H : Hp) (C : Addr) (cl : List (PySem.Str × Addr)) (fp : List Addr), PI (X.blk s H scope (compEnvC scope cl C X.env) fp) tg1 iter1 wi1)
    (hg1 : ∀ (s : Shared) (H : Hp) (C : Addr) (cl : List (PySem.Str × Addr)) (fp : List Addr), PG (X.blk s H scope (compEnvC scope cl C X.env) fp) tg1 g1) (ht1 : ∀ (s : Shared) (H : Hp) (C : Addr) (cl : List (PySem.Str × Addr)) (fp : List Addr), PTs (X.blk s H scope (compEnvC scope cl C X.env) fp) ifs1 tt1)
    (he : ∀ (s : Shared) (H : Hp) (C : Addr) (cl : List (PySem.Str × Addr)) (fp : List Addr), PE (X.blk s H scope (compEnvC scope cl C X.env) fp) elt te) (hs : ∀ x, foldedSetIterable iter X.env x = pure x := by intro _; rfl) (hs1 : ∀ env x, foldedSetIterable iter1 env x = pure x := by intro _ _; rfl) :
    PE X (.SetComp elt [⟨tg, iter, ifs, 0⟩, ⟨tg1, iter1, ifs1, 0⟩] scope pos) (tSc2 X.w wi g tt wi1 g1 tt1 te (own.map (·.2)) vs1) := by
  refine ⟨fun pins s σ H Q I h => ?_⟩
  rw [PpSet.eval_SetComp]
  refine sc2_core hc hN I hi ok hv hg ht he hs hi1 hg1 ht1 hs1 h fun D C s' m H' I' q hn f => ⟨m, hn, fun h'' sb => ?_⟩
  obtain ⟨f0, f1, f2, f3, f4, f5⟩ := f
  exact ⟨.ref D, H', I'.turned (t' := s'.toks) (fun b o hb e => (sb.2 b hb).trans e) f0 f1 f3 f4 f5, rfl, q⟩
section
variable {K : PySem.W.Frag} {Z Z' Zf Z0 Z1 Z2 : Addr → Prop} {H H' H0 H1 H2 : Hp} {σ σ' : L2.St} {E E' E1 EF : Ev} {R R' R0 R1 R2 Rw : Rs} {D0 : Addr}
theorem SetG.less {wd : World} {R6 : Rs} {acc : List (D × Nat)} (G : SetG wd Z1 H1 Rw D0 Z2 H2 R2 acc) (h : ∀ a, ow R6 a → ow R2 a) : SetG wd Z1 H1 Rw D0 Z2 H2 R6 acc :=
  G.keep ⟨fun _ h => h, fun _ h => .inl h, fun _ _ h _ => h, fun a z => .inl (h a z), fun _ h => h⟩
theorem lcM2_pre {it2 : Fi} {g g2 : Fg} {c c2 : Ft} {f : Fe} {is is2 : List Nat} : ∀ (ds : List D) (E : Ev) (acc : List (D × Nat)) {accF : List (D × Nat)} {EF : Ev}, lcM2 it2 g g2 c c2 f is is2 ds E acc = some (accF, EF) → ∃ t, accF = acc ++ t
  | [], E, acc, accF, EF, h => by cases h; exact ⟨[], by simp⟩
  | d :: ds, E, acc, accF, EF, h => by
    simp only [lcM2] at h
    cases e1 : g d E with
    | none => rw [e1] at h; cases h
    | some E1 =>
      rw [e1] at h
      simp only [Option.bind_some] at h
      cases e2 : c E1 with
      | none => rw [e2] at h; cases h
      | some q =>
        rw [e2] at h
        simp only [Option.bind_some] at h
        split at h
        · cases e3 : it2 q.2 with
          | none => rw [e3] at h; cases h
          | some p =>
            rw [e3] at h
            simp only [Option.bind_some] at h
            cases e4 : lcM g2 c2 f is2 p.1 (wipeE p.2 is2) acc with
            | none => rw [e4] at h; cases h
            | some r =>
              rw [e4] at h
              simp only [Option.bind_some] at h
              obtain ⟨t, ht⟩ := lcM_pre _ _ _ (accF := r.1) (EF := r.2) e4
              obtain ⟨u, hu⟩ := lcM2_pre ds _ _ h
              exact ⟨t ++ u, by rw [hu, ht]; simp⟩
        · exact lcM2_pre ds _ _ h
theorem sc2_of {wd : World} {b0 : Bool} {it it2 : Fi} {is is2 w w2 : List Nat} {g g2 : Fg} {c c2 : Ft} {f : Fe} {Q : VK} (hgl : GL g) (hgl2 : GL g2) (hw : ∀ i ∈ w, i ∈ is) (hw2 : ∀ i ∈ w2, i ∈ is2) (hs2 : ∀ i ∈ is2, i ∈ is) (q : eOf K (mScX b0 (mLc2 it is g c it2 is2 g2 c2 f)) σ H Q) :
    tSc2 wd (iOf K it) (gOf K w g) (cOf K c) (iOf K it2) (gOf K w2 g2) (cOf K c2) (eOf K f) is is2 σ H fun v H' => rSetX wd b0 [v] H' Q := by
  obtain ⟨Z, E, R, s, o, E', e, q⟩ := q
  cases e1 : it E with
  | none =>
    unfold mScX mOp mA1 mLc2 at e
    rw [e1] at e; cases e
  | some p =>
    obtain ⟨its, E1⟩ := p
    cases e2 : lcM2 it2 g g2 c c2 f is is2 its (wipeE E1 is) [] with
    | none =>
      unfold mScX mOp mA1 mLc2 at e
      rw [e1] at e
      simp only [Option.bind_some] at e
      rw [e2] at e; cases e
    | some p2 =>
      obtain ⟨accF, EF⟩ := p2
      have em : mLc2 it is g c it2 is2 g2 c2 f E = some (.val (.lst (accF.map (·.1))) (uni accF), backE E1 EF is) := by
        unfold mLc2
        rw [e1]
        simp only [Option.bind_some]
        rw [e2]; rfl
      obtain ⟨rfl, x, hx, rfl⟩ := mScX_out e _ _ _ em
      obtain ⟨nsF, hiF, hlF, _⟩ := gSetX_lst hx
      have lF : accF.length ≤ 4000 := by
        have := congrArg List.length (iof_eq hiF)
        simp only [List.length_map] at this
        omega
      refine ⟨Z, E, R, s, its, E1, e1, fun J Z1 H1 R1 s1 t1 ok Dn hD => ?_⟩
      obtain ⟨Rw, sw, w1, w2', w3, w4⟩ := s1.wipe is
      have sw : S K Z1 H1 (L2.wipe σ is) (wipeE E1 is) Rw := sw.sigma (wipe_length σ is) fun i hi => wipe_out fun m => hi (w4 i m)
      have nZ1D : ¬ Z1 Dn := fun z => s1.zd Dn z hD
      have mD : More H1 (upd H1 Dn (SetO wd Dn (fun _ => false) 0)) := .upd hD
      refine ⟨fun i m H2 => ∃ Z2 E2 R2 accD, S K Z2 H2 (L2.wipe σ is) E2 R2 ∧ (∀ k ∈ is, R2 k = []) ∧ E2.length = E1.length ∧ SetG wd Z1 H1 Rw Dn Z2 H2 R2 accD ∧ lcM2 it2 g g2 c c2 f is is2 (its.drop i) E2 accD = some (accF, EF) ∧ m = its.length - i ∧ i ≤ its.length,
        ⟨its.length, Z1, wipeE E1 is, Rw, [], sw.more mD, w2', wipeE_len is E1, ⟨mD.step _, nZ1D, fun h => sw.there h hD, _, 0, upd_same, Nat.le_refl _, fun j => by simp⟩, e2, by simp, Nat.zero_le _⟩, ?_⟩
      rintro i m H2 ⟨Z2, E2, R2, accD, s2, r2, l2, L, e3, rfl, hi⟩
      have p2 : Pers Z1 H1 Z2 H2 := sw.pers L.t
      by_cases hlt : i < its.length
      · right
        refine ⟨ok.go Z2 H2 i p2 hlt, ?_⟩
        rw [List.drop_eq_getElem_cons hlt] at e3
        simp only [lcM2] at e3
        cases e4 : g its[i] E2 with
        | none => rw [e4] at e3; cases e3
        | some E3 =>
          rw [e4] at e3
          simp only [Option.bind_some] at e3
          cases e5 : c E3 with
          | none => rw [e5] at e3; cases e3
          | some p5 =>
            obtain ⟨b, E5⟩ := p5
            rw [e5] at e3
            simp only [Option.bind_some] at e3
            refine ⟨fun H6 => ∃ m', m' < its.length - i ∧ ∃ Z2 E2 R2 accD, S K Z2 H6 (L2.wipe σ is) E2 R2 ∧ (∀ k ∈ is, R2 k = []) ∧ E2.length = E1.length ∧ SetG wd Z1 H1 Rw Dn Z2 H6 R2 accD ∧ lcM2 it2 g g2 c c2 f is is2 (its.drop (i + 1)) E2 accD = some (accF, EF) ∧ m' = its.length - (i + 1) ∧ i + 1 ≤ its.length, fun H6 h => h, fun x H3 y => ?_⟩
            obtain ⟨m3, d, hd, rx⟩ := ok.yld Z2 H2 i x H3 p2 hlt y
            have ed : its[i] = d := by rw [List.getElem?_eq_getElem hlt] at hd; exact Option.some.inj hd
            refine ⟨Z2, E2, R2, d, s2.more m3, rx, E3, by rw [← ed]; exact e4, fun σ4 R4 s4 t4 k4 => ⟨?_, ?_⟩⟩
            · have hl : σ4.length = (L2.wipe σ is).length := by rw [s4.len, (s2.more m3).len]; exact hgl _ _ _ e4
              have := wipe_same (σ := L2.wipe σ is) (σ' := σ4) (is := is) hl fun j hj => k4 j fun m => hj (hw j m)
              rw [this]
              exact wipe_same (by rw [wipe_length]) fun j hj => wipe_out hj
            refine ⟨Z2, E3, R4, s4, b, E5, e5, fun Z5 H5 R5 s5 t5 => ?_⟩
            have t35 := (m3.step (ow R2)).trans (t4.trans t5)
            have sig : ∀ j, j ∉ is → σ4[j]? = (L2.wipe σ is)[j]? := fun j hj => k4 j fun m => hj (hw j m)
            have L5 := L.keep (R6 := R5) t35
            have len5 : E5.length = E1.length := by have a1 := s5.len; have a2 := s4.len; have a3 := hgl _ _ _ e4; omega
            have len4 : σ4.length = (L2.wipe σ is).length := by have a2 := s4.len; have a3 := hgl _ _ _ e4; have a4 := s2.len; omega
            have back : ∀ {τ : L2.St} {Z7 : Addr → Prop} {H7 : Hp} {E7 : Ev} {R7 : Rs} {accD : List (D × Nat)}, S K Z7 H7 τ E7 R7 → τ.length = σ4.length → (∀ j, j ∉ is → τ[j]? = σ4[j]?) → SetG wd Z1 H1 Rw Dn Z7 H7 R7 accD → E7.length = E1.length → lcM2 it2 g g2 c c2 f is is2 (its.drop (i + 1)) (wipeE E7 is) accD = some (accF, EF) →
                ∃ m', m' < its.length - i ∧ ∃ Z2 E2 R2 accD, S K Z2 H7 (L2.wipe σ is) E2 R2 ∧ (∀ k ∈ is, R2 k = []) ∧ E2.length = E1.length ∧ SetG wd Z1 H1 Rw Dn Z2 H7 R2 accD ∧ lcM2 it2 g g2 c c2 f is is2 (its.drop (i + 1)) E2 accD = some (accF, EF) ∧ m' = its.length - (i + 1) ∧ i + 1 ≤ its.length := fun {τ Z7 H7 E7 R7 accD} s7 hτ hτ2 L7 l7 e7 => by
              obtain ⟨Rx, sx, x1, x2, x3, x4⟩ := s7.wipe is
              have sx : S K Z7 H7 (L2.wipe σ is) (wipeE E7 is) Rx := sx.sigma (by rw [hτ]; exact len4.symm) fun j hj => by
                have nj : j ∉ is := fun m => hj (x4 j m)
                rw [hτ2 j nj, sig j nj]
              exact ⟨_, by omega, Z7, _, Rx, accD, sx, x2, by rw [wipeE_len]; exact l7, L7.less (ow_wipe x1 x2), e7, rfl, hlt⟩
            cases b with
            | false =>
              rw [if_neg Bool.false_ne_true] at e3
              refine iteF ?_
              exact back s5 rfl (fun _ _ => rfl) L5 len5 e3
            | true =>
              rw [if_pos rfl] at e3
              refine iteT ?_
              cases e6 : it2 E5 with
              | none => rw [e6] at e3; cases e3
              | some p6 =>
                obtain ⟨its2, E6⟩ := p6
                rw [e6] at e3
                simp only [Option.bind_some] at e3
                cases e7 : lcM g2 c2 f is2 its2 (wipeE E6 is2) accD with
                | none => rw [e7] at e3; cases e3
                | some p7 =>
                  obtain ⟨accI, EI⟩ := p7
                  rw [e7] at e3
                  simp only [Option.bind_some] at e3
                  refine ⟨Z5, E5, R5, s5, its2, E6, e6, fun J1 Z6 H6 R6 s6 t6 ok1 => ?_⟩
                  obtain ⟨Rv, sv, v1, v2, v3, v4⟩ := s6.wipe is2
                  have sv : S K Z6 H6 (L2.wipe σ4 is2) (wipeE E6 is2) Rv := sv.sigma (wipe_length σ4 is2) fun i hi => wipe_out fun m => hi (v4 i m)
                  have L6 := (L5.keep (R6 := R6) t6).less (ow_wipe v1 v2)
                  have len6 : E6.length = E1.length := by have a1 := s6.len; have a2 := s5.len; omega
                  refine ⟨fun j k H7 => ∃ Z7 E7 R7 accD, S K Z7 H7 (L2.wipe σ4 is2) E7 R7 ∧ Pers Z6 H6 Z7 H7 ∧ E7.length = E6.length ∧ SetG wd Z1 H1 Rw Dn Z7 H7 R7 accD ∧ lcM g2 c2 f is2 (its2.drop j) E7 accD = some (accI, EI) ∧ k = its2.length - j ∧ j ≤ its2.length,
                    ⟨its2.length, Z6, wipeE E6 is2, Rv, accD, sv, .refl _ _, wipeE_len is2 E6, L6, e7, by simp, Nat.zero_le _⟩, ?_⟩
                  rintro j k H7 ⟨Z7, E7, R7, accD7, s7, p7, l7, L7, e8, rfl, hj⟩
                  by_cases hlt2 : j < its2.length
                  · right
                    refine ⟨ok1.go Z7 H7 j p7 hlt2, ?_⟩
                    rw [List.drop_eq_getElem_cons hlt2] at e8
                    simp only [lcM] at e8
                    cases e9 : g2 its2[j] E7 with
                    | none => rw [e9] at e8; cases e8
                    | some E8 =>
                      rw [e9] at e8
                      simp only [Option.bind_some] at e8
                      cases e10 : c2 E8 with
                      | none => rw [e10] at e8; cases e8
                      | some p10 =>
                        obtain ⟨b2, E10⟩ := p10
                        rw [e10] at e8
                        simp only [Option.bind_some] at e8
                        refine ⟨fun H11 => ∃ k', k' < its2.length - j ∧ ∃ Z7 E7 R7 accD, S K Z7 H11 (L2.wipe σ4 is2) E7 R7 ∧ Pers Z6 H6 Z7 H11 ∧ E7.length = E6.length ∧ SetG wd Z1 H1 Rw Dn Z7 H11 R7 accD ∧ lcM g2 c2 f is2 (its2.drop (j + 1)) E7 accD = some (accI, EI) ∧ k' = its2.length - (j + 1) ∧ j + 1 ≤ its2.length, fun H11 h => h, fun x H8 y => ?_⟩
                        obtain ⟨m8, d2, hd2, rx2⟩ := ok1.yld Z7 H7 j x H8 p7 hlt2 y
                        have ed2 : its2[j] = d2 := by rw [List.getElem?_eq_getElem hlt2] at hd2; exact Option.some.inj hd2
                        refine ⟨Z7, E7, R7, d2, s7.more m8, rx2, E8, by rw [← ed2]; exact e9, fun σ9 R9 s9 t9 k9 => ⟨?_, ?_⟩⟩
                        · have hl : σ9.length = (L2.wipe σ4 is2).length := by rw [s9.len, (s7.more m8).len]; exact hgl2 _ _ _ e9
                          have := wipe_same (σ := L2.wipe σ4 is2) (σ' := σ9) (is := is2) hl fun j hj => k9 j fun m => hj (hw2 j m)
                          rw [this]
                          exact wipe_same (by rw [wipe_length]) fun j hj => wipe_out hj
                        refine ⟨Z7, E8, R9, s9, b2, E10, e10, fun Z10 H10 R10 s10 t10 => ?_⟩
                        have t810 := (m8.step (ow R7)).trans (t9.trans t10)
                        have L10 := L7.keep (R6 := R10) t810
                        have p10 : Pers Z6 H6 Z10 H10 := p7.trans (s7.pers t810)
                        have sig2 : ∀ j, j ∉ is2 → σ9[j]? = (L2.wipe σ4 is2)[j]? := fun j hj => k9 j fun m => hj (hw2 j m)
                        have len10 : E10.length = E6.length := by have a1 := s10.len; have a2 := s9.len; have a3 := hgl2 _ _ _ e9; omega
                        have len9 : σ9.length = (L2.wipe σ4 is2).length := by have a2 := s9.len; have a3 := hgl2 _ _ _ e9; have a4 := s7.len; omega
                        have again : ∀ {Z11 : Addr → Prop} {H11 : Hp} {E11 : Ev} {R11 : Rs} {accD : List (D × Nat)}, S K Z11 H11 σ9 E11 R11 → Pers Z6 H6 Z11 H11 → SetG wd Z1 H1 Rw Dn Z11 H11 R11 accD → E11.length = E6.length → lcM g2 c2 f is2 (its2.drop (j + 1)) (wipeE E11 is2) accD = some (accI, EI) →
                            ∃ k', k' < its2.length - j ∧ ∃ Z7 E7 R7 accD, S K Z7 H11 (L2.wipe σ4 is2) E7 R7 ∧ Pers Z6 H6 Z7 H11 ∧ E7.length = E6.length ∧ SetG wd Z1 H1 Rw Dn Z7 H11 R7 accD ∧ lcM g2 c2 f is2 (its2.drop (j + 1)) E7 accD = some (accI, EI) ∧ k' = its2.length - (j + 1) ∧ j + 1 ≤ its2.length := fun {Z11 H11 E11 R11 accD} s11 p11 L11 l11 e11 => by
                          obtain ⟨Rx, sx, x1, x2, x3, x4⟩ := s11.wipe is2
                          have sx : S K Z11 H11 (L2.wipe σ4 is2) (wipeE E11 is2) Rx := sx.sigma len9.symm fun j hj => (sig2 j fun m => hj (x4 j m)).symm
                          exact ⟨_, by omega, Z11, _, Rx, accD, sx, p11, by rw [wipeE_len]; exact l11, L11.less (ow_wipe x1 x2), e11, rfl, hlt2⟩
                        cases b2 with
                        | false =>
                          rw [if_neg Bool.false_ne_true] at e8
                          refine iteF ?_
                          exact again s10 p10 L10 len10 e8
                        | true =>
                          rw [if_pos rfl] at e8
                          refine iteT ?_
                          cases e11 : f E10 with
                          | none => rw [e11] at e8; cases e8
                          | some p11 =>
                            obtain ⟨o11, E11⟩ := p11
                            rw [e11] at e8
                            simp only [Option.bind_some] at e8
                            cases e12 : tk E11 o11 with
                            | none => rw [e12] at e8; cases e8
                            | some p12 =>
                              obtain ⟨dv, nv, E12⟩ := p12
                              rw [e12] at e8
                              simp only [Option.bind_some] at e8
                              split at e8
                              · rename_i hsz
                                obtain ⟨t, et⟩ := lcM_pre _ _ _ e8
                                obtain ⟨t2, et2⟩ := lcM2_pre _ _ _ e3
                                have la : accD7.length + 1 ≤ accF.length := by rw [et2, et]; simp <;> omega
                                obtain ⟨k, rfl⟩ := iof_mem hiF dv (by rw [et2, et]; simp)
                                obtain ⟨rd6, e67⟩ := tk_int e12
                                rw [e67] at e8
                                refine ⟨Z10, E10, R10, s10, o11, E11, e11, fun y12 Z12 H12 R12 rs12 s12 t12 ov12 f12 => ?_⟩
                                have ey := (s12.read ov12 rd6).intE
                                have G12 := L10.keep (R6 := R12) t12
                                obtain ⟨S, n, eS, hn, hs⟩ := G12.h
                                obtain ⟨s13, G13⟩ := SetG.add (k := k) (m := nv) hD G12 s12 eS hn hs
                                obtain ⟨_, p13⟩ := s12.free (o' := SetO wd Dn (fun j => S j || decide (j = k)) (if S k = true then n else n + 1)) eS trivial G12.o G12.z
                                exact ⟨k, S, n, ey, eS, by unfold scanBound; omega, again s13 ((p10.trans (s10.pers t12)).trans p13) G13 (by have a1 := s12.len; have a2 := s10.len; omega) e8⟩
                              · cases e8
                  · left
                    have ej : j = its2.length := by omega
                    subst ej
                    rw [List.drop_length] at e8
                    cases e8
                    refine ⟨ok1.stop Z7 H7 p7, back s7 (wipe_length σ4 is2) (fun j hj => wipe_out fun m => hj (hs2 j m)) L7 (by omega) e3⟩
      · left
        have ei : i = its.length := by omega
        subst ei
        rw [List.drop_length] at e3
        cases e3
        exact ⟨ok.stop Z2 H2 p2, set_end s1 t1 w1 w2' p2 s2 r2 l2 L hx q⟩
end
section
variable {X : Cx} {elt tg iter tg1 iter1 : Expr} {ifs ifs1 : List Expr} {fe : Fe} {ft ft1 : Ft} {fi fi1 : Fi} {g g1 : Fg} {scope : Scope} {pos pos1 p : PySem.Pos} {w w1 : List Nat} {own : List (PySem.Str × Nat)} {vs1 : List Nat}
theorem ae_srtSc2 (own : List (PySem.Str × Nat)) (vs1 : List Nat) (hN : X.N.Nodup) (ok : BlkOk X.N X.env.scope scope own) (hi : AI X tg iter fi)
    (hg : ∀ (s : Shared) (H : Hp) (C : Addr) (cl : List (PySem.Str × Addr)) (fp : List Addr), AG (X.blk s H scope (compEnvC scope cl C X.env) fp) tg w g)
    (ht : ∀ (s : Shared) (H : Hp) (C : Addr) (cl : List (PySem.Str × Addr)) (fp : List Addr), ATs (X.blk s H scope (compEnvC scope cl C X.env) fp) ifs ft)
    (hi1 : ∀ (s : Shared) (H : Hp) (C : Addr) (cl : List (PySem.Str × Addr)) (fp : List Addr), AI (X.blk s H scope (compEnvC scope cl C X.env) fp) tg1 iter1 fi1)
    (hg1 : ∀ (s : Shared) (H : Hp) (C : Addr) (cl : List (PySem.Str × Addr)) (fp : List Addr), AG (X.blk s H scope (compEnvC scope cl C X.env) fp) tg1 w1 g1)
    (ht1 : ∀ (s : Shared) (H : Hp) (C : Addr) (cl : List (PySem.Str × Addr)) (fp : List Addr), ATs (X.blk s H scope (compEnvC scope cl C X.env) fp) ifs1 ft1)
    (he : ∀ (s : Shared) (H : Hp) (C : Addr) (cl : List (PySem.Str × Addr)) (fp : List Addr), AE (X.blk s H scope (compEnvC scope cl C X.env) fp) elt fe)
    (hgl : GL g) (hgl1 : GL g1) (hgb : Gl X "sorted") (hm : X.mg "sorted" = none) (hw : ∀ i ∈ w, i ∈ own.map (·.2) := by decide) (hw1 : ∀ i ∈ w1, i ∈ vs1 := by decide) (hv : ∀ i ∈ vs1, i ∈ own.map (·.2) := by decide) (hc : X.calm = true := by rfl)
    (hs : ∀ x, foldedSetIterable iter X.env x = pure x := by intro _; rfl) (hs1 : ∀ env x, foldedSetIterable iter1 env x = pure x := by intro _ _; rfl)
    (hpl : (backTo pos (starEach [] X.env)).any (·.1) = false := by rfl) (hst : starEach [.SetComp elt [⟨tg, iter, ifs, 0⟩, ⟨tg1, iter1, ifs1, 0⟩] scope pos1] X.env = (false, eval (.SetComp elt [⟨tg, iter, ifs, 0⟩, ⟨tg1, iter1, ifs1, 0⟩] scope pos1) X.env) :: starEach [] X.env := by rfl) :
    AE X (.Call (.Name "sorted" p) [.SetComp elt [⟨tg, iter, ifs, 0⟩, ⟨tg1, iter1, ifs1, 0⟩] scope pos1] [] pos) (mScX true (mLc2 fi (own.map (·.2)) g ft fi1 vs1 g1 ft1 fe)) :=
  PE.mono (pe_callB (cr_srtSO hc) hgb hm boot_sorted (pa_cons (pe_sc2 hc hN hi ok hv hg ht hi1 hg1 ht1 he hs hs1) pa_nil hst) (by decide) (by decide) hst hpl) fun σ H Q q => sc2_of hgl hgl1 hw hw1 hv q
end
end Zk
namespace Zk.FC
open PySem PySem.F
theorem slot_comb_next : Slot "itertools.combinations" "__next__" "itertools.combinations.__next__" :=
  .of (owner := "itertools.combinations") (n := "__next__") (by rw [typeLookup_type, builtinLookup_eq_fast]; kernel_rfl) (by decide +kernel) (by decide +kernel) (by decide +kernel)
    (by first | exact .inl (by decide +kernel) | exact .inr (by decide +kernel)) (by rw [isSubtype_type]; kernel_rfl)
theorem slot_comb_iter : Slot "itertools.combinations" "__iter__" "itertools.combinations.__iter__" :=
  .of (owner := "itertools.combinations") (n := "__iter__") (by rw [typeLookup_type, builtinLookup_eq_fast]; kernel_rfl) (by decide +kernel) (by decide +kernel) (by decide +kernel)
    (by first | exact .inl (by decide +kernel) | exact .inr (by decide +kernel)) (by rw [isSubtype_type]; kernel_rfl)
theorem slot_comb_init : Slot "itertools.combinations" "__init__" "object.__init__" :=
  .of (owner := "object") (n := "__init__") (by rw [typeLookup_type, builtinLookup_eq_fast]; kernel_rfl) (by decide +kernel) (by decide +kernel) (by decide +kernel)
    (by first | exact .inl (by decide +kernel) | exact .inr (by decide +kernel)) (by rw [isSubtype_type]; kernel_rfl)
theorem owner_comb : Manifest.owners.lookup (String.ofList ['s', 'n', 'o', 'i', 't', 'a', 'n', 'i', 'b', 'm', 'o', 'c', '.', 's', 'l', 'o', 'o', 't', 'r', 'e', 't', 'i'].reverse) = some Manifest.sig_itertools_combinations := by kernel_rfl
theorem args_comb_next_1 (a : Value) : argsOk "itertools.combinations.__next__" ⟨[a], []⟩ := by
  unfold argsOk; rw [signature?_of (id := "itertools.combinations.__next__") (n := ['_', '_', 't', 'x', 'e', 'n', '_', '_']) (o := ['s', 'n', 'o', 'i', 't', 'a', 'n', 'i', 'b', 'm', 'o', 'c', '.', 's', 'l', 'o', 'o', 't', 'r', 'e', 't', 'i']) (by kernel_rfl) owner_comb]; kernel_rfl
theorem args_comb_iter_1 (a : Value) : argsOk "itertools.combinations.__iter__" ⟨[a], []⟩ := by
  unfold argsOk; rw [signature?_of (id := "itertools.combinations.__iter__") (n := ['_', '_', 'r', 'e', 't', 'i', '_', '_']) (o := ['s', 'n', 'o', 'i', 't', 'a', 'n', 'i', 'b', 'm', 'o', 'c', '.', 's', 'l', 'o', 'o', 't', 'r', 'e', 't', 'i']) (by kernel_rfl) owner_comb]; kernel_rfl
theorem entry_comb_next : entryFor table "itertools.combinations.__next__" = some Builtin.«itertools.combinations.__next__» := entryFor_of_tree (by kernel_rfl)
theorem entry_comb_iter : entryFor table "itertools.combinations.__iter__" = some Builtin.«dict_keyiterator.__iter__» :=
  entryFor_alias (id' := "dict_keyiterator.__iter__") (by kernel_rfl) (by first | rfl | decide +kernel | (unfold String.splitOn; simp +decide [String.splitOnAux])) (by decide +kernel) (by kernel_rfl)
theorem mro_comb : mroOf (.type "itertools.combinations") = pure [.type "itertools.combinations", .type "object"] := by rw [mroOf_type]; kernel_rfl
theorem lookup_comb_new : typeLookup (.type "itertools.combinations") "__new__" = pure (some (.builtin "itertools.combinations.__new__")) := by rw [typeLookup_type, builtinLookup_eq_fast]; kernel_rfl
theorem called_comb : TypeCalled "itertools.combinations" "itertools.combinations.__new__" "object.__init__" :=
  ⟨by decide +kernel, by decide +kernel, ⟨_, _, mro_comb⟩, madeBy_type mro_comb lookup_comb_new (by decide +kernel), by decide +kernel, by rw [isSubtype_type]; kernel_rfl, slot_comb_init⟩
theorem typeCall_comb_2 (a b : Value) : checkTypeCall "itertools.combinations" ⟨[a, b], []⟩ = pure () := by kernel_rfl
theorem newCall_comb_2 (a b : Value) : checkBuiltinCall "itertools.combinations.__new__" ⟨[.type "itertools.combinations", a, b], []⟩ = pure () := by kernel_rfl
theorem entry_comb_new : entryFor table "itertools.combinations.__new__" = some Builtin.«itertools.combinations.__new__» := entryFor_of_tree (by kernel_rfl)
theorem sub_comb : isSubtype (.type "itertools.combinations") (.type "itertools.combinations") = pure true := by rw [isSubtype_type]; kernel_rfl
end Zk.FC
namespace Zk
open PySem PySem.Builtin PySem.Builtin.Itertools PyProof.Rows
/-- the places of the next choice -/
def nxC (n : Nat) (indices : List Nat) : Option (List Nat) :=
  let r := indices.length
  match (List.range r).reverse.find? fun i => indices.getD i 0 != i + n - r with
  | none => none
  | some i => some (indices.take i ++ (List.range (r - i)).map (indices.getD i 0 + 1 + ·))
def pickC (pool : Value) (indices : List Nat) : Sem Value := do
  let items ← itPoolItems pool
  newTuple (indices.map fun i => items.getD i .none)
def handOutC (self pool : Value) (indices : List Nat) : Sem Fin := do
  let result ← pickC pool indices
  let before ← field self 2
  setField self 2 result
  letGo [before] [result]
  ret result
def combNext (z : Addr) : Sem Fin := do
  let pool ← field (.ref z) 0
  let indices ← itNumbersFrom (.ref z) 3
  match ← itIntField (.ref z) 1 with
  | 0 => setField (.ref z) 1 (rawInt 1); handOutC (.ref z) pool indices
  | 1 =>
    match nxC (← itPoolItems pool).size indices with
    | some next => itSetNumbersFrom (.ref z) 3 next; handOutC (.ref z) pool next
    | none => setField (.ref z) 1 (rawInt 2); itStop
  | _ => rule "itertools.combinations.ended"; itStop
theorem combNext_eq (z : Addr) : Builtin.«itertools.combinations.__next__» ⟨[.ref z], []⟩ = combNext z := by
  rfl
def cFields (P : Addr) (st : Int) (last : Value) (ix : List Nat) : List Value := .ref P :: rawInt st :: last :: ix.map fun (i : Nat) => rawInt i
def IsComb (h : Heap) (z P : Addr) (st : Int) (last : Value) (ix : List Nat) : Prop := h.get? z = some { cls := .type "itertools.combinations", dict := none, data := .fields (cFields P st last ix).toArray, slots := #[] }
section
variable {prog : Program} {w : World} {A : Around} {E : Value → Shared → Prop} {s : Shared}
theorem comb_numbers {z P : Addr} {st : Int} {last : Value} {ix : List Nat} {Q : List Nat → Shared → Prop} (hz : IsComb s.heap z P st last ix) (h : Q ix s) : wpAny (model prog w) A (itNumbersFrom (.ref z) 3) Q E s := by
  unfold itNumbersFrom
  refine wpAny_bind (wpAny_load hz ?_)
  simp only
  refine wpAny_pure ?_
  have key : ∀ l : List Nat, l = ix → Q l s := fun l e => e ▸ h
  refine key _ ?_
  simp only [cFields, List.drop_succ_cons, List.drop_zero, List.map_map]
  refine (List.map_congr_left fun i _ => ?_).trans (List.map_id _)
  simp [rawInt]
theorem comb_int {z P : Addr} {st : Int} {last : Value} {ix : List Nat} {Q : Int → Shared → Prop} (hz : IsComb s.heap z P st last ix) (h : Q st s) : wpAny (model prog w) A (itIntField (.ref z) 1) Q E s := by
  unfold itIntField
  refine wpAny_bind (wpAny_field hz rfl (x := rawInt st) (by simp [cFields]) ?_)
  exact wpAny_pure h
theorem comb_set1 {z P : Addr} {st st' : Int} {last : Value} {ix : List Nat} {Q : Unit → Shared → Prop} (hz : IsComb s.heap z P st last ix) (h : ∀ h', IsComb h' z P st' last ix → Heap.SameBut z s.heap h' → Q () { s with heap := h' }) : wpAny (model prog w) A (setField (.ref z) 1 (rawInt st')) Q E s := by
  refine wpAny_setField_rec hz (by simp [cFields]) fun h' e sb => h h' ?_ sb
  unfold IsComb
  rw [e]
  simp [cFields]
theorem comb_set2 {z P : Addr} {st : Int} {last last' : Value} {ix : List Nat} {Q : Unit → Shared → Prop} (hz : IsComb s.heap z P st last ix) (h : ∀ h', IsComb h' z P st last' ix → Heap.SameBut z s.heap h' → Q () { s with heap := h' }) : wpAny (model prog w) A (setField (.ref z) 2 last') Q E s := by
  refine wpAny_setField_rec hz (by simp [cFields]) fun h' e sb => h h' ?_ sb
  unfold IsComb
  rw [e]
  simp [cFields]
theorem comb_setN {z P : Addr} {st : Int} {last : Value} {ix nx : List Nat} {Q : Unit → Shared → Prop} (hn : nx.length ≤ 1000000) (hz : IsComb s.heap z P st last ix) (h : ∀ h', IsComb h' z P st last nx → Heap.SameBut z s.heap h' → Q () { s with heap := h' }) : wpAny (model prog w) A (itSetNumbersFrom (.ref z) 3 nx) Q E s := by
  unfold itSetNumbersFrom
  have e : (cFields P st last ix).toArray.extract 0 3 ++ (nx.map fun (n : Nat) => rawInt n).toArray = (cFields P st last nx).toArray := by
    simp [cFields]
  refine wpAny_updateFields hz rfl (h _ ?_ (Heap.SameBut.update ..)) ?_
  · unfold IsComb
    rw [Heap.get?_update_self _ hz rfl]
    simp only [Obj.mapFields, e]
  · rw [e]
    simp [cFields, sizeLine]
    omega
theorem comb_hand {z P : Addr} {last : Value} {ix : List Nat} {items : Array Value} {Q : Value → Shared → Prop} (hn : ix.length ≤ 1000000) (hz : IsComb s.heap z P 1 last ix) (hP : IsTup s.heap P items)
    (hQ : ∀ h', IsComb h' z P 1 (.ref s.heap.objs.size) ix → h'.get? s.heap.objs.size = some { cls := .type "tuple", data := .seq (ix.map fun i => items.getD i .none).toArray } → h'.objs.size = s.heap.objs.size + 1 →
      (∀ c o, c ≠ z → s.heap.get? c = some o → h'.get? c = some o) → Q (.ref s.heap.objs.size) { s with heap := h' }) :
    wpAny (model prog w) A (handOutC (.ref z) (.ref P) ix) (fun fin s' => ∃ v, fin = .done (.ret v) ∧ Q v s') E s := by
  obtain ⟨oP, hoP, _, nP, hdP⟩ := hP
  have hzl : z < s.heap.objs.size := Heap.lt_size hz
  unfold handOutC pickC
  refine wpAny_bind (wpAny_bind ?_)
  unfold itPoolItems
  refine wpAny_bind (wpAny_seqItems hoP hdP ?_)
  refine wpAny_pure ?_
  refine wpAny_newTuple ?_ (by rw [List.length_map]; unfold sizeLine; omega)
  have hz1 : IsComb (s.heap.push { cls := .type "tuple", data := .seq (ix.map fun i => items.getD i .none).toArray }) z P 1 last ix := Heap.get?_push_of_some _ hz
  refine wpAny_bind (wpAny_field hz1 rfl (x := last) (by simp [cFields]) ?_)
  refine wpAny_bind (comb_set2 hz1 fun h' hz2 sb => ?_)
  refine wpAny_bind (wpAny_letGo ?_)
  refine wpAny_pure ⟨_, rfl, hQ h' hz2 ?_ ?_ fun c o c1 e => sb.extBut _ _ c1 (Heap.get?_push_of_some _ e)⟩
  · exact sb.extBut _ _ (Nat.ne_of_gt hzl) (Heap.get?_push_size _ rfl)
  · rw [sb.1, Heap.size_push]
theorem comb_next_item {z P : Addr} {st : Int} {last : Value} {ix nx : List Nat} {items : Array Value} {Q : Value → Shared → Prop} (hzP : P ≠ z) (hn : nx.length ≤ 1000000) (hz : IsComb s.heap z P st last ix) (hP : IsTup s.heap P items)
    (step : (st = 0 ∧ nx = ix) ∨ (st = 1 ∧ nxC items.size ix = some nx))
    (hQ : ∀ h', IsComb h' z P 1 (.ref s.heap.objs.size) nx → h'.get? s.heap.objs.size = some { cls := .type "tuple", data := .seq (nx.map fun i => items.getD i .none).toArray } → h'.objs.size = s.heap.objs.size + 1 →
      (∀ c o, c ≠ z → s.heap.get? c = some o → h'.get? c = some o) → Q (.ref s.heap.objs.size) { s with heap := h' }) :
    wpAny (model prog w) A (Builtin.«itertools.combinations.__next__» ⟨[.ref z], []⟩) (fun fin s' => ∃ v, fin = .done (.ret v) ∧ Q v s') E s := by
  rw [combNext_eq]
  unfold combNext
  refine wpAny_bind (wpAny_field hz rfl (x := .ref P) (by simp [cFields]) ?_)
  refine wpAny_bind (comb_numbers hz ?_)
  refine wpAny_bind (comb_int hz ?_)
  rcases step with ⟨rfl, rfl⟩ | ⟨rfl, hs⟩
  · show wpAny _ _ (setField (.ref z) 1 (rawInt 1) >>= _) _ _ _
    refine wpAny_bind (comb_set1 hz fun h1 hz1 sb => ?_)
    have hP1 : IsTup h1 P items := by
      obtain ⟨o, ho, r⟩ := hP
      exact ⟨o, sb.extBut _ _ hzP ho, r⟩
    refine comb_hand (s := { s with heap := h1 }) hn hz1 hP1 fun h' a1 a2 a3 a4 => ?_
    have es : h1.objs.size = s.heap.objs.size := sb.1
    simp only [es] at a1 a2 a3 ⊢
    exact hQ h' a1 a2 a3 fun c o c1 e => a4 c o c1 (sb.extBut _ _ c1 e)
  · show wpAny _ _ (itPoolItems (.ref P) >>= _) _ _ _
    obtain ⟨oP, hoP, hcP, nP, hdP⟩ := id hP
    refine wpAny_bind ?_
    unfold itPoolItems
    refine wpAny_bind (wpAny_seqItems hoP hdP (wpAny_pure ?_))
    simp only [hs]
    refine wpAny_bind (comb_setN hn hz fun h1 hz1 sb => ?_)
    have hP1 : IsTup h1 P items := ⟨oP, sb.extBut _ _ hzP hoP, hcP, nP, hdP⟩
    refine comb_hand (s := { s with heap := h1 }) hn hz1 hP1 fun h' a1 a2 a3 a4 => ?_
    have es : h1.objs.size = s.heap.objs.size := sb.1
    simp only [es] at a1 a2 a3 ⊢
    exact hQ h' a1 a2 a3 fun c o c1 e => a4 c o c1 (sb.extBut _ _ c1 e)
theorem it_stop {Q : Fin → Shared → Prop} (hh : A.handled = none) (hE : ∀ h' e, (∀ c o, s.heap.get? c = some o → h'.get? c = some o) → (∃ o, h'.get? e = some o ∧ o.cls = .type "StopIteration") → E (.ref e) { s with heap := h' }) :
    wpAny (model prog w) A (itStop : Sem Fin) Q E s := by
  unfold itStop
  refine wpAny_bind ?_
  simp only [newExc, newTuple]
  refine wpAny_bind (wpAny_newObj_type ?_ (by size_fits))
  refine wpAny_bind (m := firstArgMember _ _) (wpAny_of_eq (a := Value.none) (by first | rfl | (simp only [firstArgMember]; rfl)) ?_)
  refine wpAny_newObj_type ?_ (by size_fits)
  simp only [raiseNew]
  refine wpAny_bind (wpAny_handled ?_)
  first | rw [show A.in1.handled = none from hh] | rw [hh]
  refine wpAny_bind (wpAny_pure (wpAny_throw ?_))
  exact hE _ _ (fun c o e => Heap.get?_push_of_some _ (Heap.get?_push_of_some _ e)) ⟨_, Heap.get?_push_size _ rfl, rfl⟩
theorem comb_next_end {z P : Addr} {st : Int} {last : Value} {ix : List Nat} {items : Array Value} {Q : Fin → Shared → Prop} (hh : A.handled = none) (hz : IsComb s.heap z P st last ix) (hP : IsTup s.heap P items)
    (step : st = 2 ∨ (st = 1 ∧ nxC items.size ix = none))
    (hE : ∀ h' e, (∀ c o, c ≠ z → s.heap.get? c = some o → h'.get? c = some o) → (∃ o, h'.get? e = some o ∧ o.cls = .type "StopIteration") → E (.ref e) { s with heap := h' }) :
    wpAny (model prog w) A (Builtin.«itertools.combinations.__next__» ⟨[.ref z], []⟩) Q E s := by
  rw [combNext_eq]
  unfold combNext
  refine wpAny_bind (wpAny_field hz rfl (x := .ref P) (by simp [cFields]) ?_)
  refine wpAny_bind (comb_numbers hz ?_)
  refine wpAny_bind (comb_int hz ?_)
  rcases step with rfl | ⟨rfl, hs⟩
  · show wpAny _ _ (rule "itertools.combinations.ended" >>= _) _ _ _
    refine wpAny_bind (wpAny_rule ?_)
    exact it_stop hh fun h' e k x => hE h' e (fun c o _ q => k c o q) x
  · show wpAny _ _ (itPoolItems (.ref P) >>= _) _ _ _
    obtain ⟨oP, hoP, hcP, nP, hdP⟩ := id hP
    refine wpAny_bind ?_
    unfold itPoolItems
    refine wpAny_bind (wpAny_seqItems hoP hdP (wpAny_pure ?_))
    simp only [hs]
    refine wpAny_bind (comb_set1 hz fun h1 hz1 sb => ?_)
    exact it_stop (s := { s with heap := h1 }) hh fun h' e k x => hE h' e (fun c o c1 q => k c o (sb.extBut _ _ c1 q)) x
end
end Zk
namespace Zk
open PySem PySem.Builtin PySem.Builtin.Itertools PyProof.Rows
section
variable {prog : Program} {w : World} {A : Around} {E : Value → Shared → Prop} {s : Shared}
theorem pyNext_comb_item {z P : Addr} {st : Int} {last : Value} {ix nx : List Nat} {items : Array Value} {Q : Option Value → Shared → Prop} (hzP : P ≠ z) (hn : nx.length ≤ 1000000) (hz : IsComb s.heap z P st last ix) (hP : IsTup s.heap P items)
    (step : (st = 0 ∧ nx = ix) ∨ (st = 1 ∧ nxC items.size ix = some nx))
    (hQ : ∀ h', IsComb h' z P 1 (.ref s.heap.objs.size) nx → h'.get? s.heap.objs.size = some { cls := .type "tuple", data := .seq (nx.map fun i => items.getD i .none).toArray } → h'.objs.size = s.heap.objs.size + 1 →
      (∀ c o, c ≠ z → s.heap.get? c = some o → h'.get? c = some o) → Q (some (.ref s.heap.objs.size)) { s with heap := h' }) :
    wpAny (model prog w) A (pyNext (.ref z)) Q E s := by
  have hT : s.TypeIs (.ref z) "itertools.combinations" := ⟨_, hz, rfl⟩
  unfold pyNext
  exact wpAny_bind (wpAny_attempt (wpAny_callSpecial?_slot (name := Str.ofString "__next__") hT FC.slot_comb_next
    (wpAny_call_entry FC.slot_comb_next hT FC.entry_comb_next
      (comb_next_item hzP hn hz hP step fun h' a1 a2 a3 a4 => wpAny_pure (hQ h' a1 a2 a3 a4)) (FC.args_comb_next_1 _))))
theorem pyNext_comb_end {z P : Addr} {st : Int} {last : Value} {ix : List Nat} {items : Array Value} {Q : Option Value → Shared → Prop} (hh : A.handled = none) (hz : IsComb s.heap z P st last ix) (hP : IsTup s.heap P items)
    (step : st = 2 ∨ (st = 1 ∧ nxC items.size ix = none))
    (hQ : ∀ h', (∀ c o, c ≠ z → s.heap.get? c = some o → h'.get? c = some o) → Q none { s with heap := h' }) : wpAny (model prog w) A (pyNext (.ref z)) Q E s := by
  have hT : s.TypeIs (.ref z) "itertools.combinations" := ⟨_, hz, rfl⟩
  unfold pyNext
  refine wpAny_bind (wpAny_attempt (wpAny_callSpecial?_slot (name := Str.ofString "__next__") hT FC.slot_comb_next
    (wpAny_call_entry FC.slot_comb_next hT FC.entry_comb_next (comb_next_end hh hz hP step fun h' e hk he => ?_) (FC.args_comb_next_1 _))))
  obtain ⟨o, ho, hc⟩ := he
  refine wpAny_bind (wpAny_isInstance (T := "StopIteration") (b := true) ⟨o, ho, hc⟩ isSubtype_stop ?_)
  exact wpAny_pure (hQ _ hk)
theorem pyIter_comb {z P : Addr} {st : Int} {last : Value} {ix : List Nat} {Q : Value → Shared → Prop} (hz : IsComb s.heap z P st last ix) (h : Q (.ref z) s) : wpAny (model prog w) A (pyIter (.ref z)) Q E s := by
  have hT : s.TypeIs (.ref z) "itertools.combinations" := ⟨_, hz, rfl⟩
  refine wpAny_pyIter_slot hT FC.slot_comb_iter (wpAny_call_entry FC.slot_comb_iter hT FC.entry_comb_iter ?_ (FC.args_comb_iter_1 _))
  show wpAny _ _ (ret (.ref z)) _ _ s
  exact wpAny_pure ⟨_, rfl, "itertools.combinations", _, hT, FC.slot_comb_next.lookup, h⟩
theorem owned_comb {tgt : Expr} {z P T : Addr} {st : Int} {last : Value} {ix : List Nat} {Q : Unit → Shared → Prop} (hz : IsComb s.heap z P st last ix) (h : Q () s) : wpAny (model prog w) A (letOwnedTupleGo tgt (.ref z) (.ref T)) Q E s := by
  unfold letOwnedTupleGo
  split
  · refine wpAny_bind (wpAny_load hz ?_)
    show wpAny _ _ (if (_ : Bool) = true then _ else _) _ _ _
    rw [if_neg (by simp)]
    exact wpAny_pure h
  · refine wpAny_bind (wpAny_load hz ?_)
    show wpAny _ _ (if (_ : Bool) = true then _ else _) _ _ _
    rw [if_neg (by simp)]
    exact wpAny_pure h
  · exact wpAny_pure h
end
def poolAndRC (short : String) (args : Args) : Sem (Value × Value × Nat × Nat) := do
  let (cls, rest) ← itClassAndRest short args
  let [some iterable, some rV] ← itBindNamed short ["iterable", "r"] 2 2 rest args.kw | unsupported "internal:itertools.combinations.__new__"
  let r ← itSsizeArg rV
  let items ← collect iterable
  if r < 0 then rule "itertools.combinations.negative-r"; raiseError "ValueError" "r must be non-negative"
  if itTooMany r then unsupported s!"itertools.{short}.__new__:memory"
  return (cls, ← newTuple items, items.length, r.toNat)
def combNew (v r : Value) : Sem Fin := do
  let (cls, pool, n, r) ← poolAndRC "combinations" ⟨[.type "itertools.combinations", v, r], []⟩
  ret (← itNewRecord cls ([pool, rawInt (if r > n then 2 else 0), .none] ++ (List.range r).map fun (i : Nat) => rawInt i))
theorem combNew_eq (v r : Value) : Builtin.«itertools.combinations.__new__» ⟨[.type "itertools.combinations", v, r], []⟩ = combNew v r := by
  rfl
theorem cr_ok : itClassAndRest "combinations" ⟨[.type "itertools.combinations", v, r], []⟩ = pure (.type "itertools.combinations", [v, r]) := by
  show (isSubtype (.type "itertools.combinations") (.type ("itertools." ++ "combinations")) >>= _) = _
  rw [show ("itertools." ++ "combinations" : String) = "itertools.combinations" from by decide, FC.sub_comb]
  rfl
theorem bn_ok (v r : Value) : itBindNamed "combinations" ["iterable", "r"] 2 2 [v, r] [] = pure [some v, some r] := by
  rfl
theorem ss_ok (k : Int) (t : PySem.Tok) (h : 0 ≤ k) (h2 : k ≤ 1000000) : itSsizeArg (.int k t) = pure k := by
  have c : ¬ ((decide (k < -(2 ^ 63 : Int)) || decide (k ≥ 2 ^ 63)) = true) := by
    simp
    omega
  show (if (decide (k < -(2 ^ 63 : Int)) || decide (k ≥ 2 ^ 63)) = true then _ else pure k) = pure k
  rw [if_neg c]
theorem hd_ok : typeHasDict (.type "itertools.combinations") = false := by decide +kernel
section
variable {prog : Program} {w : World} {A : Around} {E : Value → Shared → Prop} {s : Shared}
/-- the record, behind the tuple of the things -/
theorem comb_made {P n r : Nat} {Q : Value → Shared → Prop} (hr : r ≤ 1000000)
    (hQ : IsComb (s.heap.push { cls := .type "itertools.combinations", dict := none, data := .fields (cFields P (if r > n then 2 else 0) .none (List.range r)).toArray }) s.heap.objs.size P (if r > n then 2 else 0) .none (List.range r) →
      Q (.ref s.heap.objs.size) { s with heap := s.heap.push { cls := .type "itertools.combinations", dict := none, data := .fields (cFields P (if r > n then 2 else 0) .none (List.range r)).toArray } }) :
    wpAny (model prog w) A (itNewRecord (.type "itertools.combinations") ([.ref P, rawInt (if r > n then 2 else 0), .none] ++ (List.range r).map fun (i : Nat) => rawInt i) >>= fun v => ret v) (fun fin s' => ∃ v, fin = .done (.ret v) ∧ Q v s') E s := by
  refine wpAny_bind ?_
  unfold itNewRecord
  rw [hd_ok]
  show wpAny _ _ (newObj (.type "itertools.combinations") (.fields _)) _ _ _
  have e : ([Value.ref P, rawInt (if r > n then 2 else 0), .none] ++ (List.range r).map fun (i : Nat) => rawInt i) = cFields P (if r > n then 2 else 0) .none (List.range r) := rfl
  rw [e]
  refine wpAny_newObj_type ?_ (by simp [sizeOk, cFields, sizeLine]; omega)
  exact wpAny_pure ⟨_, rfl, hQ (Heap.get?_push_size _ rfl)⟩
theorem comb_new {v : Value} {r : Nat} {t : PySem.Tok} {Q : Value → Shared → Prop} (hr : r ≤ 1000000)
    (hc : wpAny (model prog w) A (collect v) (fun items s1 => items.length ≤ sizeLine ∧ ∀ h', IsComb h' (s1.heap.objs.size + 1) s1.heap.objs.size (if r > items.length then 2 else 0) .none (List.range r) → IsTup h' s1.heap.objs.size items.toArray → (∀ c o, s1.heap.get? c = some o → h'.get? c = some o) → Q (.ref (s1.heap.objs.size + 1)) { s1 with heap := h' }) E s) :
    wpAny (model prog w) A (Builtin.«itertools.combinations.__new__» ⟨[.type "itertools.combinations", v, .int (r : Int) t], []⟩) (fun fin s' => ∃ v, fin = .done (.ret v) ∧ Q v s') E s := by
  rw [combNew_eq]
  unfold combNew poolAndRC
  rw [cr_ok]
  refine wpAny_bind (wpAny_bind (wpAny_pure ?_))
  refine wpAny_bind (wpAny_of_eq (bn_ok _ _) ?_)
  refine wpAny_bind (wpAny_of_eq (ss_ok _ _ (by omega) (by omega)) ?_)
  refine wpAny_bind (wpAny_mono hc (fun items s1 h1 => ?_) fun _ _ h => h)
  obtain ⟨hl, h1⟩ := h1
  have n1 : ¬ (r : Int) < 0 := by omega
  have n2 : itTooMany (r : Int) = false := by unfold itTooMany; simp; omega
  rw [if_neg n1, n2, if_neg Bool.false_ne_true]
  refine wpAny_bind (wpAny_newTuple ?_ hl)
  refine wpAny_pure ?_
  simp only [Int.toNat_natCast]
  have z : (s1.heap.push { cls := .type "tuple", data := .seq items.toArray }).objs.size = s1.heap.objs.size + 1 := Heap.size_push ..
  refine comb_made (s := { s1 with heap := s1.heap.push { cls := .type "tuple", data := .seq items.toArray } }) hr fun hz => ?_
  simp only [z] at hz ⊢
  exact h1 _ hz ⟨_, Heap.get?_push_of_some _ (Heap.get?_push_size _ rfl), rfl, _, rfl⟩ fun c o q => Heap.get?_push_of_some _ (Heap.get?_push_of_some _ q)
end
end Zk
namespace Zk
open PySem PySem.Spec PyProof.Rows L2 RZ
def chC : Nat → Nat → List Nat → Option (List (List Nat))
  | 0, _, _ => none
  | f + 1, n, ix => match nxC n ix with
    | none => some [ix]
    | some nx => (chC f n nx).map (ix :: ·)
/-- all choices of r out of n, as the library tells them -/
def combE (n r : Nat) : Option (List (List Nat)) := if r > n then some [] else chC 100000 n (List.range r)
theorem chC_spec {n : Nat} : ∀ {f : Nat} {ix : List Nat} {L : List (List Nat)}, chC f n ix = some L → L[0]? = some ix ∧ ∀ i x, L[i]? = some x → nxC n x = L[i + 1]?
  | 0, _, _, h => by cases h
  | f + 1, ix, L, h => by
    unfold chC at h
    cases e : nxC n ix with
    | none =>
      rw [e] at h
      cases h
      refine ⟨rfl, fun i x hx => ?_⟩
      cases i with
      | zero => cases hx; rw [e]; rfl
      | succ i => simp at hx
    | some nx =>
      rw [e] at h
      simp only at h
      cases e2 : chC f n nx with
      | none => rw [e2] at h; cases h
      | some M =>
        rw [e2] at h
        cases h
        obtain ⟨h0, hs⟩ := chC_spec e2
        refine ⟨rfl, fun i x hx => ?_⟩
        cases i with
        | zero => cases hx; rw [e]; exact h0.symm
        | succ i => exact hs i x hx
theorem nxC_len {n : Nat} {ix nx : List Nat} (h : nxC n ix = some nx) : nx.length = ix.length := by
  unfold nxC at h
  simp only at h
  split at h
  · cases h
  · rename_i i hi
    cases h
    have hm := List.mem_of_find?_eq_some hi
    rw [List.mem_reverse, List.mem_range] at hm
    rw [List.length_append, List.length_take, List.length_map, List.length_range]
    omega
theorem chC_len {n : Nat} : ∀ {f : Nat} {ix : List Nat} {L : List (List Nat)}, chC f n ix = some L → ∀ x ∈ L, x.length = ix.length
  | 0, _, _, h => by cases h
  | f + 1, ix, L, h => by
    unfold chC at h
    cases e : nxC n ix with
    | none =>
      rw [e] at h
      cases h
      intro x hx
      rw [List.mem_singleton.mp hx]
    | some nx =>
      rw [e] at h
      simp only at h
      cases e2 : chC f n nx with
      | none => rw [e2] at h; cases h
      | some M =>
        rw [e2] at h
        cases h
        intro x hx
        rcases List.mem_cons.mp hx with rfl | hx
        · rfl
        · rw [chC_len e2 x hx, nxC_len e]
def pickV (xs : List V) (ix : List Nat) : List V := ix.map fun i => xs.getD i .non
def pickD (ds : List D) (ix : List Nat) : List D := ix.map fun i => ds.getD i .non
/-- the choices, each in a new tuple -/
def Itc (xs : List V) (L : List (List Nat)) : It :=
  ⟨fun i _ => i < L.length, fun i H v H' => ∃ T ix, v = .ref T ∧ H T = none ∧ L[i]? = some ix ∧ H' = upd H T (.tup (pickV xs ix)), fun i _ => L.length ≤ i⟩
theorem vals_pick {xs : List V} {its : List Value} (r : Vals xs its) (ix : List Nat) : Vals (pickV xs ix) (ix.map fun i => its.toArray.getD i .none) := by
  induction ix with
  | nil => exact .nil
  | cons i ix ih =>
    refine .cons ?_ ih
    have e : its.toArray.getD i .none = its.getD i .none := by simp
    show L2.RelV (xs.getD i .non) (its.toArray.getD i .none)
    rw [e]
    have l := r.length
    by_cases h : i < xs.length
    · obtain ⟨u, hu, ru⟩ := r.get (List.getElem?_eq_getElem h)
      rw [List.getD_eq_getElem?_getD, List.getD_eq_getElem?_getD, List.getElem?_eq_getElem h, hu]
      exact ru
    · rw [List.getD_eq_getElem?_getD, List.getD_eq_getElem?_getD, List.getElem?_eq_none (by omega), List.getElem?_eq_none (by omega)]
      rfl
def cSt (L : List (List Nat)) (r z P : Nat) (i : Nat) (h : Heap) : Prop :=
  if L = [] then ∃ last, IsComb h z P 2 last (List.range r) else if i = 0 then ∃ last, IsComb h z P 0 last (List.range r) else ∃ last ix, L[i - 1]? = some ix ∧ IsComb h z P 1 last ix
theorem cSt.comb {L : List (List Nat)} {r z P i : Nat} {h : Heap} (c : cSt L r z P i h) : ∃ st last ix, IsComb h z P st last ix := by
  unfold cSt at c
  split at c
  · obtain ⟨l, c⟩ := c; exact ⟨_, _, _, c⟩
  · split at c
    · obtain ⟨l, c⟩ := c; exact ⟨_, _, _, c⟩
    · obtain ⟨l, ix, _, c⟩ := c; exact ⟨_, _, _, c⟩
theorem cSt.keep {L : List (List Nat)} {r z P i : Nat} {h h' : Heap} (c : cSt L r z P i h) (k : ∀ o, h.get? z = some o → h'.get? z = some o) : cSt L r z P i h' := by
  unfold cSt at c ⊢
  split
  · rename_i e; rw [if_pos e] at c; obtain ⟨l, c⟩ := c; exact ⟨l, k _ c⟩
  · rename_i e
    rw [if_neg e] at c
    split
    · rename_i e2; rw [if_pos e2] at c; obtain ⟨l, c⟩ := c; exact ⟨l, k _ c⟩
    · rename_i e2; rw [if_neg e2] at c; obtain ⟨l, ix, g, c⟩ := c; exact ⟨l, ix, g, k _ c⟩
theorem turn_comb {Pg : Program} {w : World} {K : PySem.W.Frag} {tg : Expr} {z P r : Nat} {xs : List V} {its : List Value} {L : List (List Nat)} (hzP : P ≠ z) (rv : Vals xs its) (hr : r ≤ 1000000)
    (hL : combE xs.length r = some L) :
    Turn Pg w K tg (Itc xs L) [z, P] z (fun i h => cSt L r z P i h ∧ IsTup h P its.toArray) := by
  have len := rv.length
  have hsz : its.toArray.size = xs.length := by rw [List.size_toArray, len]
  have sp : L ≠ [] → L[0]? = some (List.range r) ∧ (∀ i x, L[i]? = some x → nxC xs.length x = L[i + 1]?) ∧ ∀ x ∈ L, x.length = r := fun ne => by
    unfold combE at hL
    split at hL
    · cases hL; exact absurd rfl ne
    · obtain ⟨a, b⟩ := chC_spec hL
      exact ⟨a, b, fun x hx => by rw [chC_len hL x hx, List.length_range]⟩
  exact {
    mem := by simp
    obj := fun i h st c hc => by
      obtain ⟨cs, oP, hoP, _, nP, hdP⟩ := st
      obtain ⟨_, _, _, hz⟩ := cs.comb
      have e' : c = z ∨ c = P := by simpa using hc
      rcases e' with q | q
      · rw [q]; exact ⟨_, hz, fun v q => nomatch q⟩
      · rw [q]; exact ⟨oP, hoP, fun v q => by rw [hdP] at q; cases q⟩
    keep := fun i h h' st k => ⟨st.1.keep fun o q => k z (by simp) o q, by
      obtain ⟨oP, hoP, rest⟩ := st.2
      exact ⟨oP, k P (by simp) _ hoP, rest⟩⟩
    item := by
      intro X hP hw hK hc i pins s σ H E I hf st hg
      subst hP hw hK
      obtain ⟨cs, hPt⟩ := st
      have hg : i < L.length := hg
      have ne : L ≠ [] := fun e => by rw [e] at hg; simp at hg
      obtain ⟨s0, sn, sl⟩ := sp ne
      have hx : L[i]? = some L[i] := List.getElem?_eq_getElem hg
      generalize L[i] = nx at hx
      have hnl : nx.length = r := sl nx (List.mem_of_getElem? hx)
      obtain ⟨st0, last, ix, hz, step⟩ : ∃ st0 last ix, IsComb s.heap z P st0 last ix ∧ ((st0 = 0 ∧ nx = ix) ∨ (st0 = 1 ∧ nxC its.toArray.size ix = some nx)) := by
        unfold cSt at cs
        rw [if_neg ne] at cs
        by_cases e2 : i = 0
        · rw [if_pos e2] at cs
          obtain ⟨l, c⟩ := cs
          refine ⟨_, _, _, c, .inl ⟨rfl, ?_⟩⟩
          rw [e2, s0] at hx
          exact (Option.some.inj hx).symm
        · rw [if_neg e2] at cs
          obtain ⟨l, ix, g, c⟩ := cs
          refine ⟨_, _, _, c, .inr ⟨rfl, ?_⟩⟩
          have := sn _ _ g
          rw [show i - 1 + 1 = i by omega, hx] at this
          rw [hsz]
          exact this
      have hzl : z < s.heap.objs.size := Heap.lt_size hz
      obtain ⟨oP, hoP, hcP, nP, hdP⟩ := id hPt
      have hPl : P < s.heap.objs.size := Heap.lt_size hoP
      refine pyNext_comb_item hzP (by rw [hnl]; exact hr) hz hPt step fun h' hz' hT hs' hk => ?_
      refine ⟨_, rfl, owned_comb (s := { s with heap := h' }) hz' ?_⟩
      have new : ObjOk X.prog X.w (upd H s.heap.objs.size (.tup (pickV xs nx))) h' s.heap.objs.size (.tup (pickV xs nx)) :=
        ⟨by unfold pickV; rw [List.length_map, hnl]; unfold sizeLine; omega, _, vals_pick rv nx, ⟨_, hT, rfl, _, rfl⟩⟩
      have I1 : Inv X pins σ (upd H s.heap.objs.size (.tup (pickV xs nx))) { s with heap := h' } :=
        I.turnedNew (t' := s.toks) (ch := [z, P]) (fun c o hb q => hk c o (fun q' => hb (by simp [q'])) q) hf (Nat.le_refl _) new
      refine ⟨.ref s.heap.objs.size, _, I1, rfl, ⟨_, nx, rfl, I.hok.fresh (Nat.le_refl _), hx, rfl⟩, ⟨?_, oP, hk P _ hzP hoP, hcP, nP, hdP⟩, fun c hcm => ?_⟩
      · show cSt L r z P (i + 1) h'
        unfold cSt
        rw [if_neg ne, if_neg (by omega)]
        exact ⟨_, nx, by rw [Nat.add_sub_cancel]; exact hx, hz'⟩
      · have hlt : c < s.heap.objs.size := by
          have e' : c = z ∨ c = P := by simpa using hcm
          rcases e' with q | q
          · rw [q]; exact hzl
          · rw [q]; exact hPl
        rw [upd_ne (Nat.ne_of_lt hlt)]
        exact (hf c hcm).1
    done := by
      intro X hP hw hK hc i pins s σ H E I hf st hg
      subst hP hw hK
      obtain ⟨cs, hPt⟩ := st
      have hg : L.length ≤ i := hg
      obtain ⟨st0, last, ix, hz, step⟩ : ∃ st0 last ix, IsComb s.heap z P st0 last ix ∧ (st0 = 2 ∨ (st0 = 1 ∧ nxC its.toArray.size ix = none)) := by
        unfold cSt at cs
        by_cases ne : L = []
        · rw [if_pos ne] at cs
          obtain ⟨l, c⟩ := cs
          exact ⟨_, _, _, c, .inl rfl⟩
        · rw [if_neg ne] at cs
          have lp : 0 < L.length := List.length_pos_iff.mpr ne
          rw [if_neg (by omega)] at cs
          obtain ⟨l, ix, g, c⟩ := cs
          refine ⟨_, _, _, c, .inr ⟨rfl, ?_⟩⟩
          have := (sp ne).2.1 _ _ g
          rw [show i - 1 + 1 = i by omega, List.getElem?_eq_none hg] at this
          rw [hsz]
          exact this
      exact pyNext_comb_end (I.ok.hd hc) hz hPt step fun h' hk => ⟨rfl, I.turnedL (t' := s.toks) (ch := [z, P]) (fun c o hb q => hk c o (fun q' => hb (by simp [q'])) q) hf⟩
    self := fun A i s Q E st h => by
      obtain ⟨_, _, _, hz⟩ := st.1.comb
      exact pyIter_comb hz h }
end Zk
namespace Zk
open PySem PySem.Spec PyProof.Rows L2 RZ
section
variable {prog : Program} {w : World} {A : Around} {E : Value → Shared → Prop} {s : Shared}
theorem meets_comb_seq (v : Addr) (r : Nat) (t : PySem.Tok) (items : Array Value) (T : String) (hT : T = "list" ∨ T = "tuple") :
    Meets (Builtin.«itertools.combinations.__new__» ⟨[.type "itertools.combinations", .ref v, .int (r : Int) t], []⟩) (fun _ R s => r ≤ 1000000 ∧ items.size ≤ sizeLine ∧ (∃ o n, s.heap.get? v = some o ∧ o.cls = .type T ∧ o.data = .seq items n) ∧
      ∀ (h0 : Heap), (∀ c o, s.heap.get? c = some o → h0.get? c = some o) → ∀ h', IsComb h' (h0.objs.size + 1) h0.objs.size (if r > items.size then 2 else 0) .none (List.range r) → IsTup h' h0.objs.size items → (∀ c o, h0.get? c = some o → h'.get? c = some o) → R (.ok (.ret (.ref (h0.objs.size + 1)))) { s with heap := h' }) :=
  .of_wp fun prog w A R s ⟨hr, hz, ⟨o, n, ho, hc, hd⟩, h⟩ => by
    refine comb_new hr (wpAny_collect_seq v hT ho hc hd (fun h0 k => ⟨by rw [Array.length_toList]; exact hz, fun h' a1 a2 a3 => ?_⟩) hz)
    simp only [Array.length_toList, Array.toArray_toList] at a1 a2
    exact h h0 k h' a1 a2 a3
theorem call_comb_seq {v : Addr} {r : Nat} {t : PySem.Tok} {items : Array Value} {T : String} {o : Obj} {n : Nat} {Q : Value → Shared → Prop} (hT : T = "list" ∨ T = "tuple") (hr : r ≤ 1000000) (hz : items.size ≤ sizeLine) (ho : s.heap.get? v = some o) (hc : o.cls = .type T) (hd : o.data = .seq items n)
    (h : ∀ (h0 : Heap), (∀ c o, s.heap.get? c = some o → h0.get? c = some o) → ∀ h', IsComb h' (h0.objs.size + 1) h0.objs.size (if r > items.size then 2 else 0) .none (List.range r) → IsTup h' h0.objs.size items → (∀ c o, h0.get? c = some o → h'.get? c = some o) → Q (.ref (h0.objs.size + 1)) { s with heap := h' }) :
    wpAny (model prog w) A (call (.type "itertools.combinations") [.ref v, .int (r : Int) t]) Q E s := by
  refine callType_new FC.called_comb (by decide) (FC.typeCall_comb_2 _ _) (FC.newCall_comb_2 _ _) (fun obj => F.args_object_init_3 obj _ _) FC.entry_comb_new
    (meets_comb_seq v r t items T hT) ⟨hr, hz, ⟨o, n, ho, hc, hd⟩, fun h0 k h' a1 a2 a3 => ?_⟩
  exact ⟨⟨_, a1, rfl⟩, h h0 k h' a1 a2 a3⟩
theorem meets_comb_rng (v : Addr) (r : Nat) (t : PySem.Tok) (a b : Int) (t1 t2 t3 : PySem.Tok) (ok : RgOk a b) :
    Meets (Builtin.«itertools.combinations.__new__» ⟨[.type "itertools.combinations", .ref v, .int (r : Int) t], []⟩) (fun A R s => A.handled = none ∧ r ≤ 1000000 ∧ IsRange s.heap v a b 1 t1 t2 t3 ∧
      ∀ (h0 : Heap) (tk : Nat) (acc : Array Value), (∀ c o, s.heap.get? c = some o → h0.get? c = some o) → Vals (rgV a b) acc.toList → ∀ h', IsComb h' (h0.objs.size + 1) h0.objs.size (if r > acc.size then 2 else 0) .none (List.range r) → IsTup h' h0.objs.size acc → (∀ c o, h0.get? c = some o → h'.get? c = some o) → R (.ok (.ret (.ref (h0.objs.size + 1)))) { s with heap := h', toks := tk }) :=
  .of_wp fun prog w A R s ⟨hh, hr, hv, h⟩ => by
    obtain ⟨b1, b2, b3, b4, b5⟩ := ok
    refine comb_new hr (collect_range (n := (b - a).toNat) hh hv (small_one b1 b2 b3 b4) (rangeSize_nat a b) b5 fun h0 tk acc k hi => ⟨?_, fun h' a1 a2 a3 => ?_⟩)
    · have := (vals_rg hi).length
      rw [rgV_length] at this
      rw [← this]
      unfold sizeLine
      omega
    · simp only [Array.length_toList, Array.toArray_toList] at a1 a2
      exact h h0 tk acc k (vals_rg hi) h' a1 a2 a3
theorem call_comb_rng {v : Addr} {r : Nat} {t : PySem.Tok} {a b : Int} {t1 t2 t3 : PySem.Tok} {Q : Value → Shared → Prop} (ok : RgOk a b) (hh : A.handled = none) (hr : r ≤ 1000000) (hv : IsRange s.heap v a b 1 t1 t2 t3)
    (h : ∀ (h0 : Heap) (tk : Nat) (acc : Array Value), (∀ c o, s.heap.get? c = some o → h0.get? c = some o) → Vals (rgV a b) acc.toList → ∀ h', IsComb h' (h0.objs.size + 1) h0.objs.size (if r > acc.size then 2 else 0) .none (List.range r) → IsTup h' h0.objs.size acc → (∀ c o, h0.get? c = some o → h'.get? c = some o) → Q (.ref (h0.objs.size + 1)) { s with heap := h', toks := tk }) :
    wpAny (model prog w) A (call (.type "itertools.combinations") [.ref v, .int (r : Int) t]) Q E s := by
  refine callType_new FC.called_comb (by decide) (FC.typeCall_comb_2 _ _) (FC.newCall_comb_2 _ _) (fun obj => F.args_object_init_3 obj _ _) FC.entry_comb_new
    (meets_comb_rng v r t a b t1 t2 t3 ok) ⟨hh, hr, hv, fun h0 tk acc k va h' a1 a2 a3 => ?_⟩
  exact ⟨⟨_, a1, rfl⟩, h h0 tk acc k va h' a1 a2 a3⟩
end
/-- a list, a tuple or a range, told as its items -/
def PoolAt (K : PySem.W.Frag) (H : Hp) (a : Addr) (xs : List V) : Prop := SqL K H a xs ∨ SqT K H a xs ∨ ∃ lo hi, H a = some (.rng lo hi) ∧ RgOk lo hi ∧ xs = rgV lo hi
def iCmbA (K : PySem.W.Frag) (ta : TA) : TI := fun σ H R => ta σ H fun vs H1 => ∃ (a : Addr) (r : Nat) (xs : List V) (L : List (List Nat)), vs = [.ref a, .int (r : Int)] ∧ PoolAt K H1 a xs ∧ r ≤ 1000000 ∧ combE xs.length r = some L ∧ R (Itc xs L) H1
theorem pi_cmbA {X : Cx} {e e2 tg : Expr} {ta : TA} {p pos : PySem.Pos} {x : PySem.Str} (hg : Gl X x) (hm : X.mg x = some (.type "itertools.combinations")) (ha : PA X [e, e2] ta) (hc : X.calm = true) (hdb : (x == ("__debug__" : Str)) = false := by decide)
    (hs : starEach [e, e2] X.env = (false, eval e X.env) :: starEach [e2] X.env := by rfl) (hpl : (backTo pos (starEach [e2] X.env)).any (·.1) = false := by rfl) :
    PI X tg (.Call (.Name x p) [e, e2] [] pos) (iCmbA X.K ta) := by
  refine ⟨fun pins s σ H R I h => ?_⟩
  refine wpAny_Call_Name_kw (ld_glob I hg hm ?_ hdb)
  refine PyProof.Rows.callWith_type1 (thn (ha.run pos pins s σ H _ I h) fun us s1 ⟨vs, H1, I1, r1, q1⟩ => ?_) hs hpl
  obtain ⟨a, r, xs, L, rfl, pool, hr, hL, q⟩ := q1
  cases r1 with
  | cons r1 rr =>
    cases rr with
    | cons r2 rr =>
      cases rr
      cases r1
      obtain ⟨t, rfl⟩ := r2
      -- behind the call
      have fin : ∀ {h0 h' : Heap} {tk : Nat} {its : List Value} , (∀ c o, s1.heap.get? c = some o → h0.get? c = some o) → Vals xs its → IsComb h' (h0.objs.size + 1) h0.objs.size (if r > its.toArray.size then 2 else 0) .none (List.range r) → IsTup h' h0.objs.size its.toArray → (∀ c o, h0.get? c = some o → h'.get? c = some o) →
          wpAny (model X.prog X.w) X.A (pyIter (.ref (h0.objs.size + 1))) (fun itv s2 => ∃ (it : Addr) (fp : List Addr) (tn : Nat → Heap → Prop) (J : It) (H' : Hp), itv = .ref it ∧ Inv X pins σ H' s2 ∧ Turn X.prog X.w X.K tg J fp it tn ∧ tn 0 s2.heap ∧ (∀ b ∈ fp, FpOk X pins H' b) ∧ R J H') X.xe { s1 with heap := h', toks := tk } := fun {h0 h' tk its} k rv hz hP k2 => by
        refine pyIter_comb hz ?_
        have I2 : Inv X pins σ H1 { s1 with heap := h0, toks := tk } := I1.kept (t' := tk) k
        have I3 : Inv X pins σ H1 { s1 with heap := h', toks := tk } := I2.kept (t' := tk) k2
        have len := rv.length
        refine ⟨h0.objs.size + 1, [h0.objs.size + 1, h0.objs.size], _, Itc xs L, H1, rfl, I3, turn_comb (by omega) rv hr hL, ⟨?_, hP⟩, fun c hcm => ?_, q⟩
        · have hsz : its.toArray.size = xs.length := by rw [List.size_toArray, len]
          rw [hsz] at hz
          unfold cSt
          unfold combE at hL
          by_cases c : r > xs.length
          · rw [if_pos c] at hL hz
            cases hL
            rw [if_pos rfl]
            exact ⟨_, hz⟩
          · rw [if_neg c] at hL hz
            have ne : L ≠ [] := fun e => by
              have := (chC_spec hL).1
              rw [e] at this
              cases this
            rw [if_neg ne, if_pos rfl]
            exact ⟨_, hz⟩
        · have hle : h0.objs.size ≤ c := by
            have e' : c = h0.objs.size + 1 ∨ c = h0.objs.size := by simpa using hcm
            rcases e' with q' | q'
            · rw [q']; exact Nat.le_succ _
            · rw [q']; exact Nat.le_refl _
          exact I2.fpOk hle (I2.hok.fresh hle)
      rcases pool with hq | hq | ⟨lo, hi, hq, ok, rfl⟩
      · obtain ⟨its, rv, pl, hz⟩ := I1.list hq
        have len := rv.length
        obtain ⟨o, n, ho, hcl, _, hd⟩ := pl
        exact call_comb_seq (T := "list") (.inl rfl) hr (by rw [List.size_toArray, ← len]; exact hz) ho hcl hd fun h0 k h' a1 a2 a3 => fin (tk := s1.toks) k rv a1 a2 a3
      · obtain ⟨its, rv, ⟨o, ho, hcl, n, hd⟩, hz⟩ := I1.tuple hq
        have len := rv.length
        exact call_comb_seq (T := "tuple") (.inr rfl) hr (by rw [List.size_toArray, ← len]; exact hz) ho hcl hd fun h0 k h' a1 a2 a3 => fin (tk := s1.toks) k rv a1 a2 a3
      · obtain ⟨t1, t2, t3, hv⟩ := I1.hok _ _ hq
        exact call_comb_rng ok (I1.ok.hd hc) hr hv fun h0 tk acc k va h' a1 a2 a3 => fin (its := acc.toList) k va (by rw [Array.toArray_toList]; exact a1) (by rw [Array.toArray_toList]; exact a2) a3
end Zk
namespace Zk
open PySem PySem.Spec PyProof.Rows L2 RZ
section
variable {K : PySem.W.Frag} {Z Z' Z0 : Addr → Prop} {H H' H0 : Hp} {σ : L2.St} {E E' : Ev} {R R' R0 : Rs}
theorem rps_pick {vs : List V} {ds : List D} (r : Rps K Z H vs ds) : ∀ ix : List Nat, Rps K Z H (pickV vs ix) (pickD ds ix)
  | [] => .nil
  | i :: ix => by
    refine .cons ?_ (rps_pick r ix)
    show Rp K Z H (vs.getD i .non) (ds.getD i .non)
    have l := r.len
    by_cases h : i < vs.length
    · obtain ⟨d, hd, rd⟩ := r.get (List.getElem?_eq_getElem h)
      rw [List.getD_eq_getElem?_getD, List.getD_eq_getElem?_getD, List.getElem?_eq_getElem h, hd]
      exact rd
    · rw [List.getD_eq_getElem?_getD, List.getD_eq_getElem?_getD, List.getElem?_eq_none (by omega), List.getElem?_eq_none (by omega)]
      exact .non
def cmbD (ds : List D) (L : List (List Nat)) : List D := L.map fun ix => .tup (pickD ds ix)
theorem iok_cmb {vs : List V} {ds : List D} {L : List (List Nat)} (r : Rps K Z H vs ds) : IOk K (Itc vs L) (cmbD ds L) Z H where
  go := fun Z2 H2 i p hi => by
    have : i < L.length := by unfold cmbD at hi; rwa [List.length_map] at hi
    exact this
  stop := fun Z2 H2 p => by
    show L.length ≤ (cmbD ds L).length
    unfold cmbD
    rw [List.length_map]
    exact Nat.le_refl _
  yld := fun Z2 H2 i x H3 p hi y => by
    obtain ⟨T, ix, rfl, hT, hx, rfl⟩ := y
    have m : More H2 (upd H2 T (.tup (pickV vs ix))) := .upd hT
    refine ⟨m, .tup (pickD ds ix), ?_, .tup upd_same (rps_pick ((r.pers p).pers (m.pers fun _ h => h)) ix)⟩
    unfold cmbD
    rw [List.getElem?_map, hx]; rfl
def rOk (r : Int) : Bool := decide (0 ≤ r) && decide (r ≤ 1000000)
def rRng : List V → Hp → VK → Prop := fun vs H Q => ∃ a b, (vs = [V.int b] ∧ a = 0 ∨ vs = [V.int a, V.int b]) ∧ ∀ p, H p = none → Q (.ref p) (upd H p (.rng a b))
def bndD : List D → Option (Int × Int)
  | [.int b] => some (0, b)
  | [.int a, .int b] => some (a, b)
  | _ => none
def rgB (a b : Int) : Bool := decide (-(2 ^ 62) ≤ a) && decide (a < 2 ^ 62) && decide (-(2 ^ 62) ≤ b) && decide (b < 2 ^ 62) && decide ((b - a).toNat ≤ 2 ^ 24)
theorem rgB_ok {a b : Int} (h : rgB a b = true) : RgOk a b := by
  unfold rgB at h
  simp only [Bool.and_eq_true, decide_eq_true_eq] at h
  exact ⟨h.1.1.1.1, h.1.1.1.2, h.1.1.2, h.1.2, h.2⟩
def rgDs (a b : Int) : List D := (List.range (b - a).toNat).map fun i : Nat => D.int (a + (i : Nat))
theorem rps_rg (a b : Int) : Rps K Z H (rgV a b) (rgDs a b) := by
  have e1 : rgV a b = ((List.range (b - a).toNat).map fun i : Nat => a + (i : Int)).map V.int := by unfold rgV; rw [List.map_map]; rfl
  have e2 : rgDs a b = ((List.range (b - a).toNat).map fun i : Nat => a + (i : Int)).map D.int := by unfold rgDs; rw [List.map_map]; rfl
  rw [e1, e2]
  exact Rps.ofInts _
/-- choices out of a range -/
def mCmbR (fb : Fa) (g : Fe) : Fi := fun E => (fb E).bind fun p => (tkL p.2 p.1).bind fun q => (bndD (q.1.map (·.1))).bind fun ab => (g q.2).bind fun p2 => (tk p2.2 p2.1).bind fun q2 => match q2.1 with
  | .int r => if rOk r = true ∧ rgB ab.1 ab.2 = true then (combE (ab.2 - ab.1).toNat r.toNat).map fun L => (cmbD (rgDs ab.1 ab.2) L, q2.2.2) else none
  | _ => none
theorem cmbR_of {fb : Fa} {g : Fe} {Rk : It → Hp → Prop} (q : iOf K (mCmbR fb g) σ H Rk) : iCmbA K (tCons (tCB rRng (aOf K fb)) (tCons (eOf K g) tNil)) σ H Rk := by
  obtain ⟨Z, E, R, s, its, E', e, q⟩ := q
  unfold mCmbR at e
  cases e1 : fb E with
  | none => rw [e1] at e; cases e
  | some p =>
    obtain ⟨os, E1⟩ := p
    rw [e1] at e
    simp only [Option.bind_some] at e
    cases e2 : tkL E1 os with
    | none => rw [e2] at e; cases e
    | some p2 =>
      obtain ⟨ds, E2⟩ := p2
      rw [e2] at e
      simp only [Option.bind_some] at e
      cases e3 : bndD (ds.map (·.1)) with
      | none => rw [e3] at e; cases e
      | some ab =>
        obtain ⟨a, b⟩ := ab
        rw [e3] at e
        simp only [Option.bind_some] at e
        cases e4 : g E2 with
        | none => rw [e4] at e; cases e
        | some p4 =>
          obtain ⟨o4, E4⟩ := p4
          rw [e4] at e
          simp only [Option.bind_some] at e
          cases e5 : tk E4 o4 with
          | none => rw [e5] at e; cases e
          | some p5 =>
            obtain ⟨d5, n5, E5⟩ := p5
            rw [e5] at e
            simp only [Option.bind_some] at e
            split at e
            · rename_i r
              split at e
              · rename_i hr
                cases eL : combE (b - a).toNat r.toNat with
                | none => rw [eL] at e; cases e
                | some L =>
                  rw [eL] at e
                  cases e
                  refine ⟨Z, E, R, s, os, E1, e1, fun vs Z1 H1 R1 rss s1 t1 a1 f1 => ?_⟩
                  obtain ⟨Z2, R2, s2, t2, rp⟩ := s1.takeLFrz t1 a1 f1 e2
                  have hb : vs = [V.int b] ∧ a = 0 ∨ vs = [V.int a, V.int b] := by
                    generalize ds.map (·.1) = dl at *
                    unfold bndD at e3
                    split at e3
                    · cases e3
                      obtain ⟨x, rfl, rx⟩ := rp.one
                      exact .inl ⟨by rw [Rp.intE rx], rfl⟩
                    · cases e3
                      obtain ⟨x, y, rfl, rx, ry⟩ := rp.two
                      exact .inr (by rw [Rp.intE rx, Rp.intE ry])
                    · cases e3
                  refine ⟨a, b, hb, fun p hp => ?_⟩
                  have m : More H1 (upd H1 p (.rng a b)) := .upd hp
                  have np : ¬ ow R2 p := fun h => s2.there h hp
                  refine ⟨Z2, E2, R2, s2.more m, o4, E4, e4, fun v Z3 H3 R3 rs3 s3 t3 ov3 f3 => ?_⟩
                  obtain ⟨rd3, e45⟩ := tk_int e5
                  subst e45
                  have ev := (s3.read ov3 rd3).intE
                  obtain ⟨hr1, hr2⟩ := hr
                  unfold rOk at hr1
                  simp at hr1
                  show ∃ (a : Addr) (r : Nat) (xs : List V) (L : List (List Nat)), _
                  refine ⟨p, r.toNat, rgV a b, L, by rw [ev, Int.toNat_of_nonneg hr1.1], .inr (.inr ⟨a, b, t3.hh p _ upd_same np, rgB_ok hr2, rfl⟩), by omega, by rw [rgV_length]; exact eL, q _ Z3 H3 R3 s3 (t2.trans ((m.step (ow R2)).trans t3)) (iok_cmb (rps_rg a b))⟩
              · cases e
            · cases e
end
section
variable {X : Cx} {e e1 e2 tg : Expr} {es : List Expr} {f g : Fe} {fb : Fa} {p p2 pos pos2 : PySem.Pos} {x : PySem.Str}
theorem cr_rng1 : CallR X (.type "range") fun vs H Q => ∃ b, vs = [V.int b] ∧ ∀ p, H p = none → Q (.ref p) (upd H p (.rng 0 b)) := by
  intro pins s σ H vs us Q I r h
  obtain ⟨b, rfl, q⟩ := h
  cases r with
  | cons r1 rr =>
    cases rr
    obtain ⟨t, rfl⟩ := r1
    refine call_range_1 ⟨.ref s.heap.objs.size, upd H s.heap.objs.size (.rng 0 b), I.laid (t' := s.toks + 1 + 1) (fun b o e => Heap.get?_push_of_some _ e) (Nat.le_refl _) ?_, rfl, q _ (I.hok.fresh (Nat.le_refl _))⟩
    exact ⟨s.toks, t, s.toks + 1, Heap.get?_push_size _ rfl⟩
theorem cr_rng : CallR X (.type "range") rRng := by
  intro pins s σ H vs us Q I r h
  obtain ⟨a, b, h, q⟩ := h
  rcases h with ⟨rfl, rfl⟩ | rfl
  · exact cr_rng1 pins s σ H _ us Q I r ⟨b, rfl, q⟩
  · exact cr_range2 pins s σ H _ us Q I r ⟨a, b, rfl, q⟩
theorem ai_cmbR (hb : AA X (e1 :: es) fb) (he : AE X e2 g) (hg : Gl X x) (hm : X.mg x = some (.type "itertools.combinations")) (hg2 : Gl X "range") (hm2 : X.mg "range" = none) (hc : X.calm = true := by rfl) (hdb : (x == ("__debug__" : Str)) = false := by decide)
    (hs0 : starEach (e1 :: es) X.env = (false, eval e1 X.env) :: starEach es X.env := by rfl) (hpl0 : (backTo pos2 (starEach es X.env)).any (·.1) = false := by rfl)
    (hs : starEach [.Call (.Name "range" p2) (e1 :: es) [] pos2, e2] X.env = (false, eval (.Call (.Name "range" p2) (e1 :: es) [] pos2) X.env) :: starEach [e2] X.env := by rfl) (hs2 : starEach [e2] X.env = (false, eval e2 X.env) :: starEach [] X.env := by rfl) (hpl : (backTo pos (starEach [e2] X.env)).any (·.1) = false := by rfl) :
    AI X tg (.Call (.Name x p) [.Call (.Name "range" p2) (e1 :: es) [] pos2, e2] [] pos) (mCmbR fb g) :=
  PI.mono (pi_cmbA hg hm (pa_cons (pe_callTy cr_rng hg2 hm2 boot_range hb (by decide) (by decide) hs0 hpl0) (pa_cons he pa_nil hs2) hs) hc hdb hs hpl) fun _ _ _ q => cmbR_of q
end
end Zk
namespace Zk
open PySem PySem.Spec PyProof.Rows L2 RZ
@[simp ↓] theorem W_cmbR {fb : Fa} {g : Fe} {E : Ev} {Q : List D × Ev → Prop} : W (mCmbR fb g E) Q ↔ W (fb E) fun p => W (tkL p.2 p.1) fun q => W (bndD (q.1.map (·.1))) fun ab => W (g q.2) fun p2 => W (tk p2.2 p2.1) fun q2 => (match q2.1 with
    | .int r => (rOk r = true ∧ rgB ab.1 ab.2 = true) ∧ W (combE (ab.2 - ab.1).toNat r.toNat) fun L => Q (cmbD (rgDs ab.1 ab.2) L, q2.2.2)
    | _ => False) := by
  unfold mCmbR
  refine W_bind.trans (W_ext fun p => W_bind.trans (W_ext fun q => W_bind.trans (W_ext fun ab => W_bind.trans (W_ext fun p2 => W_bind.trans (W_ext fun q2 => ?_)))))
  obtain ⟨d, n, E2⟩ := q2
  cases d with
  | int r => exact W_if1.trans (and_congr_right fun _ => W_map)
  | _ => simp
@[simp] theorem bndD_1 (b : Int) : bndD [.int b] = some (0, b) := rfl
@[simp] theorem bndD_2 (a b : Int) : bndD [.int a, .int b] = some (a, b) := rfl
theorem rOk_n {r : Nat} (h : r ≤ 1000000) : rOk (r : Int) = true := by
  unfold rOk
  simp
  omega
theorem rgB_n {a b : Int} (h0 : 0 ≤ a) (h1 : b ≤ 16777216) (h2 : a ≤ 16777216) (h3 : 0 ≤ b) : rgB a b = true := by
  unfold rgB
  simp only [Bool.and_eq_true, decide_eq_true_eq]
  omega
end Zk
namespace Zk
noncomputable section
open PySem PySem.Spec PyProof.Rows L2
def S_law_setb : Fs := (mSeq (mSet 3 (mLst mA0)) (mSeq (mFor (mRg1 (mCall (some 0) S_law_take (mAc (mVar 0) (mAc (mAdd (mVar 2) (mC (.int 1))) mA0)))) (tgV 4) (mSeq (mSet 5 (mCall (some 0) S_law_take (mAc (mVar 0) (mAc (mVar 1) mA0)))) (mIfS (mB (mNotIn (mVar 5) (mVar 3))) (mEx (mApp 3 (mVar 5))) mNx))) (mRet (mOp gTuple (mAc (mSrt (mVar 3)) mA0)))))
def S_law_set : Mir := mDef (some 0) 6 S_law_setb
def S_law_of_bothb : Fs := (mRet (mOp gTuple (mAc (mSrtS (mAdd (mOp gList (mAc (mVar 0) mA0)) (mOp gList (mAc (mVar 1) mA0)))) mA0)))
def S_law_of_both : Mir := mDef none 2 S_law_of_bothb
end
end Zk
namespace Zk
noncomputable section
open PySem PySem.Spec PyProof.Rows L2
def v2 (p : Nat) (q : Nat × Nat) (k : Nat) : Nat := (q.1 + q.2 * k) % p
section
variable {p w : Nat} {R : List (Nat × Nat)}
end
end
end Zk
namespace Zk
noncomputable section
open PySem PySem.Spec PyProof.Rows L2
section
variable {p w : Nat} {R : List (Nat × Nat)}
theorem tN_tI (ks : List Nat) : tN ks = tI (ks.map fun k : Nat => (k : Int)) := by
  unfold tN tI
  rw [List.map_map]; rfl
end
theorem toN_back {xs : List Int} (h : ∀ x ∈ xs, ∃ c : Nat, x = (c : Int)) : (xs.map Int.toNat).map (fun c : Nat => (c : Int)) = xs := by
  rw [List.map_map]
  conv => rhs; rw [← List.map_id xs]
  refine List.map_congr_left fun x hx => ?_
  obtain ⟨c, rfl⟩ := h x hx
  simp
/-- draws of keys -/
theorem law_set_W (s : List Int) (top many : Nat) (h0 : 0 < top) (h1 : many ≤ 1000000) : W (S_law_set [dr s, .int (top : Int), .int (many : Int)]) fun r => ∃ (ks : List Nat) (s' : List Int), r = (tN ks, 9, dr s') ∧ ks.Nodup ∧ (∀ k ∈ ks, k < top) ∧ ks.length ≤ many ∧ ks.Pairwise (· ≤ ·) := by
  refine W_O fun Q' hQ => ?_
  unfold S_law_set S_law_setb
  rw [W_mDef]
  have e1 : (0 : Int) < (many : Int) + 1 := by omega
  obtain ⟨v, ev, hv⟩ := dvN s ((many : Int) + 1) e1
  have rk : rgOk (v : Int) := ⟨by omega, by omega⟩
  have ht : (0 : Int) < top := by omega
  have htn : 0 < top := h0
  (refine Zk.W_seqE (E1 := ?wE95) ?wa95 ?wb95; (case wa95 => (simp (disch := first | assumption | (simp; done) | omega) [ent0_def]; exact rfl)))
  (refine Zk.W_forN ?wE233 v [4, 5] (fun (c : List Int × List Nat) _ => [(0, some (dr c.1, 1)), (3, some (.lst (c.2.map iN), 9))]) (fun c k => c.2.Nodup ∧ (∀ k ∈ c.2, k < top) ∧ c.2.length ≤ k) (s.dropLast, []) ?wa233 ?wb233 ?_ ?_ ?_; (case wa233 => (simp (disch := first | assumption | (simp; done) | omega) [dem1, ev, rk, e1]; exact rfl)); (case wb233 => (simp (disch := first | assumption | (simp; done) | omega) [Zk.sets, dem1, ev, rk, e1])))
  · simp
  · rintro ⟨s, fs⟩ j I' hj ⟨f1, f2, f3⟩ hI
    simp only [Zk.AllU, Zk.sets, List.set_cons_succ, List.set_cons_zero, List.set_nil] at *
    intro u4 u5
    refine W_tgV.mpr ⟨by simp, ?_⟩
    obtain ⟨x, ex, hx⟩ := dvN s (top : Int) ht
    (refine Zk.W_seqE (E1 := ?wE96) ?wa96 ?wb96; (case wa96 => (simp (disch := first | assumption | (simp; done) | omega) [dem1, ex, htn]; exact rfl)))
    have gi := gInA_nats true x fs
    have im : imms (fs.map iN) = true := imms_map' (fun _ => by simp [iN]) _
    have sz : fs.length < 16777216 := by omega
    by_cases c : x ∈ fs
    · rw [decide_eq_true c] at gi
      simp (disch := first | assumption | (simp; done) | omega) [gi, im]
      have := hI (s.dropLast, fs) ⟨f1, f2, by simp only; omega⟩
      simp only at this
      apply this
    · rw [decide_eq_false c] at gi
      simp (disch := first | assumption | (simp; done) | omega) [gi, im, sz]
      have := hI (s.dropLast, fs ++ [x]) ⟨by
        simp only
        refine List.nodup_append.mpr ⟨f1, by simp, fun a ha b hb e => ?_⟩
        have : b = x := by simpa using hb
        exact c (by rw [← this, ← e]; exact ha), fun k hk => by
        rcases List.mem_append.mp hk with h | h
        · exact f2 k h
        · have : k = x := by simpa using h
          omega, by simp; omega⟩
      simp only [List.map_append, List.map_cons, List.map_nil] at this
      apply this
  · rintro ⟨s, fs⟩ ⟨f1, f2, f3⟩
    simp only [Zk.AllU, Zk.sets, List.set_cons_succ, List.set_cons_zero, List.set_nil] at *
    intro u4 u5
    have eg1 : fs.map iN = (fs.map fun c : Nat => (c : Int)).map D.int := by rw [List.map_map]; rfl
    have gs : gSrt1 [.lst (fs.map iN)] = some (.lst ((srt (fs.map fun c : Nat => (c : Int))).map D.int), 9) := by rw [eg1]; simp [-List.map_map]
    have im : imms (fs.map iN) = true := imms_map' (fun _ => by simp [iN]) _
    have ek : tN ((srt (fs.map fun c : Nat => (c : Int))).map Int.toNat) = .tup ((srt (fs.map fun c : Nat => (c : Int))).map D.int) := by
      rw [tN_tI, tI, toN_back fun x hx => ?_]
      obtain ⟨c, _, rfl⟩ := List.mem_map.mp ((srt_perm _).mem_iff.mp hx)
      exact ⟨c, rfl⟩
    have pm : ((srt (fs.map fun c : Nat => (c : Int))).map Int.toNat).Perm fs := by
      refine ((srt_perm _).map _).trans (.of_eq ?_)
      rw [List.map_map]
      conv => rhs; rw [← List.map_id fs]
      exact List.map_congr_left fun x _ => by simp
    simp (disch := first | assumption | (simp; done) | omega) [gs, im]
    refine hQ _ ⟨(srt (fs.map fun c : Nat => (c : Int))).map Int.toNat, s, by rw [ek], pm.nodup_iff.mpr f1, fun k hk => f2 k (pm.mem_iff.mp hk), by rw [pm.length_eq]; omega, ?_⟩
    refine List.pairwise_map.mpr ((srt_pair _).imp fun h => ?_)
    omega
/-- two sets together -/
def bothN (a b : List Nat) : List Nat := (srt ((a ++ b).map fun c : Nat => (c : Int)).eraseDups).map Int.toNat
theorem bothN_mem {a b : List Nat} {k : Nat} : k ∈ bothN a b ↔ k ∈ a ∨ k ∈ b := by
  unfold bothN
  rw [List.mem_map]
  constructor
  · rintro ⟨x, hx, rfl⟩
    have := List.mem_eraseDups.mp ((srt_perm _).mem_iff.mp hx)
    obtain ⟨c, hc, rfl⟩ := List.mem_map.mp this
    simpa using hc
  · intro h
    exact ⟨(k : Int), (srt_perm _).mem_iff.mpr (List.mem_eraseDups.mpr (List.mem_map.mpr ⟨k, by simpa using h, rfl⟩)), by simp⟩
theorem bothN_D (a b : List Nat) : tN (bothN a b) = .tup ((srt ((a ++ b).map fun c : Nat => (c : Int)).eraseDups).map D.int) := by
  rw [tN_tI, tI, bothN, toN_back fun x hx => ?_]
  obtain ⟨c, _, rfl⟩ := List.mem_map.mp (List.mem_eraseDups.mp ((srt_perm _).mem_iff.mp hx))
  exact ⟨c, rfl⟩
theorem bothN_len (a b : List Nat) : (bothN a b).length ≤ a.length + b.length := by
  unfold bothN
  rw [List.length_map, srt_len]
  refine Nat.le_trans (len_dd _) ?_
  simp
theorem law_of_both_W (a b : List Nat) (h : a.length + b.length ≤ 4000) : S_law_of_both [tN a, tN b] = some (tN (bothN a b), 9, .non) := by
  have go : W (S_law_of_both [tN a, tN b]) fun r => r = (tN (bothN a b), 9, .non) := by
    refine W_O fun Q' hQ => ?_
    unfold S_law_of_both S_law_of_bothb
    rw [tN_tI a, tN_tI b]
    have ga : gAdd [.lst ((a.map fun c : Nat => (c : Int)).map D.int), .lst ((b.map fun c : Nat => (c : Int)).map D.int)] = some (.lst (((a ++ b).map fun c : Nat => (c : Int)).map D.int), 9) := by
      have : (a.map fun c : Nat => (c : Int)).length + (b.map fun c : Nat => (c : Int)).length ≤ sizeLine := by rw [sizeL]; simp; omega
      rw [List.map_append, List.map_append]
      simp only [List.length_map] at this
      simp [gAdd, lev, this]
    have gs := gSrtS_lst ((a ++ b).map fun c : Nat => (c : Int))
    rw [if_pos (by simpa using h)] at gs
    have g1 : ∀ xs : List Int, gList [tI xs] = some (.lst (xs.map D.int), 9) := fun xs => by simp [tI]
    simp (disch := first | assumption | (simp; done) | omega) [ent0_def, g1, ga, gs, -List.map_map, -List.map_append]
    exact hQ _ (by rw [bothN_D])
  obtain ⟨r, e, rfl⟩ := go
  exact e
end
end Zk
namespace Zk
noncomputable section
open PySem PySem.Spec PyProof.Rows L2
end
end Zk
namespace Zk
noncomputable section
open PySem PySem.Spec PyProof.Rows L2
section
variable {p w : Nat} {R : List (Nat × Nat)}
end
end
end Zk
namespace Zk
noncomputable section
open PySem PySem.Spec PyProof.Rows L2
end
end Zk
namespace Zk
noncomputable section
open PySem PySem.Spec PyProof.Rows L2
section
variable {p w : Nat} {R : List (Nat × Nat)}
end
end
end Zk
namespace Zk
noncomputable section
open PySem PySem.Spec PyProof.Rows L2
section
variable {p w : Nat}
/-- how many keys are told though they are not there, by a draw -/
def fcL (p w : Nat) (ks : List Nat) (q : Nat × Nat) (n : Nat) : List Nat := (List.range n).filter fun k => decide (k ∉ ks) && decide (∃ j ∈ ks, v2 p q j % w = v2 p q k % w)
def fc (p w : Nat) (ks : List Nat) (q : Nat × Nat) : Int := ((fcL p w ks q p).length : Nat)
end
end
end Zk
namespace Zk
noncomputable section
open PySem PySem.Spec PyProof.Rows L2
section
variable {p w : Nat}
end
end
end Zk
namespace Zk
noncomputable section
open PySem PySem.Spec PyProof.Rows L2
def S_minusb : Fs := (mRet (mCall none S_fraction (mAc (mSub (mMul (mIxd (mVar 0) (mC (.int 0))) (mIxd (mVar 1) (mC (.int 1)))) (mMul (mIxd (mVar 1) (mC (.int 0))) (mIxd (mVar 0) (mC (.int 1))))) (mAc (mMul (mIxd (mVar 0) (mC (.int 1))) (mIxd (mVar 1) (mC (.int 1)))) mA0))))
def S_minus : Mir := mDef none 2 S_minusb
def S_overb : Fs := (mRet (mCall none S_fraction (mAc (mMul (mIxd (mVar 0) (mC (.int 0))) (mIxd (mVar 1) (mC (.int 1)))) (mAc (mMul (mIxd (mVar 0) (mC (.int 1))) (mIxd (mVar 1) (mC (.int 0)))) mA0))))
def S_over : Mir := mDef none 2 S_overb
end
end Zk
namespace Zk
noncomputable section
open PySem PySem.Spec PyProof.Rows L2
end
end Zk
namespace Zk
noncomputable section
open PySem PySem.Spec PyProof.Rows L2
theorem pow_le_l {a b : Int} (ha : 0 ≤ a) (h : a ≤ b) : ∀ n : Nat, a ^ n ≤ b ^ n
  | 0 => by simp
  | n + 1 => by
    rw [Int.pow_succ, Int.pow_succ]
    have h1 := pow_le_l ha h n
    have h2 : 0 ≤ a ^ n := Int.pow_nonneg ha
    exact Int.le_trans (Int.mul_le_mul_of_nonneg_right h1 ha) (Int.mul_le_mul_of_nonneg_left h (Int.le_trans h2 h1))
structure CD (c d : Int) : Prop where
  d1 : 1 ≤ d
  dc : d ≤ c
  c20 : c ≤ 2 ^ 20
section
variable {c d : Int}
theorem CD.c0 (h : CD c d) : 0 ≤ c := by have := h.d1; have := h.dc; omega
theorem CD.cp (h : CD c d) (n : Nat) : 1 ≤ c ^ n := by
  have : 0 < c ^ n := Int.pow_pos (by have := h.d1; have := h.dc; omega)
  omega
theorem CD.dp (h : CD c d) (n : Nat) : 1 ≤ d ^ n := by
  have : 0 < d ^ n := Int.pow_pos (by have := h.d1; omega)
  omega
theorem CD.dle (h : CD c d) (n : Nat) : d ^ n ≤ c ^ n := pow_le_l (by have := h.d1; omega) h.dc n
theorem CD.on (h : CD c d) {n x : Nat} (hx : x ≤ n) : 0 ≤ d ^ x * c ^ (n - x) ∧ d ^ x * c ^ (n - x) ≤ c ^ n := by
  have a1 : c ^ n = c ^ x * c ^ (n - x) := by rw [← Int.pow_add]; congr 1; omega
  have := h.cp (n - x)
  have := h.dp x
  refine ⟨Int.mul_nonneg (by omega) (by omega), ?_⟩
  rw [a1]
  exact Int.mul_le_mul_of_nonneg_right (h.dle x) (by omega)
theorem CD.cb (h : CD c d) {n : Nat} (hn : n ≤ 1000) : (c ^ n).natAbs ≤ 2 ^ 20000 := by
  have h1 : c ^ n ≤ (2 ^ 20) ^ n := pow_le_l h.c0 h.c20 n
  have h2 : ((2 : Int) ^ 20) ^ n = ((2 ^ (20 * n) : Nat) : Int) := by rw [← Int.pow_mul, Int.natCast_pow]; rfl
  have h3 : 2 ^ (20 * n) ≤ 2 ^ 20000 := Nat.pow_le_pow_right (by decide) (by omega)
  have := h.cp n
  generalize (2 : Nat) ^ 20000 = G at *
  omega
theorem big_20000 {i : Int} (h : i.natAbs ≤ 2 ^ 20000) : i.natAbs < big := big_of (k := 20001) (Nat.lt_of_le_of_lt h (Nat.pow_lt_pow_right (by decide) (by decide))) (by decide)
end
end
end Zk
namespace Zk
noncomputable section
open PySem PySem.Spec PyProof.Rows L2
section
variable {c d : Int} {n : Nat}
theorem CD.ca (h : CD c d) {j : Nat} (hj : j ≤ 40) : (c ^ j).natAbs ≤ 2 ^ 800 := by
  have h1 : c ^ j ≤ (2 ^ 20) ^ j := pow_le_l h.c0 h.c20 j
  have h2 : ((2 : Int) ^ 20) ^ j = ((2 ^ (20 * j) : Nat) : Int) := by rw [← Int.pow_mul, Int.natCast_pow]; rfl
  have h3 : 2 ^ (20 * j) ≤ 2 ^ 800 := Nat.pow_le_pow_right (by decide) (by omega)
  have := h.cp j
  generalize (2 : Nat) ^ 800 = G at *
  omega
theorem cd21 : CD 2 1 := ⟨by decide, by decide, by decide⟩
theorem CD.self (h : CD c d) : CD d d := ⟨h.d1, Int.le_refl _, by have := h.dc; have := h.c20; omega⟩
end
end
end Zk
namespace Zk
noncomputable section
open PySem PySem.Spec PyProof.Rows L2
section
variable {m : Nat} {c : Nat → Nat → Int}
end
end
end Zk
namespace Zk
noncomputable section
open PySem PySem.Spec PyProof.Rows L2
section
variable {m : Nat} {st : List (Int × Int)}
end
end
end Zk
namespace Zk
noncomputable section
open PySem PySem.Spec PyProof.Rows L2
section
variable {st : List (Int × Int)} {m k : Nat}
end
end
end Zk
namespace Zk
noncomputable section
open PySem PySem.Spec PyProof.Rows L2
def twoD (a b : Int) : D := .tup [.int a, .int b]
theorem minus_I {a b c d : Int} (ha : a.natAbs < big) (hb : b.natAbs < big) (hc : c.natAbs < big) (hd : d.natAbs < big) (h0 : b * d ≠ 0) (h1 : (b * d).natAbs < 2 ^ 8000) : S_minus [twoD a b, twoD c d] = some (fr (Rat.divInt (a * d - c * b) (b * d)), 9, .non) := by
  have go : W (S_minus [twoD a b, twoD c d]) fun r => r = (fr (Rat.divInt (a * d - c * b) (b * d)), 9, .non) := by
    refine W_O fun Q' hQ => ?_
    unfold S_minus S_minusb twoD
    have fe := fraction_eq (n := a * d - c * b) h0 h1
    simp (disch := first | assumption | (simp; done) | omega) [ent0_def, ha, hb, hc, hd, fe, dem1]
    exact hQ _ rfl
  obtain ⟨r, e, rfl⟩ := go
  exact e
theorem over_I {a b c d : Int} (ha : a.natAbs < big) (hb : b.natAbs < big) (hc : c.natAbs < big) (hd : d.natAbs < big) (h0 : b * c ≠ 0) (h1 : (b * c).natAbs < 2 ^ 8000) : S_over [twoD a b, twoD c d] = some (fr (Rat.divInt (a * d) (b * c)), 9, .non) := by
  have go : W (S_over [twoD a b, twoD c d]) fun r => r = (fr (Rat.divInt (a * d) (b * c)), 9, .non) := by
    refine W_O fun Q' hQ => ?_
    unfold S_over S_overb twoD
    have fe := fraction_eq (n := a * d) h0 h1
    simp (disch := first | assumption | (simp; done) | omega) [ent0_def, ha, hb, hc, hd, fe, dem1]
    exact hQ _ rfl
  obtain ⟨r, e, rfl⟩ := go
  exact e
theorem fr_two (q : Rat) : fr q = twoD q.num (q.den : Int) := rfl
theorem minus_R {f g : Rat} {a b c e : Nat} (hf : szR a b f) (hg : szR c e g) (ha : a ≤ 8000) (hb : b ≤ 8000) (hc : c ≤ 8000) (he : e ≤ 8000) (h : b + e ≤ 7999) : S_minus [fr f, fr g] = some (fr (f - g), 9, .non) := by
  rw [fr_two f, fr_two g, minus_I (abs_big hf.1 ha) (abs_big (i := (f.den : Int)) hf.2 hb) (abs_big hg.1 hc) (abs_big (i := (g.den : Int)) hg.2 he) (den_mul_ne f g) (abs_lt_8000 (mul_abs (x := (f.den : Int)) (y := (g.den : Int)) hf.2 hg.2) (by omega)), sub_div]
theorem div_div (f g : Rat) : Rat.divInt (f.num * g.den) ((f.den : Int) * g.num) = f / g := by
  rw [Rat.div_def, Rat.divInt_eq_div, Rat.intCast_mul, Rat.intCast_mul, Rat.div_def, Rat.inv_mul_rev]
  have e1 : (f.num : Rat) * (((f.den : Nat) : Int) : Rat)⁻¹ = f := by
    rw [← Rat.div_def, ← Rat.divInt_eq_div]; exact Rat.num_divInt_den f
  have e2 : (((g.den : Nat) : Int) : Rat) * (g.num : Rat)⁻¹ = g⁻¹ := by
    rw [← Rat.div_def, ← Rat.divInt_eq_div, ← Rat.inv_divInt]
    rw [Rat.num_divInt_den]
  calc (f.num : Rat) * (((g.den : Nat) : Int) : Rat) * ((g.num : Rat)⁻¹ * (((f.den : Nat) : Int) : Rat)⁻¹)
      = ((f.num : Rat) * (((f.den : Nat) : Int) : Rat)⁻¹) * ((((g.den : Nat) : Int) : Rat) * (g.num : Rat)⁻¹) := by
        rw [Rat.mul_comm (g.num : Rat)⁻¹, Rat.mul_assoc, Rat.mul_assoc, ← Rat.mul_assoc (((g.den : Nat) : Int) : Rat), Rat.mul_comm (((g.den : Nat) : Int) : Rat), Rat.mul_assoc]
    _ = f * g⁻¹ := by rw [e1, e2]
theorem over_R {f g : Rat} {a b c e : Nat} (hf : szR a b f) (hg : szR c e g) (h0 : g ≠ 0) (ha : a ≤ 8000) (hb : b ≤ 8000) (hc : c ≤ 8000) (he : e ≤ 8000) (h : b + c ≤ 7999) : S_over [fr f, fr g] = some (fr (f / g), 9, .non) := by
  have n0 : g.num ≠ 0 := fun e => h0 (Rat.num_eq_zero.mp e)
  rw [fr_two f, fr_two g, over_I (abs_big hf.1 ha) (abs_big (i := (f.den : Int)) hf.2 hb) (abs_big hg.1 hc) (abs_big (i := (g.den : Int)) hg.2 he) (Int.mul_ne_zero (den_ne f) n0) (abs_lt_8000 (mul_abs (x := (f.den : Int)) (y := g.num) hf.2 hg.1) (by omega)), div_div]
section
variable {c d : Int} {n : Nat}
end
end
end Zk
namespace Zk
noncomputable section
open PySem PySem.Spec PyProof.Rows L2
section
variable {n : Nat}
end
section
variable {p : Nat}
end
end
end Zk
namespace Zk
noncomputable section
open PySem PySem.Spec PyProof.Rows L2
section
variable {p : Nat}
end
end
end Zk
namespace Zk
noncomputable section
open PySem PySem.Spec PyProof.Rows L2
end
end Zk
namespace Zk
noncomputable section
open PySem PySem.Spec PyProof.Rows L2
def S_timesb : Fs := (mRet (mCall none S_fraction (mAc (mMul (mIxd (mVar 0) (mC (.int 0))) (mIxd (mVar 1) (mC (.int 0)))) (mAc (mMul (mIxd (mVar 0) (mC (.int 1))) (mIxd (mVar 1) (mC (.int 1)))) mA0))))
def S_times : Mir := mDef none 2 S_timesb
def S_gone_onb : Fs := (mSeq (mSet 2 (mLc (mRg1 (mAdd (mOp gLen (mAc (mVar 0) mA0)) (mC (.int 1)))) [3] (tgV 3) mYes (mTup (mAc (mC (.int 0)) (mAc (mC (.int 1)) mA0))))) (mSeq (mFor (mEnu (mVar 0)) (tgT 2 (tgC (tgV 4) (tgC (tgV 5) tgN))) (mIfS (mB (mNe (mVar 5) (mTup (mAc (mC (.int 0)) (mAc (mC (.int 1)) mA0))))) (mSeq (mSet 6 (mCall none S_times (mAc (mVar 5) (mAc (mCall none S_fraction (mAc (mShl (mC (.int 1)) (mVar 1)) (mAc (mShl (mC (.int 1)) (mVar 4)) mA0))) mA0)))) (mSeq (mPut 2 (mVar 4) (mCall none S_plus (mAc (mIxd (mVar 2) (mVar 4)) (mAc (mCall none S_minus (mAc (mVar 5) (mAc (mVar 6) mA0))) mA0)))) (mPut 2 (mAdd (mVar 4) (mC (.int 1))) (mCall none S_plus (mAc (mIxd (mVar 2) (mAdd (mVar 4) (mC (.int 1)))) (mAc (mVar 6) mA0)))))) mNx)) (mRet (mVar 2))))
def S_gone_on : Mir := mDef none 7 S_gone_onb
def S_joined_chancesb : Fs := (mSeq (mSet 2 (mOp gMin (mAc (mVar 0) (mAc (mVar 1) mA0)))) (mSeq (mSet 3 (mAdd (mLc (mRg1 (mOp gMax (mAc (mVar 0) (mAc (mVar 1) mA0)))) [4] (tgV 4) mYes (mTup (mAc (mC (.int 0)) (mAc (mC (.int 1)) mA0)))) (mLst (mAc (mTup (mAc (mC (.int 1)) (mAc (mC (.int 1)) mA0))) mA0)))) (mSeq (mFor (mRg1 (mVar 2)) (tgV 5) (mSet 3 (mCall none S_gone_on (mAc (mVar 3) (mAc (mVar 5) mA0))))) (mRet (mOp gTuple (mAc (mVar 3) mA0))))))
def S_joined_chances : Mir := mDef none 6 S_joined_chancesb
end
end Zk
namespace Zk.Bf
noncomputable section
open PySem PySem.Spec PyProof.Rows L2 Zk
theorem pw2 (x : Nat) : (2 : Int) ^ x = ((2 ^ x : Nat) : Int) := (Int.natCast_pow 2 x).symm
/-- (2^x - 1) (2^x - 2) .. -/
def Fr (x : Nat) : Nat → Int
  | 0 => 1
  | r + 1 => Fr x r * (2 ^ x - 2 ^ r)
end
end Zk.Bf
namespace Zk.Bf
noncomputable section
open PySem PySem.Spec PyProof.Rows L2 Zk
theorem shlN (m : Nat) (h : m ≤ 1000000) : gShl [.int 1, .int (m : Int)] = some (.int (2 ^ m)) := by
  have h2 : 0 ≤ (m : Int) ∧ (m : Int) ≤ 1000000 ∧ (1 : Int).natAbs < big := ⟨by omega, by omega, big0 (by decide)⟩
  simp only [gShl, gI2, if_pos h2, Int.toNat_natCast, Int.one_mul]
end
end Zk.Bf
namespace Zk
noncomputable section
open PySem PySem.Spec PyProof.Rows L2
def S_law_subsetsb : Fs := (mSeq (mSet 1 (mLst (mAc (mTup mA0) mA0))) (mSeq (mSet 2 (mLst (mAc (mTup mA0) mA0))) (mSeq (mFor (mRg1 (mOp gLen (mAc (mVar 0) mA0))) (tgV 3) (mSeq (mSet 4 (mLst mA0)) (mSeq (mFor (mSq (mVar 2)) (tgV 5) (mFor (mSq (mVar 0)) (tgV 6) (mIfS (mOrT (mB (mEq (mOp gLen (mAc (mVar 5) mA0)) (mC (.int 0)))) (mB (mLt (mIxd (mVar 5) (mNeg (mC (.int 1)))) (mVar 6)))) (mEx (mApp 4 (mAdd (mVar 5) (mTup (mAc (mVar 6) mA0))))) mNx))) (mSeq (mSet 1 (mAdd (mVar 1) (mVar 4))) (mMov 2 4))))) (mRet (mVar 1)))))
def S_law_subsets : Mir := mDef none 7 S_law_subsetsb
end
end Zk
namespace Zk.Bc
noncomputable section
open PySem PySem.Spec PyProof.Rows L2 Zk
end
end Zk.Bc
namespace Zk.Bc
noncomputable section
open PySem PySem.Spec PyProof.Rows L2 Zk
def okL (a : List Nat) (x : Nat) : Bool := match a.getLast? with
  | none => true
  | some y => decide (y < x)
theorem last_ix {a : List Nat} {y : Nat} (h : a.getLast? = some y) : gIxd [tN a, .int (-1)] = some (.int (y : Int), 0) := by
  unfold tN
  have hn : a ≠ [] := by rintro rfl; cases h
  have hp := List.length_pos_iff.mpr hn
  rw [gIxd_tup, gIx_tup, atI_map']
  unfold atI
  have : ixN a.length (-1) = some (a.length - 1) := by
    unfold ixN
    rw [if_neg (by decide), if_pos (by omega)]
    congr 1
    omega
  rw [this, Option.bind_some]
  rw [List.getLast?_eq_getElem?] at h
  rw [h]; rfl
end
end Zk.Bc
namespace Zk.Bc
noncomputable section
open PySem PySem.Spec PyProof.Rows L2 Zk
theorem deqs_is : ∀ (P Q : List Int), deqs (P.map D.int) (Q.map D.int) = decide (P = Q)
  | [], [] => by simp
  | [], q :: Q => by simp
  | p :: P, [] => by simp
  | p :: P, q :: Q => by
    have := deqs_is P Q
    simp only [List.map_cons, deqs_cons, this, deq_int]
    rw [Bool.eq_iff_iff]
    simp
theorem dat_tI (n : Nat) (P : List Int) : dat (n + 1) (.tup (P.map D.int)) = true := by simp [dat]
end
end Zk.Bc
namespace Zk.Bf
noncomputable section
open PySem PySem.Spec PyProof.Rows L2 Zk Zk.Bc
def rowF (n : Nat) (f : Nat → Rat) : List D := (List.range n).map fun x => fr (f x)
@[simp] theorem rowF_len (n : Nat) (f : Nat → Rat) : (rowF n f).length = n := by simp [rowF]
theorem imms_rowF (n : Nat) (f : Nat → Rat) : imms (rowF n f) = true := imms_map' (fun _ => imm_fr _) _
theorem lev_rowF (n : Nat) (f : Nat → Rat) : lev (rowF n f) = 9 := by unfold lev; rw [imms_rowF]; rfl
theorem rowF_ext {n : Nat} {f g : Nat → Rat} (h : ∀ x, x < n → f x = g x) : rowF n f = rowF n g := List.map_congr_left fun x hx => by rw [h x (List.mem_range.mp hx)]
theorem rowF_set (n : Nat) (f : Nat → Rat) (j : Nat) (v : Rat) : (rowF n f).set j (fr v) = rowF n fun b => if b = j then v else f b := by
  refine List.ext_getElem? fun i => ?_
  rw [List.getElem?_set]
  unfold rowF
  rw [List.getElem?_map, List.getElem?_map, List.length_map, List.length_range]
  by_cases hi : i < n
  · rw [List.getElem?_range hi]
    by_cases c : j = i
    · subst c; simp [hi]
    · rw [if_neg c]; simp [Ne.symm c]
  · rw [List.getElem?_eq_none (by simpa using hi)]
    by_cases c : j = i
    · subst c; simp [hi]
    · rw [if_neg c]; rfl
theorem rowF_at {n : Nat} {f : Nat → Rat} {i : Int} (h0 : 0 ≤ i) (h : i < n) : atI (rowF n f) i = some (fr (f i.toNat)) := by
  unfold atI
  rw [ixN_ok h0 (by simpa using h), Option.bind_some]
  unfold rowF
  rw [List.getElem?_map, List.getElem?_range (by omega)]; rfl
theorem fr_inj {p q : Rat} (h : fr p = fr q) : p = q := by
  unfold fr at h
  have h1 : p.num = q.num := by injection h with h; injection h with h _; injection h
  have h2 : (p.den : Int) = (q.den : Int) := by injection h with h; injection h with _ h; injection h with h _; injection h
  exact Rat.ext h1 (by omega)
theorem ne_fr (p q : Rat) : gNe [fr p, fr q] = some (.bl (!decide (p = q))) := by
  have e : ∀ p, fr p = .tup ([p.num, (p.den : Int)].map D.int) := fun _ => rfl
  have i : ([p.num, (p.den : Int)] = [q.num, (q.den : Int)]) ↔ p = q := ⟨fun h => fr_inj (by rw [e, e, h]), fun h => by rw [h]⟩
  rw [e, e]
  simp only [gNe, show dat 64 (.tup ([p.num, (p.den : Int)].map D.int)) = true from dat_tI 63 _, show dat 64 (.tup ([q.num, (q.den : Int)].map D.int)) = true from dat_tI 63 _, and_self, if_true, deq_tup, deqs_is, decide_eq_decide.mpr i]
theorem times_W {f g : Rat} {a b c e : Nat} (hf : szR a b f) (hg : szR c e g) (ha : a ≤ 8000) (hb : b ≤ 3900) (hc : c ≤ 8000) (he : e ≤ 3900) : S_times [fr f, fr g] = some (fr (f * g), 9, .non) := by
  have go : W (S_times [fr f, fr g]) fun r => r = (fr (f * g), 9, .non) := by
    refine W_O fun Q' hQ => ?_
    unfold S_times S_timesb
    have n1 := abs_big hf.1 ha
    have n2 := abs_big hg.1 hc
    have d1 : f.den < big := abs_big (i := (f.den : Int)) (k := b) hf.2 (by omega)
    have d2 : g.den < big := abs_big (i := (g.den : Int)) (k := e) hg.2 (by omega)
    have dd : ((f.den : Int) * g.den).natAbs < 2 ^ 8000 := by
      have := mul_abs (x := (f.den : Int)) (y := (g.den : Int)) hf.2 hg.2
      exact Nat.lt_of_le_of_lt this (Nat.pow_lt_pow_right (by decide) (by omega))
    have fe := fraction_eq (n := f.num * g.num) (den_mul_ne f g) dd
    rw [mul_div] at fe
    have x0 : ∀ q : Rat, gIxd [fr q, .int 0] = some (.int q.num, 0) := fun q => rfl
    have x1 : ∀ q : Rat, gIxd [fr q, .int 1] = some (.int q.den, 0) := fun q => rfl
    simp (disch := first | assumption | (simp; done) | omega) [ent0_def, dem1, n1, n2, d1, d2, fe, x0, x1]
    exact hQ _ rfl
  obtain ⟨r, e, rfl⟩ := go
  exact e
def dy (k : Nat) (a : Int) : Rat := Rat.divInt a (2 ^ k)
theorem pw_ne (k : Nat) : (2 : Int) ^ k ≠ 0 := by have : (0 : Int) < 2 ^ k := Int.pow_pos (by decide); omega
theorem dy_0 (k : Nat) : dy k 0 = 0 := Rat.zero_divInt _
theorem dy_one (a : Int) : dy 0 a = (a : Rat) := by unfold dy; rw [Int.pow_zero, Rat.divInt_eq_div]; grind
theorem dy_add (k : Nat) (a b : Int) : dy k a + dy k b = dy k (a + b) := by
  unfold dy
  rw [Rat.divInt_eq_div, Rat.divInt_eq_div, Rat.divInt_eq_div, Rat.intCast_add, Rat.div_def, Rat.div_def, Rat.div_def, Rat.add_mul]
theorem dy_sub (k : Nat) (a b : Int) : dy k a - dy k b = dy k (a - b) := by
  have h := dy_add k (a - b) b
  rw [Int.sub_add_cancel] at h
  rw [← h]
  grind
theorem dy_up (k l : Nat) (a : Int) : dy k a = dy (k + l) (a * 2 ^ l) := by
  unfold dy
  rw [Int.pow_add, Rat.divInt_mul_right (pw_ne l)]
theorem dy_zero {k : Nat} {a : Int} : dy k a = 0 ↔ a = 0 := by
  unfold dy
  constructor
  · intro h
    rw [Rat.divInt_eq_div] at h
    have h2 : ((2 ^ k : Int) : Rat) ≠ 0 := fun e => pw_ne k (Rat.intCast_inj.mp (e.trans Rat.intCast_zero.symm))
    have h3 := Rat.div_mul_cancel (a := (a : Rat)) h2
    rw [h, Rat.zero_mul] at h3
    exact Rat.intCast_inj.mp (h3.symm.trans Rat.intCast_zero.symm)
  · rintro rfl; exact Rat.zero_divInt _
theorem dy_sz {k b : Nat} {a : Int} (h : a.natAbs ≤ 2 ^ b) : szR b k (dy k a) := szR_divInt h (pw_ne k) (by rw [Int.natAbs_pow]; exact Nat.le_refl _)
/-- 2 ^ j over 2 ^ z -/
theorem dy_on {k j z : Nat} (a : Int) (h : z ≤ 40 + j) : dy k a * Rat.divInt (2 ^ j) (2 ^ z) = dy (k + 40) (a * 2 ^ (40 + j - z)) := by
  unfold dy
  rw [Rat.divInt_mul_divInt]
  refine (Rat.divInt_eq_divInt_iff (Int.mul_ne_zero (pw_ne k) (pw_ne z)) (pw_ne _)).mpr ?_
  have e : (2 : Int) ^ j * 2 ^ (k + 40) = 2 ^ (40 + j - z) * (2 ^ k * 2 ^ z) := by
    rw [← Int.pow_add, ← Int.pow_add, ← Int.pow_add]
    congr 1
    omega
  rw [Int.mul_assoc, e, Int.mul_assoc]
def jT (hi : Nat) : Nat → Nat → Int
  | 0, y => if y = hi then 1 else 0
  | j + 1, y => jT hi j y * (2 ^ 40 - 2 ^ (40 + j - y)) + (if 1 ≤ y then jT hi j (y - 1) * 2 ^ (40 + j - (y - 1)) else 0)
theorem jT_outE (hi : Nat) : ∀ (j y : Nat), y < hi ∨ hi + j < y → jT hi j y = 0
  | 0, y, h => if_neg (by omega)
  | j + 1, y, h => by
    show jT hi j y * (2 ^ 40 - 2 ^ (40 + j - y)) + (if 1 ≤ y then jT hi j (y - 1) * 2 ^ (40 + j - (y - 1)) else 0) = 0
    rw [jT_outE hi j y (by omega), Int.zero_mul]
    split
    · rw [jT_outE hi j (y - 1) (by omega), Int.zero_mul]; rfl
    · rfl
theorem jT_out (hi j : Nat) {y : Nat} (h : y < hi ∨ hi + j < y) : jT hi j y = 0 := jT_outE hi j y h
theorem jT_abs {hi : Nat} : ∀ (j y : Nat), j ≤ hi → (jT hi j y).natAbs ≤ 2 ^ (41 * j)
  | 0, y, _ => by
    show (if y = hi then (1 : Int) else 0).natAbs ≤ _
    split <;> decide
  | j + 1, y, h => by
    have h1 := jT_abs (hi := hi) j y (by omega)
    have h2 := jT_abs (hi := hi) j (y - 1) (by omega)
    show (jT hi j y * (2 ^ 40 - 2 ^ (40 + j - y)) + (if 1 ≤ y then jT hi j (y - 1) * 2 ^ (40 + j - (y - 1)) else 0)).natAbs ≤ _
    have e : 2 ^ (41 * (j + 1)) = 2 ^ (41 * j) * 2 ^ 40 * 2 := by rw [show 41 * (j + 1) = 41 * j + (40 + 1) by omega, Nat.pow_add, Nat.mul_assoc]
    have g1 : (jT hi j y * (2 ^ 40 - 2 ^ (40 + j - y))).natAbs ≤ 2 ^ (41 * j) * 2 ^ 40 := by
      by_cases c : y < hi
      · rw [jT_out hi j (.inl c), Int.zero_mul]; exact Nat.zero_le _
      · rw [Int.natAbs_mul]
        refine Nat.mul_le_mul h1 ?_
        rw [pw2, pw2]
        have : 2 ^ (40 + j - y) ≤ 2 ^ 40 := Nat.pow_le_pow_right (by decide) (by omega)
        generalize 2 ^ (40 + j - y) = A at *
        omega
    have g2 : (if 1 ≤ y then jT hi j (y - 1) * 2 ^ (40 + j - (y - 1)) else 0).natAbs ≤ 2 ^ (41 * j) * 2 ^ 40 := by
      split
      · by_cases c : y - 1 < hi
        · rw [jT_out hi j (.inl c), Int.zero_mul]; exact Nat.zero_le _
        · rw [Int.natAbs_mul, Int.natAbs_pow]
          exact Nat.mul_le_mul h2 (Nat.pow_le_pow_right (by decide) (by omega))
      · exact Nat.zero_le _
    rw [e]
    generalize 2 ^ (41 * j) * 2 ^ 40 = B at *
    omega
def jH (t : Nat → Int) (j z y : Nat) : Int := (if y < z then t y * (2 ^ 40 - 2 ^ (40 + j - y)) else 0) + (if 1 ≤ y ∧ y ≤ z then t (y - 1) * 2 ^ (40 + j - (y - 1)) else 0)
theorem jH_from {t : Nat → Int} {j a : Nat} (h : ∀ y, y < a → t y = 0) (y : Nat) : jH t j a y = 0 := by
  unfold jH
  by_cases c : y < a
  · rw [if_pos c, h y c]
    split
    · rw [h (y - 1) (by omega)]; simp
    · simp
  · rw [if_neg c]
    split
    · rw [h (y - 1) (by omega)]; simp
    · rfl
theorem jH_s (t : Nat → Int) (j z : Nat) : (fun y => if y = z + 1 then (if z + 1 = z then jH t j z (z + 1) + t z * (2 ^ 40 - 2 ^ (40 + j - z)) else jH t j z (z + 1)) + t z * 2 ^ (40 + j - z) else if y = z then jH t j z z + t z * (2 ^ 40 - 2 ^ (40 + j - z)) else jH t j z y) = jH t j (z + 1) := by
  funext y
  rw [if_neg (show ¬ z + 1 = z by omega)]
  unfold jH
  by_cases h1 : y = z + 1
  · subst h1
    rw [if_pos rfl, if_neg (by omega), if_neg (by omega), if_neg (by omega), if_pos ⟨by omega, by omega⟩, Nat.add_sub_cancel]
    omega
  · rw [if_neg h1]
    by_cases h2 : y = z
    · subst h2
      rw [if_pos rfl, if_neg (Nat.lt_irrefl y), if_pos (Nat.lt_succ_self y)]
      by_cases c : 1 ≤ y
      · rw [if_pos (show 1 ≤ y ∧ y ≤ y from ⟨c, Nat.le_refl _⟩), if_pos (show 1 ≤ y ∧ y ≤ y + 1 from ⟨c, by omega⟩)]; omega
      · rw [if_neg (show ¬ (1 ≤ y ∧ y ≤ y) by omega), if_neg (show ¬ (1 ≤ y ∧ y ≤ y + 1) by omega)]; omega
    · rw [if_neg h2]
      congr 1
      · by_cases c : y < z
        · rw [if_pos c, if_pos (by omega)]
        · rw [if_neg c, if_neg (by omega)]
      · by_cases c : 1 ≤ y ∧ y ≤ z
        · rw [if_pos c, if_pos ⟨c.1, by omega⟩]
        · rw [if_neg c, if_neg (by omega)]
theorem jH_skip {t : Nat → Int} {j z : Nat} (h : t z = 0) : jH t j (z + 1) = jH t j z := by
  rw [← jH_s, h]
  funext y
  simp only [Int.zero_mul, Int.add_zero, ite_self]
  split
  · subst_vars; rfl
  · split
    · subst_vars; rfl
    · rfl
theorem jH_all {hi j z : Nat} (h : hi + j < z) (y : Nat) : jH (jT hi j) j z y = jT hi (j + 1) y := by
  unfold jH
  show _ = jT hi j y * (2 ^ 40 - 2 ^ (40 + j - y)) + (if 1 ≤ y then jT hi j (y - 1) * 2 ^ (40 + j - (y - 1)) else 0)
  congr 1
  · by_cases c : y < z
    · rw [if_pos c]
    · rw [if_neg c, jT_out hi j (.inr (by omega)), Int.zero_mul]
  · by_cases c : 1 ≤ y
    · rw [if_pos c]
      by_cases d : y ≤ z
      · rw [if_pos ⟨c, d⟩]
      · rw [if_neg (by omega), jT_out hi j (.inr (by omega)), Int.zero_mul]
    · rw [if_neg (by omega), if_neg c]
theorem jH_abs {t : Nat → Int} {j z : Nat} {b : Nat} (ht : ∀ y, (t y).natAbs ≤ 2 ^ b) (hj : j ≤ 40) (y : Nat) : (jH t j z y).natAbs ≤ 2 ^ (b + 90) := by
  have g1 : (if y < z then t y * (2 ^ 40 - 2 ^ (40 + j - y)) else 0).natAbs ≤ 2 ^ (b + 81) := by
    split
    · refine mul_abs (ht y) ?_
      have h1 : 2 ^ (40 + j - y) ≤ 2 ^ 80 := Nat.pow_le_pow_right (by decide) (by omega)
      rw [pw2, pw2]
      have h2 : (2 : Nat) ^ 40 ≤ 2 ^ 80 := by decide
      generalize 2 ^ (40 + j - y) = A at *
      omega
    · exact Nat.zero_le _
  have g2 : (if 1 ≤ y ∧ y ≤ z then t (y - 1) * 2 ^ (40 + j - (y - 1)) else 0).natAbs ≤ 2 ^ (b + 81) := by
    split
    · refine mul_abs (ht _) ?_
      rw [Int.natAbs_pow]
      exact Nat.pow_le_pow_right (by decide) (by omega)
    · exact Nat.zero_le _
  have e : 2 ^ (b + 90) = 2 ^ (b + 81) * 2 ^ 9 := by rw [← Nat.pow_add]
  unfold jH
  rw [e]
  generalize 2 ^ (b + 81) = B at *
  omega
end
end Zk.Bf
namespace Zk.Bf
noncomputable section
open PySem PySem.Spec PyProof.Rows L2 Zk Zk.Bc
theorem fr_z : D.tup [.int 0, .int 1] = fr 0 := rfl
theorem fr_o : D.tup [.int 1, .int 1] = fr 1 := rfl
theorem go_facts {K j z : Nat} {t a b : Int} (hK : K ≤ 800) (hj : j ≤ 20) (hz : z ≤ 40) (ht : t.natAbs ≤ 2 ^ 700) (ha : a.natAbs ≤ 2 ^ 790) (hb : b.natAbs ≤ 2 ^ 790) :
    S_times [fr (dy K t), fr (Rat.divInt (2 ^ j) (2 ^ z))] = some (fr (dy (K + 40) (t * 2 ^ (40 + j - z))), 9, .non) ∧
    S_minus [fr (dy K t), fr (dy (K + 40) (t * 2 ^ (40 + j - z)))] = some (fr (dy (K + 40) (t * (2 ^ 40 - 2 ^ (40 + j - z)))), 9, .non) ∧
    S_plus [fr (dy (K + 40) a), fr (dy (K + 40) (t * (2 ^ 40 - 2 ^ (40 + j - z))))] = some (fr (dy (K + 40) (a + t * (2 ^ 40 - 2 ^ (40 + j - z)))), 9, .non) ∧
    S_plus [fr (dy (K + 40) b), fr (dy (K + 40) (t * 2 ^ (40 + j - z)))] = some (fr (dy (K + 40) (b + t * 2 ^ (40 + j - z))), 9, .non) := by
  have zq : szR 700 800 (dy K t) := (dy_sz ht).mono (Nat.le_refl _) hK
  have zo : szR 100 100 (Rat.divInt (2 ^ j) (2 ^ z)) := (szR_divInt (a := j) (b := z) (by rw [Int.natAbs_pow]; exact Nat.le_refl _) (pw_ne z) (by rw [Int.natAbs_pow]; exact Nat.le_refl _)).mono (by omega) (by omega)
  have t1 := times_W zq zo (by decide) (by decide) (by decide) (by decide)
  rw [dy_on t (by omega)] at t1
  have hp : ((2 : Int) ^ (40 + j - z)).natAbs ≤ 2 ^ 60 := by rw [Int.natAbs_pow]; exact Nat.pow_le_pow_right (by decide) (by omega)
  have ep : dy K t = dy (K + 40) (t * 2 ^ 40) := dy_up K 40 t
  have h40 : ((2 : Int) ^ 40).natAbs ≤ 2 ^ 60 := by decide
  generalize (2 : Int) ^ (40 + j - z) = on at *
  generalize (2 : Int) ^ 40 = u at *
  have o1 : (t * on).natAbs ≤ 2 ^ 760 := mul_abs (a := 700) (b := 60) ht hp
  have o2 : (t * (u - on)).natAbs ≤ 2 ^ 761 := mul_abs (a := 700) (b := 61) ht (sub_abs h40 hp)
  have q1 : szR 760 840 (dy (K + 40) (t * on)) := (dy_sz o1).mono (Nat.le_refl _) (by omega)
  have q2 : szR 761 840 (dy (K + 40) (t * (u - on))) := (dy_sz o2).mono (Nat.le_refl _) (by omega)
  have qa : szR 790 840 (dy (K + 40) a) := (dy_sz ha).mono (Nat.le_refl _) (by omega)
  have qb : szR 790 840 (dy (K + 40) b) := (dy_sz hb).mono (Nat.le_refl _) (by omega)
  have m1 := minus_R zq q1 (by decide) (by decide) (by decide) (by decide) (by decide)
  have em : dy K t - dy (K + 40) (t * on) = dy (K + 40) (t * (u - on)) := by rw [ep, dy_sub, ← Int.mul_sub]
  rw [em] at m1
  have a1 := plus_W qa q2 (by decide) (by decide) (by decide) (by decide)
  have a2 := plus_W qb q1 (by decide) (by decide) (by decide) (by decide)
  rw [dy_add] at a1 a2
  exact ⟨t1, m1, a1, a2⟩
theorem gone_on_W {m j K : Nat} {t : Nat → Int} (hm : m ≤ 40) (hj : j ≤ 20) (hK : K ≤ 800) (ht : ∀ y, (t y).natAbs ≤ 2 ^ 700) : S_gone_on [.lst (rowF m fun x => dy K (t x)), .int (j : Int)] = some (.lst (rowF (m + 1) fun x => dy (K + 40) (jH t j m x)), 9, .non) := by
  have go : W (S_gone_on [.lst (rowF m fun x => dy K (t x)), .int (j : Int)]) fun r => r = (.lst (rowF (m + 1) fun x => dy (K + 40) (jH t j m x)), 9, .non) := by
    refine W_O fun Q' hQ => ?_
    unfold S_gone_on S_gone_onb
    rw [W_mDef, ent0_def]
    have ir := imms_rowF m fun x => dy K (t x)
    have rm : rgOk ((m : Int) + 1) := ⟨by omega, by omega⟩
    have tn : ((m : Int) + 1).toNat = m + 1 := by omega
    have z0 : rowF (m + 1) (fun _ => 0) = rowF (m + 1) fun x => dy (K + 40) (jH t j 0 x) := rowF_ext fun x _ => by
      rw [jH_from (fun y h => absurd h (Nat.not_lt_zero y)), dy_0]
    refine W_seqO (J := fun E => E = [some (.lst (rowF m fun x => dy K (t x)), 0), some (.int (j : Int), 0), some (.lst (rowF (m + 1) fun x => dy (K + 40) (jH t j 0 x)), 9), none, none, none, none]) ?_ ?_
    · intro J' hJ
      rw [← z0] at hJ
      simp (disch := first | assumption | (simp; done) | omega) [W_lc0, rm, tn, rng0]
      refine W_lcY (xs := List.range (m + 1)) (ι := fun k : Nat => D.int (k : Int)) (fun _ => fr 0) (fun _ => imm_fr _) (by simp [sizeL]; omega) (fun x hx => ?_) fun acc ha hu => ?_
      · simp (disch := first | assumption | (simp; done) | omega) [fr_z]
      · simp (disch := first | assumption | (simp; done) | omega) [ha, hu]
        exact hJ _ rfl
    rintro _ rfl
    have er := enD_rows m fun x => fr (dy K (t x))
    have er2 : enD 0 (rowF m fun x => dy K (t x)) = (List.range m).map fun c : Nat => D.tup [.int (c : Int), fr (dy K (t c))] := er
    (refine Zk.W_forQ ?wE274 m (fun c : Nat => D.tup [.int (c : Int), fr (dy K (t c))]) [4, 5, 6] (fun (_ : Unit) z => [(2, some (.lst (rowF (m + 1) fun x => dy (K + 40) (jH t j z x)), 9))]) (fun _ _ => True) () ?wa274 ?wb274 ?_ ?_ ?_; (case wa274 => (simp (disch := first | assumption | (simp; done) | omega) [er2, ir, -List.map_map]; exact rfl)); (case wb274 => (simp (disch := first | assumption | (simp; done) | omega) [Zk.sets, er2, ir, -List.map_map])))
    · trivial
    · intro _ z I' hz _ hI
      simp only [Zk.AllU, Zk.sets, List.set_cons_succ, List.set_cons_zero, List.set_nil] at *
      intro u4 u5 u6
      refine W_tg2 (by simp) (by simp) ?_
      have fin := hI () trivial
      by_cases c : t z = 0
      · have q0 : dy K (t z) = 0 := dy_zero.mpr c
        have n1 := ne_fr (dy K (t z)) 0
        rw [decide_eq_true q0] at n1
        rw [jH_skip c] at fin
        (refine Zk.W_ifF (E1 := ?wE176) ?wa176 ?wb176; (case wa176 => (simp (disch := first | assumption | (simp; done) | omega) [fr_z, n1]; exact rfl)))
        simp (disch := first | assumption | (simp; done) | omega) []
        apply fin
      · have q0 : ¬ dy K (t z) = 0 := fun e => c (dy_zero.mp e)
        have n1 := ne_fr (dy K (t z)) 0
        rw [decide_eq_false q0] at n1
        (refine Zk.W_ifT (E1 := ?wE177) ?wa177 ?wb177; (case wa177 => (simp (disch := first | assumption | (simp; done) | omega) [fr_z, n1]; exact rfl)))
        have s1 := shlN j (by omega)
        have s2 := shlN z (by omega)
        have f1 := fraction_eq (n := 2 ^ j) (pw_ne z) (abs_lt_8000 (k := z) (by rw [Int.natAbs_pow]; exact Nat.le_refl _) (by omega))
        have p1 : (2 ^ j : Int).natAbs < big := big_20000 (by rw [Int.natAbs_pow]; exact Nat.pow_le_pow_right (by decide) (by omega))
        have p2 : (2 ^ z : Int).natAbs < big := big_20000 (by rw [Int.natAbs_pow]; exact Nat.pow_le_pow_right (by decide) (by omega))
        obtain ⟨g1, g2, g3, g4⟩ := go_facts (K := K) (j := j) (z := z) (a := jH t j z z) (b := jH t j z (z + 1)) hK hj (by omega) (ht z) (jH_abs ht (by omega) z) (jH_abs ht (by omega) (z + 1))
        have hs := jH_s t j z
        (refine Zk.W_seqE (E1 := ?wE178) ?wa178 ?wb178; (case wa178 => (simp (disch := first | assumption | (simp; done) | omega) [s1, s2, f1, g1, p1, p2, dem1, -Int.natAbs_pow]; exact rfl)))
        generalize (2 : Int) ^ 40 = u at *
        have r1 : ∀ f : Nat → Rat, atI (rowF (m + 1) f) (z : Int) = some (fr (f z)) := fun f => rowF_at (by omega) (by omega)
        have r2 : ∀ f : Nat → Rat, atI (rowF (m + 1) f) ((z : Int) + 1) = some (fr (f (z + 1))) := fun f => by rw [rowF_at (by omega) (by omega)]; congr 3
        have ix1 : ixN (m + 1) (z : Int) = some z := by rw [ixN_ok (by omega) (by omega)]; simp
        have ix2 : ixN (m + 1) ((z : Int) + 1) = some (z + 1) := by
          rw [ixN_ok (by omega) (by omega)]
          congr 1
        (refine Zk.W_seqE (E1 := ?wE179) ?wa179 ?wb179; (case wa179 => (simp (disch := first | assumption | (simp; done) | omega) [r1, g2, g3, ix1, rowF_set, dem1]; exact rfl)))
        have nz : ¬ z + 1 = z := by omega
        simp (disch := first | assumption | (simp; done) | omega) [r2, nz, g4, ix2, rowF_set, dem1]
        have e : (rowF (m + 1) fun b => if b = z + 1 then dy (K + 40) (jH t j z (z + 1) + t z * 2 ^ (40 + j - z)) else if b = z then dy (K + 40) (jH t j z z + t z * (u - 2 ^ (40 + j - z))) else dy (K + 40) (jH t j z b)) = rowF (m + 1) fun x => dy (K + 40) (jH t j (z + 1) x) := rowF_ext fun b _ => by
          have hb := congrFun hs b
          rw [if_neg nz] at hb
          rw [← hb]
          by_cases c1 : b = z + 1
          · rw [if_pos c1, if_pos c1]
          · rw [if_neg c1, if_neg c1]
            by_cases c2 : b = z
            · rw [if_pos c2, if_pos c2]
            · rw [if_neg c2, if_neg c2]
        rw [e]
        apply fin
    intro _ _
    simp only [Zk.AllU, Zk.sets, List.set_cons_succ, List.set_cons_zero, List.set_nil] at *
    intro u4 u5 u6
    have ir2 := imms_rowF (m + 1) fun x => dy (K + 40) (jH t j m x)
    simp (disch := first | assumption | (simp; done) | omega) [ir2]
    exact hQ _ rfl
  obtain ⟨r, e, rfl⟩ := go
  exact e
/-- the chances of the joined counter -/
def jD (hi lo : Nat) : D := .tup (rowF (hi + lo + 1) fun x => dy (40 * lo) (jT hi lo x))
@[simp] theorem imm_jD (hi lo : Nat) : imm (jD hi lo) = true := by
  have := imms_rowF (hi + lo + 1) fun x => dy (40 * lo) (jT hi lo x)
  simp [jD, this]
theorem joined_W {x y hi lo : Nat} (e1 : min (x : Int) y = lo) (e2 : max (x : Int) y = hi) (hl : lo ≤ hi) (hh : hi ≤ 16) : S_joined_chances [.int (x : Int), .int (y : Int)] = some (jD hi lo, 9, .non) := by
  have go : W (S_joined_chances [.int (x : Int), .int (y : Int)]) fun r => r = (jD hi lo, 9, .non) := by
    refine W_O fun Q' hQ => ?_
    unfold S_joined_chances S_joined_chancesb
    rw [W_mDef]
    (refine Zk.W_seqE (E1 := ?wE180) ?wa180 ?wb180; (case wa180 => (simp (disch := first | assumption | (simp; done) | omega) [ent0_def, e1]; exact rfl)))
    have rh : rgOk (hi : Int) := ⟨by omega, by omega⟩
    have rl : rgOk (lo : Int) := ⟨by omega, by omega⟩
    have i0 : (rowF hi fun _ => 0) ++ [fr 1] = rowF (hi + 0 + 1) fun x => dy (40 * 0) (jT hi 0 x) := by
      unfold rowF
      rw [List.range_succ, List.map_append]
      congr 1
      · refine List.map_congr_left fun x hx => ?_
        have := List.mem_range.mp hx
        show fr 0 = fr (dy (40 * 0) (jT hi 0 x))
        rw [jT_out hi 0 (y := x) (by omega), dy_0]
      · show [fr 1] = [fr (dy 0 (if hi = hi then 1 else 0))]
        rw [if_pos rfl, dy_one]; rfl
    refine W_seqO (J := fun E => E = [some (.int (x : Int), 0), some (.int (y : Int), 0), some (.int (lo : Int), 9), some (.lst (rowF (hi + 0 + 1) fun x => dy (40 * 0) (jT hi 0 x)), 9), none, none]) ?_ ?_
    · intro J' hJ
      simp (disch := first | assumption | (simp; done) | omega) [W_lc0, e2, rh, rng0]
      refine W_lcY (xs := List.range hi) (ι := fun k : Nat => D.int (k : Int)) (fun _ => fr 0) (fun _ => imm_fr _) (by simp [sizeL]; omega) (fun x hx => ?_) fun acc ha hu => ?_
      · simp (disch := first | assumption | (simp; done) | omega) [fr_z]
      · have hx : acc.map (·.1) = rowF hi fun _ => 0 := ha
        simp (disch := first | assumption | (simp; done) | omega) [hx, hu, fr_o, i0, lev_rowF]
        exact hJ _ rfl
    rintro _ rfl
    (refine Zk.W_forN ?wE275 lo [5] (fun (_ : Unit) j => [(3, some (.lst (rowF (hi + j + 1) fun x => dy (40 * j) (jT hi j x)), 9))]) (fun _ _ => True) () ?wa275 ?wb275 ?_ ?_ ?_; (case wa275 => (simp (disch := first | assumption | (simp; done) | omega) [rl]; exact rfl)); (case wb275 => (simp (disch := first | assumption | (simp; done) | omega) [Zk.sets, rl])))
    · trivial
    · intro _ j I' hj _ hI
      simp only [Zk.AllU, Zk.sets, List.set_cons_succ, List.set_cons_zero, List.set_nil] at *
      intro u5
      refine W_tgV.mpr ⟨by simp, ?_⟩
      have g := gone_on_W (m := hi + j + 1) (j := j) (K := 40 * j) (t := jT hi j) (by omega) (by omega) (by omega) fun y => Nat.le_trans (jT_abs j y (by omega)) (Nat.pow_le_pow_right (by decide) (by omega))
      have eg : (rowF (hi + j + 1 + 1) fun x => dy (40 * j + 40) (jH (jT hi j) j (hi + j + 1) x)) = rowF (hi + (j + 1) + 1) fun x => dy (40 * (j + 1)) (jT hi (j + 1) x) := rowF_ext fun x _ => by rw [jH_all (by omega)]; rfl
      rw [eg] at g
      have ir := imms_rowF (hi + j + 1) fun x => dy (40 * j) (jT hi j x)
      simp (disch := first | assumption | (simp; done) | omega) [g, ir, dem1]
      apply hI () trivial
    intro _ _
    simp only [Zk.AllU, Zk.sets, List.set_cons_succ, List.set_cons_zero, List.set_nil] at *
    intro u5
    have ir := imms_rowF (hi + lo + 1) fun x => dy (40 * lo) (jT hi lo x)
    simp (disch := first | assumption | (simp; done) | omega) [ir]
    exact hQ _ rfl
  obtain ⟨r, e, rfl⟩ := go
  exact e
end
end Zk.Bf
namespace Zk.Bf
noncomputable section
open PySem PySem.Spec PyProof.Rows L2 Zk Zk.Bc
end
end Zk.Bf
namespace Zk.Bf
noncomputable section
open PySem PySem.Spec PyProof.Rows L2 Zk Zk.Bc
theorem divInt_add_same (a b e : Int) : Rat.divInt a e + Rat.divInt b e = Rat.divInt (a + b) e := by
  rw [Rat.divInt_eq_div, Rat.divInt_eq_div, Rat.divInt_eq_div, Rat.intCast_add, Rat.div_def, Rat.div_def, Rat.div_def, Rat.add_mul]
section
variable {c d : Int} {n : Nat}
end
end
end Zk.Bf
namespace Zk.Bc
noncomputable section
open PySem PySem.Spec PyProof.Rows L2 Zk
end
end Zk.Bc
namespace Zk
noncomputable section
open PySem PySem.Spec PyProof.Rows L2
def S_register_estimateb : Fs := (mSeq (mSet 1 (mOp gMaxT (mAc (mVar 0) mA0))) (mSeq (mSet 2 (mOp gSum (mAc (mLc (mSq (mVar 0)) [3] (tgV 3) mYes (mShl (mC (.int 1)) (mSub (mVar 1) (mVar 3)))) mA0))) (mRet (mCall none S_fraction (mAc (mMul (mMul (mOp gLen (mAc (mVar 0) mA0)) (mOp gLen (mAc (mVar 0) mA0))) (mShl (mC (.int 1)) (mVar 1))) (mAc (mVar 2) mA0))))))
def S_register_estimate : Mir := mDef none 4 S_register_estimateb
def S_law_quotientb : Fs := (mRet (mCall none S_law_frac (mAc (mMul (mIxd (mVar 0) (mC (.int 0))) (mIxd (mVar 1) (mC (.int 1)))) (mAc (mMul (mIxd (mVar 0) (mC (.int 1))) (mIxd (mVar 1) (mC (.int 0)))) mA0))))
def S_law_quotient : Mir := mDef none 2 S_law_quotientb
def S_law_totalb : Fs := (mSeq (mSet 1 (mTup (mAc (mC (.int 0)) (mAc (mC (.int 1)) mA0)))) (mSeq (mFor (mSq (mVar 0)) (tgV 2) (mSet 1 (mCall none S_law_plus (mAc (mVar 1) (mAc (mVar 2) mA0))))) (mRet (mVar 1))))
def S_law_total : Mir := mDef none 3 S_law_totalb
def S_law_estimate_ofb : Fs := (mSeq (mSet 1 (mLc (mSq (mVar 0)) [2] (tgV 2) mYes (mCall none S_law_frac (mAc (mC (.int 1)) (mAc (mShl (mC (.int 1)) (mVar 2)) mA0))))) (mRet (mCall none S_law_quotient (mAc (mTup (mAc (mMul (mOp gLen (mAc (mVar 0) mA0)) (mOp gLen (mAc (mVar 0) mA0))) (mAc (mC (.int 1)) mA0))) (mAc (mCall none S_law_total (mAc (mVar 1) mA0)) mA0)))))
def S_law_estimate_of : Mir := mDef none 3 S_law_estimate_ofb
end
end Zk
namespace Zk
noncomputable section
open PySem PySem.Spec PyProof.Rows L2
end
end Zk
namespace Zk
noncomputable section
open PySem PySem.Spec PyProof.Rows L2
section
variable {m b : Nat}
end
end
end Zk
namespace Zk
noncomputable section
open PySem PySem.Spec PyProof.Rows L2
section
variable {m b : Nat}
end
end
end Zk
namespace Zk
noncomputable section
open PySem PySem.Spec PyProof.Rows L2
/-- the sum of the parts -/
def eT (rs : List Nat) : Rat := (rs.map fun r : Nat => Rat.divInt 1 (2 ^ r)).sum
def eS (t : Nat) (rs : List Nat) : Nat := (rs.map fun r => 2 ^ (t - r)).sum
theorem p2Q (r : Nat) : ((2 ^ r : Nat) : Rat) ≠ 0 := by
  have : 2 ^ r ≠ 0 := Nat.pos_iff_ne_zero.mp (Nat.pow_pos (by decide))
  exact_mod_cast this
theorem part_eq {t r : Nat} (h : r ≤ t) : ((2 ^ (t - r) : Nat) : Rat) = ((2 ^ t : Nat) : Rat) * Rat.divInt 1 (2 ^ r) := by
  have e : 2 ^ t = 2 ^ (t - r) * 2 ^ r := by rw [← Nat.pow_add]; congr 1; omega
  have c : ((2 : Int) ^ r : Int) = ((2 ^ r : Nat) : Int) := by rw [cast_pow]
  rw [Rat.divInt_eq_div, e, c, Rat.natCast_mul, Rat.intCast_natCast]
  have := p2Q r
  generalize ((2 ^ r : Nat) : Rat) = y at *
  generalize ((2 ^ (t - r) : Nat) : Rat) = x at *
  have i1 : ((1 : Int) : Rat) = 1 := rfl
  rw [i1]
  grind
theorem eS_eq {t : Nat} : ∀ {rs : List Nat}, (∀ r ∈ rs, r ≤ t) → ((eS t rs : Nat) : Rat) = ((2 ^ t : Nat) : Rat) * eT rs
  | [], _ => by simp [eS, eT]
  | r :: rs, h => by
    have ih := eS_eq (t := t) (rs := rs) fun x hx => h x (List.mem_cons_of_mem _ hx)
    have p := part_eq (h r (by simp))
    unfold eS eT at *
    simp only [List.map_cons, List.sum_cons]
    rw [Rat.natCast_add, ih, p, Rat.mul_add]
theorem eS_pos {t : Nat} {rs : List Nat} (h : rs ≠ []) : 0 < eS t rs := by
  cases rs with
  | nil => exact absurd rfl h
  | cons r rs =>
    have := Nat.pow_pos (n := t - r) (show 0 < 2 by decide)
    unfold eS
    simp only [List.map_cons, List.sum_cons]
    omega
theorem eS_le {t : Nat} : ∀ rs : List Nat, eS t rs ≤ rs.length * 2 ^ t
  | [] => by simp [eS]
  | r :: rs => by
    have ih := eS_le (t := t) rs
    have := Nat.pow_le_pow_right (n := 2) (by decide) (Nat.sub_le t r)
    unfold eS at *
    simp only [List.map_cons, List.sum_cons, List.length_cons, Nat.succ_mul]
    omega
theorem eT_div {rs : List Nat} (h : ∀ r ∈ rs, r ≤ 5) : eT rs = Rat.divInt (eS 5 rs : Nat) 32 := by
  have e := eS_eq (t := 5) h
  rw [Rat.divInt_eq_div, Rat.intCast_natCast, e]
  have i1 : ((32 : Int) : Rat) = 32 := rfl
  have i2 : ((2 ^ 5 : Nat) : Rat) = 32 := rfl
  rw [i1, i2]
  generalize eT rs = x
  grind
theorem eT_sz {rs : List Nat} (h : ∀ r ∈ rs, r ≤ 5) (hl : rs.length ≤ 16) : szR 9 5 (eT rs) := by
  rw [eT_div h]
  have := eS_le (t := 5) rs
  refine szR_divInt ?_ (by decide) (by decide)
  have : rs.length * 2 ^ 5 ≤ 16 * 2 ^ 5 := Nat.mul_le_mul_right _ hl
  simp
  omega
theorem eT_ne {rs : List Nat} (h : ∀ r ∈ rs, r ≤ 5) (hn : rs ≠ []) : eT rs ≠ 0 := by
  have e := eS_eq (t := 5) h
  have p := eS_pos (t := 5) hn
  intro z
  rw [z, Rat.mul_zero] at e
  have : eS 5 rs = 0 := by exact_mod_cast e
  omega
theorem est_eq {t : Nat} {rs : List Nat} (h : ∀ r ∈ rs, r ≤ t) (L : Nat) : Rat.divInt ((L : Int) * L * 2 ^ t) (eS t rs : Nat) = ((L : Rat) * L) / eT rs := by
  have e := eS_eq h
  rw [Rat.divInt_eq_div, Rat.intCast_natCast, e, ← cast_pow, Rat.intCast_mul, Rat.intCast_mul, Rat.intCast_natCast, Rat.intCast_natCast]
  have := p2Q t
  generalize ((2 ^ t : Nat) : Rat) = y at *
  generalize eT rs = x
  generalize (L : Rat) = l
  grind
theorem quo_eq (L : Nat) (T : Rat) : Rat.divInt ((L : Int) * L * T.den) (1 * T.num) = ((L : Rat) * L) / T := by
  rw [Rat.div_def, Rat.inv_def, Int.one_mul, Rat.divInt_eq_div, Rat.divInt_eq_div, Rat.intCast_mul, Rat.intCast_mul, Rat.intCast_natCast]
  generalize (L : Rat) = l
  generalize ((T.num : Int) : Rat) = x
  generalize (((T.den : Nat) : Int) : Rat) = y
  grind
theorem max_row {rs : List Nat} (hn : rs ≠ []) : ∃ t : Nat, maxL (rs.map fun r : Nat => (r : Int)) = (t : Int) ∧ t ∈ rs ∧ ∀ r ∈ rs, r ≤ t := by
  obtain ⟨h1, h2⟩ := maxL_mem (ns := rs.map fun r : Nat => (r : Int)) (by simpa using hn)
  obtain ⟨t, ht, e⟩ := List.mem_map.mp h1
  refine ⟨t, e.symm, ht, fun r hr => ?_⟩
  have := h2 (r : Int) (List.mem_map.mpr ⟨r, hr, rfl⟩)
  omega
theorem eS_int (t : Nat) : ∀ rs : List Nat, (rs.map fun r => ((2 ^ (t - r) : Nat) : Int)).sum = ((eS t rs : Nat) : Int)
  | [] => rfl
  | r :: rs => by
    have ih := eS_int t rs
    unfold eS at *
    simp only [List.map_cons, List.sum_cons, Int.natCast_add, ih]
theorem estimate_W {rs : List Nat} (hn : rs ≠ []) (h : ∀ r ∈ rs, r ≤ 5) (hl : rs.length ≤ 16) : S_register_estimate [tN rs] = some (fr (((rs.length : Rat) * rs.length) / eT rs), 9, .non) := by
  have go : W (S_register_estimate [tN rs]) fun r => r = (fr (((rs.length : Rat) * rs.length) / eT rs), 9, .non) := by
    refine W_O fun Q' hQ => ?_
    unfold S_register_estimate S_register_estimateb
    rw [W_mDef]
    obtain ⟨t, et, ht, hle⟩ := max_row hn
    have t5 := h t ht
    have p16 : 2 ^ t ≤ 32 := Nat.pow_le_pow_right (n := 2) (by decide) t5
    have gm := gMaxT_ints (ns := rs.map fun r : Nat => (r : Int)) (by simpa using hn)
    rw [et] at gm
    have it2 : imm (tN rs) = true := by rw [tN_tI]; exact imm_tI _
    have sN : seqD (tN rs) = some (rs.map iN) := rfl
    have gm2 : gMaxT [tN rs] = some (.int (t : Int), 9) := by rw [tN_tI]; exact gm
    (refine Zk.W_seqE (E1 := ?wE206) ?wa206 ?wb206; (case wa206 => (simp (disch := first | assumption | (simp; done) | omega) [ent0_def, gm2]; exact rfl)))
    refine W_seqO (J := fun E => E = [some (tN rs, 0), some (.int (t : Int), 9), some (.int ((eS t rs : Nat) : Int), 9), none]) ?_ ?_
    · intro J' hJ
      simp (disch := first | assumption | (simp; done) | omega) [W_lc0, it2, sN]
      refine W_lcN (xs := rs) (ι := iN) (fun r => ((2 ^ (t - r) : Nat) : Int)) (by rw [sizeL]; omega) (fun r hr => ?_) fun acc ha hu => ?_
      · have h1 := hle r hr
        have h2 : (r : Int) ≤ t := by omega
        have h3 : ((t : Int) - r).toNat = t - r := by omega
        have h4 : (t : Int) - r ≤ 1000000 := by omega
        simp (disch := first | assumption | (simp; done) | omega) [iN, h2, h3, h4]
      · have e : (rs.map fun r => ((2 ^ (t - r) : Nat) : Int)).sum = ((eS t rs : Nat) : Int) := by
          exact eS_int t rs
        simp only [cast_pow] at e
        simp (disch := first | assumption | (simp; done) | omega) [ha, hu, gSum_ints, e, -List.map_map]
        exact hJ _ rfl
    rintro _ rfl
    have sp := eS_pos (t := t) hn
    have sl := eS_le (t := t) rs
    have sl2 : rs.length * 2 ^ t ≤ 16 * 32 := Nat.mul_le_mul hl p16
    have fe := fraction_eq (n := (rs.length : Int) * rs.length * 2 ^ t) (d := ((eS t rs : Nat) : Int)) (by omega) (by
      show eS t rs < 2 ^ 8000
      exact Nat.lt_of_le_of_lt (show eS t rs ≤ 2 ^ 20 by omega) (Nat.pow_lt_pow_right (by decide) (by decide)))
    rw [est_eq hle] at fe
    have le : gLen [tN rs] = some (.int (rs.length : Nat), 9) := by simp [gLen, tN]
    have t6 : (t : Int) ≤ 1000000 := by omega
    have b1 : (rs.length : Int).natAbs < big := big0 (by omega)
    have b2 : ((rs.length : Int) * rs.length).natAbs < big := by
      have : rs.length * rs.length ≤ 16 * 16 := Nat.mul_le_mul hl hl
      refine big0 ?_
      rw [Int.natAbs_mul]
      simp
      omega
    simp (disch := first | assumption | (simp; done) | omega) [le, b1, b2, fe, dem1, t6]
    exact hQ _ rfl
  obtain ⟨r, e, rfl⟩ := go
  exact e
theorem half_sz (r : Nat) (h : r ≤ 5) : szR 0 5 (Rat.divInt 1 (2 ^ r)) := by
  have p : 2 ^ r ≤ 2 ^ 5 := Nat.pow_le_pow_right (by decide) h
  have q : 0 < 2 ^ r := Nat.pow_pos (by decide)
  rw [← cast_pow]
  exact szR_divInt (by decide) (by omega) p
theorem law_total_W {rs : List Nat} (h : ∀ r ∈ rs, r ≤ 5) (hl : rs.length ≤ 16) : S_law_total [.lst (rs.map fun r : Nat => fr (Rat.divInt 1 (2 ^ r)))] = some (fr (eT rs), 9, .non) := by
  have go : W (S_law_total [.lst (rs.map fun r : Nat => fr (Rat.divInt 1 (2 ^ r)))]) fun r => r = (fr (eT rs), 9, .non) := by
    refine W_O fun Q' hQ => ?_
    unfold S_law_total S_law_totalb
    rw [W_mDef]
    have f0 : D.tup [.int 0, .int 1] = fr (eT []) := rfl
    have im : imms (rs.map fun r : Nat => fr (Rat.divInt 1 (2 ^ r))) = true := imms_map' (fun _ => rfl) _
    have sD : seqD (D.lst (rs.map fun r : Nat => fr (Rat.divInt 1 (2 ^ r)))) = some (rs.map fun r : Nat => fr (Rat.divInt 1 (2 ^ r))) := rfl
    (refine Zk.W_seqE (E1 := ?wE207) ?wa207 ?wb207; (case wa207 => (simp (disch := first | assumption | (simp; done) | omega) [ent0_def]; exact rfl)))
    rw [f0]
    (refine Zk.W_forS ?wE286 rs (fun r : Nat => fr (Rat.divInt 1 (2 ^ r))) [2] (fun (l : Nat) a => [(1, some (fr (eT a), l))]) (fun _ _ => True) 0 ?wa286 ?wb286 ?_ ?_ ?_; (case wa286 => (simp (disch := first | assumption | (simp; done) | omega) [sD, im]; exact rfl)); (case wb286 => (simp (disch := first | assumption | (simp; done) | omega) [Zk.sets, sD, im])))
    · trivial
    · intro l a r rr I' e _ hI
      simp only [Zk.AllU, Zk.sets, List.set_cons_succ, List.set_cons_zero, List.set_nil] at *
      intro u2
      refine W_tgV.mpr ⟨by simp, ?_⟩
      have hr := h r (by rw [e]; simp)
      have ha : ∀ x ∈ a, x ≤ 5 := fun x hx => h x (by rw [e]; simp [hx])
      have hal : a.length ≤ 16 := by rw [e] at hl; simp at hl; omega
      have pl := (law_plus_eq (eT_sz ha hal) (half_sz r hr) (by decide) (by decide) (by decide)).1
      have ee : eT (a ++ [r]) = eT a + Rat.divInt 1 (2 ^ r) := by
        unfold eT
        rw [List.map_append, List.sum_append]
        simp [Rat.add_zero]
      rw [← ee] at pl
      simp (disch := first | assumption | (simp; done) | omega) [pl, dem1]
      apply hI 9 trivial
    intro l _
    simp only [Zk.AllU, Zk.sets, List.set_cons_succ, List.set_cons_zero, List.set_nil] at *
    intro u2
    simp (disch := first | assumption | (simp; done) | omega) []
    exact hQ _ rfl
  obtain ⟨r, e, rfl⟩ := go
  exact e
theorem law_quotient_W {L : Nat} (hL : L ≤ 16) {T : Rat} (ht : szR 9 5 T) (h0 : T ≠ 0) : S_law_quotient [.tup [.int ((L : Int) * L), .int 1], fr T] = some (fr (((L : Rat) * L) / T), 9, .non) := by
  have go : W (S_law_quotient [.tup [.int ((L : Int) * L), .int 1], fr T]) fun r => r = (fr (((L : Rat) * L) / T), 9, .non) := by
    refine W_O fun Q' hQ => ?_
    unfold S_law_quotient S_law_quotientb
    rw [W_mDef]
    have n0 : T.num ≠ 0 := fun z => h0 (Rat.num_eq_zero.mp z)
    have h1 := ht.1
    have h2 := ht.2
    have l1 : L * L ≤ 16 * 16 := Nat.mul_le_mul hL hL
    have l2 : L * L * T.den ≤ 16 * 16 * 2 ^ 5 := Nat.mul_le_mul l1 h2
    have e1 : ((L : Int) * L * T.den).natAbs = L * L * T.den := by rw [Int.natAbs_mul, Int.natAbs_mul]; simp
    have p : (2 : Nat) ^ 20 < 2 ^ 8000 := Nat.pow_lt_pow_right (by decide) (by decide)
    have fe := frac_eq (n := (L : Int) * L * T.den) (d := 1 * T.num) (by omega) (by rw [e1]; exact Nat.lt_of_le_of_lt (by omega) p) (by rw [Int.one_mul]; exact Nat.lt_of_le_of_lt (by omega) p)
    rw [quo_eq] at fe
    have b0 : ((L : Int) * L * T.den).natAbs < big := big0 (by rw [e1]; omega)
    have b1 : ((L : Int) * L).natAbs < big := big0 (by rw [Int.natAbs_mul]; simp; omega)
    have b2 : (T.num).natAbs < big := big0 (by omega)
    have b3 : ((T.den : Nat) : Int).natAbs < big := big0 (by simp; omega)
    have x0 : gIxd [fr T, .int 0] = some (.int T.num, 0) := by simp [fr]
    have x1 : gIxd [fr T, .int 1] = some (.int (T.den : Nat), 0) := by simp [fr]
    rw [Int.one_mul] at fe
    simp (disch := first | assumption | (simp; done) | omega) [ent0_def, x0, x1, b0, b1, b2, b3, fe, dem1]
    exact hQ _ rfl
  obtain ⟨r, e, rfl⟩ := go
  exact e
theorem law_estimate_W {rs : List Nat} (hn : rs ≠ []) (h : ∀ r ∈ rs, r ≤ 5) (hl : rs.length ≤ 16) : S_law_estimate_of [tN rs] = some (fr (((rs.length : Rat) * rs.length) / eT rs), 9, .non) := by
  have go : W (S_law_estimate_of [tN rs]) fun r => r = (fr (((rs.length : Rat) * rs.length) / eT rs), 9, .non) := by
    refine W_O fun Q' hQ => ?_
    unfold S_law_estimate_of S_law_estimate_ofb
    rw [W_mDef]
    have it2 : imm (tN rs) = true := by rw [tN_tI]; exact imm_tI _
    have sN : seqD (tN rs) = some (rs.map iN) := rfl
    have lt := law_total_W h hl
    have lq := law_quotient_W hl (eT_sz h hl) (eT_ne h hn)
    have le : gLen [tN rs] = some (.int (rs.length : Nat), 9) := by simp [gLen, tN]
    have b1 : (rs.length : Int).natAbs < big := big0 (by omega)
    simp (disch := first | assumption | (simp; done) | omega) [ent0_def, W_lc0, it2, sN]
    refine W_lcY (xs := rs) (ι := iN) (fun r : Nat => fr (Rat.divInt 1 (2 ^ r))) (fun _ => rfl) (by rw [sizeL]; omega) (fun r hr => ?_) fun acc ha hu => ?_
    · have h5 := h r hr
      have h6 : (r : Int) ≤ 1000000 := by omega
      have p32 : 2 ^ r ≤ 32 := Nat.pow_le_pow_right (n := 2) (by decide) h5
      have p0 : 0 < 2 ^ r := Nat.pow_pos (by decide)
      have p : (2 : Nat) ^ 20 < 2 ^ 8000 := Nat.pow_lt_pow_right (by decide) (by decide)
      have fe := frac_eq (n := 1) (d := ((2 ^ r : Nat) : Int)) (by omega) (Nat.lt_of_le_of_lt (by decide) p) (Nat.lt_of_le_of_lt (show 2 ^ r ≤ 2 ^ 20 by omega) p)
      rw [cast_pow] at fe
      simp (disch := first | assumption | (simp; done) | omega) [iN, h6, fe, dem1]
    · have im : imms (rs.map fun r : Nat => fr (Rat.divInt 1 (2 ^ r))) = true := imms_map' (fun _ => rfl) _
      simp (disch := first | assumption | (simp; done) | omega) [ha, hu, le, b1, lt, lq, dem1, im]
      exact hQ _ rfl
  obtain ⟨r, e, rfl⟩ := go
  exact e
end
end Zk
namespace Zk
noncomputable section
open PySem PySem.Spec PyProof.Rows L2
def S_least_placesb : Fs := (mRet (mOp gTuple (mAc (mSl (mSrt (mLc (mSq (mVar 0)) [3] (tgV 3) mYes (mIxd (mVar 1) (mVar 3)))) (mC .non) (mInt (mVar 2))) mA0)))
def S_least_places : Mir := mDef none 4 S_least_placesb
def S_joined_leastb : Fs := (mRet (mOp gTuple (mAc (mSl (mScX true (mLc2 (mSq (mTup (mAc (mVar 0) (mAc (mVar 1) mA0)))) [3, 4] (tgV 3) mYes (mSq (mVar 3)) [4] (tgV 4) mYes (mVar 4))) (mC .non) (mInt (mVar 2))) mA0)))
def S_joined_least : Mir := mDef none 5 S_joined_leastb
def S_estimateb : Fs := (mSeq (mIfS (mB (mLt (mOp gLen (mAc (mVar 0) mA0)) (mVar 2))) (mRet (mTup (mAc (mOp gLen (mAc (mVar 0) mA0)) (mAc (mC (.int 1)) mA0)))) mNx) (mRet (mCall none S_fraction (mAc (mMul (mVar 1) (mSub (mVar 2) (mC (.int 1)))) (mAc (mSub (mIxd (mVar 0) (mNeg (mC (.int 1)))) (mC (.int 1))) mA0)))))
def S_estimate : Mir := mDef none 3 S_estimateb
def S_mean_estimateb : Fs := (mSeq (mSet 3 (mLc (mCmbR (mAc (mC (.int 1)) (mAc (mAdd (mVar 1) (mC (.int 1))) mA0)) (mVar 0)) [4] (tgV 4) mYes (mCall none S_estimate (mAc (mSl (mVar 4) (mC .non) (mInt (mVar 2))) (mAc (mVar 1) (mAc (mVar 2) mA0)))))) (mRet (mCall none S_over (mAc (mCall none S_sum_of (mAc (mVar 3) mA0)) (mAc (mTup (mAc (mOp gLen (mAc (mVar 3) mA0)) (mAc (mC (.int 1)) mA0))) mA0)))))
def S_mean_estimate : Mir := mDef none 5 S_mean_estimateb
def S_law_is_fractionb : Fs := (mSeq (mIfS (mOrT (mNotT (mTr (mOp gIsi (mAc (mVar 0) (mAc (mC (.ty "tuple")) mA0))))) (mOrT (mB (mNe (mOp gLen (mAc (mVar 0) mA0)) (mC (.int 2)))) (mOrT (mNotT (mTr (mCall none S_law_is_int (mAc (mIxd (mVar 0) (mC (.int 0))) mA0)))) (mNotT (mTr (mCall none S_law_is_int (mAc (mIxd (mVar 0) (mC (.int 1))) mA0))))))) (mRet (mC (.bl false))) mNx) (mRet (mAndV (mGt (mIxd (mVar 0) (mC (.int 1))) (mC (.int 0))) (mEq (mCall none S_law_gcd (mAc (mIxd (mVar 0) (mC (.int 0))) (mAc (mIxd (mVar 0) (mC (.int 1))) mA0))) (mC (.int 1))))))
def S_law_is_fraction : Mir := mDef none 1 S_law_is_fractionb
def S_law_placesb : Fs := (mRet (mOp gTuple (mAc (mCall (some 0) S_law_shuffled (mAc (mVar 0) (mAc (mLrg2 (mC (.int 1)) (mAdd (mVar 1) (mC (.int 1)))) mA0))) mA0)))
def S_law_places : Mir := mDef (some 0) 2 S_law_placesb
def S_law_leastb : Fs := (mRet (mOp gTuple (mAc (mSl (mSrt (mLc (mSq (mVar 0)) [3] (tgV 3) mYes (mIxd (mVar 1) (mVar 3)))) (mC .non) (mInt (mVar 2))) mA0)))
def S_law_least : Mir := mDef none 4 S_law_leastb
def S_law_estimateb : Fs := (mSeq (mIfS (mB (mLt (mOp gLen (mAc (mVar 0) mA0)) (mVar 2))) (mRet (mTup (mAc (mOp gLen (mAc (mVar 0) mA0)) (mAc (mC (.int 1)) mA0)))) mNx) (mRet (mCall none S_law_frac (mAc (mMul (mVar 1) (mSub (mVar 2) (mC (.int 1)))) (mAc (mSub (mIxd (mVar 0) (mNeg (mC (.int 1)))) (mC (.int 1))) mA0)))))
def S_law_estimate : Mir := mDef none 3 S_law_estimateb
def S_law_means_k39b : Fs := (mSeq (mSet 3 (mLc (mSq (mCall none S_law_subsets (mAc (mLrg2 (mC (.int 1)) (mAdd (mVar 0) (mC (.int 1)))) mA0))) [4] (tgV 4) (mB (mEq (mOp gLen (mAc (mVar 4) mA0)) (mVar 1))) (mVar 4))) (mSeq (mSet 5 (mLc (mSq (mVar 3)) [4] (tgV 4) mYes (mCall none S_estimate (mAc (mSl (mVar 4) (mC .non) (mInt (mVar 2))) (mAc (mVar 0) (mAc (mVar 2) mA0)))))) (mSeq (mIfS (mB (mIn (mC (.bl false)) (mLc (mSq (mVar 5)) [4] (tgV 4) mYes (mCall none S_law_is_fraction (mAc (mVar 4) mA0))))) (mRet (mC (.bl false))) mNx) (mRet (mEq (mCall none S_law_total (mAc (mVar 5) mA0)) (mTup (mAc (mMul (mVar 1) (mOp gLen (mAc (mVar 3) mA0))) (mAc (mC (.int 1)) mA0))))))))
def S_law_means_k39 : Mir := mDef none 6 S_law_means_k39b
end
end Zk
namespace Zk.Bg
noncomputable section
open PySem PySem.Spec PyProof.Rows L2 Zk Zk.Bc
def stepV (vs : List Nat) (T : List (List Nat)) : List (List Nat) := T.flatMap fun a => (vs.filter (okL a)).map fun x => a ++ [x]
def leftV (vs : List Nat) : Nat → List (List Nat)
  | 0 => [[]]
  | k + 1 => stepV vs (leftV vs k)
def subsV (vs : List Nat) : Nat → List (List Nat)
  | 0 => [[]]
  | k + 1 => subsV vs k ++ leftV vs (k + 1)
theorem leftV_row (vs : List Nat) : ∀ k, ∀ r ∈ leftV vs k, r.length = k
  | 0, r, h => by simp [leftV] at h; subst h; rfl
  | k + 1, r, h => by
    rw [leftV, stepV, List.mem_flatMap] at h
    obtain ⟨a, ha, h⟩ := h
    obtain ⟨x, _, rfl⟩ := List.mem_map.mp h
    simp [leftV_row vs k a ha]
theorem stepV_len (vs : List Nat) : ∀ T : List (List Nat), (stepV vs T).length ≤ T.length * vs.length
  | [] => by simp [stepV]
  | a :: T => by
    have ih := stepV_len vs T
    have e : stepV vs (a :: T) = ((vs.filter (okL a)).map fun x => a ++ [x]) ++ stepV vs T := by simp [stepV]
    have h := List.length_filter_le (okL a) vs
    rw [e, List.length_append, List.length_map, List.length_cons, Nat.succ_mul]
    omega
theorem subsets_V {vs : List Nat} (hn : vs.length ≤ 12) (hb : ∀ k, k ≤ vs.length → (leftV vs k).length ≤ 5000 ∧ (subsV vs k).length ≤ 100000) : S_law_subsets [.lst (vs.map iN)] = some (.lst ((subsV vs vs.length).map tN), 9, .non) := by
  have go : W (S_law_subsets [.lst (vs.map iN)]) fun r => r = (.lst ((subsV vs vs.length).map tN), 9, .non) := by
    refine W_O fun Q' hQ => ?_
    unfold S_law_subsets S_law_subsetsb
    rw [W_mDef]
    have iv : imms (vs.map iN) = true := imms_map' (fun _ => rfl) _
    have rk : rgOk (vs.length : Int) := ⟨by omega, by omega⟩
    (refine Zk.W_seqE (E1 := ?wE208) ?wa208 ?wb208; (case wa208 => (simp (disch := first | assumption | (simp; done) | omega) [ent0_def]; exact rfl)))
    have e0 : [D.tup []] = (subsV vs 0).map tN := rfl
    rw [e0]
    (refine Zk.W_seqE (E1 := ?wE209) ?wa209 ?wb209; (case wa209 => (simp (disch := first | assumption | (simp; done) | omega) []; exact rfl)))
    have e0 : [D.tup []] = (leftV vs 0).map tN := rfl
    rw [e0]
    (refine Zk.W_forN ?wE287 vs.length [3, 4, 5, 6] (fun (l : Nat) j => [(1, some (.lst ((subsV vs j).map tN), 9)), (2, some (.lst ((leftV vs j).map tN), l + 1))]) (fun _ _ => True) 8 ?wa287 ?wb287 ?_ ?_ ?_; (case wa287 => (simp (disch := first | assumption | (simp; done) | omega) [iv, rk, uni, -List.map_map]; exact rfl)); (case wb287 => (simp (disch := first | assumption | (simp; done) | omega) [Zk.sets, iv, rk, uni, -List.map_map])))
    · trivial
    · intro l0 j I' hj _ hI
      simp only [Zk.AllU, Zk.sets, List.set_cons_succ, List.set_cons_zero, List.set_nil] at *
      intro u3 u4 u5 u6
      refine W_tgV.mpr ⟨by simp, ?_⟩
      (refine Zk.W_seqE (E1 := ?wE210) ?wa210 ?wb210; (case wa210 => (simp (disch := first | assumption | (simp; done) | omega) []; exact rfl)))
      have e1 : D.lst [] = .lst ((stepV vs []).map tN) := rfl
      rw [e1]
      obtain ⟨b1, b2⟩ := hb j (by omega)
      obtain ⟨b3, b4⟩ := hb (j + 1) (by omega)
      have iL := imms_tNs (leftV vs j)
      (refine Zk.W_forS ?wE288 (leftV vs j) tN [5, 6] (fun (l : Nat) p => [(4, some (.lst ((stepV vs p).map tN), l + 1))]) (fun _ _ => True) 8 ?wa288 ?wb288 ?_ ?_ ?_; (case wa288 => (simp (disch := first | assumption | (simp; done) | omega) [iL, -List.map_map]; exact rfl)); (case wb288 => (simp (disch := first | assumption | (simp; done) | omega) [Zk.sets, iL, -List.map_map])))
      · trivial
      · intro l p a q I2 e2 _ hI2
        simp only [Zk.AllU, Zk.sets, List.set_cons_succ, List.set_cons_zero, List.set_nil] at *
        intro u5 u6
        refine W_tgV.mpr ⟨by simp, ?_⟩
        have al := leftV_row vs j a (by rw [e2]; simp)
        have pl : p.length ≤ 5000 := by
          have := congrArg List.length e2
          simp at this
          omega
        have sl := stepV_len vs p
        have sl2 : p.length * vs.length ≤ 5000 * 12 := Nat.mul_le_mul pl hn
        have e3 : stepV vs (p ++ [a]) = stepV vs p ++ (vs.filter (okL a)).map fun x => a ++ [x] := by simp [stepV]
        rw [e3] at hI2
        have e4 : (stepV vs p).map tN = (stepV vs p ++ (([] : List Nat).filter (okL a)).map fun x => a ++ [x]).map tN := by simp
        rw [e4]
        refine W_end ?_
        (refine Zk.W_forS ?wE289 vs iN [6] (fun (l : Nat) z => [(4, some (.lst ((stepV vs p ++ (z.filter (okL a)).map fun x => a ++ [x]).map tN), l + 1))]) (fun _ _ => True) l ?wa289 ?wb289 ?_ ?_ ?_; (case wa289 => (simp (disch := first | assumption | (simp; done) | omega) [iv, -List.map_map]; exact rfl)); (case wb289 => (simp (disch := first | assumption | (simp; done) | omega) [Zk.sets, iv, -List.map_map])))
        · trivial
        · intro l z x w I3 e5 _ hI3
          simp only [Zk.AllU, Zk.sets, List.set_cons_succ, List.set_cons_zero, List.set_nil] at *
          intro u6
          refine W_tgV.mpr ⟨by simp, ?_⟩
          have zl : z.length ≤ 12 := by
            have := congrArg List.length e5
            simp at this
            omega
          have fl := List.length_filter_le (okL a) z
          have zs : (stepV vs p ++ (z.filter (okL a)).map fun x => a ++ [x]).length < sizeLine := by
            rw [sizeL, List.length_append, List.length_map]; omega
          have ax : a.length + 1 ≤ sizeLine := by rw [sizeL]; omega
          have e6 : stepV vs p ++ ((z ++ [x]).filter (okL a)).map (fun x => a ++ [x]) = (stepV vs p ++ (z.filter (okL a)).map fun x => a ++ [x]) ++ if okL a x = true then [a ++ [x]] else [] := by
            rw [List.filter_append, List.map_append, ← List.append_assoc]
            congr 1
            cases h : okL a x <;> simp [h]
          rw [e6] at hI3
          generalize (stepV vs p ++ (z.filter (okL a)).map fun x => a ++ [x]) = g at *
          have ga : gAdd [tN a, .tup [.int (x : Int)]] = some (tN (a ++ [x]), 0) := by
            unfold tN
            rw [gAdd_tup, if_pos (by simpa using ax)]
            simp
          have gl : gLen [tN a] = some (.int (a.length : Int), 9) := by unfold tN; rw [gLen_tup, List.length_map]
          have mt : (g.map tN) ++ [tN (a ++ [x])] = (g ++ [a ++ [x]]).map tN := by simp
          cases hla : a.getLast? with
          | none =>
            have an : a.length = 0 := by rw [List.getLast?_eq_none_iff.mp hla]; rfl
            have ok : okL a x = true := by simp [okL, hla]
            rw [ok, if_pos rfl] at hI3
            simp (disch := first | assumption | (simp; done) | omega) [gl, an, ga, zs, mt, -List.map_append]
            apply hI3 _ trivial
          | some y =>
            have li := last_ix hla
            have an : ¬ a.length = 0 := by
              intro h
              rw [List.length_eq_zero_iff.mp h] at hla
              cases hla
            have an' : ¬ ((a.length : Nat) : Int) = 0 := by omega
            by_cases c : y < x
            · have ok : okL a x = true := by simp [okL, hla, c]
              have c' : (y : Int) < (x : Int) := by omega
              rw [ok, if_pos rfl] at hI3
              simp (disch := first | assumption | (simp; done) | omega) [gl, an, an', li, c', c, ga, zs, mt, -List.map_append]
              apply hI3 _ trivial
            · have ok : okL a x = false := by simp [okL, hla, c]
              have c' : ¬ (y : Int) < (x : Int) := by omega
              rw [ok, if_neg (by decide), List.append_nil] at hI3
              simp (disch := first | assumption | (simp; done) | omega) [gl, an, an', li, c', c, -List.map_append]
              apply hI3 l trivial
        intro l _
        simp only [Zk.AllU, Zk.sets, List.set_cons_succ, List.set_cons_zero, List.set_nil] at *
        intro u6
        simp (disch := first | assumption | (simp; done) | omega) [-List.map_map, -List.map_append]
        apply hI2 l trivial
      intro l _
      simp only [Zk.AllU, Zk.sets, List.set_cons_succ, List.set_cons_zero, List.set_nil] at *
      intro u5 u6
      have iS := imms_tNs (subsV vs j)
      have iS2 := imms_tNs (stepV vs (leftV vs j))
      have e7 : subsV vs (j + 1) = subsV vs j ++ stepV vs (leftV vs j) := rfl
      have e8 : leftV vs (j + 1) = stepV vs (leftV vs j) := rfl
      rw [e7, e8] at hI
      rw [e7] at b4
      have sz : (subsV vs j).length + (stepV vs (leftV vs j)).length ≤ sizeLine := by
        rw [List.length_append] at b4
        rw [sizeL]; omega
      have ga : gAdd [.lst ((subsV vs j).map tN), .lst ((stepV vs (leftV vs j)).map tN)] = some (.lst ((subsV vs j ++ stepV vs (leftV vs j)).map tN), 9) := by
        rw [gAdd_lst, List.length_map, List.length_map, if_pos sz, ← List.map_append, lev_tNs]
      (refine Zk.W_seqE (E1 := ?wE211) ?wa211 ?wb211; (case wa211 => (simp (disch := first | assumption | (simp; done) | omega) [ga, iS, iS2, -List.map_append]; exact rfl)))
      simp (disch := first | assumption | (simp; done) | omega) [-List.map_append]
      apply hI l trivial
    intro _ _
    simp only [Zk.AllU, Zk.sets, List.set_cons_succ, List.set_cons_zero, List.set_nil] at *
    intro u3 u4 u5 u6
    simp (disch := first | assumption | (simp; done) | omega) []
    exact hQ _ rfl
  obtain ⟨r, e, rfl⟩ := go
  exact e
end
end Zk.Bg
namespace Zk.Bg
noncomputable section
open PySem PySem.Spec PyProof.Rows L2 Zk Zk.Bc Zk.Bf
def tD (xs : List Int) : D := .tup (xs.map D.int)
@[simp] theorem imm_tD (xs : List Int) : imm (tD xs) = true := by simp [tD, imms_map' (f := D.int) (fun _ => rfl) xs]
def pv (pl : List Int) (x : Nat) : Int := pl.getD x 0
theorem pv_at {pl : List Int} {x : Nat} (h : x < pl.length) : atI (pl.map D.int) (x : Int) = some (.int (pv pl x)) := by
  unfold atI
  rw [ixN_ok (by omega) (by simpa using h), Option.bind_some]
  simp [h, pv]
theorem cut_to (xs : List Int) (k : Nat) : cutD (xs.map D.int) none (some (k : Int)) = (xs.take k).map D.int := by
  have := cut_upto (xs := xs.map D.int) (i := (k : Int)) (by omega)
  rw [Int.toNat_natCast, ← List.map_take] at this
  exact this
theorem imms_ints (xs : List Int) : imms (xs.map D.int) = true := imms_map' (f := D.int) (fun _ => rfl) xs
/-- the k least places -/
def lp (pl : List Int) (ks : List Nat) (k : Nat) : List Int := (srt (ks.map (pv pl))).take k
theorem least_walk (M : Mir) (Mb : Fs) (hM : M = mDef none 4 Mb) (hb : Mb = S_least_placesb) {pl : List Int} {ks : List Nat} {k : Nat} (hk : ∀ x ∈ ks, x < pl.length) (hl : ks.length ≤ 1000) : M [tN ks, tD pl, .int (k : Int)] = some (tD (lp pl ks k), 9, .non) := by
  have go : W (M [tN ks, tD pl, .int (k : Int)]) fun r => r = (tD (lp pl ks k), 9, .non) := by
    refine W_O fun Q' hQ => ?_
    rw [hM, hb]
    unfold S_least_placesb
    rw [W_mDef]
    unfold tN tD
    simp (disch := first | assumption | (simp; done) | omega) [ent0_def, W_lc0]
    refine W_lcN (xs := ks) (ι := fun x : Nat => D.int (x : Int)) (pv pl) (by rw [sizeL]; omega) (fun x hx => ?_) fun acc ha hu => ?_
    · have at1 := pv_at (hk x hx)
      simp (disch := first | assumption | (simp; done) | omega) [at1]
    · have c1 := cut_to (srt (ks.map (pv pl))) k
      have im := imms_ints ((srt (ks.map (pv pl))).take k)
      simp (disch := first | assumption | (simp; done) | omega) [ha, hu, c1, im, -List.map_map, -List.map_take]
      exact hQ _ rfl
  obtain ⟨r, e, rfl⟩ := go
  exact e
theorem joined_W {a b : List Int} {k : Nat} (hl : a.length + b.length ≤ 1000) : S_joined_least [tD a, tD b, .int (k : Int)] = some (tD ((srt (a ++ b).eraseDups).take k), 9, .non) := by
  have go : W (S_joined_least [tD a, tD b, .int (k : Int)]) fun r => r = (tD ((srt (a ++ b).eraseDups).take k), 9, .non) := by
    refine W_O fun Q' hQ => ?_
    unfold S_joined_least S_joined_leastb
    rw [W_mDef]
    have ia := imm_tD a
    have ib := imm_tD b
    simp (disch := first | assumption | (simp; done) | omega) [ent0_def, W_lc20, ia, ib]
    have e0 : [tD a, tD b] = [a, b].map tD := rfl
    rw [e0]
    refine W_lc2X (fun p => p) (fun _ j => .int j) (fun p => [some (tD a, 0), some (tD b, 0), some (.int (k : Int), 0), some (tD p, 0), none]) (fun _ _ => true) (fun _ j => .int j) (fun _ _ => by simp) 1000 [a, b] [] (by simp [sizeL]) (by simp) (fun p hp => ⟨?_, ?_⟩) (fun p hp j hj => ?_) (fun acc ha hu => ?_)
    · simp only [List.mem_cons, List.not_mem_nil, or_false] at hp
      rcases hp with rfl | rfl <;> omega
    · unfold tD
      simp (disch := first | assumption | (simp; done) | omega) []
    · simp (disch := first | assumption | (simp; done) | omega) []
    · have ha2 : acc.map (·.1) = (a ++ b).map D.int := by
        have ft : ∀ l : List Int, l.filter (fun _ => true) = l := fun l => List.filter_eq_self.mpr (by simp)
        rw [ha]
        simp [ft]
      have gs := gSrtS_lst (a ++ b)
      rw [if_pos (by rw [List.length_append]; omega)] at gs
      have c1 := cut_to (srt (a ++ b).eraseDups) k
      have im := imms_ints ((srt (a ++ b).eraseDups).take k)
      simp (disch := first | assumption | (simp; done) | omega) [ha2, hu, gs, c1, im, -List.map_append, -List.map_map, -gSrtS_lst, -List.map_take]
      exact hQ _ rfl
  obtain ⟨r, e, rfl⟩ := go
  exact e
theorem least_W {pl : List Int} {ks : List Nat} {k : Nat} (hk : ∀ x ∈ ks, x < pl.length) (hl : ks.length ≤ 1000) : S_least_places [tN ks, tD pl, .int (k : Int)] = some (tD (lp pl ks k), 9, .non) := least_walk _ _ rfl rfl hk hl
theorem law_least_W {pl : List Int} {ks : List Nat} {k : Nat} (hk : ∀ x ∈ ks, x < pl.length) (hl : ks.length ≤ 1000) : S_law_least [tN ks, tD pl, .int (k : Int)] = some (tD (lp pl ks k), 9, .non) := least_walk S_law_least S_law_leastb rfl rfl hk hl
/-- an estimate -/
def estQ (xs : List Int) (n k : Int) : Rat := if (xs.length : Int) < k then ((xs.length : Int) : Rat) else Rat.divInt (n * (k - 1)) (xs.getLastD 0 - 1)
theorem estimate_W {xs : List Int} {n k : Int} (hn : n.natAbs ≤ 2 ^ 20) (hk : 1 ≤ k ∧ k ≤ 1000) (hx : k ≤ xs.length → xs.getLastD 0 - 1 ≠ 0 ∧ (xs.getLastD 0).natAbs ≤ 2 ^ 20) (hl : xs.length ≤ 1000) : ∃ l, S_estimate [tD xs, .int n, .int k] = some (fr (estQ xs n k), l, .non) := by
  have go : W (S_estimate [tD xs, .int n, .int k]) fun r => ∃ l, r = (fr (estQ xs n k), l, .non) := by
    refine W_O fun Q' hQ => ?_
    unfold S_estimate S_estimateb
    rw [W_mDef]
    have it := imm_tD xs
    have gl : gLen [tD xs] = some (.int (xs.length : Int), 9) := by simp [tD]
    unfold estQ at hQ
    by_cases c : (xs.length : Int) < k
    · rw [if_pos c, fr_int] at hQ
      simp (disch := first | assumption | (simp; done) | omega) [ent0_def, gl, c, it]
      exact hQ _ ⟨_, rfl⟩
    · rw [if_neg c] at hQ
      obtain ⟨h1, h2⟩ := hx (by omega)
      (refine Zk.W_seqE (E1 := ?wE212) ?wa212 ?wb212; (case wa212 => (simp (disch := first | assumption | (simp; done) | omega) [ent0_def, gl, c, it]; exact rfl)))
      have xn : xs ≠ [] := fun z => by rw [z] at c; simp at c; omega
      have li : gIxd [tD xs, .int (-1)] = some (.int (xs.getLastD 0), 0) := by
        have lp := List.length_pos_iff.mpr xn
        unfold tD
        rw [gIxd_tup, gIx_tup, atI_map']
        unfold atI
        have : ixN xs.length (-1) = some (xs.length - 1) := by
          unfold ixN
          rw [if_neg (by decide), if_pos (by omega)]
          congr 1
          omega
        rw [this, Option.bind_some, ← List.getLast?_eq_getElem?, List.getLast?_eq_some_getLast xn]
        show some (D.int _, 0) = some (D.int _, 0)
        rw [List.getLastD_eq_getLast?, List.getLast?_eq_some_getLast xn]; rfl
      generalize xs.getLastD 0 = z at *
      have fe := fraction_eq (n := n * (k - 1)) h1 (abs_lt_8000 (k := 21) (by omega) (by decide))
      have b1 : n.natAbs < big := abs_big hn (by decide)
      have b2 : (k - 1).natAbs < big := abs_big (k := 20) (by omega) (by decide)
      simp (disch := first | assumption | (simp; done) | omega) [li, it, fe, b1, b2, dem1]
      exact hQ _ ⟨_, rfl⟩
  obtain ⟨r, e, l, rfl⟩ := go
  exact ⟨l, e⟩
theorem law_estimate_W {xs : List Int} {n k : Int} (hn : n.natAbs ≤ 2 ^ 20) (hk : 1 ≤ k ∧ k ≤ 1000) (hx : k ≤ xs.length → xs.getLastD 0 - 1 ≠ 0 ∧ (xs.getLastD 0).natAbs ≤ 2 ^ 20) (hl : xs.length ≤ 1000) : ∃ l, S_law_estimate [tD xs, .int n, .int k] = some (fr (estQ xs n k), l, .non) := by
  have go : W (S_law_estimate [tD xs, .int n, .int k]) fun r => ∃ l, r = (fr (estQ xs n k), l, .non) := by
    refine W_O fun Q' hQ => ?_
    unfold S_law_estimate S_law_estimateb
    rw [W_mDef]
    have it := imm_tD xs
    have gl : gLen [tD xs] = some (.int (xs.length : Int), 9) := by simp [tD]
    unfold estQ at hQ
    by_cases c : (xs.length : Int) < k
    · rw [if_pos c, fr_int] at hQ
      simp (disch := first | assumption | (simp; done) | omega) [ent0_def, gl, c, it]
      exact hQ _ ⟨_, rfl⟩
    · rw [if_neg c] at hQ
      obtain ⟨h1, h2⟩ := hx (by omega)
      (refine Zk.W_seqE (E1 := ?wE213) ?wa213 ?wb213; (case wa213 => (simp (disch := first | assumption | (simp; done) | omega) [ent0_def, gl, c, it]; exact rfl)))
      have xn : xs ≠ [] := fun z => by rw [z] at c; simp at c; omega
      have li : gIxd [tD xs, .int (-1)] = some (.int (xs.getLastD 0), 0) := by
        have lp := List.length_pos_iff.mpr xn
        unfold tD
        rw [gIxd_tup, gIx_tup, atI_map']
        unfold atI
        have : ixN xs.length (-1) = some (xs.length - 1) := by
          unfold ixN
          rw [if_neg (by decide), if_pos (by omega)]
          congr 1
          omega
        rw [this, Option.bind_some, ← List.getLast?_eq_getElem?, List.getLast?_eq_some_getLast xn]
        show some (D.int _, 0) = some (D.int _, 0)
        rw [List.getLastD_eq_getLast?, List.getLast?_eq_some_getLast xn]; rfl
      generalize xs.getLastD 0 = z at *
      have fe := frac_eq (n := n * (k - 1)) h1 (abs_lt_8000 (k := 20 + 20) (mul_abs hn (by omega)) (by decide)) (abs_lt_8000 (k := 21) (by omega) (by decide))
      have b1 : n.natAbs < big := abs_big hn (by decide)
      have b2 : (k - 1).natAbs < big := abs_big (k := 20) (by omega) (by decide)
      simp (disch := first | assumption | (simp; done) | omega) [li, it, fe, b1, b2, dem1]
      exact hQ _ ⟨_, rfl⟩
  obtain ⟨r, e, l, rfl⟩ := go
  exact ⟨l, e⟩
end
end Zk.Bg
namespace Zk.Bg
noncomputable section
open PySem PySem.Spec PyProof.Rows L2 Zk Zk.Bc Zk.Bf
theorem top_same : ∀ (U V : List Int) (k : Nat), U.Pairwise (· < ·) → V.Pairwise (· < ·) → (∀ x ∈ V, x ∈ U) → (∀ x ∈ U.take k, x ∈ V) → V.take k = U.take k
  | [], V, k, _, _, h, _ => by
    have : V = [] := by
      cases V with
      | nil => rfl
      | cons v V => exact absurd (h v List.mem_cons_self) (by simp)
    rw [this]
  | u :: U, V, 0, _, _, _, _ => by simp
  | u :: U, V, k + 1, hU, hV, h1, h2 => by
    obtain ⟨hu, hU'⟩ := List.pairwise_cons.mp hU
    have uV := h2 u (by simp)
    cases V with
    | nil => cases uV
    | cons v V =>
      obtain ⟨hv, hV'⟩ := List.pairwise_cons.mp hV
      have e : v = u := by
        rcases List.mem_cons.mp uV with e | m
        · exact e.symm
        · have a := hv u m
          rcases List.mem_cons.mp (h1 v List.mem_cons_self) with e | m2
          · exact e
          · have := hu v m2; omega
      subst e
      rw [List.take_succ_cons, List.take_succ_cons, top_same U V k hU' hV' (fun x hx => ?_) fun x hx => ?_]
      · rcases List.mem_cons.mp (h1 x (List.mem_cons_of_mem _ hx)) with e | m
        · have := hv x hx; omega
        · exact m
      · rcases List.mem_cons.mp (h2 x (by rw [List.take_succ_cons]; exact List.mem_cons_of_mem _ hx)) with e | m
        · have := hu x (List.mem_of_mem_take hx); omega
        · exact m
theorem take_sub : ∀ (U S : List Int) (k : Nat) (x : Int), U.Pairwise (· < ·) → S.Pairwise (· < ·) → (∀ y ∈ S, y ∈ U) → x ∈ S → x ∈ U.take k → x ∈ S.take k
  | [], S, k, x, _, _, _, _, h => by simp at h
  | u :: U, S, 0, x, _, _, _, _, h => by simp at h
  | u :: U, S, k + 1, x, hU, hS, h1, hx, h => by
    obtain ⟨hu, hU'⟩ := List.pairwise_cons.mp hU
    cases S with
    | nil => cases hx
    | cons s S =>
      obtain ⟨hs, hS'⟩ := List.pairwise_cons.mp hS
      rw [List.take_succ_cons] at h ⊢
      by_cases e : s = u
      · subst e
        rcases List.mem_cons.mp hx with rfl | hx
        · exact List.mem_cons_self
        · rcases List.mem_cons.mp h with rfl | h
          · exact List.mem_cons_self
          · refine List.mem_cons_of_mem _ (take_sub U S k x hU' hS' (fun y hy => ?_) hx h)
            rcases List.mem_cons.mp (h1 y (List.mem_cons_of_mem _ hy)) with e | m
            · have := hs y hy; omega
            · exact m
      · have no : ∀ y ∈ s :: S, y ∈ U := fun y hy => by
          rcases List.mem_cons.mp (h1 y hy) with e2 | m
          · exfalso
            rcases List.mem_cons.mp (h1 s List.mem_cons_self) with e3 | m3
            · exact e e3
            · have a := hu s m3
              rcases List.mem_cons.mp hy with e4 | m4
              · omega
              · have := hs y m4; omega
          · exact m
        rcases List.mem_cons.mp h with e2 | h
        · exfalso
          have := hu x (no x hx)
          omega
        · have := take_sub U (s :: S) k x hU' hS no hx h
          cases k with
          | zero => simp at this
          | succ k =>
            rw [List.take_succ_cons] at this
            rcases List.mem_cons.mp this with rfl | m
            · exact List.mem_cons_self
            · refine List.mem_cons_of_mem _ ?_
              have e5 : S.take k = (S.take (k + 1)).take k := by rw [List.take_take, Nat.min_eq_left (by omega)]
              rw [e5] at m
              exact List.mem_of_mem_take m
theorem srt_lt {xs : List Int} (h : xs.Nodup) : (srt xs).Pairwise (· < ·) := ((srt_pair xs).and (srt_nodup.mpr h)).imp fun h => by
  have := h.1; have := h.2
  show _ < _
  omega
theorem least_join {A B : List Int} (hA : A.Nodup) (hB : B.Nodup) (k : Nat) : (srt ((srt A).take k ++ (srt B).take k).eraseDups).take k = (srt (A ++ B).eraseDups).take k := by
  have dU := srt_lt (nodup_eraseDups (A ++ B))
  have dV := srt_lt (nodup_eraseDups ((srt A).take k ++ (srt B).take k))
  refine top_same _ _ k dU dV (fun x hx => ?_) fun x hx => ?_
  · rw [srt_mem, List.mem_eraseDups, List.mem_append] at hx ⊢
    rcases hx with h | h
    · exact .inl (srt_mem.mp (List.mem_of_mem_take h))
    · exact .inr (srt_mem.mp (List.mem_of_mem_take h))
  · rw [srt_mem, List.mem_eraseDups, List.mem_append]
    have h1 := List.mem_of_mem_take hx
    rw [srt_mem, List.mem_eraseDups, List.mem_append] at h1
    rcases h1 with h | h
    · exact .inl (take_sub _ _ k x dU (srt_lt hA) (fun y hy => by rw [srt_mem, List.mem_eraseDups, List.mem_append]; exact .inl (srt_mem.mp hy)) (srt_mem.mpr h) hx)
    · exact .inr (take_sub _ _ k x dU (srt_lt hB) (fun y hy => by rw [srt_mem, List.mem_eraseDups, List.mem_append]; exact .inr (srt_mem.mp hy)) (srt_mem.mpr h) hx)
end
end Zk.Bg
namespace Zk.Bg
noncomputable section
open PySem PySem.Spec PyProof.Rows L2 Zk Zk.Bc Zk.Bf
def combL (n r : Nat) : List (List Nat) := (combE n r).getD []
def chosen (k : Nat) (ix : List Nat) : List Int := (ix.map fun i : Nat => (i : Int) + 1).take k
def okC (n r : Nat) : Bool := (combE n r).isSome && (combL n r).all (fun ix => ix.length == r && ix.all fun i => decide (i < n)) && decide ((combL n r).length ≤ 1000) && decide (1 ≤ (combL n r).length)
def okS (r k : Nat) (ix : List Nat) : Bool := decide (r < k) || decide (2 ≤ (chosen k ix).getLastD 0) && decide ((chosen k ix).getLastD 0 ≤ 9)
theorem chk1 : ∀ n, n < 10 → ∀ r, r < n + 1 → okC n r = true ∧ ∀ k, k < n + 3 → 2 ≤ k → (combL n r).all (okS r k) = true := by decide +kernel
theorem chk2 : ∀ n, n < 10 → ∀ r, r < n + 1 → ∀ k, k < n + 3 → 2 ≤ k → qsum ((combL n r).map fun ix => estQ (chosen k ix) n k) = ((r * (combL n r).length : Nat) : Rat) := by decide +kernel
theorem cmbD_rg {a : Int} {n : Nat} {L : List (List Nat)} (h : ∀ ix ∈ L, ∀ i ∈ ix, i < n) : cmbD (rgDs a (a + n)) L = L.map fun ix => tD (ix.map fun i : Nat => (i : Int) + a) := by
  refine List.map_congr_left fun ix hix => ?_
  unfold tD pickD
  rw [List.map_map]
  congr 1
  refine List.map_congr_left fun i hi => ?_
  have hn := h ix hix i hi
  unfold rgDs
  rw [List.getD_eq_getElem?_getD, List.getElem?_map, List.getElem?_range (by omega)]
  show D.int (a + (i : Int)) = D.int ((i : Int) + a)
  rw [Int.add_comm]
theorem est840 {z m : Int} (h : 2 ≤ z) (h2 : z ≤ 9) : ∃ e : Int, Rat.divInt m (z - 1) = Rat.divInt (m * e) 840 ∧ e.natAbs ≤ 840 := by
  have go : ∀ d e : Int, d * e = 840 → e ≠ 0 → Rat.divInt m d = Rat.divInt (m * e) 840 := fun d e h h0 => by
    rw [← h, Rat.divInt_mul_right h0]
  have hz : z = 2 ∨ z = 3 ∨ z = 4 ∨ z = 5 ∨ z = 6 ∨ z = 7 ∨ z = 8 ∨ z = 9 := by omega
  rcases hz with rfl | rfl | rfl | rfl | rfl | rfl | rfl | rfl
  · exact ⟨840, go _ _ (by decide) (by decide), by decide⟩
  · exact ⟨420, go _ _ (by decide) (by decide), by decide⟩
  · exact ⟨280, go _ _ (by decide) (by decide), by decide⟩
  · exact ⟨210, go _ _ (by decide) (by decide), by decide⟩
  · exact ⟨168, go _ _ (by decide) (by decide), by decide⟩
  · exact ⟨140, go _ _ (by decide) (by decide), by decide⟩
  · exact ⟨120, go _ _ (by decide) (by decide), by decide⟩
  · exact ⟨105, go _ _ (by decide) (by decide), by decide⟩
section
variable {n r k : Nat}
/-- what is known of all sets -/
structure Sets (n r k : Nat) : Prop where
  e : combE n r = some (combL n r)
  len : ∀ ix ∈ combL n r, ix.length = r
  lt : ∀ ix ∈ combL n r, ∀ i ∈ ix, i < n
  few : (combL n r).length ≤ 1000
  one : 1 ≤ (combL n r).length
  last : ∀ ix ∈ combL n r, r < k ∨ (2 ≤ (chosen k ix).getLastD 0 ∧ (chosen k ix).getLastD 0 ≤ 9)
  sum : qsum ((combL n r).map fun ix => estQ (chosen k ix) n k) = ((r * (combL n r).length : Nat) : Rat)
theorem sets_of (hn : n < 10) (hr : r ≤ n) (hk : 2 ≤ k) (hk2 : k < n + 3) : Sets n r k := by
  obtain ⟨h1, h2⟩ := chk1 n hn r (by omega)
  have h2 := h2 k hk2 hk
  unfold okC at h1
  simp only [Bool.and_eq_true, List.all_eq_true, beq_iff_eq, decide_eq_true_eq] at h1
  obtain ⟨⟨⟨a, b⟩, c⟩, d⟩ := h1
  refine ⟨?_, fun ix hix => (b ix hix).1, fun ix hix => (b ix hix).2, c, d, fun ix hix => ?_, chk2 n hn r (by omega) k hk2 hk⟩
  · unfold combL
    cases e : combE n r with
    | none => rw [e] at a; cases a
    | some L => rfl
  · have := List.all_eq_true.mp h2 ix hix
    unfold okS at this
    simp only [Bool.or_eq_true, Bool.and_eq_true, decide_eq_true_eq] at this
    exact this
theorem est_as (S : Sets n r k) (hn : n < 10) (hk : k < n + 3) (hr : r ≤ n) {ix : List Nat} (h : ix ∈ combL n r) : ∃ t : Int, estQ (chosen k ix) n k = Rat.divInt t 840 ∧ t.natAbs ≤ 2 ^ 17 := by
  unfold estQ
  split
  · rename_i c
    refine ⟨(chosen k ix).length * 840, ?_, ?_⟩
    · have := Rat.divInt_mul_right (n := ((chosen k ix).length : Int)) (d := 1) (a := 840) (by decide)
      rw [Int.one_mul] at this
      rw [this, Rat.divInt_eq_div]
      grind
    · rw [Int.natAbs_mul]
      have : (chosen k ix).length < k := by omega
      show (chosen k ix).length * 840 ≤ 2 ^ 17
      omega
  · rename_i c
    rcases S.last ix h with h1 | ⟨h1, h2⟩
    · exfalso
      have := S.len ix h
      have e : (chosen k ix).length ≤ ix.length := by
        unfold chosen
        rw [List.length_take, List.length_map]
        omega
      omega
    · obtain ⟨e, he, hb⟩ := est840 (m := (n : Int) * ((k : Int) - 1)) h1 h2
      refine ⟨_, he, ?_⟩
      have a : ((n : Int) * ((k : Int) - 1)).natAbs ≤ 2 ^ 7 := by
        rw [Int.natAbs_mul]
        have : ((k : Int) - 1).natAbs ≤ 11 := by omega
        have := Nat.mul_le_mul (show (n : Int).natAbs ≤ 9 by omega) this
        omega
      exact Nat.le_trans (mul_abs a (b := 10) (by omega)) (by decide)
theorem as_840 : ∀ {qs : List Rat}, (∀ q ∈ qs, ∃ t : Int, q = Rat.divInt t 840 ∧ t.natAbs ≤ 2 ^ 17) → ∃ v : Int, qsum qs = Rat.divInt v 840 ∧ v.natAbs ≤ qs.length * 2 ^ 17 := fun {qs} h => by
  have go : ∀ (qs : List Rat) (x : Int), (∀ q ∈ qs, ∃ t : Int, q = Rat.divInt t 840 ∧ t.natAbs ≤ 2 ^ 17) → ∃ v : Int, qs.foldl (· + ·) (Rat.divInt x 840) = Rat.divInt v 840 ∧ v.natAbs ≤ x.natAbs + qs.length * 2 ^ 17 := fun qs => by
    induction qs with
    | nil => intro x _; exact ⟨x, rfl, by simp⟩
    | cons q qs ih =>
      intro x h
      obtain ⟨t, rfl, ht⟩ := h q List.mem_cons_self
      rw [List.foldl_cons, divInt_add_same]
      obtain ⟨v, h1, h2⟩ := ih (x + t) fun q hq => h q (List.mem_cons_of_mem _ hq)
      refine ⟨v, h1, ?_⟩
      rw [List.length_cons, Nat.succ_mul]
      omega
  obtain ⟨v, h1, h2⟩ := go qs 0 h
  rw [Rat.zero_divInt] at h1
  exact ⟨v, h1, by omega⟩
theorem mean_est_W (hn0 : 1 ≤ n) (hn : n < 10) (hr : r ≤ n) (hk : 2 ≤ k) (hk2 : k < n + 3) : S_mean_estimate [.int (r : Int), .int (n : Int), .int (k : Int)] = some (fr (r : Rat), 9, .non) := by
  have go : W (S_mean_estimate [.int (r : Int), .int (n : Int), .int (k : Int)]) fun q => q = (fr (r : Rat), 9, .non) := by
    refine W_O fun Q' hQ => ?_
    unfold S_mean_estimate S_mean_estimateb
    rw [W_mDef, ent0_def]
    have S := sets_of hn hr hk hk2
    have hr9 := rOk_n (r := r) (by omega)
    have hg := rgB_n (a := 1) (b := (n : Int) + 1) (by decide) (by omega) (by decide) (by omega)
    have tn : ((n : Int) + 1 - 1).toNat = n := by omega
    have ec := S.e
    have cd : cmbD (rgDs 1 ((n : Int) + 1)) (combL n r) = (combL n r).map fun ix => tD (ix.map fun i : Nat => (i : Int) + 1) := by
      rw [Int.add_comm]
      exact cmbD_rg S.lt
    refine W_seqO (J := fun E => ∃ a4, E = [some (.int (r : Int), 0), some (.int (n : Int), 0), some (.int (k : Int), 0), some (.lst (((combL n r).map fun ix => estQ (chosen k ix) n k).map fr), 9), a4]) ?_ ?_
    · intro J' hJ
      simp (disch := first | assumption | (simp; done) | omega) [W_lc0, hr9, hg, tn, ec]
      rw [cd]
      refine W_lcY (fun ix => fr (estQ (chosen k ix) n k)) (fun _ => imm_fr _) (by rw [sizeL]; have := S.few; omega) (fun ix hx => ?_) fun acc ha hu => ?_
      · have ln := S.len ix hx
        have cl : (chosen k ix).length ≤ r := by
          unfold chosen
          rw [List.length_take, List.length_map]
          omega
        obtain ⟨l, es⟩ := estimate_W (xs := chosen k ix) (n := n) (k := k) (by omega) ⟨by omega, by omega⟩ (fun c => by
          rcases S.last ix hx with h1 | ⟨h1, h2⟩
          · omega
          · exact ⟨by omega, by omega⟩) (by omega)
        have c1 : gSl [tD (ix.map fun i : Nat => (i : Int) + 1), .non, .int (k : Int)] = some (tD (chosen k ix), 0) := by
          unfold tD chosen
          rw [gSl_tup]
          simp only [part, Option.bind_some, Option.map_some, cut_to]
        simp (disch := first | assumption | (simp; done) | omega) [c1, es, dem1]
      · have e1 : acc.map (·.1) = ((combL n r).map fun ix => estQ (chosen k ix) n k).map fr := by rw [ha, List.map_map]; rfl
        simp (disch := first | assumption | (simp; done) | omega) [e1, hu, -List.map_map]
        exact hJ _ ⟨_, rfl⟩
    rintro _ ⟨a4, rfl⟩
    have hsum := S.sum
    have hq : ∀ q ∈ (combL n r).map fun ix => estQ (chosen k ix) n k, ∃ t : Int, q = Rat.divInt t 840 ∧ t.natAbs ≤ 2 ^ 17 := fun q hq => by
      obtain ⟨ix, hix, rfl⟩ := List.mem_map.mp hq
      exact est_as S hn hk2 hr hix
    have few : ((combL n r).map fun ix => estQ (chosen k ix) n k).length ≤ 1000 := by rw [List.length_map]; exact S.few
    have lq : ((combL n r).map fun ix => estQ (chosen k ix) n k).length = (combL n r).length := List.length_map _
    generalize ((combL n r).map fun ix => estQ (chosen k ix) n k) = qs at *
    have e84 : (840 : Int).natAbs ≤ 2 ^ 10 := by decide
    have sw := sum_of_W (qs := qs) (.lst (qs.map fr)) (.inl rfl) (fun a b e => by
      obtain ⟨v, hv, hb⟩ := as_840 (qs := a) fun q h => hq q (by rw [e]; exact List.mem_append_left _ h)
      have la : a.length ≤ 1000 := by rw [e, List.length_append] at few; omega
      rw [hv]
      exact (szR_divInt (a := 40) (b := 10) (Nat.le_trans hb (by
        have := Nat.mul_le_mul_right (2 ^ 17) la
        omega)) (by decide) e84).mono (by decide) (by decide)) (fun q h => by
      obtain ⟨t, rfl, ht⟩ := hq q h
      exact (szR_divInt (a := 17) (b := 10) ht (by decide) e84).mono (by decide) (by decide))
    rw [hsum] at sw
    have c0 : (((combL n r).length : Nat) : Rat) ≠ 0 := fun e => by
      rw [← Rat.intCast_natCast] at e
      have := Rat.intCast_inj.mp (e.trans Rat.intCast_zero.symm)
      have := S.one
      omega
    have s1 : szR 20 0 (((r * (combL n r).length : Nat) : Int) : Rat) := szR_int (by
      have := Nat.mul_le_mul (show r ≤ 9 by omega) S.few
      omega)
    have s2 : szR 20 0 ((((combL n r).length : Nat) : Int) : Rat) := szR_int (by have := S.few; omega)
    rw [Rat.intCast_natCast] at s1 s2
    have ow := over_R s1 s2 c0 (by decide) (by decide) (by decide) (by decide) (by decide)
    have eo : ((r * (combL n r).length : Nat) : Rat) / (((combL n r).length : Nat) : Rat) = (r : Rat) := by
      rw [Rat.natCast_mul, Rat.mul_div_cancel c0]
    rw [eo, Rat.natCast_mul] at ow
    have f2 : D.tup [.int ((combL n r).length : Int), .int 1] = fr (((combL n r).length : Nat) : Rat) := by rw [← Rat.intCast_natCast]; rfl
    have iq : imms (qs.map fr) = true := imms_fr qs
    simp (disch := first | assumption | (simp; done) | omega) [sw, iq, lq, f2, ow, dem1, -List.map_map]
    exact hQ _ rfl
  obtain ⟨q, e, rfl⟩ := go
  exact e
end
end
end Zk.Bg
namespace Zk.Bg
noncomputable section
open PySem PySem.Spec PyProof.Rows L2 Zk Zk.Bc Zk.Bf
theorem is_int_W (j : Int) : S_law_is_int [.int j] = some (.bl true, 9, .non) := by
  have go : W (S_law_is_int [.int j]) fun r => r = (.bl true, 9, .non) := by
    unfold S_law_is_int S_law_is_intb
    simp (disch := first | assumption | (simp; done) | omega) [ent0_def, gIsi, tyOf, isi]
  obtain ⟨r, e, rfl⟩ := go
  exact e
theorem is_fraction_W {q : Rat} {a b : Nat} (h : szR a b q) (ha : a ≤ 7000) (hb : b ≤ 7000) : S_law_is_fraction [fr q] = some (.bl true, 9, .non) := by
  have go : W (S_law_is_fraction [fr q]) fun r => r = (.bl true, 9, .non) := by
    refine W_O fun Q' hQ => ?_
    unfold S_law_is_fraction S_law_is_fractionb
    rw [W_mDef]
    have i1 := is_int_W q.num
    have i2 := is_int_W (q.den : Int)
    have dp := q.den_pos
    have g := law_gcd_eq (x := q.num) (y := (q.den : Int)) (abs_lt_8000 h.1 (by omega)) (abs_lt_8000 (i := (q.den : Int)) h.2 (by omega))
    have co : Nat.gcd q.num.natAbs (q.den : Int).natAbs = 1 := q.reduced
    rw [co] at g
    unfold fr
    simp (disch := first | assumption | (simp; done) | omega) [ent0_def, i1, i2, g, dp, dem1, gIsi, tyOf, isi]
    exact hQ _ rfl
  obtain ⟨r, e, rfl⟩ := go
  exact e
theorem total_W {qs : List Rat} (hq : ∀ q ∈ qs, ∃ t : Int, q = Rat.divInt t 840 ∧ t.natAbs ≤ 2 ^ 17) (hl : qs.length ≤ 1000) : S_law_total [.lst (qs.map fr)] = some (fr (qsum qs), 9, .non) := by
  have go : W (S_law_total [.lst (qs.map fr)]) fun r => r = (fr (qsum qs), 9, .non) := by
    refine W_O fun Q' hQ => ?_
    unfold S_law_total S_law_totalb
    rw [W_mDef]
    have f0 : D.tup [.int 0, .int 1] = fr (qsum []) := rfl
    have im : imms (qs.map fr) = true := imms_fr qs
    (refine Zk.W_seqE (E1 := ?wE214) ?wa214 ?wb214; (case wa214 => (simp (disch := first | assumption | (simp; done) | omega) [ent0_def]; exact rfl)))
    rw [f0]
    have e84 : (840 : Int).natAbs ≤ 2 ^ 10 := by decide
    (refine Zk.W_forS ?wE290 qs fr [2] (fun (l : Nat) a => [(1, some (fr (qsum a), l))]) (fun _ _ => True) 0 ?wa290 ?wb290 ?_ ?_ ?_; (case wa290 => (simp (disch := first | assumption | (simp; done) | omega) [im]; exact rfl)); (case wb290 => (simp (disch := first | assumption | (simp; done) | omega) [Zk.sets, im])))
    · trivial
    · intro l a q rr I' e _ hI
      simp only [Zk.AllU, Zk.sets, List.set_cons_succ, List.set_cons_zero, List.set_nil] at *
      intro u2
      refine W_tgV.mpr ⟨by simp, ?_⟩
      obtain ⟨v, hv, hb⟩ := as_840 (qs := a) fun q h => hq q (by rw [e]; exact List.mem_append_left _ h)
      have la : a.length ≤ 1000 := by rw [e, List.length_append] at hl; omega
      have s1 : szR 40 10 (qsum a) := by
        rw [hv]
        exact szR_divInt (Nat.le_trans hb (by
          have := Nat.mul_le_mul_right (2 ^ 17) la
          omega)) (by decide) e84
      obtain ⟨t, ht, hb2⟩ := hq q (by rw [e]; simp)
      have s2 : szR 17 10 q := by rw [ht]; exact szR_divInt hb2 (by decide) e84
      have pl := (law_plus_eq s1 s2 (by decide) (by decide) (by decide)).1
      rw [← qsum_app] at pl
      simp (disch := first | assumption | (simp; done) | omega) [pl, dem1]
      apply hI 9 trivial
    intro l _
    simp only [Zk.AllU, Zk.sets, List.set_cons_succ, List.set_cons_zero, List.set_nil] at *
    intro u2
    simp (disch := first | assumption | (simp; done) | omega) []
    exact hQ _ rfl
  obtain ⟨r, e, rfl⟩ := go
  exact e
def vsn (n : Nat) : List Nat := (List.range n).map (· + 1)
def subs (n r : Nat) : List (List Nat) := (subsV (vsn n) n).filter fun a => a.length == r
def castN (a : List Nat) : List Int := a.map fun x : Nat => (x : Int)
theorem tN_tD (a : List Nat) : tN a = tD (castN a) := by unfold tN tD castN; rw [List.map_map]; rfl
theorem ckL : ∀ n, n < 7 → ∀ j, j < n + 1 → (leftV (vsn n) j).length ≤ 100 ∧ (subsV (vsn n) j).length ≤ 200 := by decide +kernel
def okT (r k : Nat) (a : List Nat) : Bool := decide (r < k) || decide (2 ≤ ((castN a).take k).getLastD 0) && decide (((castN a).take k).getLastD 0 ≤ 9)
theorem ck1 : ∀ n, n < 7 → ∀ r, r < n + 1 → ∀ k, k < n + 3 → 2 ≤ k → (subs n r).all (okT r k) = true := by decide +kernel
theorem ck2 : ∀ n, n < 7 → ∀ r, r < n + 1 → ∀ k, k < n + 3 → 2 ≤ k → qsum ((subs n r).map fun a => estQ ((castN a).take k) n k) = ((r * (subs n r).length : Nat) : Rat) := by decide +kernel
theorem est_as2 {n r k : Nat} (hn : n < 10) (hk : k < n + 3) (hr : r ≤ n) {a : List Nat} (ha : a.length = r) (hl : r < k ∨ (2 ≤ ((castN a).take k).getLastD 0 ∧ ((castN a).take k).getLastD 0 ≤ 9)) : ∃ t : Int, estQ ((castN a).take k) n k = Rat.divInt t 840 ∧ t.natAbs ≤ 2 ^ 17 := by
  have e : ((castN a).take k).length ≤ r := by
    unfold castN
    rw [List.length_take, List.length_map]
    omega
  unfold estQ
  split
  · rename_i c
    refine ⟨((castN a).take k).length * 840, ?_, ?_⟩
    · have := Rat.divInt_mul_right (n := (((castN a).take k).length : Int)) (d := 1) (a := 840) (by decide)
      rw [Int.one_mul] at this
      rw [this, Rat.divInt_eq_div]
      grind
    · rw [Int.natAbs_mul]
      show ((castN a).take k).length * 840 ≤ 2 ^ 17
      omega
  · rename_i c
    rcases hl with h1 | ⟨h1, h2⟩
    · exfalso; omega
    · obtain ⟨e, he, hb⟩ := est840 (m := (n : Int) * ((k : Int) - 1)) h1 h2
      refine ⟨_, he, ?_⟩
      have a : ((n : Int) * ((k : Int) - 1)).natAbs ≤ 2 ^ 7 := by
        rw [Int.natAbs_mul]
        have : ((k : Int) - 1).natAbs ≤ 11 := by omega
        have := Nat.mul_le_mul (show (n : Int).natAbs ≤ 9 by omega) this
        omega
      exact Nat.le_trans (mul_abs a (b := 10) (by omega)) (by decide)
theorem rng1 (n : Nat) : rng 1 n = (vsn n).map iN := by
  unfold rng vsn
  rw [List.map_map]
  refine List.map_congr_left fun i _ => ?_
  show D.int _ = D.int _
  congr 1
  show (1 : Int) + (i : Int) = ((i + 1 : Nat) : Int)
  omega
theorem eq_t2 (a b : Int) : gEq [.tup [.int a, .int b], .tup [.int a, .int b]] = some (.bl true) := by
  have e : D.tup [.int a, .int b] = .tup ([a, b].map D.int) := rfl
  rw [e]
  simp only [gEq, show dat 64 (.tup ([a, b].map D.int)) = true from dat_tI 63 _, and_self, if_true, deq_tup, deqs_is, decide_eq_true_eq, decide_true]
theorem means_W {n r k : Nat} (hn : n < 7) (hr : r ≤ n) (hk : 2 ≤ k) (hk2 : k < n + 3) : S_law_means_k39 [.int (n : Int), .int (r : Int), .int (k : Int)] = some (.bl true, 9, .non) := by
  have go : W (S_law_means_k39 [.int (n : Int), .int (r : Int), .int (k : Int)]) fun q => q = (.bl true, 9, .non) := by
    refine W_O fun Q' hQ => ?_
    unfold S_law_means_k39 S_law_means_k39b
    rw [W_mDef, ent0_def]
    have lv : (vsn n).length = n := by simp [vsn]
    have sv := subsets_V (vs := vsn n) (by omega) (fun j hj => by
      have := ckL n hn j (by omega)
      omega)
    rw [lv] at sv
    have hs : ∀ a ∈ subs n r, a.length = r ∧ (r < k ∨ (2 ≤ ((castN a).take k).getLastD 0 ∧ ((castN a).take k).getLastD 0 ≤ 9)) := fun a ha => by
      have h1 := List.all_eq_true.mp (ck1 n hn r (by omega) k hk2 hk) a ha
      have h2 := (List.mem_filter.mp ha).2
      unfold okT at h1
      simp only [Bool.or_eq_true, Bool.and_eq_true, decide_eq_true_eq, beq_iff_eq] at h1 h2
      exact ⟨h2, h1⟩
    have lS : (subsV (vsn n) n).length ≤ 200 := (ckL n hn n (by omega)).2
    have ls : (subs n r).length ≤ 200 := Nat.le_trans (List.length_filter_le _ _) lS
    have hsum := ck2 n hn r (by omega) k hk2 hk
    have r1 : rgOk 1 := ⟨by decide, by decide⟩
    have rv : rgOk ((n : Int) + 1) := ⟨by omega, by omega⟩
    refine W_seqO (J := fun E => ∃ a4 a5, E = [some (.int (n : Int), 0), some (.int (r : Int), 0), some (.int (k : Int), 0), some (.lst ((subs n r).map tN), 9), a4, a5]) ?_ ?_
    · intro J' hJ
      have gl : gLrg [.int 1, .int ((n : Int) + 1)] = some (.lst ((vsn n).map iN), 9) := by
        have ok : RgOk 1 ((n : Int) + 1) := ⟨by decide, by decide, by omega, by omega, by omega⟩
        unfold gLrg
        simp only
        rw [if_pos ok, show ((n : Int) + 1 - 1).toNat = n by omega]
        rw [rng1]
      have iS := imms_tNs (subsV (vsn n) n)
      simp (disch := first | assumption | (simp; done) | omega) [W_lc0, gl, sv, iS, dem1, -List.map_map]
      refine W_lcX (xs := subsV (vsn n) n) (ι := tN) (fun a => a.length == r) tN (fun _ => imm_tN _) (by rw [sizeL]; omega) (fun a ha => ?_) fun acc ha hu => ?_
      · have gt : gLen [tN a] = some (.int (a.length : Int), 9) := by unfold tN; rw [gLen_tup, List.length_map]
        by_cases c : a.length = r
        · simp (disch := first | assumption | (simp; done) | omega) [gt, c]
        · have c2 : ¬ (a.length : Int) = (r : Int) := by omega
          simp (disch := first | assumption | (simp; done) | omega) [gt, c, c2]
      · have e1 : acc.map (·.1) = (subs n r).map tN := ha
        simp (disch := first | assumption | (simp; done) | omega) [e1, hu, -List.map_map]
        exact hJ _ ⟨_, _, rfl⟩
    rintro _ ⟨a4, a5, rfl⟩
    have iS : imms ((subs n r).map tN) = true := imms_tNs _
    refine W_seqO (J := fun E => ∃ a4, E = [some (.int (n : Int), 0), some (.int (r : Int), 0), some (.int (k : Int), 0), some (.lst ((subs n r).map tN), 0), a4, some (.lst (((subs n r).map fun a => estQ ((castN a).take k) n k).map fr), 9)]) ?_ ?_
    · intro J' hJ
      simp (disch := first | assumption | (simp; done) | omega) [W_lc0, iS, -List.map_map]
      refine W_lcY (xs := subs n r) (ι := tN) (fun a => fr (estQ ((castN a).take k) n k)) (fun _ => imm_fr _) (by rw [sizeL]; omega) (fun a ha => ?_) fun acc ha hu => ?_
      · obtain ⟨h1, h2⟩ := hs a ha
        have cl : ((castN a).take k).length ≤ r := by
          unfold castN
          rw [List.length_take, List.length_map]
          omega
        obtain ⟨l, es⟩ := estimate_W (xs := (castN a).take k) (n := n) (k := k) (by omega) ⟨by omega, by omega⟩ (fun c => by
          rcases h2 with h2 | ⟨h2, h3⟩
          · omega
          · exact ⟨by omega, by omega⟩) (by omega)
        have c1 : gSl [tN a, .non, .int (k : Int)] = some (tD ((castN a).take k), 0) := by
          rw [tN_tD]
          unfold tD
          rw [gSl_tup]
          simp only [part, Option.bind_some, Option.map_some, cut_to]
        simp (disch := first | assumption | (simp; done) | omega) [c1, es, dem1]
      · have e1 : acc.map (·.1) = ((subs n r).map fun a => estQ ((castN a).take k) n k).map fr := by rw [ha, List.map_map]; rfl
        simp (disch := first | assumption | (simp; done) | omega) [e1, hu, -List.map_map]
        exact hJ _ ⟨_, rfl⟩
    rintro _ ⟨a4, rfl⟩
    have hq : ∀ q ∈ (subs n r).map fun a => estQ ((castN a).take k) n k, ∃ t : Int, q = Rat.divInt t 840 ∧ t.natAbs ≤ 2 ^ 17 := fun q hq => by
      obtain ⟨a, ha, rfl⟩ := List.mem_map.mp hq
      obtain ⟨h1, h2⟩ := hs a ha
      exact est_as2 (by omega) hk2 hr h1 h2
    have lq : ((subs n r).map fun a => estQ ((castN a).take k) n k).length = (subs n r).length := List.length_map _
    generalize ((subs n r).map fun a => estQ ((castN a).take k) n k) = qs at *
    have tw := total_W hq (by omega)
    rw [hsum, ← Rat.intCast_natCast, fr_int] at tw
    have iq : imms (qs.map fr) = true := imms_fr qs
    have gf : gInA false [.bl false, .lst ((qs.map fun _ => true).map D.bl)] = some (.bl false, 9) := by
      rw [gIn_bl _ _ _ (by rw [List.length_map, sizeL]; omega)]
      have : (qs.map fun _ => true).contains false = false := by
        rw [List.contains_eq_any_beq, List.any_map]
        simp
      rw [this]; rfl
    refine W_seqO (J := fun E => ∃ a4 l5, E = [some (.int (n : Int), 0), some (.int (r : Int), 0), some (.int (k : Int), 0), some (.lst ((subs n r).map tN), 0), a4, some (.lst (qs.map fr), l5)]) ?_ ?_
    · intro J' hJ
      simp (disch := first | assumption | (simp; done) | omega) [W_lc0, iq]
      refine W_lcB (xs := qs) (ι := fr) (fun _ => true) (by rw [sizeL]; omega) (fun q hq2 => ?_) fun acc ha hu => ?_
      · obtain ⟨t, ht, hb⟩ := hq q hq2
        have s2 : szR 17 10 q := by rw [ht]; exact szR_divInt hb (by decide) (by decide)
        have fw := is_fraction_W s2 (by decide) (by decide)
        simp (disch := first | assumption | (simp; done) | omega) [fw, dem1]
      · simp (disch := first | assumption | (simp; done) | omega) [ha, hu, gf, -List.map_map]
        exact hJ _ ⟨_, _, rfl⟩
    rintro _ ⟨a4, l5, rfl⟩
    have eqs : gEq [.tup [.int ((r * (subs n r).length : Nat) : Int), .int 1], .tup [.int ((r * (subs n r).length : Nat) : Int), .int 1]] = some (.bl true) := eq_t2 _ _
    rw [Int.natCast_mul] at tw eqs
    simp (disch := first | assumption | (simp; done) | omega) [tw, iq, lq, eqs, dem1, -List.map_map]
    exact hQ _ rfl
  obtain ⟨q, e, rfl⟩ := go
  exact e
def vsI (n : Nat) : List Int := (vsn n).map fun x : Nat => (x : Int)
theorem vsI_D (n : Nat) : (vsn n).map iN = (vsI n).map D.int := by unfold vsI; rw [List.map_map]; rfl
theorem law_places_spec (s : List Int) {n : Nat} (hn : n ≤ 1000) : W (S_law_places [dr s, .int (n : Int)]) fun r => ∃ (pl : List Int) (s' : List Int), r = (tD pl, 9, dr s') ∧ pl.Perm (vsI n) := by
  refine W_O fun Q' hQ => ?_
  unfold S_law_places S_law_placesb
  rw [W_mDef]
  have r1 : rgOk 1 := ⟨by decide, by decide⟩
  have rv : rgOk ((n : Int) + 1) := ⟨by omega, by omega⟩
  have gl : gLrg [.int 1, .int ((n : Int) + 1)] = some (.lst ((vsI n).map D.int), 9) := by
    have ok : RgOk 1 ((n : Int) + 1) := ⟨by decide, by decide, by omega, by omega, by omega⟩
    unfold gLrg
    simp only
    rw [if_pos ok, show ((n : Int) + 1 - 1).toNat = n by omega, rng1, vsI_D]
  have il := imms_ints (vsI n)
  obtain ⟨_, es, us, s', rfl, hp⟩ := shuffled_spec s (vsI n) D.int (fun _ => rfl) _ (.inl rfl) (by simp [vsI, vsn]; omega)
  have iu := imms_ints us
  simp (disch := first | assumption | (simp; done) | omega) [ent0_def, gl, es, il, iu, uni, dem1]
  exact hQ _ ⟨us, s', rfl, hp⟩
theorem vsI_nd (n : Nat) : (vsI n).Nodup := by
  unfold vsI vsn
  rw [List.map_map]
  exact List.Pairwise.map _ (fun a b h => by
    show ((a + 1 : Nat) : Int) ≠ ((b + 1 : Nat) : Int)
    omega) List.nodup_range
theorem pv_inj {pl : List Int} (nd : pl.Nodup) {x y : Nat} (hx : x < pl.length) (hy : y < pl.length) (h : pv pl x = pv pl y) : x = y := by
  unfold pv at h
  rw [List.getD_eq_getElem?_getD, List.getD_eq_getElem?_getD, List.getElem?_eq_getElem hx, List.getElem?_eq_getElem hy] at h
  exact (List.getElem_inj nd).mp h
theorem pv_nd {pl : List Int} (nd : pl.Nodup) {ks : List Nat} (hk : ∀ x ∈ ks, x < pl.length) (kn : ks.Nodup) : (ks.map (pv pl)).Nodup := by
  induction ks with
  | nil => simp
  | cons k ks ih =>
    obtain ⟨h1, h2⟩ := List.nodup_cons.mp kn
    rw [List.map_cons, List.nodup_cons]
    refine ⟨fun h => ?_, ih (fun x hx => hk x (List.mem_cons_of_mem _ hx)) h2⟩
    obtain ⟨y, hy, e⟩ := List.mem_map.mp h
    have := pv_inj nd (hk y (List.mem_cons_of_mem _ hy)) (hk k List.mem_cons_self) e
    subst this
    exact h1 hy
theorem bothN_nd (a b : List Nat) : (bothN a b).Nodup := by
  unfold bothN
  have h := srt_nodup.mpr (nodup_eraseDups ((a ++ b).map fun c : Nat => (c : Int)))
  have hp : ∀ x ∈ srt ((a ++ b).map fun c : Nat => (c : Int)).eraseDups, 0 ≤ x := fun x hx => by
    obtain ⟨c, _, rfl⟩ := List.mem_map.mp (List.mem_eraseDups.mp (srt_mem.mp hx))
    omega
  generalize srt ((a ++ b).map fun c : Nat => (c : Int)).eraseDups = l at *
  induction l with
  | nil => simp
  | cons x l ih =>
    obtain ⟨h1, h2⟩ := List.nodup_cons.mp h
    rw [List.map_cons, List.nodup_cons]
    refine ⟨fun g => ?_, ih h2 fun y hy => hp y (List.mem_cons_of_mem _ hy)⟩
    obtain ⟨y, hy, e⟩ := List.mem_map.mp g
    have a1 := hp x List.mem_cons_self
    have a2 := hp y (List.mem_cons_of_mem _ hy)
    have : y = x := by omega
    subst this
    exact h1 hy
theorem due_is {pl : List Int} (nd : pl.Nodup) {a b : List Nat} (ha : ∀ x ∈ a, x < pl.length) (hb : ∀ x ∈ b, x < pl.length) (an : a.Nodup) (bn : b.Nodup) (k : Nat) :
    (srt (lp pl a k ++ lp pl b k).eraseDups).take k = lp pl (bothN a b) k := by
  unfold lp
  rw [least_join (pv_nd nd ha an) (pv_nd nd hb bn)]
  congr 1
  refine srt_perm_eq ((List.perm_ext_iff_of_nodup (nodup_eraseDups _) (pv_nd nd (fun x hx => ?_) (bothN_nd a b))).mpr fun x => ?_)
  · rcases bothN_mem.mp hx with h | h
    · exact ha x h
    · exact hb x h
  · rw [List.mem_eraseDups, List.mem_append, List.mem_map, List.mem_map, List.mem_map]
    constructor
    · rintro (⟨y, hy, e⟩ | ⟨y, hy, e⟩)
      · exact ⟨y, bothN_mem.mpr (.inl hy), e⟩
      · exact ⟨y, bothN_mem.mpr (.inr hy), e⟩
    · rintro ⟨y, hy, e⟩
      rcases bothN_mem.mp hy with h | h
      · exact .inl ⟨y, h, e⟩
      · exact .inr ⟨y, h, e⟩
/-- the least places are sorted, unlike and between -/
theorem lp_last {pl : List Int} {n : Nat} (hp : pl.Perm (vsI n)) {ks : List Nat} (hk : ∀ x ∈ ks, x < pl.length) (kn : ks.Nodup) {k : Nat} (hn : n ≤ 12) (h2 : 2 ≤ k) (hl : k ≤ (lp pl ks k).length) : (lp pl ks k).getLastD 0 - 1 ≠ 0 ∧ ((lp pl ks k).getLastD 0).natAbs ≤ 2 ^ 20 := by
  have nd : pl.Nodup := hp.nodup_iff.mpr (vsI_nd n)
  have lt := srt_lt (pv_nd nd hk kn)
  have mem : ∀ x ∈ lp pl ks k, 1 ≤ x ∧ x ≤ n := fun x hx => by
    have h := srt_mem.mp (List.mem_of_mem_take hx)
    obtain ⟨y, hy, rfl⟩ := List.mem_map.mp h
    have hy := hk y hy
    have h3 : pv pl y ∈ pl := by
      unfold pv
      rw [List.getD_eq_getElem?_getD, List.getElem?_eq_getElem hy]
      exact List.getElem_mem _
    have h4 := hp.mem_iff.mp h3
    unfold vsI vsn at h4
    rw [List.map_map] at h4
    obtain ⟨i, hi, e⟩ := List.mem_map.mp h4
    have := List.mem_range.mp hi
    have e : ((i + 1 : Nat) : Int) = pv pl y := e
    omega
  have pw : (lp pl ks k).Pairwise (· < ·) := lt.sublist (List.take_sublist _ _)
  generalize lp pl ks k = L at *
  cases L with
  | nil => simp at hl; omega
  | cons x L =>
    cases L with
    | nil => simp at hl; omega
    | cons y L =>
      have hm : (x :: y :: L).getLastD 0 ∈ y :: L := by
        rw [List.getLastD_cons]
        rw [List.getLastD_cons]
        exact List.getLastD_mem_cons
      have h5 := (List.pairwise_cons.mp pw).1 _ hm
      have h6 := mem x List.mem_cons_self
      have h7 := mem _ (List.mem_cons_of_mem _ hm)
      omega
end
end Zk.Bg
namespace K36
noncomputable section
open PySem PySem.Spec PyProof.Rows L2 Zk
def topS (i : Nat) : Stmt := PySem.Challenge.pw_sketchkeep_k36_least_places_and_estimate.main.body.getD i (.Pass ⟨0, 0, 0, 0⟩)
abbrev s_fraction : Stmt := topS 3
theorem sc_fraction : FnScope ["n", "d", "divisor"] ["n", "d"] (defScope s_fraction) := ⟨rfl, rfl, rfl, by decide +kernel, rfl, by decide +kernel, by decide +kernel⟩
abbrev m_fraction := S_fraction
theorem ok_fraction {P : Program} {w : World} {K : PySem.W.Frag} {mg : Str → Option Value} {base : Heap} {f : Addr} {fd : FuncData} (z_gcd : mg "gcd" = some (.builtin "math.gcd")) (F : Fun K "fraction" "fraction" s_fraction f fd) : FnOk P w K mg base CX0 1 f fd ["n", "d"] (spM K none 2 m_fraction) :=
  F.zk (wr := (([0, 1] ++ []) ++ ([2] ++ []))) sc_fraction none (by decide) (fun i h => by cases h) fun cdv A outer s H E hr =>
    (ass_cons (as_if (at_cmp (ac_lt (ae_var 1) ae_int)) (ass_one (as_par 0 1 (aa_cons (ae_neg (ae_var 0)) (aa_cons (ae_neg (ae_var 1)) aa_nil)) sc_fraction.nd)) ass_nil) (ass_cons (as_set 2 (ae_gcd (by rfl) z_gcd (aa_cons (ae_var 0) (aa_cons (ae_var 1) aa_nil))) sc_fraction.nd) (ass_one (as_ret (ae_tup (aa_cons (ae_div (ae_var 0) (ae_var 2)) (aa_cons (ae_div (ae_var 1) (ae_var 2)) aa_nil)))))))
abbrev s_plus : Stmt := topS 4
theorem sc_plus : FnScope ["f", "g"] ["f", "g"] (defScope s_plus) := ⟨rfl, rfl, rfl, by decide +kernel, rfl, by decide +kernel, by decide +kernel⟩
abbrev m_plus := S_plus
theorem ok_plus {P : Program} {w : World} {K : PySem.W.Frag} {mg : Str → Option Value} {base : Heap} {f : Addr} {fd : FuncData} (o_fraction : Ok P w K mg base 1 "fraction" ["n", "d"] none 2 S_fraction) (F : Fun K "plus" "plus" s_plus f fd) : FnOk P w K mg base CX0 2 f fd ["f", "g"] (spM K none 2 m_plus) :=
  F.zk (wr := []) sc_plus none (by decide) (fun i h => by cases h) fun cdv A outer s H E hr =>
    (ass_one (as_ret (ae_fn o_fraction hr (by rfl) (aa_cons (ae_add (ae_mul (ae_ixd hr.u1 (ae_var 0) ae_int) (ae_ixd hr.u1 (ae_var 1) ae_int)) (ae_mul (ae_ixd hr.u1 (ae_var 1) ae_int) (ae_ixd hr.u1 (ae_var 0) ae_int))) (aa_cons (ae_mul (ae_ixd hr.u1 (ae_var 0) ae_int) (ae_ixd hr.u1 (ae_var 1) ae_int)) aa_nil)) (npc (npc np0)))))
abbrev s_over : Stmt := topS 5
theorem sc_over : FnScope ["f", "g"] ["f", "g"] (defScope s_over) := ⟨rfl, rfl, rfl, by decide +kernel, rfl, by decide +kernel, by decide +kernel⟩
abbrev m_over := S_over
theorem ok_over {P : Program} {w : World} {K : PySem.W.Frag} {mg : Str → Option Value} {base : Heap} {f : Addr} {fd : FuncData} (o_fraction : Ok P w K mg base 1 "fraction" ["n", "d"] none 2 S_fraction) (F : Fun K "over" "over" s_over f fd) : FnOk P w K mg base CX0 2 f fd ["f", "g"] (spM K none 2 m_over) :=
  F.zk (wr := []) sc_over none (by decide) (fun i h => by cases h) fun cdv A outer s H E hr =>
    (ass_one (as_ret (ae_fn o_fraction hr (by rfl) (aa_cons (ae_mul (ae_ixd hr.u1 (ae_var 0) ae_int) (ae_ixd hr.u1 (ae_var 1) ae_int)) (aa_cons (ae_mul (ae_ixd hr.u1 (ae_var 0) ae_int) (ae_ixd hr.u1 (ae_var 1) ae_int)) aa_nil)) (npc (npc np0)))))
abbrev s_sum_of : Stmt := topS 6
theorem sc_sum_of : FnScope ["fractions", "result", "f"] ["fractions"] (defScope s_sum_of) := ⟨rfl, rfl, rfl, by decide +kernel, rfl, by decide +kernel, by decide +kernel⟩
abbrev m_sum_of := S_sum_of
theorem ok_sum_of {P : Program} {w : World} {K : PySem.W.Frag} {mg : Str → Option Value} {base : Heap} {f : Addr} {fd : FuncData} (o_plus : Ok P w K mg base 2 "plus" ["f", "g"] none 2 S_plus) (F : Fun K "sum_of" "sum_of" s_sum_of f fd) : FnOk P w K mg base CX0 3 f fd ["fractions"] (spM K none 1 m_sum_of) :=
  F.zk (wr := ([1] ++ (([2] ++ [1]) ++ []))) sc_sum_of none (by decide) (fun i h => by cases h) fun cdv A outer s H E hr =>
    (ass_cons (as_set 1 (ae_tup (aa_cons ae_int (aa_cons ae_int aa_nil))) sc_sum_of.nd) (ass_cons (as_for PassesOwn.never (ai_seq (ae_var 0)) (ag_n 2 sc_sum_of.nd) (ass_one (as_set 1 (ae_fn o_plus hr (by rfl) (aa_cons (ae_var 1) (aa_cons (ae_var 2) aa_nil)) (npc (npc np0))) sc_sum_of.nd))) (ass_one (as_ret (ae_var 1)))))
abbrev s_least_places : Stmt := topS 8
abbrev n_least_places : List Str := ["keys", "places", "k", "key"]
theorem sc_least_places : FnScope ["keys", "places", "k", "key"] ["keys", "places", "k"] (defScope s_least_places) := ⟨rfl, rfl, rfl, by decide +kernel, rfl, by decide +kernel, by decide +kernel⟩
abbrev m_least_places := S_least_places
theorem ok_least_places {P : Program} {w : World} {K : PySem.W.Frag} {mg : Str → Option Value} {base : Heap} {f : Addr} {fd : FuncData} (z_sorted : mg "sorted" = none) (z_tuple : mg "tuple" = none) (F : Fun K "least_places" "least_places" s_least_places f fd) : FnOk P w K mg base CX0 1 f fd ["keys", "places", "k"] (spM K none 3 m_least_places) :=
  F.zk (wr := []) sc_least_places none (by decide) (fun i h => by cases h) fun cdv A outer s H E hr =>
    (ass_one (as_ret (ae_bty call_tuple_of al_tuple (by rfl) z_tuple boot_tuple (aa_cons (ae_sl (ae_srt (by rfl) z_sorted (ae_lc [("key", 3)] sc_least_places.nd (blkOk_by (N := n_least_places) (sc := defScope s_least_places) (by decide +kernel)) (ai_seq (ae_var 0)) (fun _ _ _ _ _ => (ag_n 3 sc_least_places.nd)) (fun _ _ _ _ _ => ats_nil) (fun _ _ _ _ _ => (ae_ixd hr.u1 (ae_var 1) (ae_var 3))) gl_v)) ao_none (ao_some (ae_var 2))) aa_nil))))
abbrev s_joined_least : Stmt := topS 9
abbrev n_joined_least : List Str := ["least", "other", "k", "row", "place"]
theorem sc_joined_least : FnScope ["least", "other", "k", "row", "place"] ["least", "other", "k"] (defScope s_joined_least) := ⟨rfl, rfl, rfl, by decide +kernel, rfl, by decide +kernel, by decide +kernel⟩
abbrev m_joined_least := S_joined_least
theorem ok_joined_least {P : Program} {w : World} {K : PySem.W.Frag} {mg : Str → Option Value} {base : Heap} {f : Addr} {fd : FuncData} (z_sorted : mg "sorted" = none) (z_tuple : mg "tuple" = none) (F : Fun K "joined_least" "joined_least" s_joined_least f fd) : FnOk P w K mg base CX0 1 f fd ["least", "other", "k"] (spM K none 3 m_joined_least) :=
  F.zk (wr := []) sc_joined_least none (by decide) (fun i h => by cases h) fun cdv A outer s H E hr =>
    (ass_one (as_ret (ae_bty call_tuple_of al_tuple (by rfl) z_tuple boot_tuple (aa_cons (ae_sl (ae_srtSc2 [("row", 3), ("place", 4)] [4] sc_joined_least.nd (blkOk_by (N := n_joined_least) (sc := defScope s_joined_least) (by decide +kernel)) (ai_seq (ae_tup (aa_cons (ae_var 0) (aa_cons (ae_var 1) aa_nil)))) (fun _ _ _ _ _ => (ag_n 3 sc_joined_least.nd)) (fun _ _ _ _ _ => ats_nil) (fun _ _ _ _ _ => (ai_seq (ae_var 3))) (fun _ _ _ _ _ => (ag_n 4 sc_joined_least.nd)) (fun _ _ _ _ _ => ats_nil) (fun _ _ _ _ _ => (ae_var 4)) gl_v gl_v (by rfl) z_sorted) ao_none (ao_some (ae_var 2))) aa_nil))))
abbrev s_estimate : Stmt := topS 10
theorem sc_estimate : FnScope ["least", "N", "k"] ["least", "N", "k"] (defScope s_estimate) := ⟨rfl, rfl, rfl, by decide +kernel, rfl, by decide +kernel, by decide +kernel⟩
abbrev m_estimate := S_estimate
theorem ok_estimate {P : Program} {w : World} {K : PySem.W.Frag} {mg : Str → Option Value} {base : Heap} {f : Addr} {fd : FuncData} (z_len : mg "len" = none) (o_fraction : Ok P w K mg base 1 "fraction" ["n", "d"] none 2 S_fraction) (F : Fun K "estimate" "estimate" s_estimate f fd) : FnOk P w K mg base CX0 2 f fd ["least", "N", "k"] (spM K none 3 m_estimate) :=
  F.zk (wr := (([] ++ []) ++ [])) sc_estimate none (by decide) (fun i h => by cases h) fun cdv A outer s H E hr =>
    (ass_cons (as_if (at_cmp (ac_lt (ae_blt call_len al_len (by rfl) z_len boot_len (aa_cons (ae_var 0) aa_nil)) (ae_var 2))) (ass_one (as_ret (ae_tup (aa_cons (ae_blt call_len al_len (by rfl) z_len boot_len (aa_cons (ae_var 0) aa_nil)) (aa_cons ae_int aa_nil))))) ass_nil) (ass_one (as_ret (ae_fn o_fraction hr (by rfl) (aa_cons (ae_mul (ae_var 1) (ae_sub (ae_var 2) ae_int)) (aa_cons (ae_sub (ae_ixd hr.u1 (ae_var 0) (ae_neg ae_int)) ae_int) aa_nil)) (npc (npc np0))))))
abbrev s_mean_estimate : Stmt := topS 11
abbrev n_mean_estimate : List Str := ["D", "N", "k", "told", "chosen"]
theorem sc_mean_estimate : FnScope ["D", "N", "k", "told", "chosen"] ["D", "N", "k"] (defScope s_mean_estimate) := ⟨rfl, rfl, rfl, by decide +kernel, rfl, by decide +kernel, by decide +kernel⟩
abbrev m_mean_estimate := S_mean_estimate
theorem ok_mean_estimate {P : Program} {w : World} {K : PySem.W.Frag} {mg : Str → Option Value} {base : Heap} {f : Addr} {fd : FuncData} (z_combinations : mg "combinations" = some (.type "itertools.combinations")) (z_range : mg "range" = none) (z_len : mg "len" = none) (o_estimate : Ok P w K mg base 3 "estimate" ["least", "N", "k"] none 3 S_estimate) (o_over : Ok P w K mg base 3 "over" ["f", "g"] none 2 S_over) (o_sum_of : Ok P w K mg base 3 "sum_of" ["fractions"] none 1 S_sum_of) (F : Fun K "mean_estimate" "mean_estimate" s_mean_estimate f fd) : FnOk P w K mg base CX0 4 f fd ["D", "N", "k"] (spM K none 3 m_mean_estimate) :=
  F.zk (wr := ([3] ++ [])) sc_mean_estimate none (by decide) (fun i h => by cases h) fun cdv A outer s H E hr =>
    (ass_cons (as_setLc 3 [("chosen", 4)] sc_mean_estimate.nd (blkOk_by (N := n_mean_estimate) (sc := defScope s_mean_estimate) (by decide +kernel)) (ai_cmbR (aa_cons ae_int (aa_cons (ae_add (ae_var 1) ae_int) aa_nil)) (ae_var 0) (by rfl) z_combinations (by rfl) z_range) (fun _ _ _ _ _ => (ag_n 4 sc_mean_estimate.nd)) (fun _ _ _ _ _ => ats_nil) (fun _ _ _ _ _ => (ae_fn o_estimate hr (by rfl) (aa_cons (ae_sl (ae_var 4) ao_none (ao_some (ae_var 2))) (aa_cons (ae_var 1) (aa_cons (ae_var 2) aa_nil))) (npc (npc (npc np0))))) gl_v (by decide +kernel)) (ass_one (as_ret (ae_fn o_over hr (by rfl) (aa_cons (ae_fn o_sum_of hr (by rfl) (aa_cons (ae_var 3) aa_nil) (npc np0)) (aa_cons (ae_tup (aa_cons (ae_blt call_len al_len (by rfl) z_len boot_len (aa_cons (ae_var 3) aa_nil)) (aa_cons ae_int aa_nil))) aa_nil)) (npc (npc np0))))))
abbrev s__law_draws : Stmt := topS 13
abbrev n__law_draws : List Str := ["script", "many", "cells", "cell", "left", "draws", "k", "place", "mixed"]
theorem sc__law_draws : FnScope ["script", "many", "cells", "cell", "left", "draws", "k", "place", "mixed"] ["script", "many"] (defScope s__law_draws) := ⟨rfl, rfl, rfl, by decide +kernel, rfl, by decide +kernel, by decide +kernel⟩
abbrev m__law_draws := S_law_draws
theorem ok__law_draws {P : Program} {w : World} {K : PySem.W.Frag} {mg : Str → Option Value} {base : Heap} {f : Addr} {fd : FuncData} (z_int : mg "int" = none) (z_len : mg "len" = none) (z_list : mg "list" = none) (z_range : mg "range" = none) (F : Fun K "_law_draws" "_law_draws" s__law_draws f fd) : FnOk P w K mg base CX0 1 f fd ["script", "many"] (spM K none 2 m__law_draws) :=
  F.zk (wr := ([2] ++ (([] ++ []) ++ ([4] ++ ([5] ++ (([6] ++ ([7] ++ (([] ++ []) ++ ([8] ++ [])))) ++ ([] ++ []))))))) sc__law_draws none (by decide) (fun i h => by cases h) fun cdv A outer s H E hr =>
    (ass_cons (as_setLc 2 [("cell", 3)] sc__law_draws.nd (blkOk_by (N := n__law_draws) (sc := defScope s__law_draws) (by decide +kernel)) (ai_seq (ae_sl (ae_var 0) ao_none (ao_some ae_int))) (fun _ _ _ _ _ => (ag_n 3 sc__law_draws.nd)) (fun _ _ _ _ _ => ats_nil) (fun _ _ _ _ _ => (ae_mod (ae_bty call_int1 al_int (by rfl) z_int boot_int (aa_cons (ae_var 3) aa_nil)) (ae_shl ae_int ae_int))) gl_v (by decide +kernel)) (ass_cons (as_if (at_cmp (ac_eq hr.u64 (ae_blt call_len al_len (by rfl) z_len boot_len (aa_cons (ae_var 2) aa_nil)) ae_int)) (ass_one (as_ex (ae_app 2 ae_int))) ass_nil) (ass_cons (as_set 4 (ae_bty call_list_of al_list (by rfl) z_list boot_list (aa_cons (ae_var 2) aa_nil)) sc__law_draws.nd) (ass_cons (as_set 5 (ae_lst aa_nil) sc__law_draws.nd) (ass_cons (as_for PassesOwn.never (ai_rg1 (ae_var 1) (by rfl) z_range) (ag_n 6 sc__law_draws.nd) (ass_cons (as_set 7 (ae_mod (ae_bty call_int1 al_int (by rfl) z_int boot_int (aa_cons (ae_var 6) aa_nil)) (ae_blt call_len al_len (by rfl) z_len boot_len (aa_cons (ae_var 2) aa_nil))) sc__law_draws.nd) (ass_one (as_if (at_w (aw_and (at_cmp (ac_ge (ae_ixd hr.u1 (ae_var 2) (ae_var 7)) (ae_pow ae_int ae_int))) (aw_and1 (at_cmp (ac_gt (ae_ixd hr.u1 (ae_var 4) (ae_var 7)) ae_int))))) (ass_cons (as_ex (ae_app 5 (ae_mod (ae_bty call_int1 al_int (by rfl) z_int boot_int (aa_cons (ae_ixd hr.u1 (ae_var 4) (ae_var 7)) aa_nil)) ae_int))) (ass_one (as_put 4 hr.u1 (ae_var 7) (ae_div (ae_ixd hr.u1 (ae_var 4) (ae_var 7)) ae_int)))) (ass_cons (as_set 8 (ae_mod (ae_bty call_int1 al_int (by rfl) z_int boot_int (aa_cons (ae_add (ae_add (ae_mul (ae_ixd hr.u1 (ae_var 2) (ae_var 7)) ae_int) (ae_mul (ae_var 6) ae_int)) ae_int) aa_nil)) ae_int) sc__law_draws.nd) (ass_one (as_ex (ae_app 5 (ae_mod (ae_bty call_int1 al_int (by rfl) z_int boot_int (aa_cons (ae_add (ae_add (ae_mul (ae_var 8) (ae_var 8)) (ae_mul ae_int (ae_var 8))) (ae_var 6)) aa_nil)) ae_int))))))))) (ass_cons (as_ex (ae_rev 5)) (ass_one (as_ret (ae_var 5)))))))))
abbrev s__law_take : Stmt := topS 14
theorem sc__law_take : FnScope ["draws", "many"] ["draws", "many"] (defScope s__law_take) := ⟨rfl, rfl, rfl, by decide +kernel, rfl, by decide +kernel, by decide +kernel⟩
abbrev m__law_take := S_law_take
theorem ok__law_take {P : Program} {w : World} {K : PySem.W.Frag} {mg : Str → Option Value} {base : Heap} {f : Addr} {fd : FuncData} (z_len : mg "len" = none) (z_int : mg "int" = none) (F : Fun K "_law_take" "_law_take" s__law_take f fd) : FnOk P w K mg base CX0 1 f fd ["draws", "many"] (spM K (some 0) 2 m__law_take) :=
  F.zk (wr := (([] ++ []) ++ [])) sc__law_take (some 0) (by decide) (fun i h => by cases h; decide) fun cdv A outer s H E hr =>
    (ass_cons (as_if (at_cmp (ac_eq hr.u64 (ae_blt call_len al_len (by rfl) z_len boot_len (aa_cons (ae_var 0) aa_nil)) ae_int)) (ass_one (as_ret ae_int)) ass_nil) (ass_one (as_ret (ae_mod (ae_bty call_int1 al_int (by rfl) z_int boot_int (aa_cons (ae_pop 0) aa_nil)) (ae_var 1)))))
abbrev s__law_pick : Stmt := topS 15
theorem sc__law_pick : FnScope ["draws", "row"] ["draws", "row"] (defScope s__law_pick) := ⟨rfl, rfl, rfl, by decide +kernel, rfl, by decide +kernel, by decide +kernel⟩
abbrev m__law_pick := S_law_pick
theorem ok__law_pick {P : Program} {w : World} {K : PySem.W.Frag} {mg : Str → Option Value} {base : Heap} {f : Addr} {fd : FuncData} (z_len : mg "len" = none) (o__law_take : Ok P w K mg base 1 "_law_take" ["draws", "many"] (some 0) 2 S_law_take) (F : Fun K "_law_pick" "_law_pick" s__law_pick f fd) : FnOk P w K mg base CX0 2 f fd ["draws", "row"] (spM K (some 0) 2 m__law_pick) :=
  F.zk (wr := []) sc__law_pick (some 0) (by decide) (fun i h => by cases h; decide) fun cdv A outer s H E hr =>
    (ass_one (as_ret (ae_ixd hr.u1 (ae_var 1) (ae_fn o__law_take hr (by rfl) (aa_cons (ae_var 0) (aa_cons (ae_blt call_len al_len (by rfl) z_len boot_len (aa_cons (ae_var 1) aa_nil)) aa_nil)) (npc (npc np0))))))
abbrev s__law_same : Stmt := topS 16
abbrev n__law_same : List Str := ["actual", "due", "k"]
theorem sc__law_same : FnScope ["actual", "due", "k"] ["actual", "due"] (defScope s__law_same) := ⟨rfl, rfl, rfl, by decide +kernel, rfl, by decide +kernel, by decide +kernel⟩
abbrev m__law_same := S_law_same
theorem ok__law_same {P : Program} {w : World} {K : PySem.W.Frag} {mg : Str → Option Value} {base : Heap} {f : Addr} {fd : FuncData} (z_list : mg "list" = none) (z_tuple : mg "tuple" = none) (z_isinstance : mg "isinstance" = none) (z_len : mg "len" = none) (z_range : mg "range" = none) (z_bool : mg "bool" = none) (z_int : mg "int" = none) (z_str : mg "str" = none) (F : Fun K "_law_same" "_law_same" s__law_same f fd) (hm : mg "_law_same" = some (.ref f)) (hb : Binds K fd ["actual", "due"] []) : ∀ n : Nat, FnOk P w K mg base CX0 (0 + n) f fd ["actual", "due"] (spM K none 2 (m__law_same n))
  | 0 => fn_none fun ds => rfl
  | n + 1 =>
    have o__law_same : Ok P w K mg base (0 + n) "_law_same" ["actual", "due"] none 2 (m__law_same n) := ⟨f, fd, ok__law_same z_list z_tuple z_isinstance z_len z_range z_bool z_int z_str F hm hb n, hm, F.kp, hb⟩
    F.zk (wr := (((([] ++ []) ++ (([] ++ []) ++ [])) ++ []) ++ (([] ++ []) ++ (([] ++ []) ++ [])))) sc__law_same none (by decide) (fun i h => by cases h) fun cdv A outer s H E hr =>
      (ass_cons (as_if (at_tru (ae_blt call_isiA al_isi (by rfl) z_isinstance boot_isinstance (aa_cons (ae_var 1) (aa_cons (ae_tup (aa_cons (ae_typ (by rfl) z_tuple boot_tuple) (aa_cons (ae_typ (by rfl) z_list boot_list) aa_nil))) aa_nil)))) (ass_cons (as_if (at_w (aw_or (at_cmp (ac_ne hr.u64 (ae_blt call_isiA al_isi (by rfl) z_isinstance boot_isinstance (aa_cons (ae_var 0) (aa_cons (ae_typ (by rfl) z_tuple boot_tuple) aa_nil))) (ae_blt call_isiA al_isi (by rfl) z_isinstance boot_isinstance (aa_cons (ae_var 1) (aa_cons (ae_typ (by rfl) z_tuple boot_tuple) aa_nil))))) (aw_or1 (at_cmp (ac_ne hr.u64 (ae_blt call_isiA al_isi (by rfl) z_isinstance boot_isinstance (aa_cons (ae_var 0) (aa_cons (ae_typ (by rfl) z_list boot_list) aa_nil))) (ae_blt call_isiA al_isi (by rfl) z_isinstance boot_isinstance (aa_cons (ae_var 1) (aa_cons (ae_typ (by rfl) z_list boot_list) aa_nil)))))))) (ass_one (as_ret ae_bl)) ass_nil) (ass_cons (as_if (at_cmp (ac_ne hr.u64 (ae_blt call_len al_len (by rfl) z_len boot_len (aa_cons (ae_var 0) aa_nil)) (ae_blt call_len al_len (by rfl) z_len boot_len (aa_cons (ae_var 1) aa_nil)))) (ass_one (as_ret ae_bl)) ass_nil) (ass_one (as_ret (ae_cmp (ac_notIn hr.u65 ae_bl (ae_lc [("k", 2)] sc__law_same.nd (blkOk_by (N := n__law_same) (sc := defScope s__law_same) (by decide +kernel)) (ai_rg1 (ae_blt call_len al_len (by rfl) z_len boot_len (aa_cons (ae_var 1) aa_nil)) (by rfl) z_range) (fun _ _ _ _ _ => (ag_n 2 sc__law_same.nd)) (fun _ _ _ _ _ => ats_nil) (fun _ _ _ _ _ => (ae_fn o__law_same hr (by rfl) (aa_cons (ae_ixd hr.u1 (ae_var 0) (ae_var 2)) (aa_cons (ae_ixd hr.u1 (ae_var 1) (ae_var 2)) aa_nil)) (npc (npc np0)))) gl_v))))))) ass_nil) (ass_cons (as_if (at_w (aw_or (at_cmp (ac_ne hr.u64 (ae_blt call_isiA al_isi (by rfl) z_isinstance boot_isinstance (aa_cons (ae_var 0) (aa_cons (ae_typ (by rfl) z_bool boot_bool) aa_nil))) (ae_blt call_isiA al_isi (by rfl) z_isinstance boot_isinstance (aa_cons (ae_var 1) (aa_cons (ae_typ (by rfl) z_bool boot_bool) aa_nil))))) (aw_or1 (at_cmp (ac_ne hr.u64 (ae_blt call_isiA al_isi (by rfl) z_isinstance boot_isinstance (aa_cons (ae_var 0) (aa_cons (ae_typ (by rfl) z_int boot_int) aa_nil))) (ae_blt call_isiA al_isi (by rfl) z_isinstance boot_isinstance (aa_cons (ae_var 1) (aa_cons (ae_typ (by rfl) z_int boot_int) aa_nil)))))))) (ass_one (as_ret ae_bl)) ass_nil) (ass_cons (as_if (at_w (aw_or (at_cmp (ac_ne hr.u64 (ae_blt call_isiA al_isi (by rfl) z_isinstance boot_isinstance (aa_cons (ae_var 0) (aa_cons (ae_typ (by rfl) z_str boot_str) aa_nil))) (ae_blt call_isiA al_isi (by rfl) z_isinstance boot_isinstance (aa_cons (ae_var 1) (aa_cons (ae_typ (by rfl) z_str boot_str) aa_nil))))) (aw_or1 (at_cmp (ac_ne hr.u64 (ae_cmp (ac_isN (ae_var 0))) (ae_cmp (ac_isN (ae_var 1)))))))) (ass_one (as_ret ae_bl)) ass_nil) (ass_one (as_ret (ae_cmp (ac_eq hr.u64 (ae_var 0) (ae_var 1))))))))
abbrev s__law_shuffled : Stmt := topS 17
theorem sc__law_shuffled : FnScope ["draws", "row", "left", "told", "k"] ["draws", "row"] (defScope s__law_shuffled) := ⟨rfl, rfl, rfl, by decide +kernel, rfl, by decide +kernel, by decide +kernel⟩
abbrev m__law_shuffled := S_law_shuffled
theorem ok__law_shuffled {P : Program} {w : World} {K : PySem.W.Frag} {mg : Str → Option Value} {base : Heap} {f : Addr} {fd : FuncData} (z_list : mg "list" = none) (z_range : mg "range" = none) (z_len : mg "len" = none) (o__law_take : Ok P w K mg base 1 "_law_take" ["draws", "many"] (some 0) 2 S_law_take) (F : Fun K "_law_shuffled" "_law_shuffled" s__law_shuffled f fd) : FnOk P w K mg base CX0 2 f fd ["draws", "row"] (spM K (some 0) 2 m__law_shuffled) :=
  F.zk (wr := ([2] ++ ([3] ++ (([4] ++ []) ++ [])))) sc__law_shuffled (some 0) (by decide) (fun i h => by cases h; decide) fun cdv A outer s H E hr =>
    (ass_cons (as_set 2 (ae_bty call_list_of al_list (by rfl) z_list boot_list (aa_cons (ae_var 1) aa_nil)) sc__law_shuffled.nd) (ass_cons (as_set 3 (ae_lst aa_nil) sc__law_shuffled.nd) (ass_cons (as_for PassesOwn.never (ai_rg1 (ae_blt call_len al_len (by rfl) z_len boot_len (aa_cons (ae_var 2) aa_nil)) (by rfl) z_range) (ag_n 4 sc__law_shuffled.nd) (ass_one (as_ex (ae_app 3 (ae_popAt 2 (ae_fn o__law_take hr (by rfl) (aa_cons (ae_var 0) (aa_cons (ae_blt call_len al_len (by rfl) z_len boot_len (aa_cons (ae_var 2) aa_nil)) aa_nil)) (npc (npc np0)))))))) (ass_one (as_ret (ae_var 3))))))
abbrev s__law_is_int : Stmt := topS 18
theorem sc__law_is_int : FnScope ["thing"] ["thing"] (defScope s__law_is_int) := ⟨rfl, rfl, rfl, by decide +kernel, rfl, by decide +kernel, by decide +kernel⟩
abbrev m__law_is_int := S_law_is_int
theorem ok__law_is_int {P : Program} {w : World} {K : PySem.W.Frag} {mg : Str → Option Value} {base : Heap} {f : Addr} {fd : FuncData} (z_int : mg "int" = none) (z_isinstance : mg "isinstance" = none) (z_bool : mg "bool" = none) (F : Fun K "_law_is_int" "_law_is_int" s__law_is_int f fd) : FnOk P w K mg base CX0 1 f fd ["thing"] (spM K none 1 m__law_is_int) :=
  F.zk (wr := []) sc__law_is_int none (by decide) (fun i h => by cases h) fun cdv A outer s H E hr =>
    (ass_one (as_ret (ae_andV (ae_blt call_isiA al_isi (by rfl) z_isinstance boot_isinstance (aa_cons (ae_var 0) (aa_cons (ae_typ (by rfl) z_int boot_int) aa_nil))) (ae_one (ae_notV (ae_blt call_isiA al_isi (by rfl) z_isinstance boot_isinstance (aa_cons (ae_var 0) (aa_cons (ae_typ (by rfl) z_bool boot_bool) aa_nil))))))))
abbrev s__law_gcd : Stmt := topS 19
theorem sc__law_gcd : FnScope ["one", "other", "a", "b", "turn", "c"] ["one", "other"] (defScope s__law_gcd) := ⟨rfl, rfl, rfl, by decide +kernel, rfl, by decide +kernel, by decide +kernel⟩
abbrev m__law_gcd := S_law_gcd
theorem ok__law_gcd {P : Program} {w : World} {K : PySem.W.Frag} {mg : Str → Option Value} {base : Heap} {f : Addr} {fd : FuncData} (z_abs : mg "abs" = none) (z_range : mg "range" = none) (z_int : mg "int" = none) (F : Fun K "_law_gcd" "_law_gcd" s__law_gcd f fd) : FnOk P w K mg base CX0 1 f fd ["one", "other"] (spM K none 2 m__law_gcd) :=
  F.zk (wr := ([2] ++ ([3] ++ (([4] ++ (([] ++ []) ++ ([5] ++ ([2] ++ [3])))) ++ [])))) sc__law_gcd none (by decide) (fun i h => by cases h) fun cdv A outer s H E hr =>
    (ass_cons (as_set 2 (ae_blt call_abs al_abs (by rfl) z_abs boot_abs (aa_cons (ae_var 0) aa_nil)) sc__law_gcd.nd) (ass_cons (as_set 3 (ae_blt call_abs al_abs (by rfl) z_abs boot_abs (aa_cons (ae_var 1) aa_nil)) sc__law_gcd.nd) (ass_cons (as_for PassesOwn.never (ai_rg1 ae_int (by rfl) z_range) (ag_n 4 sc__law_gcd.nd) (ass_cons (as_if (at_cmp (ac_eq hr.u64 (ae_var 3) ae_int)) (ass_one as_bk) ass_nil) (ass_cons (as_set 5 (ae_mod (ae_bty call_int1 al_int (by rfl) z_int boot_int (aa_cons (ae_var 2) aa_nil)) (ae_var 3)) sc__law_gcd.nd) (ass_cons (as_set 2 (ae_var 3) sc__law_gcd.nd) (ass_one (as_set 3 (ae_var 5) sc__law_gcd.nd)))))) (ass_one (as_ret (ae_var 2))))))
abbrev s__law_frac : Stmt := topS 20
theorem sc__law_frac : FnScope ["n", "d", "c"] ["n", "d"] (defScope s__law_frac) := ⟨rfl, rfl, rfl, by decide +kernel, rfl, by decide +kernel, by decide +kernel⟩
abbrev m__law_frac := S_law_frac
theorem ok__law_frac {P : Program} {w : World} {K : PySem.W.Frag} {mg : Str → Option Value} {base : Heap} {f : Addr} {fd : FuncData} (z_max : mg "max" = none) (o__law_gcd : Ok P w K mg base 1 "_law_gcd" ["one", "other"] none 2 S_law_gcd) (F : Fun K "_law_frac" "_law_frac" s__law_frac f fd) : FnOk P w K mg base CX0 2 f fd ["n", "d"] (spM K none 2 m__law_frac) :=
  F.zk (wr := ([2] ++ (([2] ++ []) ++ []))) sc__law_frac none (by decide) (fun i h => by cases h) fun cdv A outer s H E hr =>
    (ass_cons (as_set 2 (ae_blt call_maxA al_max (by rfl) z_max boot_max (aa_cons ae_int (aa_cons (ae_fn o__law_gcd hr (by rfl) (aa_cons (ae_var 0) (aa_cons (ae_var 1) aa_nil)) (npc (npc np0))) aa_nil))) sc__law_frac.nd) (ass_cons (as_if (at_cmp (ac_lt (ae_var 1) ae_int)) (ass_one (as_set 2 (ae_sub ae_int (ae_var 2)) sc__law_frac.nd)) ass_nil) (ass_one (as_ret (ae_tup (aa_cons (ae_divZ (ae_var 0) (ae_var 2)) (aa_cons (ae_divZ (ae_var 1) (ae_var 2)) aa_nil)))))))
abbrev s__law_plus : Stmt := topS 21
theorem sc__law_plus : FnScope ["one", "other"] ["one", "other"] (defScope s__law_plus) := ⟨rfl, rfl, rfl, by decide +kernel, rfl, by decide +kernel, by decide +kernel⟩
abbrev m__law_plus := S_law_plus
theorem ok__law_plus {P : Program} {w : World} {K : PySem.W.Frag} {mg : Str → Option Value} {base : Heap} {f : Addr} {fd : FuncData} (o__law_frac : Ok P w K mg base 2 "_law_frac" ["n", "d"] none 2 S_law_frac) (F : Fun K "_law_plus" "_law_plus" s__law_plus f fd) : FnOk P w K mg base CX0 3 f fd ["one", "other"] (spM K none 2 m__law_plus) :=
  F.zk (wr := []) sc__law_plus none (by decide) (fun i h => by cases h) fun cdv A outer s H E hr =>
    (ass_one (as_ret (ae_fn o__law_frac hr (by rfl) (aa_cons (ae_add (ae_mul (ae_ixd hr.u1 (ae_var 0) ae_int) (ae_ixd hr.u1 (ae_var 1) ae_int)) (ae_mul (ae_ixd hr.u1 (ae_var 1) ae_int) (ae_ixd hr.u1 (ae_var 0) ae_int))) (aa_cons (ae_mul (ae_ixd hr.u1 (ae_var 0) ae_int) (ae_ixd hr.u1 (ae_var 1) ae_int)) aa_nil)) (npc (npc np0)))))
abbrev s__law_is_fraction : Stmt := topS 22
theorem sc__law_is_fraction : FnScope ["thing"] ["thing"] (defScope s__law_is_fraction) := ⟨rfl, rfl, rfl, by decide +kernel, rfl, by decide +kernel, by decide +kernel⟩
abbrev m__law_is_fraction := S_law_is_fraction
theorem ok__law_is_fraction {P : Program} {w : World} {K : PySem.W.Frag} {mg : Str → Option Value} {base : Heap} {f : Addr} {fd : FuncData} (z_tuple : mg "tuple" = none) (z_isinstance : mg "isinstance" = none) (z_len : mg "len" = none) (o__law_is_int : Ok P w K mg base 1 "_law_is_int" ["thing"] none 1 S_law_is_int) (o__law_gcd : Ok P w K mg base 1 "_law_gcd" ["one", "other"] none 2 S_law_gcd) (F : Fun K "_law_is_fraction" "_law_is_fraction" s__law_is_fraction f fd) : FnOk P w K mg base CX0 2 f fd ["thing"] (spM K none 1 m__law_is_fraction) :=
  F.zk (wr := (([] ++ []) ++ [])) sc__law_is_fraction none (by decide) (fun i h => by cases h) fun cdv A outer s H E hr =>
    (ass_cons (as_if (at_w (aw_or (at_not (at_tru (ae_blt call_isiA al_isi (by rfl) z_isinstance boot_isinstance (aa_cons (ae_var 0) (aa_cons (ae_typ (by rfl) z_tuple boot_tuple) aa_nil))))) (aw_or (at_cmp (ac_ne hr.u64 (ae_blt call_len al_len (by rfl) z_len boot_len (aa_cons (ae_var 0) aa_nil)) ae_int)) (aw_or (at_not (at_tru (ae_fn o__law_is_int hr (by rfl) (aa_cons (ae_ixd hr.u1 (ae_var 0) ae_int) aa_nil) (npc np0)))) (aw_or1 (at_not (at_tru (ae_fn o__law_is_int hr (by rfl) (aa_cons (ae_ixd hr.u1 (ae_var 0) ae_int) aa_nil) (npc np0))))))))) (ass_one (as_ret ae_bl)) ass_nil) (ass_one (as_ret (ae_andV (ae_cmp (ac_gt (ae_ixd hr.u1 (ae_var 0) ae_int) ae_int)) (ae_one (ae_cmp (ac_eq hr.u64 (ae_fn o__law_gcd hr (by rfl) (aa_cons (ae_ixd hr.u1 (ae_var 0) ae_int) (aa_cons (ae_ixd hr.u1 (ae_var 0) ae_int) aa_nil)) (npc (npc np0))) ae_int)))))))
abbrev s__law_set : Stmt := topS 23
theorem sc__law_set : FnScope ["draws", "top", "many", "found", "k", "key"] ["draws", "top", "many"] (defScope s__law_set) := ⟨rfl, rfl, rfl, by decide +kernel, rfl, by decide +kernel, by decide +kernel⟩
abbrev m__law_set := S_law_set
theorem ok__law_set {P : Program} {w : World} {K : PySem.W.Frag} {mg : Str → Option Value} {base : Heap} {f : Addr} {fd : FuncData} (z_range : mg "range" = none) (z_sorted : mg "sorted" = none) (z_tuple : mg "tuple" = none) (o__law_take : Ok P w K mg base 1 "_law_take" ["draws", "many"] (some 0) 2 S_law_take) (F : Fun K "_law_set" "_law_set" s__law_set f fd) : FnOk P w K mg base CX0 2 f fd ["draws", "top", "many"] (spM K (some 0) 3 m__law_set) :=
  F.zk (wr := ([3] ++ (([4] ++ ([5] ++ ([] ++ []))) ++ []))) sc__law_set (some 0) (by decide) (fun i h => by cases h; decide) fun cdv A outer s H E hr =>
    (ass_cons (as_set 3 (ae_lst aa_nil) sc__law_set.nd) (ass_cons (as_for PassesOwn.never (ai_rg1 (ae_fn o__law_take hr (by rfl) (aa_cons (ae_var 0) (aa_cons (ae_add (ae_var 2) ae_int) aa_nil)) (npc (npc np0))) (by rfl) z_range) (ag_n 4 sc__law_set.nd) (ass_cons (as_set 5 (ae_fn o__law_take hr (by rfl) (aa_cons (ae_var 0) (aa_cons (ae_var 1) aa_nil)) (npc (npc np0))) sc__law_set.nd) (ass_one (as_if (at_cmp (ac_notIn hr.u65 (ae_var 5) (ae_var 3))) (ass_one (as_ex (ae_app 3 (ae_var 5)))) ass_nil)))) (ass_one (as_ret (ae_bty call_tuple_of al_tuple (by rfl) z_tuple boot_tuple (aa_cons (ae_srt (by rfl) z_sorted (ae_var 3)) aa_nil))))))
abbrev s__law_of_both : Stmt := topS 24
theorem sc__law_of_both : FnScope ["one", "other"] ["one", "other"] (defScope s__law_of_both) := ⟨rfl, rfl, rfl, by decide +kernel, rfl, by decide +kernel, by decide +kernel⟩
abbrev m__law_of_both := S_law_of_both
theorem ok__law_of_both {P : Program} {w : World} {K : PySem.W.Frag} {mg : Str → Option Value} {base : Heap} {f : Addr} {fd : FuncData} (z_sorted : mg "sorted" = none) (z_set : mg "set" = none) (z_list : mg "list" = none) (z_tuple : mg "tuple" = none) (F : Fun K "_law_of_both" "_law_of_both" s__law_of_both f fd) : FnOk P w K mg base CX0 1 f fd ["one", "other"] (spM K none 2 m__law_of_both) :=
  F.zk (wr := []) sc__law_of_both none (by decide) (fun i h => by cases h) fun cdv A outer s H E hr =>
    (ass_one (as_ret (ae_bty call_tuple_of al_tuple (by rfl) z_tuple boot_tuple (aa_cons (ae_srtS (ae_add (ae_bty call_list_of al_list (by rfl) z_list boot_list (aa_cons (ae_var 0) aa_nil)) (ae_bty call_list_of al_list (by rfl) z_list boot_list (aa_cons (ae_var 1) aa_nil))) (by rfl) z_sorted (by rfl) z_set) aa_nil))))
abbrev s__law_subsets : Stmt := topS 25
theorem sc__law_subsets : FnScope ["row", "told", "left", "k", "more", "one", "thing"] ["row"] (defScope s__law_subsets) := ⟨rfl, rfl, rfl, by decide +kernel, rfl, by decide +kernel, by decide +kernel⟩
abbrev m__law_subsets := S_law_subsets
theorem ok__law_subsets {P : Program} {w : World} {K : PySem.W.Frag} {mg : Str → Option Value} {base : Heap} {f : Addr} {fd : FuncData} (z_range : mg "range" = none) (z_len : mg "len" = none) (F : Fun K "_law_subsets" "_law_subsets" s__law_subsets f fd) : FnOk P w K mg base CX0 1 f fd ["row"] (spM K none 1 m__law_subsets) :=
  F.zk (wr := ([1] ++ ([2] ++ (([3] ++ ([4] ++ (([5] ++ ([6] ++ ([] ++ []))) ++ ([1] ++ [2])))) ++ [])))) sc__law_subsets none (by decide) (fun i h => by cases h) fun cdv A outer s H E hr =>
    (ass_cons (as_set 1 (ae_lst (aa_cons (ae_tup aa_nil) aa_nil)) sc__law_subsets.nd) (ass_cons (as_set 2 (ae_lst (aa_cons (ae_tup aa_nil) aa_nil)) sc__law_subsets.nd) (ass_cons (as_for PassesOwn.never (ai_rg1 (ae_blt call_len al_len (by rfl) z_len boot_len (aa_cons (ae_var 0) aa_nil)) (by rfl) z_range) (ag_n 3 sc__law_subsets.nd) (ass_cons (as_set 4 (ae_lst aa_nil) sc__law_subsets.nd) (ass_cons (as_for PassesOwn.never (ai_seq (ae_var 2)) (ag_n 5 sc__law_subsets.nd) (ass_one (as_for PassesOwn.never (ai_seq (ae_var 0)) (ag_n 6 sc__law_subsets.nd) (ass_one (as_if (at_w (aw_or (at_cmp (ac_eq hr.u64 (ae_blt call_len al_len (by rfl) z_len boot_len (aa_cons (ae_var 5) aa_nil)) ae_int)) (aw_or1 (at_cmp (ac_lt (ae_ixd hr.u1 (ae_var 5) (ae_neg ae_int)) (ae_var 6)))))) (ass_one (as_ex (ae_app 4 (ae_add (ae_var 5) (ae_tup (aa_cons (ae_var 6) aa_nil)))))) ass_nil))))) (ass_cons (as_set 1 (ae_add (ae_var 1) (ae_var 4)) sc__law_subsets.nd) (ass_one (as_mov 2 4 sc__law_subsets.nd)))))) (ass_one (as_ret (ae_var 1))))))
abbrev s__law_places : Stmt := topS 26
theorem sc__law_places : FnScope ["draws", "top"] ["draws", "top"] (defScope s__law_places) := ⟨rfl, rfl, rfl, by decide +kernel, rfl, by decide +kernel, by decide +kernel⟩
abbrev m__law_places := S_law_places
theorem ok__law_places {P : Program} {w : World} {K : PySem.W.Frag} {mg : Str → Option Value} {base : Heap} {f : Addr} {fd : FuncData} (z_list : mg "list" = none) (z_range : mg "range" = none) (z_tuple : mg "tuple" = none) (o__law_shuffled : Ok P w K mg base 2 "_law_shuffled" ["draws", "row"] (some 0) 2 S_law_shuffled) (F : Fun K "_law_places" "_law_places" s__law_places f fd) : FnOk P w K mg base CX0 3 f fd ["draws", "top"] (spM K (some 0) 2 m__law_places) :=
  F.zk (wr := []) sc__law_places (some 0) (by decide) (fun i h => by cases h; decide) fun cdv A outer s H E hr =>
    (ass_one (as_ret (ae_bty call_tuple_of al_tuple (by rfl) z_tuple boot_tuple (aa_cons (ae_fn o__law_shuffled hr (by rfl) (aa_cons (ae_var 0) (aa_cons (ae_lrg2 ae_int (ae_add (ae_var 1) ae_int) (by rfl) z_list (by rfl) z_range) aa_nil)) (npc (npc np0))) aa_nil))))
abbrev s__law_total : Stmt := topS 27
theorem sc__law_total : FnScope ["fractions", "told", "one"] ["fractions"] (defScope s__law_total) := ⟨rfl, rfl, rfl, by decide +kernel, rfl, by decide +kernel, by decide +kernel⟩
abbrev m__law_total := S_law_total
theorem ok__law_total {P : Program} {w : World} {K : PySem.W.Frag} {mg : Str → Option Value} {base : Heap} {f : Addr} {fd : FuncData} (o__law_plus : Ok P w K mg base 3 "_law_plus" ["one", "other"] none 2 S_law_plus) (F : Fun K "_law_total" "_law_total" s__law_total f fd) : FnOk P w K mg base CX0 4 f fd ["fractions"] (spM K none 1 m__law_total) :=
  F.zk (wr := ([1] ++ (([2] ++ [1]) ++ []))) sc__law_total none (by decide) (fun i h => by cases h) fun cdv A outer s H E hr =>
    (ass_cons (as_set 1 (ae_tup (aa_cons ae_int (aa_cons ae_int aa_nil))) sc__law_total.nd) (ass_cons (as_for PassesOwn.never (ai_seq (ae_var 0)) (ag_n 2 sc__law_total.nd) (ass_one (as_set 1 (ae_fn o__law_plus hr (by rfl) (aa_cons (ae_var 1) (aa_cons (ae_var 2) aa_nil)) (npc (npc np0))) sc__law_total.nd))) (ass_one (as_ret (ae_var 1)))))
abbrev s__law_least : Stmt := topS 28
abbrev n__law_least : List Str := ["keys", "places", "k", "key"]
theorem sc__law_least : FnScope ["keys", "places", "k", "key"] ["keys", "places", "k"] (defScope s__law_least) := ⟨rfl, rfl, rfl, by decide +kernel, rfl, by decide +kernel, by decide +kernel⟩
abbrev m__law_least := S_law_least
theorem ok__law_least {P : Program} {w : World} {K : PySem.W.Frag} {mg : Str → Option Value} {base : Heap} {f : Addr} {fd : FuncData} (z_sorted : mg "sorted" = none) (z_tuple : mg "tuple" = none) (F : Fun K "_law_least" "_law_least" s__law_least f fd) : FnOk P w K mg base CX0 1 f fd ["keys", "places", "k"] (spM K none 3 m__law_least) :=
  F.zk (wr := []) sc__law_least none (by decide) (fun i h => by cases h) fun cdv A outer s H E hr =>
    (ass_one (as_ret (ae_bty call_tuple_of al_tuple (by rfl) z_tuple boot_tuple (aa_cons (ae_sl (ae_srt (by rfl) z_sorted (ae_lc [("key", 3)] sc__law_least.nd (blkOk_by (N := n__law_least) (sc := defScope s__law_least) (by decide +kernel)) (ai_seq (ae_var 0)) (fun _ _ _ _ _ => (ag_n 3 sc__law_least.nd)) (fun _ _ _ _ _ => ats_nil) (fun _ _ _ _ _ => (ae_ixd hr.u1 (ae_var 1) (ae_var 3))) gl_v)) ao_none (ao_some (ae_var 2))) aa_nil))))
abbrev s__law_estimate : Stmt := topS 29
theorem sc__law_estimate : FnScope ["least", "top", "k"] ["least", "top", "k"] (defScope s__law_estimate) := ⟨rfl, rfl, rfl, by decide +kernel, rfl, by decide +kernel, by decide +kernel⟩
abbrev m__law_estimate := S_law_estimate
theorem ok__law_estimate {P : Program} {w : World} {K : PySem.W.Frag} {mg : Str → Option Value} {base : Heap} {f : Addr} {fd : FuncData} (z_len : mg "len" = none) (o__law_frac : Ok P w K mg base 2 "_law_frac" ["n", "d"] none 2 S_law_frac) (F : Fun K "_law_estimate" "_law_estimate" s__law_estimate f fd) : FnOk P w K mg base CX0 3 f fd ["least", "top", "k"] (spM K none 3 m__law_estimate) :=
  F.zk (wr := (([] ++ []) ++ [])) sc__law_estimate none (by decide) (fun i h => by cases h) fun cdv A outer s H E hr =>
    (ass_cons (as_if (at_cmp (ac_lt (ae_blt call_len al_len (by rfl) z_len boot_len (aa_cons (ae_var 0) aa_nil)) (ae_var 2))) (ass_one (as_ret (ae_tup (aa_cons (ae_blt call_len al_len (by rfl) z_len boot_len (aa_cons (ae_var 0) aa_nil)) (aa_cons ae_int aa_nil))))) ass_nil) (ass_one (as_ret (ae_fn o__law_frac hr (by rfl) (aa_cons (ae_mul (ae_var 1) (ae_sub (ae_var 2) ae_int)) (aa_cons (ae_sub (ae_ixd hr.u1 (ae_var 0) (ae_neg ae_int)) ae_int) aa_nil)) (npc (npc np0))))))
abbrev s__law_means_k39 : Stmt := topS 30
abbrev n__law_means_k39 : List Str := ["top", "many", "k", "sets", "one", "told"]
theorem sc__law_means_k39 : FnScope ["top", "many", "k", "sets", "one", "told"] ["top", "many", "k"] (defScope s__law_means_k39) := ⟨rfl, rfl, rfl, by decide +kernel, rfl, by decide +kernel, by decide +kernel⟩
abbrev m__law_means_k39 := S_law_means_k39
theorem ok__law_means_k39 {P : Program} {w : World} {K : PySem.W.Frag} {mg : Str → Option Value} {base : Heap} {f : Addr} {fd : FuncData} (z_list : mg "list" = none) (z_range : mg "range" = none) (z_len : mg "len" = none) (o__law_subsets : Ok P w K mg base 4 "_law_subsets" ["row"] none 1 S_law_subsets) (o_estimate : Ok P w K mg base 4 "estimate" ["least", "N", "k"] none 3 S_estimate) (o__law_is_fraction : Ok P w K mg base 4 "_law_is_fraction" ["thing"] none 1 S_law_is_fraction) (o__law_total : Ok P w K mg base 4 "_law_total" ["fractions"] none 1 S_law_total) (F : Fun K "_law_means_k39" "_law_means_k39" s__law_means_k39 f fd) : FnOk P w K mg base CX0 5 f fd ["top", "many", "k"] (spM K none 3 m__law_means_k39) :=
  F.zk (wr := ([3] ++ ([5] ++ (([] ++ []) ++ [])))) sc__law_means_k39 none (by decide) (fun i h => by cases h) fun cdv A outer s H E hr =>
    (ass_cons (as_setLc 3 [("one", 4)] sc__law_means_k39.nd (blkOk_by (N := n__law_means_k39) (sc := defScope s__law_means_k39) (by decide +kernel)) (ai_seq (ae_fn o__law_subsets hr (by rfl) (aa_cons (ae_lrg2 ae_int (ae_add (ae_var 0) ae_int) (by rfl) z_list (by rfl) z_range) aa_nil) (npc np0))) (fun _ _ _ _ _ => (ag_n 4 sc__law_means_k39.nd)) (fun _ _ _ _ _ => (ats_one (at_cmp (ac_eq hr.u64 (ae_blt call_len al_len (by rfl) z_len boot_len (aa_cons (ae_var 4) aa_nil)) (ae_var 1))))) (fun _ _ _ _ _ => (ae_var 4)) gl_v (by decide +kernel)) (ass_cons (as_setLc 5 [("one", 4)] sc__law_means_k39.nd (blkOk_by (N := n__law_means_k39) (sc := defScope s__law_means_k39) (by decide +kernel)) (ai_seq (ae_var 3)) (fun _ _ _ _ _ => (ag_n 4 sc__law_means_k39.nd)) (fun _ _ _ _ _ => ats_nil) (fun _ _ _ _ _ => (ae_fn o_estimate hr (by rfl) (aa_cons (ae_sl (ae_var 4) ao_none (ao_some (ae_var 2))) (aa_cons (ae_var 0) (aa_cons (ae_var 2) aa_nil))) (npc (npc (npc np0))))) gl_v (by decide +kernel)) (ass_cons (as_if (at_cmp (ac_in hr.u65 ae_bl (ae_lc [("one", 4)] sc__law_means_k39.nd (blkOk_by (N := n__law_means_k39) (sc := defScope s__law_means_k39) (by decide +kernel)) (ai_seq (ae_var 5)) (fun _ _ _ _ _ => (ag_n 4 sc__law_means_k39.nd)) (fun _ _ _ _ _ => ats_nil) (fun _ _ _ _ _ => (ae_fn o__law_is_fraction hr (by rfl) (aa_cons (ae_var 4) aa_nil) (npc np0))) gl_v))) (ass_one (as_ret ae_bl)) ass_nil) (ass_one (as_ret (ae_cmp (ac_eq hr.u64 (ae_fn o__law_total hr (by rfl) (aa_cons (ae_var 5) aa_nil) (npc np0)) (ae_tup (aa_cons (ae_mul (ae_var 1) (ae_blt call_len al_len (by rfl) z_len boot_len (aa_cons (ae_var 3) aa_nil))) (aa_cons ae_int aa_nil))))))))))
abbrev s_law : Stmt := topS 31
theorem sc_law : FnScope ["script", "draws", "turn", "top", "places", "k", "one", "other", "least", "more", "due", "row", "many"] ["script"] (defScope s_law) := ⟨rfl, rfl, rfl, by decide +kernel, rfl, by decide +kernel, by decide +kernel⟩
def b_law : Fs := (mSeq (mSet 1 (mCall none S_law_draws (mAc (mVar 0) (mAc (mC (.int 400)) mA0)))) (mSeq (mFor (mRg1 (mC (.int 4))) (tgV 2) (mSeq (mSet 3 (mAdd (mC (.int 1)) (mCall (some 0) S_law_take (mAc (mVar 1) (mAc (mC (.int 12)) mA0))))) (mSeq (mSet 4 (mCall (some 0) S_law_places (mAc (mVar 1) (mAc (mVar 3) mA0)))) (mSeq (mSet 5 (mAdd (mC (.int 1)) (mCall (some 0) S_law_take (mAc (mVar 1) (mAc (mCall (some 0) S_law_pick (mAc (mVar 1) (mAc (mLst (mAc (mC (.int 3)) (mAc (mVar 3) (mAc (mC (.int 14)) mA0)))) mA0))) mA0))))) (mSeq (mSet 6 (mCall (some 0) S_law_set (mAc (mVar 1) (mAc (mVar 3) (mAc (mC (.int 9)) mA0))))) (mSeq (mSet 7 (mCall (some 0) S_law_set (mAc (mVar 1) (mAc (mVar 3) (mAc (mC (.int 9)) mA0))))) (mSeq (mSet 8 (mCall none S_law_least (mAc (mVar 6) (mAc (mVar 4) (mAc (mVar 5) mA0))))) (mSeq (mSet 9 (mCall none S_law_least (mAc (mVar 7) (mAc (mVar 4) (mAc (mVar 5) mA0))))) (mSeq (mIfS (mOrT (mNotT (mTr (mCall none (S_law_same 8) (mAc (mCall none S_least_places (mAc (mVar 6) (mAc (mVar 4) (mAc (mVar 5) mA0)))) (mAc (mVar 8) mA0))))) (mNotT (mTr (mCall none (S_law_same 8) (mAc (mCall none S_least_places (mAc (mTup mA0) (mAc (mVar 4) (mAc (mVar 5) mA0)))) (mAc (mTup mA0) mA0)))))) (mRet (mC (.bl false))) mNx) (mSeq (mSet 10 (mCall none S_law_least (mAc (mCall none S_law_of_both (mAc (mVar 6) (mAc (mVar 7) mA0))) (mAc (mVar 4) (mAc (mVar 5) mA0))))) (mSeq (mIfS (mOrT (mNotT (mTr (mCall none (S_law_same 8) (mAc (mCall none S_joined_least (mAc (mVar 8) (mAc (mVar 9) (mAc (mVar 5) mA0)))) (mAc (mVar 10) mA0))))) (mNotT (mTr (mCall none (S_law_same 8) (mAc (mCall none S_joined_least (mAc (mVar 9) (mAc (mVar 8) (mAc (mVar 5) mA0)))) (mAc (mVar 10) mA0)))))) (mRet (mC (.bl false))) mNx) (mIfS (mB (mGt (mVar 5) (mC (.int 1)))) (mFor (mSq (mLst (mAc (mVar 8) (mAc (mVar 9) (mAc (mVar 10) (mAc (mTup mA0) mA0)))))) (tgV 11) (mIfS (mNotT (mTr (mCall none (S_law_same 8) (mAc (mCall none S_estimate (mAc (mVar 11) (mAc (mVar 3) (mAc (mVar 5) mA0)))) (mAc (mCall none S_law_estimate (mAc (mVar 11) (mAc (mVar 3) (mAc (mVar 5) mA0)))) mA0))))) (mRet (mC (.bl false))) mNx)) mNx)))))))))))) (mSeq (mFor (mRg1 (mC (.int 2))) (tgV 2) (mSeq (mSet 3 (mAdd (mC (.int 1)) (mCall (some 0) S_law_take (mAc (mVar 1) (mAc (mCall (some 0) S_law_pick (mAc (mVar 1) (mAc (mLst (mAc (mC (.int 6)) (mAc (mC (.int 6)) (mAc (mC (.int 6)) (mAc (mC (.int 9)) mA0))))) mA0))) mA0))))) (mSeq (mSet 12 (mCall (some 0) S_law_take (mAc (mVar 1) (mAc (mAdd (mVar 3) (mC (.int 1))) mA0)))) (mSeq (mSet 5 (mAdd (mC (.int 2)) (mCall (some 0) S_law_take (mAc (mVar 1) (mAc (mCall (some 0) S_law_pick (mAc (mVar 1) (mAc (mLst (mAc (mC (.int 2)) (mAc (mAdd (mVar 3) (mC (.int 1))) mA0))) mA0))) mA0))))) (mSeq (mIfS (mNotT (mTr (mCall none (S_law_same 8) (mAc (mCall none S_mean_estimate (mAc (mVar 12) (mAc (mVar 3) (mAc (mVar 5) mA0)))) (mAc (mTup (mAc (mVar 12) (mAc (mC (.int 1)) mA0))) mA0))))) (mRet (mC (.bl false))) mNx) (mIfS (mAndT (mB (mLt (mVar 3) (mC (.int 7)))) (mNotT (mTr (mCall none S_law_means_k39 (mAc (mVar 3) (mAc (mVar 12) (mAc (mVar 5) mA0))))))) (mRet (mC (.bl false))) mNx)))))) (mRet (mC (.bl true))))))
def m_law : Mir := mDef none 13 b_law
theorem ok_law {P : Program} {w : World} {K : PySem.W.Frag} {mg : Str → Option Value} {base : Heap} {f : Addr} {fd : FuncData} (z_range : mg "range" = none) (o__law_draws : Ok P w K mg base 8 "_law_draws" ["script", "many"] none 2 S_law_draws) (o__law_take : Ok P w K mg base 8 "_law_take" ["draws", "many"] (some 0) 2 S_law_take) (o__law_places : Ok P w K mg base 8 "_law_places" ["draws", "top"] (some 0) 2 S_law_places) (o__law_pick : Ok P w K mg base 8 "_law_pick" ["draws", "row"] (some 0) 2 S_law_pick) (o__law_set : Ok P w K mg base 8 "_law_set" ["draws", "top", "many"] (some 0) 3 S_law_set) (o__law_least : Ok P w K mg base 8 "_law_least" ["keys", "places", "k"] none 3 S_law_least) (o__law_same : Ok P w K mg base 8 "_law_same" ["actual", "due"] none 2 (S_law_same 8)) (o_least_places : Ok P w K mg base 8 "least_places" ["keys", "places", "k"] none 3 S_least_places) (o__law_of_both : Ok P w K mg base 8 "_law_of_both" ["one", "other"] none 2 S_law_of_both) (o_joined_least : Ok P w K mg base 8 "joined_least" ["least", "other", "k"] none 3 S_joined_least) (o__law_estimate : Ok P w K mg base 8 "_law_estimate" ["least", "top", "k"] none 3 S_law_estimate) (o_estimate : Ok P w K mg base 8 "estimate" ["least", "N", "k"] none 3 S_estimate) (o_mean_estimate : Ok P w K mg base 8 "mean_estimate" ["D", "N", "k"] none 3 S_mean_estimate) (o__law_means_k39 : Ok P w K mg base 8 "_law_means_k39" ["top", "many", "k"] none 3 S_law_means_k39) (F : Fun K "law" "law" s_law f fd) : FnOk P w K mg base CX0 9 f fd ["script"] (spM K none 1 m_law) :=
  F.zk (wr := ([1] ++ (([2] ++ ([3] ++ ([4] ++ ([5] ++ ([6] ++ ([7] ++ ([8] ++ ([9] ++ (([] ++ []) ++ ([10] ++ (([] ++ []) ++ (([11] ++ ([] ++ [])) ++ [])))))))))))) ++ (([2] ++ ([3] ++ ([12] ++ ([5] ++ (([] ++ []) ++ ([] ++ [])))))) ++ [])))) sc_law none (by decide) (fun i h => by cases h) fun cdv A outer s H E hr =>
    (ass_cons (as_set 1 (ae_fn o__law_draws hr (by rfl) (aa_cons (ae_var 0) (aa_cons ae_int aa_nil)) (npc (npc np0))) sc_law.nd) (ass_cons (as_for PassesOwn.never (ai_rg1 ae_int (by rfl) z_range) (ag_n 2 sc_law.nd) (ass_cons (as_set 3 (ae_add ae_int (ae_fn o__law_take hr (by rfl) (aa_cons (ae_var 1) (aa_cons ae_int aa_nil)) (npc (npc np0)))) sc_law.nd) (ass_cons (as_set 4 (ae_fn o__law_places hr (by rfl) (aa_cons (ae_var 1) (aa_cons (ae_var 3) aa_nil)) (npc (npc np0))) sc_law.nd) (ass_cons (as_set 5 (ae_add ae_int (ae_fn o__law_take hr (by rfl) (aa_cons (ae_var 1) (aa_cons (ae_fn o__law_pick hr (by rfl) (aa_cons (ae_var 1) (aa_cons (ae_lst (aa_cons ae_int (aa_cons (ae_var 3) (aa_cons ae_int aa_nil)))) aa_nil)) (npc (npc np0))) aa_nil)) (npc (npc np0)))) sc_law.nd) (ass_cons (as_set 6 (ae_fn o__law_set hr (by rfl) (aa_cons (ae_var 1) (aa_cons (ae_var 3) (aa_cons ae_int aa_nil))) (npc (npc (npc np0)))) sc_law.nd) (ass_cons (as_set 7 (ae_fn o__law_set hr (by rfl) (aa_cons (ae_var 1) (aa_cons (ae_var 3) (aa_cons ae_int aa_nil))) (npc (npc (npc np0)))) sc_law.nd) (ass_cons (as_set 8 (ae_fn o__law_least hr (by rfl) (aa_cons (ae_var 6) (aa_cons (ae_var 4) (aa_cons (ae_var 5) aa_nil))) (npc (npc (npc np0)))) sc_law.nd) (ass_cons (as_set 9 (ae_fn o__law_least hr (by rfl) (aa_cons (ae_var 7) (aa_cons (ae_var 4) (aa_cons (ae_var 5) aa_nil))) (npc (npc (npc np0)))) sc_law.nd) (ass_cons (as_if (at_w (aw_or (at_not (at_tru (ae_fn o__law_same hr (by rfl) (aa_cons (ae_fn o_least_places hr (by rfl) (aa_cons (ae_var 6) (aa_cons (ae_var 4) (aa_cons (ae_var 5) aa_nil))) (npc (npc (npc np0)))) (aa_cons (ae_var 8) aa_nil)) (npc (npc np0))))) (aw_or1 (at_not (at_tru (ae_fn o__law_same hr (by rfl) (aa_cons (ae_fn o_least_places hr (by rfl) (aa_cons (ae_tup aa_nil) (aa_cons (ae_var 4) (aa_cons (ae_var 5) aa_nil))) (npc (npc (npc np0)))) (aa_cons (ae_tup aa_nil) aa_nil)) (npc (npc np0)))))))) (ass_one (as_ret ae_bl)) ass_nil) (ass_cons (as_set 10 (ae_fn o__law_least hr (by rfl) (aa_cons (ae_fn o__law_of_both hr (by rfl) (aa_cons (ae_var 6) (aa_cons (ae_var 7) aa_nil)) (npc (npc np0))) (aa_cons (ae_var 4) (aa_cons (ae_var 5) aa_nil))) (npc (npc (npc np0)))) sc_law.nd) (ass_cons (as_if (at_w (aw_or (at_not (at_tru (ae_fn o__law_same hr (by rfl) (aa_cons (ae_fn o_joined_least hr (by rfl) (aa_cons (ae_var 8) (aa_cons (ae_var 9) (aa_cons (ae_var 5) aa_nil))) (npc (npc (npc np0)))) (aa_cons (ae_var 10) aa_nil)) (npc (npc np0))))) (aw_or1 (at_not (at_tru (ae_fn o__law_same hr (by rfl) (aa_cons (ae_fn o_joined_least hr (by rfl) (aa_cons (ae_var 9) (aa_cons (ae_var 8) (aa_cons (ae_var 5) aa_nil))) (npc (npc (npc np0)))) (aa_cons (ae_var 10) aa_nil)) (npc (npc np0)))))))) (ass_one (as_ret ae_bl)) ass_nil) (ass_one (as_if (at_cmp (ac_gt (ae_var 5) ae_int)) (ass_one (as_for PassesOwn.never (ai_seq (ae_lst (aa_cons (ae_var 8) (aa_cons (ae_var 9) (aa_cons (ae_var 10) (aa_cons (ae_tup aa_nil) aa_nil)))))) (ag_n 11 sc_law.nd) (ass_one (as_if (at_not (at_tru (ae_fn o__law_same hr (by rfl) (aa_cons (ae_fn o_estimate hr (by rfl) (aa_cons (ae_var 11) (aa_cons (ae_var 3) (aa_cons (ae_var 5) aa_nil))) (npc (npc (npc np0)))) (aa_cons (ae_fn o__law_estimate hr (by rfl) (aa_cons (ae_var 11) (aa_cons (ae_var 3) (aa_cons (ae_var 5) aa_nil))) (npc (npc (npc np0)))) aa_nil)) (npc (npc np0))))) (ass_one (as_ret ae_bl)) ass_nil)))) ass_nil))))))))))))) (ass_cons (as_for PassesOwn.never (ai_rg1 ae_int (by rfl) z_range) (ag_n 2 sc_law.nd) (ass_cons (as_set 3 (ae_add ae_int (ae_fn o__law_take hr (by rfl) (aa_cons (ae_var 1) (aa_cons (ae_fn o__law_pick hr (by rfl) (aa_cons (ae_var 1) (aa_cons (ae_lst (aa_cons ae_int (aa_cons ae_int (aa_cons ae_int (aa_cons ae_int aa_nil))))) aa_nil)) (npc (npc np0))) aa_nil)) (npc (npc np0)))) sc_law.nd) (ass_cons (as_set 12 (ae_fn o__law_take hr (by rfl) (aa_cons (ae_var 1) (aa_cons (ae_add (ae_var 3) ae_int) aa_nil)) (npc (npc np0))) sc_law.nd) (ass_cons (as_set 5 (ae_add ae_int (ae_fn o__law_take hr (by rfl) (aa_cons (ae_var 1) (aa_cons (ae_fn o__law_pick hr (by rfl) (aa_cons (ae_var 1) (aa_cons (ae_lst (aa_cons ae_int (aa_cons (ae_add (ae_var 3) ae_int) aa_nil))) aa_nil)) (npc (npc np0))) aa_nil)) (npc (npc np0)))) sc_law.nd) (ass_cons (as_if (at_not (at_tru (ae_fn o__law_same hr (by rfl) (aa_cons (ae_fn o_mean_estimate hr (by rfl) (aa_cons (ae_var 12) (aa_cons (ae_var 3) (aa_cons (ae_var 5) aa_nil))) (npc (npc (npc np0)))) (aa_cons (ae_tup (aa_cons (ae_var 12) (aa_cons ae_int aa_nil))) aa_nil)) (npc (npc np0))))) (ass_one (as_ret ae_bl)) ass_nil) (ass_one (as_if (at_w (aw_and (at_cmp (ac_lt (ae_var 3) ae_int)) (aw_and1 (at_not (at_tru (ae_fn o__law_means_k39 hr (by rfl) (aa_cons (ae_var 3) (aa_cons (ae_var 12) (aa_cons (ae_var 5) aa_nil))) (npc (npc (npc np0))))))))) (ass_one (as_ret ae_bl)) ass_nil))))))) (ass_one (as_ret ae_bl)))))
end
end K36
namespace K36
noncomputable section
open PySem PySem.Spec PyProof.Rows L2 Zk Zk.Bc Zk.Bf Zk.Bg
theorem pick_int (s : List Int) (ns : List Int) (h : ns ≠ []) : ∃ v ∈ ns, S_law_pick [dr s, .lst (ns.map D.int)] = some (.int v, 9, dr s.dropLast) := by
  refine ⟨pk s ns h, pk_mem, ?_⟩
  have := pick_eq (d := .lst (ns.map D.int)) (.inl rfl) s (by simpa using h) (by rw [pk_map (h := h)]; rfl)
  rw [pk_map (h := h)] at this
  exact this
theorem below (s : List Int) (ns : List Int) (h : ns ≠ []) (hp : ∀ v ∈ ns, 0 < v) : ∃ (v : Int) (w : Nat), v ∈ ns ∧ (w : Int) < v ∧ S_law_pick [dr s, .lst (ns.map D.int)] = some (.int v, 9, dr s.dropLast) ∧ S_law_take [dr s.dropLast, .int v] = some (.int (w : Int), 9, dr s.dropLast.dropLast) := by
  obtain ⟨v, hv, e⟩ := pick_int s ns h
  obtain ⟨w, ew, hw⟩ := dvN s.dropLast v (hp v hv)
  have tk := take_eq s.dropLast v (hp v hv)
  rw [ew] at tk
  exact ⟨v, w, hv, hw, e, tk⟩
theorem tk (s : List Int) (n : Nat) (h : 0 < n) : ∃ w : Nat, w < n ∧ S_law_take [dr s, .int (n : Int)] = some (.int (w : Int), 9, dr s.dropLast) := by
  obtain ⟨w, ew, hw⟩ := dvN s (n : Int) (by omega)
  have tk := take_eq s (n : Int) (by omega)
  rw [ew] at tk
  exact ⟨w, by omega, tk⟩
theorem pl_tD {xs : List Int} (h : xs.length ≤ 1000) : pl 7 (tD xs) = true := by
  have h2 : xs.length < 16777216 := by omega
  simp [pl, tD, List.all_map, h2]
theorem swap_is (x y : List Int) : srt (x ++ y).eraseDups = srt (y ++ x).eraseDups := srt_perm_eq ((List.perm_ext_iff_of_nodup (nodup_eraseDups _) (nodup_eraseDups _)).mpr fun z => by
  rw [List.mem_eraseDups, List.mem_eraseDups, List.mem_append, List.mem_append]
  exact Or.comm)
theorem lp_len (pl : List Int) (ks : List Nat) (k : Nat) : (lp pl ks k).length ≤ ks.length := by
  unfold lp
  rw [List.length_take, srt_len, List.length_map]
  omega
theorem law_true (ns : List Int) (hn : ns.length ≤ 63) : ∃ m o, m_law [.scr ns] = some (.bl true, m, o) := by
  have go : W (m_law [.scr ns]) fun r => ∃ m o, r = (.bl true, m, o) := by
    unfold m_law b_law
    rw [W_mDef]
    (refine Zk.W_seqK fun Kq hKq => ?_; simp (disch := first | assumption | (simp; done) | omega) [dem1, ent0_def]; refine ((draws_spec ns 400 (by decide) (by decide))).mono ?_; rintro _ ⟨s, rfl⟩; simp (disch := first | assumption | (simp; done) | omega) [dem1, ent0_def]; refine hKq _ ?_; clear hKq Kq)
    have r4 : rgOk 4 := ⟨by decide, by decide⟩
    (refine Zk.W_forN ?wE292 4 [2, 3, 4, 5, 6, 7, 8, 9, 10, 11] (fun (s : List Int) _ => [(1, some (dr s, 9))]) (fun _ _ => True) s ?wa292 ?wb292 ?_ ?_ ?_; (case wa292 => (simp (disch := first | assumption | (simp; done) | omega) [r4]; exact rfl)); (case wb292 => (simp (disch := first | assumption | (simp; done) | omega) [Zk.sets, r4])))
    · trivial
    · intro s i I' hi _ hI
      simp only [Zk.AllU, Zk.sets, List.set_cons_succ, List.set_cons_zero, List.set_nil] at *
      intro u2 u3 u4 u5 u6 u7 u8 u9 u10 u11
      refine W_tgV.mpr ⟨by simp, ?_⟩
      obtain ⟨t0, ht0, t1⟩ := tk s 12 (by decide)
      have t1 : S_law_take [dr s, .int 12] = some (.int (t0 : Int), 9, dr s.dropLast) := t1
      (refine Zk.W_seqE (E1 := ?wE215) ?wa215 ?wb215; (case wa215 => (simp (disch := first | assumption | (simp; done) | omega) [t1, uni, dem1]; exact rfl)))
      generalize s.dropLast = s at *
      obtain ⟨n, hnt⟩ : ∃ n : Nat, n = t0 + 1 := ⟨_, rfl⟩
      have en : 1 + (t0 : Int) = (n : Int) := by omega
      rw [en]
      (refine Zk.W_seqK fun Kq hKq => ?_; simp (disch := first | assumption | (simp; done) | omega) [dem1, dem1]; refine ((law_places_spec s (n := n) (by omega))).mono ?_; rintro _ ⟨pm, s, rfl, hp⟩; simp (disch := first | assumption | (simp; done) | omega) [dem1, dem1]; refine hKq _ ?_; clear hKq Kq)
      have nd : pm.Nodup := hp.nodup_iff.mpr (vsI_nd n)
      have pll : pm.length = n := by rw [hp.length_eq]; simp [vsI, vsn]
      have ipl := imm_tD pm
      obtain ⟨v, k0, hv, hk0, p1, t2⟩ := below s [3, (n : Int), 14] (by simp) (fun v hv => by
        simp only [List.mem_cons, List.not_mem_nil, or_false] at hv
        omega)
      have p1 : S_law_pick [dr s, .lst [.int 3, .int (n : Int), .int 14]] = some (.int v, 9, dr s.dropLast) := p1
      have hk1 : k0 < 14 := by
        simp only [List.mem_cons, List.not_mem_nil, or_false] at hv
        omega
      (refine Zk.W_seqE (E1 := ?wE216) ?wa216 ?wb216; (case wa216 => (simp (disch := first | assumption | (simp; done) | omega) [p1, t2, uni, dem1, -W_pickL]; exact rfl)))
      generalize s.dropLast.dropLast = s at *
      obtain ⟨k, hkk⟩ : ∃ k : Nat, k = k0 + 1 := ⟨_, rfl⟩
      have ek : 1 + (k0 : Int) = (k : Int) := by omega
      rw [ek]
      (refine Zk.W_seqK fun Kq hKq => ?_; simp (disch := first | assumption | (simp; done) | omega) [dem1, dem1]; refine ((law_set_W s n 9 (by omega) (by decide))).mono ?_; rintro _ ⟨one, s, rfl, o1, o2, o3, _⟩; simp (disch := first | assumption | (simp; done) | omega) [dem1, dem1]; refine hKq _ ?_; clear hKq Kq)
      (refine Zk.W_seqK fun Kq hKq => ?_; simp (disch := first | assumption | (simp; done) | omega) [dem1, dem1]; refine ((law_set_W s n 9 (by omega) (by decide))).mono ?_; rintro _ ⟨oth, s, rfl, q1, q2, q3, _⟩; simp (disch := first | assumption | (simp; done) | omega) [dem1, dem1]; refine hKq _ ?_; clear hKq Kq)
      have h1 : ∀ x ∈ one, x < pm.length := fun x hx => by rw [pll]; exact o2 x hx
      have h2 : ∀ x ∈ oth, x < pm.length := fun x hx => by rw [pll]; exact q2 x hx
      have h3 : ∀ x ∈ bothN one oth, x < pm.length := fun x hx => by
        rcases bothN_mem.mp hx with h | h
        · exact h1 x h
        · exact h2 x h
      have bl := bothN_len one oth
      have l1 := law_least_W (k := k) h1 (by omega)
      have l2 := law_least_W (k := k) h2 (by omega)
      have l3 := law_least_W (k := k) h3 (by omega)
      have l4 := least_W (k := k) h1 (by omega)
      have l5 := least_W (pl := pm) (ks := []) (k := k) (by simp) (by simp)
      have e0 : tN [] = .tup [] := rfl
      have e1 : tD (lp pm [] k) = .tup [] := by simp [lp, srt, tD]
      rw [e0, e1] at l5
      have n1 := lp_len pm one k
      have n2 := lp_len pm oth k
      have n3 := lp_len pm (bothN one oth) k
      have d1 := due_is nd h1 h2 o1 q1 k
      have d2 := due_is nd h1 h2 o1 q1 k
      rw [swap_is] at d2
      have j1 := joined_W (a := lp pm one k) (b := lp pm oth k) (k := k) (by omega)
      have j2 := joined_W (a := lp pm oth k) (b := lp pm one k) (k := k) (by omega)
      rw [d1] at j1
      rw [d2] at j2
      have rows : 2 ≤ k → ∀ row ∈ [lp pm one k, lp pm oth k, lp pm (bothN one oth) k, []], row.length ≤ 1000 ∧ ((k : Int) ≤ row.length → row.getLastD 0 - 1 ≠ 0 ∧ (row.getLastD 0).natAbs ≤ 2 ^ 20) := fun h2k row hr => by
        simp only [List.mem_cons, List.not_mem_nil, or_false] at hr
        rcases hr with rfl | rfl | rfl | rfl
        · exact ⟨by omega, fun h => lp_last hp h1 o1 (by omega) h2k (by omega)⟩
        · exact ⟨by omega, fun h => lp_last hp h2 q1 (by omega) h2k (by omega)⟩
        · exact ⟨by omega, fun h => lp_last hp h3 (bothN_nd _ _) (by omega) h2k (by omega)⟩
        · exact ⟨by simp, fun h => by simp at h; omega⟩
      have bo := law_of_both_W one oth (by omega)
      generalize lp pm one k = L1 at *
      generalize lp pm oth k = L2 at *
      generalize lp pm (bothN one oth) k = L3 at *
      have i1 := imm_tN one
      have i2 := imm_tN oth
      have i3 := imm_tN (bothN one oth)
      have y1 := imm_tD L1
      have y2 := imm_tD L2
      have y3 := imm_tD L3
      have ps1 := pl_tD (xs := L1) (by omega)
      have ps3 := pl_tD (xs := L3) (by omega)
      have ps0 : pl 7 (.tup []) = true := rfl
      (refine Zk.W_seqE (E1 := ?wE217) ?wa217 ?wb217; (case wa217 => (simp (disch := first | assumption | (simp; done) | omega) [l1, i1, ipl, y1, dem1]; exact rfl)))
      (refine Zk.W_seqE (E1 := ?wE218) ?wa218 ?wb218; (case wa218 => (simp (disch := first | assumption | (simp; done) | omega) [l2, i2, ipl, y2, dem1]; exact rfl)))
      (refine Zk.W_seqE (E1 := ?wE219) ?wa219 ?wb219; (case wa219 => (simp (disch := first | assumption | (simp; done) | omega) [l4, l5, i1, ipl, y1, W_same ps1, W_same ps0, dem1]; exact rfl)))
      (refine Zk.W_seqE (E1 := ?wE220) ?wa220 ?wb220; (case wa220 => (simp (disch := first | assumption | (simp; done) | omega) [bo, l3, i1, i2, i3, ipl, y3, dem1]; exact rfl)))
      (refine Zk.W_seqE (E1 := ?wE221) ?wa221 ?wb221; (case wa221 => (simp (disch := first | assumption | (simp; done) | omega) [j1, j2, y1, y2, y3, W_same ps3, dem1]; exact rfl)))
      by_cases c : 1 < k
      · have c2 : (1 : Int) < (k : Int) := by omega
        have rows := rows (by omega)
        (refine Zk.W_ifT (E1 := ?wE222) ?wa222 ?wb222; (case wa222 => (simp (disch := first | assumption | (simp; done) | omega) [c2, c]; exact rfl)))
        refine W_end ?_
        have e00 : tD [] = D.tup [] := rfl
        (refine Zk.W_forS ?wE296 [L1, L2, L3, []] tD [11] (fun (_ : Unit) _ => []) (fun _ _ => True) () ?wa296 ?wb296 ?_ ?_ ?_; (case wa296 => (simp (disch := first | assumption | (simp; done) | omega) [y1, y2, y3, e00]; exact rfl)); (case wb296 => (simp (disch := first | assumption | (simp; done) | omega) [Zk.sets, y1, y2, y3, e00])))
        · trivial
        · intro _ a row b I2 e _ hI2
          simp only [Zk.AllU, Zk.sets, List.set_cons_succ, List.set_cons_zero, List.set_nil] at *
          intro u11
          refine W_tgV.mpr ⟨by simp, ?_⟩
          obtain ⟨r1, r2⟩ := rows row (by rw [e]; simp)
          obtain ⟨l1, w1⟩ := estimate_W (xs := row) (n := (n : Int)) (k := (k : Int)) (by omega) ⟨by omega, by omega⟩ r2 r1
          obtain ⟨l2, w2⟩ := law_estimate_W (xs := row) (n := (n : Int)) (k := (k : Int)) (by omega) ⟨by omega, by omega⟩ r2 r1
          have yr := imm_tD row
          simp (disch := first | assumption | (simp; done) | omega) [w1, w2, yr, W_same (pl_fr 6 _), dem1]
          apply hI2 () trivial
        intro _ _
        simp only [Zk.AllU, Zk.sets, List.set_cons_succ, List.set_cons_zero, List.set_nil] at *
        intro u11
        simp (disch := first | assumption | (simp; done) | omega) []
        apply hI _ trivial
      · have c2 : ¬ (1 : Int) < (k : Int) := by omega
        (refine Zk.W_ifF (E1 := ?wE223) ?wa223 ?wb223; (case wa223 => (simp (disch := first | assumption | (simp; done) | omega) [c2, c]; exact rfl)))
        simp (disch := first | assumption | (simp; done) | omega) []
        apply hI _ trivial
    intro s _
    simp only [Zk.AllU, Zk.sets, List.set_cons_succ, List.set_cons_zero, List.set_nil] at *
    intro u2 u3 u4 u5 u6 u7 u8 u9 u10 u11
    have r2 : rgOk 2 := ⟨by decide, by decide⟩
    (refine Zk.W_forN ?wE297 2 [2, 3, 5, 12] (fun (s : List Int) _ => [(1, some (dr s, 9))]) (fun _ _ => True) s ?wa297 ?wb297 ?_ ?_ ?_; (case wa297 => (simp (disch := first | assumption | (simp; done) | omega) [r2]; exact rfl)); (case wb297 => (simp (disch := first | assumption | (simp; done) | omega) [Zk.sets, r2])))
    · trivial
    · intro s i I' hi _ hI
      simp only [Zk.AllU, Zk.sets, List.set_cons_succ, List.set_cons_zero, List.set_nil] at *
      intro u2 u3 u5 u12
      refine W_tgV.mpr ⟨by simp, ?_⟩
      obtain ⟨v, t0, hv, ht, p1, t2⟩ := below s [6, 6, 6, 9] (by decide) (by decide)
      have p1 : S_law_pick [dr s, .lst [.int 6, .int 6, .int 6, .int 9]] = some (.int v, 9, dr s.dropLast) := p1
      have ht9 : t0 < 9 := by
        simp only [List.mem_cons, List.not_mem_nil, or_false] at hv
        omega
      (refine Zk.W_seqE (E1 := ?wE224) ?wa224 ?wb224; (case wa224 => (simp (disch := first | assumption | (simp; done) | omega) [p1, t2, uni, dem1, -W_pickL]; exact rfl)))
      generalize s.dropLast.dropLast = s at *
      obtain ⟨n, hnt⟩ : ∃ n : Nat, n = t0 + 1 := ⟨_, rfl⟩
      have en : 1 + (t0 : Int) = (n : Int) := by omega
      rw [en]
      obtain ⟨r, hr, t3⟩ := tk s (n + 1) (by omega)
      rw [show ((n + 1 : Nat) : Int) = (n : Int) + 1 by omega] at t3
      (refine Zk.W_seqE (E1 := ?wE225) ?wa225 ?wb225; (case wa225 => (simp (disch := first | assumption | (simp; done) | omega) [t3, uni, dem1]; exact rfl)))
      generalize s.dropLast = s at *
      obtain ⟨v, k0, hv, hk0, p1, t2⟩ := below s [2, (n : Int) + 1] (by simp) (fun v hv => by
        simp only [List.mem_cons, List.not_mem_nil, or_false] at hv
        omega)
      have p1 : S_law_pick [dr s, .lst [.int 2, .int ((n : Int) + 1)]] = some (.int v, 9, dr s.dropLast) := p1
      have hk1 : k0 < n + 1 := by
        simp only [List.mem_cons, List.not_mem_nil, or_false] at hv
        omega
      (refine Zk.W_seqE (E1 := ?wE226) ?wa226 ?wb226; (case wa226 => (simp (disch := first | assumption | (simp; done) | omega) [p1, t2, uni, dem1, -W_pickL]; exact rfl)))
      generalize s.dropLast.dropLast = s at *
      obtain ⟨k, hkk⟩ : ∃ k : Nat, k = k0 + 2 := ⟨_, rfl⟩
      have ek : 2 + (k0 : Int) = (k : Int) := by omega
      rw [ek]
      have me := mean_est_W (n := n) (r := r) (k := k) (by omega) (by omega) (by omega) (by omega) (by omega)
      rw [← Rat.intCast_natCast, fr_int] at me
      have p2 : pl 7 (.tup [.int (r : Int), .int 1]) = true := rfl
      (refine Zk.W_seqE (E1 := ?wE227) ?wa227 ?wb227; (case wa227 => (simp (disch := first | assumption | (simp; done) | omega) [me, W_same p2, dem1]; exact rfl)))
      by_cases c : n < 7
      · have c2 : (n : Int) < 7 := by omega
        have mw := means_W (n := n) (r := r) (k := k) c (by omega) (by omega) (by omega)
        simp (disch := first | assumption | (simp; done) | omega) [c2, c, mw, dem1]
        apply hI _ trivial
      · have c2 : ¬ (n : Int) < 7 := by omega
        simp (disch := first | assumption | (simp; done) | omega) [c2, c]
        apply hI _ trivial
    intro s _
    simp only [Zk.AllU, Zk.sets, List.set_cons_succ, List.set_cons_zero, List.set_nil] at *
    intro u2 u3 u5 u12
    simp (disch := first | assumption | (simp; done) | omega) []
  obtain ⟨r, e, m, o, rfl⟩ := go
  exact ⟨m, o, e⟩
end
end K36
namespace K36
noncomputable section
open PySem PySem.Spec PyProof.Rows L2 Zk
set_option maxHeartbeats 0 in
theorem all_mk {l : PySem.W.OpenLaw} {w : World} {K : PySem.W.Frag} {h : Heap} {mg : Str → Option Value} {fa : Addr} (X : K.In h) (G : h.Ns mainGlobals mg) (hfa : mg "law" = some (.ref fa))
    {f0 : Addr} {od0 an0 : Option Addr} {sl0 : Array (Option Value)} {oc0 kV0 dc0 pm0 cd0 ct0 : Value}
    (a0 : PySem.W.nsIn K mainGlobals "_law_draws" = some (some (.ref f0))) (l0 : K.lookup f0 = some ⟨oc0, od0, .func (PySem.W.fnOf "_law_draws" "_law_draws" (defArgs s__law_draws) (defBody s__law_draws) (defScope s__law_draws) .none kV0 dc0 pm0 an0 cd0 ct0), sl0⟩) (c0 : PySem.W.codeIn K cd0 "_law_draws" = true) (k0 : PySem.W.keepIn K (.ref f0) = true)
    {f1 : Addr} {od1 an1 : Option Addr} {sl1 : Array (Option Value)} {oc1 kV1 dc1 pm1 cd1 ct1 : Value}
    (a1 : PySem.W.nsIn K mainGlobals "_law_take" = some (some (.ref f1))) (l1 : K.lookup f1 = some ⟨oc1, od1, .func (PySem.W.fnOf "_law_take" "_law_take" (defArgs s__law_take) (defBody s__law_take) (defScope s__law_take) .none kV1 dc1 pm1 an1 cd1 ct1), sl1⟩) (c1 : PySem.W.codeIn K cd1 "_law_take" = true) (k1 : PySem.W.keepIn K (.ref f1) = true)
    {f2 : Addr} {od2 an2 : Option Addr} {sl2 : Array (Option Value)} {oc2 kV2 dc2 pm2 cd2 ct2 : Value}
    (a2 : PySem.W.nsIn K mainGlobals "_law_shuffled" = some (some (.ref f2))) (l2 : K.lookup f2 = some ⟨oc2, od2, .func (PySem.W.fnOf "_law_shuffled" "_law_shuffled" (defArgs s__law_shuffled) (defBody s__law_shuffled) (defScope s__law_shuffled) .none kV2 dc2 pm2 an2 cd2 ct2), sl2⟩) (c2 : PySem.W.codeIn K cd2 "_law_shuffled" = true) (k2 : PySem.W.keepIn K (.ref f2) = true)
    {f3 : Addr} {od3 an3 : Option Addr} {sl3 : Array (Option Value)} {oc3 kV3 dc3 pm3 cd3 ct3 : Value}
    (a3 : PySem.W.nsIn K mainGlobals "_law_places" = some (some (.ref f3))) (l3 : K.lookup f3 = some ⟨oc3, od3, .func (PySem.W.fnOf "_law_places" "_law_places" (defArgs s__law_places) (defBody s__law_places) (defScope s__law_places) .none kV3 dc3 pm3 an3 cd3 ct3), sl3⟩) (c3 : PySem.W.codeIn K cd3 "_law_places" = true) (k3 : PySem.W.keepIn K (.ref f3) = true)
    {f4 : Addr} {od4 an4 : Option Addr} {sl4 : Array (Option Value)} {oc4 kV4 dc4 pm4 cd4 ct4 : Value}
    (a4 : PySem.W.nsIn K mainGlobals "_law_pick" = some (some (.ref f4))) (l4 : K.lookup f4 = some ⟨oc4, od4, .func (PySem.W.fnOf "_law_pick" "_law_pick" (defArgs s__law_pick) (defBody s__law_pick) (defScope s__law_pick) .none kV4 dc4 pm4 an4 cd4 ct4), sl4⟩) (c4 : PySem.W.codeIn K cd4 "_law_pick" = true) (k4 : PySem.W.keepIn K (.ref f4) = true)
    {f5 : Addr} {od5 an5 : Option Addr} {sl5 : Array (Option Value)} {oc5 kV5 dc5 pm5 cd5 ct5 : Value}
    (a5 : PySem.W.nsIn K mainGlobals "_law_set" = some (some (.ref f5))) (l5 : K.lookup f5 = some ⟨oc5, od5, .func (PySem.W.fnOf "_law_set" "_law_set" (defArgs s__law_set) (defBody s__law_set) (defScope s__law_set) .none kV5 dc5 pm5 an5 cd5 ct5), sl5⟩) (c5 : PySem.W.codeIn K cd5 "_law_set" = true) (k5 : PySem.W.keepIn K (.ref f5) = true)
    {f6 : Addr} {od6 an6 : Option Addr} {sl6 : Array (Option Value)} {oc6 kV6 dc6 pm6 cd6 ct6 : Value}
    (a6 : PySem.W.nsIn K mainGlobals "_law_least" = some (some (.ref f6))) (l6 : K.lookup f6 = some ⟨oc6, od6, .func (PySem.W.fnOf "_law_least" "_law_least" (defArgs s__law_least) (defBody s__law_least) (defScope s__law_least) .none kV6 dc6 pm6 an6 cd6 ct6), sl6⟩) (c6 : PySem.W.codeIn K cd6 "_law_least" = true) (k6 : PySem.W.keepIn K (.ref f6) = true)
    {f7 : Addr} {od7 an7 : Option Addr} {sl7 : Array (Option Value)} {oc7 kV7 dc7 pm7 cd7 ct7 : Value}
    (a7 : PySem.W.nsIn K mainGlobals "_law_same" = some (some (.ref f7))) (l7 : K.lookup f7 = some ⟨oc7, od7, .func (PySem.W.fnOf "_law_same" "_law_same" (defArgs s__law_same) (defBody s__law_same) (defScope s__law_same) .none kV7 dc7 pm7 an7 cd7 ct7), sl7⟩) (c7 : PySem.W.codeIn K cd7 "_law_same" = true) (k7 : PySem.W.keepIn K (.ref f7) = true)
    {f8 : Addr} {od8 an8 : Option Addr} {sl8 : Array (Option Value)} {oc8 kV8 dc8 pm8 cd8 ct8 : Value}
    (a8 : PySem.W.nsIn K mainGlobals "least_places" = some (some (.ref f8))) (l8 : K.lookup f8 = some ⟨oc8, od8, .func (PySem.W.fnOf "least_places" "least_places" (defArgs s_least_places) (defBody s_least_places) (defScope s_least_places) .none kV8 dc8 pm8 an8 cd8 ct8), sl8⟩) (c8 : PySem.W.codeIn K cd8 "least_places" = true) (k8 : PySem.W.keepIn K (.ref f8) = true)
    {f9 : Addr} {od9 an9 : Option Addr} {sl9 : Array (Option Value)} {oc9 kV9 dc9 pm9 cd9 ct9 : Value}
    (a9 : PySem.W.nsIn K mainGlobals "_law_of_both" = some (some (.ref f9))) (l9 : K.lookup f9 = some ⟨oc9, od9, .func (PySem.W.fnOf "_law_of_both" "_law_of_both" (defArgs s__law_of_both) (defBody s__law_of_both) (defScope s__law_of_both) .none kV9 dc9 pm9 an9 cd9 ct9), sl9⟩) (c9 : PySem.W.codeIn K cd9 "_law_of_both" = true) (k9 : PySem.W.keepIn K (.ref f9) = true)
    {f10 : Addr} {od10 an10 : Option Addr} {sl10 : Array (Option Value)} {oc10 kV10 dc10 pm10 cd10 ct10 : Value}
    (a10 : PySem.W.nsIn K mainGlobals "joined_least" = some (some (.ref f10))) (l10 : K.lookup f10 = some ⟨oc10, od10, .func (PySem.W.fnOf "joined_least" "joined_least" (defArgs s_joined_least) (defBody s_joined_least) (defScope s_joined_least) .none kV10 dc10 pm10 an10 cd10 ct10), sl10⟩) (c10 : PySem.W.codeIn K cd10 "joined_least" = true) (k10 : PySem.W.keepIn K (.ref f10) = true)
    {f11 : Addr} {od11 an11 : Option Addr} {sl11 : Array (Option Value)} {oc11 kV11 dc11 pm11 cd11 ct11 : Value}
    (a11 : PySem.W.nsIn K mainGlobals "_law_gcd" = some (some (.ref f11))) (l11 : K.lookup f11 = some ⟨oc11, od11, .func (PySem.W.fnOf "_law_gcd" "_law_gcd" (defArgs s__law_gcd) (defBody s__law_gcd) (defScope s__law_gcd) .none kV11 dc11 pm11 an11 cd11 ct11), sl11⟩) (c11 : PySem.W.codeIn K cd11 "_law_gcd" = true) (k11 : PySem.W.keepIn K (.ref f11) = true)
    {f12 : Addr} {od12 an12 : Option Addr} {sl12 : Array (Option Value)} {oc12 kV12 dc12 pm12 cd12 ct12 : Value}
    (a12 : PySem.W.nsIn K mainGlobals "_law_frac" = some (some (.ref f12))) (l12 : K.lookup f12 = some ⟨oc12, od12, .func (PySem.W.fnOf "_law_frac" "_law_frac" (defArgs s__law_frac) (defBody s__law_frac) (defScope s__law_frac) .none kV12 dc12 pm12 an12 cd12 ct12), sl12⟩) (c12 : PySem.W.codeIn K cd12 "_law_frac" = true) (k12 : PySem.W.keepIn K (.ref f12) = true)
    {f13 : Addr} {od13 an13 : Option Addr} {sl13 : Array (Option Value)} {oc13 kV13 dc13 pm13 cd13 ct13 : Value}
    (a13 : PySem.W.nsIn K mainGlobals "_law_estimate" = some (some (.ref f13))) (l13 : K.lookup f13 = some ⟨oc13, od13, .func (PySem.W.fnOf "_law_estimate" "_law_estimate" (defArgs s__law_estimate) (defBody s__law_estimate) (defScope s__law_estimate) .none kV13 dc13 pm13 an13 cd13 ct13), sl13⟩) (c13 : PySem.W.codeIn K cd13 "_law_estimate" = true) (k13 : PySem.W.keepIn K (.ref f13) = true)
    {f14 : Addr} {od14 an14 : Option Addr} {sl14 : Array (Option Value)} {oc14 kV14 dc14 pm14 cd14 ct14 : Value}
    (a14 : PySem.W.nsIn K mainGlobals "fraction" = some (some (.ref f14))) (l14 : K.lookup f14 = some ⟨oc14, od14, .func (PySem.W.fnOf "fraction" "fraction" (defArgs s_fraction) (defBody s_fraction) (defScope s_fraction) .none kV14 dc14 pm14 an14 cd14 ct14), sl14⟩) (c14 : PySem.W.codeIn K cd14 "fraction" = true) (k14 : PySem.W.keepIn K (.ref f14) = true)
    {f15 : Addr} {od15 an15 : Option Addr} {sl15 : Array (Option Value)} {oc15 kV15 dc15 pm15 cd15 ct15 : Value}
    (a15 : PySem.W.nsIn K mainGlobals "estimate" = some (some (.ref f15))) (l15 : K.lookup f15 = some ⟨oc15, od15, .func (PySem.W.fnOf "estimate" "estimate" (defArgs s_estimate) (defBody s_estimate) (defScope s_estimate) .none kV15 dc15 pm15 an15 cd15 ct15), sl15⟩) (c15 : PySem.W.codeIn K cd15 "estimate" = true) (k15 : PySem.W.keepIn K (.ref f15) = true)
    {f16 : Addr} {od16 an16 : Option Addr} {sl16 : Array (Option Value)} {oc16 kV16 dc16 pm16 cd16 ct16 : Value}
    (a16 : PySem.W.nsIn K mainGlobals "over" = some (some (.ref f16))) (l16 : K.lookup f16 = some ⟨oc16, od16, .func (PySem.W.fnOf "over" "over" (defArgs s_over) (defBody s_over) (defScope s_over) .none kV16 dc16 pm16 an16 cd16 ct16), sl16⟩) (c16 : PySem.W.codeIn K cd16 "over" = true) (k16 : PySem.W.keepIn K (.ref f16) = true)
    {f17 : Addr} {od17 an17 : Option Addr} {sl17 : Array (Option Value)} {oc17 kV17 dc17 pm17 cd17 ct17 : Value}
    (a17 : PySem.W.nsIn K mainGlobals "plus" = some (some (.ref f17))) (l17 : K.lookup f17 = some ⟨oc17, od17, .func (PySem.W.fnOf "plus" "plus" (defArgs s_plus) (defBody s_plus) (defScope s_plus) .none kV17 dc17 pm17 an17 cd17 ct17), sl17⟩) (c17 : PySem.W.codeIn K cd17 "plus" = true) (k17 : PySem.W.keepIn K (.ref f17) = true)
    {f18 : Addr} {od18 an18 : Option Addr} {sl18 : Array (Option Value)} {oc18 kV18 dc18 pm18 cd18 ct18 : Value}
    (a18 : PySem.W.nsIn K mainGlobals "sum_of" = some (some (.ref f18))) (l18 : K.lookup f18 = some ⟨oc18, od18, .func (PySem.W.fnOf "sum_of" "sum_of" (defArgs s_sum_of) (defBody s_sum_of) (defScope s_sum_of) .none kV18 dc18 pm18 an18 cd18 ct18), sl18⟩) (c18 : PySem.W.codeIn K cd18 "sum_of" = true) (k18 : PySem.W.keepIn K (.ref f18) = true)
    {f19 : Addr} {od19 an19 : Option Addr} {sl19 : Array (Option Value)} {oc19 kV19 dc19 pm19 cd19 ct19 : Value}
    (a19 : PySem.W.nsIn K mainGlobals "mean_estimate" = some (some (.ref f19))) (l19 : K.lookup f19 = some ⟨oc19, od19, .func (PySem.W.fnOf "mean_estimate" "mean_estimate" (defArgs s_mean_estimate) (defBody s_mean_estimate) (defScope s_mean_estimate) .none kV19 dc19 pm19 an19 cd19 ct19), sl19⟩) (c19 : PySem.W.codeIn K cd19 "mean_estimate" = true) (k19 : PySem.W.keepIn K (.ref f19) = true)
    {f20 : Addr} {od20 an20 : Option Addr} {sl20 : Array (Option Value)} {oc20 kV20 dc20 pm20 cd20 ct20 : Value}
    (a20 : PySem.W.nsIn K mainGlobals "_law_subsets" = some (some (.ref f20))) (l20 : K.lookup f20 = some ⟨oc20, od20, .func (PySem.W.fnOf "_law_subsets" "_law_subsets" (defArgs s__law_subsets) (defBody s__law_subsets) (defScope s__law_subsets) .none kV20 dc20 pm20 an20 cd20 ct20), sl20⟩) (c20 : PySem.W.codeIn K cd20 "_law_subsets" = true) (k20 : PySem.W.keepIn K (.ref f20) = true)
    {f21 : Addr} {od21 an21 : Option Addr} {sl21 : Array (Option Value)} {oc21 kV21 dc21 pm21 cd21 ct21 : Value}
    (a21 : PySem.W.nsIn K mainGlobals "_law_is_int" = some (some (.ref f21))) (l21 : K.lookup f21 = some ⟨oc21, od21, .func (PySem.W.fnOf "_law_is_int" "_law_is_int" (defArgs s__law_is_int) (defBody s__law_is_int) (defScope s__law_is_int) .none kV21 dc21 pm21 an21 cd21 ct21), sl21⟩) (c21 : PySem.W.codeIn K cd21 "_law_is_int" = true) (k21 : PySem.W.keepIn K (.ref f21) = true)
    {f22 : Addr} {od22 an22 : Option Addr} {sl22 : Array (Option Value)} {oc22 kV22 dc22 pm22 cd22 ct22 : Value}
    (a22 : PySem.W.nsIn K mainGlobals "_law_is_fraction" = some (some (.ref f22))) (l22 : K.lookup f22 = some ⟨oc22, od22, .func (PySem.W.fnOf "_law_is_fraction" "_law_is_fraction" (defArgs s__law_is_fraction) (defBody s__law_is_fraction) (defScope s__law_is_fraction) .none kV22 dc22 pm22 an22 cd22 ct22), sl22⟩) (c22 : PySem.W.codeIn K cd22 "_law_is_fraction" = true) (k22 : PySem.W.keepIn K (.ref f22) = true)
    {f23 : Addr} {od23 an23 : Option Addr} {sl23 : Array (Option Value)} {oc23 kV23 dc23 pm23 cd23 ct23 : Value}
    (a23 : PySem.W.nsIn K mainGlobals "_law_plus" = some (some (.ref f23))) (l23 : K.lookup f23 = some ⟨oc23, od23, .func (PySem.W.fnOf "_law_plus" "_law_plus" (defArgs s__law_plus) (defBody s__law_plus) (defScope s__law_plus) .none kV23 dc23 pm23 an23 cd23 ct23), sl23⟩) (c23 : PySem.W.codeIn K cd23 "_law_plus" = true) (k23 : PySem.W.keepIn K (.ref f23) = true)
    {f24 : Addr} {od24 an24 : Option Addr} {sl24 : Array (Option Value)} {oc24 kV24 dc24 pm24 cd24 ct24 : Value}
    (a24 : PySem.W.nsIn K mainGlobals "_law_total" = some (some (.ref f24))) (l24 : K.lookup f24 = some ⟨oc24, od24, .func (PySem.W.fnOf "_law_total" "_law_total" (defArgs s__law_total) (defBody s__law_total) (defScope s__law_total) .none kV24 dc24 pm24 an24 cd24 ct24), sl24⟩) (c24 : PySem.W.codeIn K cd24 "_law_total" = true) (k24 : PySem.W.keepIn K (.ref f24) = true)
    {f25 : Addr} {od25 an25 : Option Addr} {sl25 : Array (Option Value)} {oc25 kV25 dc25 pm25 cd25 ct25 : Value}
    (a25 : PySem.W.nsIn K mainGlobals "_law_means_k39" = some (some (.ref f25))) (l25 : K.lookup f25 = some ⟨oc25, od25, .func (PySem.W.fnOf "_law_means_k39" "_law_means_k39" (defArgs s__law_means_k39) (defBody s__law_means_k39) (defScope s__law_means_k39) .none kV25 dc25 pm25 an25 cd25 ct25), sl25⟩) (c25 : PySem.W.codeIn K cd25 "_law_means_k39" = true) (k25 : PySem.W.keepIn K (.ref f25) = true)
    {f26 : Addr} {od26 an26 : Option Addr} {sl26 : Array (Option Value)} {oc26 kV26 dc26 pm26 cd26 ct26 : Value}
    (a26 : PySem.W.nsIn K mainGlobals "law" = some (some (.ref f26))) (l26 : K.lookup f26 = some ⟨oc26, od26, .func (PySem.W.fnOf "law" "law" (defArgs s_law) (defBody s_law) (defScope s_law) .none kV26 dc26 pm26 an26 cd26 ct26), sl26⟩) (c26 : PySem.W.codeIn K cd26 "law" = true) (k26 : PySem.W.keepIn K (.ref f26) = true)
    (y_int : PySem.W.nsIn K mainGlobals "int" = some none)
    (y_len : PySem.W.nsIn K mainGlobals "len" = some none)
    (y_list : PySem.W.nsIn K mainGlobals "list" = some none)
    (y_range : PySem.W.nsIn K mainGlobals "range" = some none)
    (y_tuple : PySem.W.nsIn K mainGlobals "tuple" = some none)
    (y_sorted : PySem.W.nsIn K mainGlobals "sorted" = some none)
    (y_isinstance : PySem.W.nsIn K mainGlobals "isinstance" = some none)
    (y_bool : PySem.W.nsIn K mainGlobals "bool" = some none)
    (y_str : PySem.W.nsIn K mainGlobals "str" = some none)
    (y_set : PySem.W.nsIn K mainGlobals "set" = some none)
    (y_abs : PySem.W.nsIn K mainGlobals "abs" = some none)
    (y_max : PySem.W.nsIn K mainGlobals "max" = some none)
    (y_gcd : PySem.W.nsIn K mainGlobals "gcd" = some (some (.builtin "math.gcd")))
    (y_combinations : PySem.W.nsIn K mainGlobals "combinations" = some (some (.type "itertools.combinations")))
    : ∃ fd : FuncData, (∀ (s : Shared) (v : Value), BindsTo s fd ⟨[v], []⟩ [("script", v)]) ∧ ∀ base : Heap, K.In base → base.Ns mainGlobals mg → FnOk l.prog w K mg base CX0 9 fa fd ["script"] (spM K none 1 m_law) := by
  have e := hfa.symm.trans (PySem.W.mg_of X G a26)
  cases e
  have F0 := fun_mk (st := s__law_draws) l0 c0 k0
  have F1 := fun_mk (st := s__law_take) l1 c1 k1
  have F2 := fun_mk (st := s__law_shuffled) l2 c2 k2
  have F3 := fun_mk (st := s__law_places) l3 c3 k3
  have F4 := fun_mk (st := s__law_pick) l4 c4 k4
  have F5 := fun_mk (st := s__law_set) l5 c5 k5
  have F6 := fun_mk (st := s__law_least) l6 c6 k6
  have F7 := fun_mk (st := s__law_same) l7 c7 k7
  have F8 := fun_mk (st := s_least_places) l8 c8 k8
  have F9 := fun_mk (st := s__law_of_both) l9 c9 k9
  have F10 := fun_mk (st := s_joined_least) l10 c10 k10
  have F11 := fun_mk (st := s__law_gcd) l11 c11 k11
  have F12 := fun_mk (st := s__law_frac) l12 c12 k12
  have F13 := fun_mk (st := s__law_estimate) l13 c13 k13
  have F14 := fun_mk (st := s_fraction) l14 c14 k14
  have F15 := fun_mk (st := s_estimate) l15 c15 k15
  have F16 := fun_mk (st := s_over) l16 c16 k16
  have F17 := fun_mk (st := s_plus) l17 c17 k17
  have F18 := fun_mk (st := s_sum_of) l18 c18 k18
  have F19 := fun_mk (st := s_mean_estimate) l19 c19 k19
  have F20 := fun_mk (st := s__law_subsets) l20 c20 k20
  have F21 := fun_mk (st := s__law_is_int) l21 c21 k21
  have F22 := fun_mk (st := s__law_is_fraction) l22 c22 k22
  have F23 := fun_mk (st := s__law_plus) l23 c23 k23
  have F24 := fun_mk (st := s__law_total) l24 c24 k24
  have F25 := fun_mk (st := s__law_means_k39) l25 c25 k25
  have F26 := fun_mk (st := s_law) l26 c26 k26
  have b0 := F0.binds (ps := ["script", "many"]) fun _ _ _ _ _ _ us hl => match us, hl with | [_, _], _ => rfl
  have b1 := F1.binds (ps := ["draws", "many"]) fun _ _ _ _ _ _ us hl => match us, hl with | [_, _], _ => rfl
  have b2 := F2.binds (ps := ["draws", "row"]) fun _ _ _ _ _ _ us hl => match us, hl with | [_, _], _ => rfl
  have b3 := F3.binds (ps := ["draws", "top"]) fun _ _ _ _ _ _ us hl => match us, hl with | [_, _], _ => rfl
  have b4 := F4.binds (ps := ["draws", "row"]) fun _ _ _ _ _ _ us hl => match us, hl with | [_, _], _ => rfl
  have b5 := F5.binds (ps := ["draws", "top", "many"]) fun _ _ _ _ _ _ us hl => match us, hl with | [_, _, _], _ => rfl
  have b6 := F6.binds (ps := ["keys", "places", "k"]) fun _ _ _ _ _ _ us hl => match us, hl with | [_, _, _], _ => rfl
  have b7 := F7.binds (ps := ["actual", "due"]) fun _ _ _ _ _ _ us hl => match us, hl with | [_, _], _ => rfl
  have b8 := F8.binds (ps := ["keys", "places", "k"]) fun _ _ _ _ _ _ us hl => match us, hl with | [_, _, _], _ => rfl
  have b9 := F9.binds (ps := ["one", "other"]) fun _ _ _ _ _ _ us hl => match us, hl with | [_, _], _ => rfl
  have b10 := F10.binds (ps := ["least", "other", "k"]) fun _ _ _ _ _ _ us hl => match us, hl with | [_, _, _], _ => rfl
  have b11 := F11.binds (ps := ["one", "other"]) fun _ _ _ _ _ _ us hl => match us, hl with | [_, _], _ => rfl
  have b12 := F12.binds (ps := ["n", "d"]) fun _ _ _ _ _ _ us hl => match us, hl with | [_, _], _ => rfl
  have b13 := F13.binds (ps := ["least", "top", "k"]) fun _ _ _ _ _ _ us hl => match us, hl with | [_, _, _], _ => rfl
  have b14 := F14.binds (ps := ["n", "d"]) fun _ _ _ _ _ _ us hl => match us, hl with | [_, _], _ => rfl
  have b15 := F15.binds (ps := ["least", "N", "k"]) fun _ _ _ _ _ _ us hl => match us, hl with | [_, _, _], _ => rfl
  have b16 := F16.binds (ps := ["f", "g"]) fun _ _ _ _ _ _ us hl => match us, hl with | [_, _], _ => rfl
  have b17 := F17.binds (ps := ["f", "g"]) fun _ _ _ _ _ _ us hl => match us, hl with | [_, _], _ => rfl
  have b18 := F18.binds (ps := ["fractions"]) fun _ _ _ _ _ _ us hl => match us, hl with | [_], _ => rfl
  have b19 := F19.binds (ps := ["D", "N", "k"]) fun _ _ _ _ _ _ us hl => match us, hl with | [_, _, _], _ => rfl
  have b20 := F20.binds (ps := ["row"]) fun _ _ _ _ _ _ us hl => match us, hl with | [_], _ => rfl
  have b21 := F21.binds (ps := ["thing"]) fun _ _ _ _ _ _ us hl => match us, hl with | [_], _ => rfl
  have b22 := F22.binds (ps := ["thing"]) fun _ _ _ _ _ _ us hl => match us, hl with | [_], _ => rfl
  have b23 := F23.binds (ps := ["one", "other"]) fun _ _ _ _ _ _ us hl => match us, hl with | [_, _], _ => rfl
  have b24 := F24.binds (ps := ["fractions"]) fun _ _ _ _ _ _ us hl => match us, hl with | [_], _ => rfl
  have b25 := F25.binds (ps := ["top", "many", "k"]) fun _ _ _ _ _ _ us hl => match us, hl with | [_, _, _], _ => rfl
  have z_int := PySem.W.mg_none_of X G y_int
  have z_len := PySem.W.mg_none_of X G y_len
  have z_list := PySem.W.mg_none_of X G y_list
  have z_range := PySem.W.mg_none_of X G y_range
  have z_tuple := PySem.W.mg_none_of X G y_tuple
  have z_sorted := PySem.W.mg_none_of X G y_sorted
  have z_isinstance := PySem.W.mg_none_of X G y_isinstance
  have z_bool := PySem.W.mg_none_of X G y_bool
  have z_str := PySem.W.mg_none_of X G y_str
  have z_set := PySem.W.mg_none_of X G y_set
  have z_abs := PySem.W.mg_none_of X G y_abs
  have z_max := PySem.W.mg_none_of X G y_max
  have z_gcd := PySem.W.mg_of X G y_gcd
  have z_combinations := PySem.W.mg_of X G y_combinations
  refine ⟨PySem.W.fnOf "law" "law" (defArgs s_law) (defBody s_law) (defScope s_law) .none kV26 dc26 pm26 an26 cd26 ct26, fun s v => .of_eq rfl, fun base _ _ => ?_⟩
  have o__law_draws : Ok l.prog w K mg base 1 "_law_draws" ["script", "many"] none 2 m__law_draws := ⟨f0, _, ok__law_draws z_int z_len z_list z_range F0, PySem.W.mg_of X G a0, F0.kp, b0⟩
  have o__law_take : Ok l.prog w K mg base 1 "_law_take" ["draws", "many"] (some 0) 2 m__law_take := ⟨f1, _, ok__law_take z_len z_int F1, PySem.W.mg_of X G a1, F1.kp, b1⟩
  have o__law_shuffled : Ok l.prog w K mg base 2 "_law_shuffled" ["draws", "row"] (some 0) 2 m__law_shuffled := ⟨f2, _, ok__law_shuffled z_list z_range z_len (o__law_take.mono (by decide)) F2, PySem.W.mg_of X G a2, F2.kp, b2⟩
  have o__law_places : Ok l.prog w K mg base 3 "_law_places" ["draws", "top"] (some 0) 2 m__law_places := ⟨f3, _, ok__law_places z_list z_range z_tuple (o__law_shuffled.mono (by decide)) F3, PySem.W.mg_of X G a3, F3.kp, b3⟩
  have o__law_pick : Ok l.prog w K mg base 2 "_law_pick" ["draws", "row"] (some 0) 2 m__law_pick := ⟨f4, _, ok__law_pick z_len (o__law_take.mono (by decide)) F4, PySem.W.mg_of X G a4, F4.kp, b4⟩
  have o__law_set : Ok l.prog w K mg base 2 "_law_set" ["draws", "top", "many"] (some 0) 3 m__law_set := ⟨f5, _, ok__law_set z_range z_sorted z_tuple (o__law_take.mono (by decide)) F5, PySem.W.mg_of X G a5, F5.kp, b5⟩
  have o__law_least : Ok l.prog w K mg base 1 "_law_least" ["keys", "places", "k"] none 3 m__law_least := ⟨f6, _, ok__law_least z_sorted z_tuple F6, PySem.W.mg_of X G a6, F6.kp, b6⟩
  have o__law_same : Ok l.prog w K mg base 8 "_law_same" ["actual", "due"] none 2 (m__law_same 8) := ⟨f7, _, ok__law_same z_list z_tuple z_isinstance z_len z_range z_bool z_int z_str F7 (PySem.W.mg_of X G a7) b7 8, PySem.W.mg_of X G a7, F7.kp, b7⟩
  have o_least_places : Ok l.prog w K mg base 1 "least_places" ["keys", "places", "k"] none 3 m_least_places := ⟨f8, _, ok_least_places z_sorted z_tuple F8, PySem.W.mg_of X G a8, F8.kp, b8⟩
  have o__law_of_both : Ok l.prog w K mg base 1 "_law_of_both" ["one", "other"] none 2 m__law_of_both := ⟨f9, _, ok__law_of_both z_sorted z_set z_list z_tuple F9, PySem.W.mg_of X G a9, F9.kp, b9⟩
  have o_joined_least : Ok l.prog w K mg base 1 "joined_least" ["least", "other", "k"] none 3 m_joined_least := ⟨f10, _, ok_joined_least z_sorted z_tuple F10, PySem.W.mg_of X G a10, F10.kp, b10⟩
  have o__law_gcd : Ok l.prog w K mg base 1 "_law_gcd" ["one", "other"] none 2 m__law_gcd := ⟨f11, _, ok__law_gcd z_abs z_range z_int F11, PySem.W.mg_of X G a11, F11.kp, b11⟩
  have o__law_frac : Ok l.prog w K mg base 2 "_law_frac" ["n", "d"] none 2 m__law_frac := ⟨f12, _, ok__law_frac z_max (o__law_gcd.mono (by decide)) F12, PySem.W.mg_of X G a12, F12.kp, b12⟩
  have o__law_estimate : Ok l.prog w K mg base 3 "_law_estimate" ["least", "top", "k"] none 3 m__law_estimate := ⟨f13, _, ok__law_estimate z_len (o__law_frac.mono (by decide)) F13, PySem.W.mg_of X G a13, F13.kp, b13⟩
  have o_fraction : Ok l.prog w K mg base 1 "fraction" ["n", "d"] none 2 m_fraction := ⟨f14, _, ok_fraction z_gcd F14, PySem.W.mg_of X G a14, F14.kp, b14⟩
  have o_estimate : Ok l.prog w K mg base 2 "estimate" ["least", "N", "k"] none 3 m_estimate := ⟨f15, _, ok_estimate z_len (o_fraction.mono (by decide)) F15, PySem.W.mg_of X G a15, F15.kp, b15⟩
  have o_over : Ok l.prog w K mg base 2 "over" ["f", "g"] none 2 m_over := ⟨f16, _, ok_over (o_fraction.mono (by decide)) F16, PySem.W.mg_of X G a16, F16.kp, b16⟩
  have o_plus : Ok l.prog w K mg base 2 "plus" ["f", "g"] none 2 m_plus := ⟨f17, _, ok_plus (o_fraction.mono (by decide)) F17, PySem.W.mg_of X G a17, F17.kp, b17⟩
  have o_sum_of : Ok l.prog w K mg base 3 "sum_of" ["fractions"] none 1 m_sum_of := ⟨f18, _, ok_sum_of (o_plus.mono (by decide)) F18, PySem.W.mg_of X G a18, F18.kp, b18⟩
  have o_mean_estimate : Ok l.prog w K mg base 4 "mean_estimate" ["D", "N", "k"] none 3 m_mean_estimate := ⟨f19, _, ok_mean_estimate z_combinations z_range z_len (o_estimate.mono (by decide)) (o_over.mono (by decide)) (o_sum_of.mono (by decide)) F19, PySem.W.mg_of X G a19, F19.kp, b19⟩
  have o__law_subsets : Ok l.prog w K mg base 1 "_law_subsets" ["row"] none 1 m__law_subsets := ⟨f20, _, ok__law_subsets z_range z_len F20, PySem.W.mg_of X G a20, F20.kp, b20⟩
  have o__law_is_int : Ok l.prog w K mg base 1 "_law_is_int" ["thing"] none 1 m__law_is_int := ⟨f21, _, ok__law_is_int z_int z_isinstance z_bool F21, PySem.W.mg_of X G a21, F21.kp, b21⟩
  have o__law_is_fraction : Ok l.prog w K mg base 2 "_law_is_fraction" ["thing"] none 1 m__law_is_fraction := ⟨f22, _, ok__law_is_fraction z_tuple z_isinstance z_len (o__law_is_int.mono (by decide)) (o__law_gcd.mono (by decide)) F22, PySem.W.mg_of X G a22, F22.kp, b22⟩
  have o__law_plus : Ok l.prog w K mg base 3 "_law_plus" ["one", "other"] none 2 m__law_plus := ⟨f23, _, ok__law_plus (o__law_frac.mono (by decide)) F23, PySem.W.mg_of X G a23, F23.kp, b23⟩
  have o__law_total : Ok l.prog w K mg base 4 "_law_total" ["fractions"] none 1 m__law_total := ⟨f24, _, ok__law_total (o__law_plus.mono (by decide)) F24, PySem.W.mg_of X G a24, F24.kp, b24⟩
  have o__law_means_k39 : Ok l.prog w K mg base 5 "_law_means_k39" ["top", "many", "k"] none 3 m__law_means_k39 := ⟨f25, _, ok__law_means_k39 z_list z_range z_len (o__law_subsets.mono (by decide)) (o_estimate.mono (by decide)) (o__law_is_fraction.mono (by decide)) (o__law_total.mono (by decide)) F25, PySem.W.mg_of X G a25, F25.kp, b25⟩
  exact ok_law z_range (o__law_draws.mono (by decide)) (o__law_take.mono (by decide)) (o__law_places.mono (by decide)) (o__law_pick.mono (by decide)) (o__law_set.mono (by decide)) (o__law_least.mono (by decide)) (o__law_same.mono (by decide)) (o_least_places.mono (by decide)) (o__law_of_both.mono (by decide)) (o_joined_least.mono (by decide)) (o__law_estimate.mono (by decide)) (o_estimate.mono (by decide)) (o_mean_estimate.mono (by decide)) (o__law_means_k39.mono (by decide)) F26
end
end K36
open PySem PySem.W PyProof.Rows
set_option maxHeartbeats 0 in
theorem PySem.Challenge.cw_sketchkeep_k36_least_places_and_estimate_holds : PySem.Challenge.rw_sketchkeep_k36_least_places_and_estimate.Holds := by
  w_on; o_law; k_head; (case hw => w_witness2)
  k_fill
  refine L2.walk_of (l := PySem.Challenge.rw_sketchkeep_k36_least_places_and_estimate) (n := 63) (k := 9) (x := "script") (CX := fun _ => L2.CX0) (sp := fun w => Zk.spM _ none 1 K36.m_law) rfl (by decide) rfl ⟨rfl, by decide, by decide⟩ (fun w h Y => PySem.W.kIn_of Y) ?F (fun _ _ a ns hl hO hS => Zk.law_sp (fun ns hl => K36.law_true ns hl) hl hO hS) (fun _ _ _ _ _ h => h)
  case F =>
    intro w mg fa h KX G hmg
    refine' K36.all_mk KX G hmg ?a0 ?l0 ?c0 ?k0 ?a1 ?l1 ?c1 ?k1 ?a2 ?l2 ?c2 ?k2 ?a3 ?l3 ?c3 ?k3 ?a4 ?l4 ?c4 ?k4 ?a5 ?l5 ?c5 ?k5 ?a6 ?l6 ?c6 ?k6 ?a7 ?l7 ?c7 ?k7 ?a8 ?l8 ?c8 ?k8 ?a9 ?l9 ?c9 ?k9 ?a10 ?l10 ?c10 ?k10 ?a11 ?l11 ?c11 ?k11 ?a12 ?l12 ?c12 ?k12 ?a13 ?l13 ?c13 ?k13 ?a14 ?l14 ?c14 ?k14 ?a15 ?l15 ?c15 ?k15 ?a16 ?l16 ?c16 ?k16 ?a17 ?l17 ?c17 ?k17 ?a18 ?l18 ?c18 ?k18 ?a19 ?l19 ?c19 ?k19 ?a20 ?l20 ?c20 ?k20 ?a21 ?l21 ?c21 ?k21 ?a22 ?l22 ?c22 ?k22 ?a23 ?l23 ?c23 ?k23 ?a24 ?l24 ?c24 ?k24 ?a25 ?l25 ?c25 ?k25 ?a26 ?l26 ?c26 ?k26 ?y_int ?y_len ?y_list ?y_range ?y_tuple ?y_sorted ?y_isinstance ?y_bool ?y_str ?y_set ?y_abs ?y_max ?y_gcd ?y_combinations
    (case a0 => k_is); (case l0 => k_is); (case c0 => k_is); (case k0 => k_is); (case a1 => k_is); (case l1 => k_is); (case c1 => k_is); (case k1 => k_is); (case a2 => k_is); (case l2 => k_is); (case c2 => k_is); (case k2 => k_is); (case a3 => k_is); (case l3 => k_is); (case c3 => k_is); (case k3 => k_is); (case a4 => k_is); (case l4 => k_is); (case c4 => k_is); (case k4 => k_is); (case a5 => k_is); (case l5 => k_is); (case c5 => k_is); (case k5 => k_is); (case a6 => k_is); (case l6 => k_is); (case c6 => k_is); (case k6 => k_is); (case a7 => k_is); (case l7 => k_is); (case c7 => k_is); (case k7 => k_is); (case a8 => k_is); (case l8 => k_is); (case c8 => k_is); (case k8 => k_is); (case a9 => k_is); (case l9 => k_is); (case c9 => k_is); (case k9 => k_is); (case a10 => k_is); (case l10 => k_is); (case c10 => k_is); (case k10 => k_is); (case a11 => k_is); (case l11 => k_is); (case c11 => k_is); (case k11 => k_is); (case a12 => k_is); (case l12 => k_is); (case c12 => k_is); (case k12 => k_is); (case a13 => k_is); (case l13 => k_is); (case c13 => k_is); (case k13 => k_is); (case a14 => k_is); (case l14 => k_is); (case c14 => k_is); (case k14 => k_is); (case a15 => k_is); (case l15 => k_is); (case c15 => k_is); (case k15 => k_is); (case a16 => k_is); (case l16 => k_is); (case c16 => k_is); (case k16 => k_is); (case a17 => k_is); (case l17 => k_is); (case c17 => k_is); (case k17 => k_is); (case a18 => k_is); (case l18 => k_is); (case c18 => k_is); (case k18 => k_is); (case a19 => k_is); (case l19 => k_is); (case c19 => k_is); (case k19 => k_is); (case a20 => k_is); (case l20 => k_is); (case c20 => k_is); (case k20 => k_is); (case a21 => k_is); (case l21 => k_is); (case c21 => k_is); (case k21 => k_is); (case a22 => k_is); (case l22 => k_is); (case c22 => k_is); (case k22 => k_is); (case a23 => k_is); (case l23 => k_is); (case c23 => k_is); (case k23 => k_is); (case a24 => k_is); (case l24 => k_is); (case c24 => k_is); (case k24 => k_is); (case a25 => k_is); (case l25 => k_is); (case c25 => k_is); (case k25 => k_is); (case a26 => k_is); (case l26 => k_is); (case c26 => k_is); (case k26 => k_is); (case y_int => k_is); (case y_len => k_is); (case y_list => k_is); (case y_range => k_is); (case y_tuple => k_is); (case y_sorted => k_is); (case y_isinstance => k_is); (case y_bool => k_is); (case y_str => k_is); (case y_set => k_is); (case y_abs => k_is); (case y_max => k_is); (case y_gcd => k_is); (case y_combinations => k_is)

