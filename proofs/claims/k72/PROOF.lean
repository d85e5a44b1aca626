import PyProof.Rows.All
import Wide.All
import OpenK.AllK
import Wide.FinOn
import HandS.ForMost
import HandS.Deep
import HandS.Walk
import HandS.TupMul
import HandS.TupAny
import HandS.Wide
import HandS.WideBits
import HandS.SortInts
import HandS.TupLe
import HandS.Flow
import HandS.Conv
import HandS.IsInst
import HandS.Small
import HandS.Style
import HandS.NoneIn
import HandS.SortRule
import HandS.More
import KE.GoesMore
import HandS.Zip
import HandS.Rev
import HandS.Gcd
import HandS.SetFor
import HandS.DictComp
import KE.BitLaws
import HandS.SortKw
import HandS.SetBool
import HandS.Strs
import KE.DataMinMax
import HandS.TupSets
import KE.KDictList
import HandS.Iter
import HandS.Dict
import KE.DatumOrd
import KE.OsArith
import PySem.Challenge.RW_sketchkeep_k72_joined_counters_and_choic
set_option Elab.async false
set_option linter.all false
set_option maxRecDepth 100000
namespace Zk
open PySem PySem.Spec PyProof.Rows L2

/-- data without addresses -/
inductive D where
  | non | bl (b : Bool) | int (i : Int) | str (s : Str)
  | tup (xs : List D) | lst (xs : List D)
  | dK (kvs : List (Key × D)) | dT (kvs : List (List Key × D))
  | set (xs : List Int)
  /-- a built-in type -/
  | ty (n : String)
  /-- a tuple of the module's own -/
  | con (xs : List D)
  /-- the script -/
  | scr (xs : List Int)

/-- nothing within can change -/
def imm : D → Bool
  | .non => true
  | .bl _ => true
  | .int _ => true
  | .str _ => true
  | .ty _ => true
  | .tup xs => imms xs
  | .con xs => imms xs
  | .lst _ => false
  | .dK _ => false
  | .dT _ => false
  | .set _ => false
  | .scr _ => false
where imms : List D → Bool
  | [] => true
  | d :: ds => imm d && imms ds
abbrev imms := imm.imms
@[simp] theorem imm_non : imm .non = true := by simp [imm]
@[simp] theorem imm_bl (b : Bool) : imm (.bl b) = true := by simp [imm]
@[simp] theorem imm_int (b : Int) : imm (.int b) = true := by simp [imm]
@[simp] theorem imm_str (b : Str) : imm (.str b) = true := by simp [imm]
@[simp] theorem imm_ty (b : String) : imm (.ty b) = true := by simp [imm]
@[simp] theorem imm_tup (xs : List D) : imm (.tup xs) = imms xs := by simp [imm]
@[simp] theorem imm_con (xs : List D) : imm (.con xs) = imms xs := by simp [imm]
@[simp] theorem imm_lst (xs : List D) : imm (.lst xs) = false := by simp [imm]
@[simp] theorem imm_dK (xs : List (Key × D)) : imm (.dK xs) = false := by simp [imm]
@[simp] theorem imm_dT (xs : List (List Key × D)) : imm (.dT xs) = false := by simp [imm]
@[simp] theorem imm_set (xs : List Int) : imm (.set xs) = false := by simp [imm]
@[simp] theorem imm_scr (xs : List Int) : imm (.scr xs) = false := by simp [imm]
@[simp] theorem imms_nil : imms [] = true := by simp [imms, imm.imms]
@[simp] theorem imms_cons (d : D) (ds : List D) : imms (d :: ds) = (imm d && imms ds) := by simp [imms, imm.imms]
theorem imms_all : ∀ ds : List D, imms ds = ds.all imm
  | [] => by simp
  | d :: ds => by simp [imms_all ds]
theorem imms_append (a b : List D) : imms (a ++ b) = (imms a && imms b) := by simp [imms_all]
theorem imms_map {α : Type} (f : α → D) (h : ∀ x, imm (f x) = true) (xs : List α) : imms (xs.map f) = true := by
  simp [imms_all, List.all_eq_true, h]

/-- flat: a changeable thing of unchangeable ones -/
def flat : D → Bool
  | .lst xs => imms xs
  | .dK kvs => imms (kvs.map (·.2))
  | .dT kvs => imms (kvs.map (·.2))
  | .set _ => true
  | _ => false

/-- a list that is locked, or a written one -/
def SqF (K : PySem.W.Frag) (H : Hp) (a : Addr) (xs : List V) : Prop :=
  (∃ o, H a = some (.frz o (.lst xs))) ∨
    ∃ (o : Obj) (its : Array Value) (n : Nat), K.lookup a = some o ∧ o.cls = .type "list" ∧ o.dict = none ∧ o.data = .seq its n ∧ its.size ≤ sizeLine ∧ Vals xs its.toList
theorem SqF.sq {K : PySem.W.Frag} {H : Hp} {a : Addr} {xs : List V} (h : SqF K H a xs) : SqL K H a xs := by
  rcases h with ⟨o, h⟩ | h
  · exact .inl (.inr ⟨o, h⟩)
  · exact .inr h
/-- a written tuple -/
def SqU (K : PySem.W.Frag) (a : Addr) (xs : List V) : Prop :=
    ∃ (o : Obj) (its : Array Value) (n : Nat), K.lookup a = some o ∧ o.cls = .type "tuple" ∧ o.data = .seq its n ∧ its.size ≤ sizeLine ∧ Vals xs its.toList
theorem SqU.sq {K : PySem.W.Frag} {H : Hp} {a : Addr} {xs : List V} (h : SqU K a xs) : SqT K H a xs := .inr h
mutual
/-- v stands for d; what can change within is at addresses of Z -/
inductive Rp (K : PySem.W.Frag) (Z : Addr → Prop) (H : Hp) : V → D → Prop
  | non : Rp K Z H .non .non
  | bl (b : Bool) : Rp K Z H (.bl b) (.bl b)
  | int (i : Int) : Rp K Z H (.int i) (.int i)
  | str (x : Str) : Rp K Z H (.str x) (.str x)
  | ty (x : String) : Rp K Z H (.ty x) (.ty x)
  | con {a : Addr} {vs : List V} {ds : List D} : SqU K a vs → Rps K Z H vs ds → Rp K Z H (.ref a) (.con ds)
  | tup {a : Addr} {vs : List V} {ds : List D} : H a = some (.tup vs) → Rps K Z H vs ds → Rp K Z H (.ref a) (.tup ds)
  | lst {a : Addr} {vs : List V} {ds : List D} : Z a → H a = some (.lst vs) → Rps K Z H vs ds → Rp K Z H (.ref a) (.lst ds)
  | dK {a : Addr} {kvs : List (Key × V)} {kds : List (Key × D)} : Z a → Rd H a (.dK kvs) → kvs.map (·.1) = kds.map (·.1) → Rps K Z H (kvs.map (·.2)) (kds.map (·.2)) → Rp K Z H (.ref a) (.dK kds)
  | dT {a : Addr} {kvs : List (List Key × V)} {kds : List (List Key × D)} : Z a → H a = some (.dT kvs) → kvs.map (·.1) = kds.map (·.1) → Rps K Z H (kvs.map (·.2)) (kds.map (·.2)) → Rp K Z H (.ref a) (.dT kds)
  | set {a : Addr} {S : Int → Bool} {n : Nat} {xs : List Int} : Z a → H a = some (.set S n) → (∀ i, S i = decide (i ∈ xs)) → n = xs.length → xs.Nodup → Rp K Z H (.ref a) (.set xs)
  | scr {a : Addr} {ns : List Int} : SqF K H a (ns.map V.int) → Rp K Z H (.ref a) (.scr ns)
inductive Rps (K : PySem.W.Frag) (Z : Addr → Prop) (H : Hp) : List V → List D → Prop
  | nil : Rps K Z H [] []
  | cons {v : V} {d : D} {vs : List V} {ds : List D} : Rp K Z H v d → Rps K Z H vs ds → Rps K Z H (v :: vs) (d :: ds)
end

/-- what lies frozen, the tuples and what is locked persist -/
structure Pers (Z : Addr → Prop) (H : Hp) (Z' : Addr → Prop) (H' : Hp) : Prop where
  zz : ∀ a, Z a → Z' a
  hz : ∀ a o, Z a → H a = some o → H' a = some o
  tp : ∀ a o, H a = some o → ¬ Mut (some o) → H' a = some o
theorem Pers.refl (Z : Addr → Prop) (H : Hp) : Pers Z H Z H := ⟨fun _ h => h, fun _ _ _ h => h, fun _ _ h _ => h⟩
theorem Pers.trans {Z Z1 Z2 : Addr → Prop} {H H1 H2 : Hp} (a : Pers Z H Z1 H1) (b : Pers Z1 H1 Z2 H2) : Pers Z H Z2 H2 :=
  ⟨fun x h => b.zz x (a.zz x h), fun x o h e => b.hz x o (a.zz x h) (a.hz x o h e), fun x o e n => b.tp x o (a.tp x o e n) n⟩
theorem Pers.sqF {K : PySem.W.Frag} {Z Z' : Addr → Prop} {H H' : Hp} (p : Pers Z H Z' H') {a : Addr} {vs : List V} (h : SqF K H a vs) : SqF K H' a vs := by
  rcases h with ⟨o, h⟩ | h
  · exact .inl ⟨o, p.tp _ _ h fun z => z⟩
  · exact .inr h
theorem rdP {Z Z' : Addr → Prop} {H H' : Hp} (p : Pers Z H Z' H') {a : Addr} {u : HO} (z : Z a) (h : Rd H a u) : Rd H' a u := h.elim (fun h => .inl (p.hz _ _ z h)) fun ⟨o, h⟩ => .inr ⟨o, p.tp _ _ h fun z => z⟩
mutual
theorem Rp.pers {K : PySem.W.Frag} {Z Z' : Addr → Prop} {H H' : Hp} (p : Pers Z H Z' H') : ∀ {v : V} {d : D}, Rp K Z H v d → Rp K Z' H' v d
  | _, _, .non => .non
  | _, _, .bl b => .bl b
  | _, _, .int i => .int i
  | _, _, .str x => .str x
  | _, _, .ty x => .ty x
  | _, _, .tup h r => .tup (p.tp _ _ h fun z => z) (Rps.pers p r)
  | _, _, .con h r => .con h (Rps.pers p r)
  | _, _, .lst z h r => .lst (p.zz _ z) (p.hz _ _ z h) (Rps.pers p r)
  | _, _, .dK z h e r => .dK (p.zz _ z) (rdP p z h) e (Rps.pers p r)
  | _, _, .dT z h e r => .dT (p.zz _ z) (p.hz _ _ z h) e (Rps.pers p r)
  | _, _, .set z h e n d => .set (p.zz _ z) (p.hz _ _ z h) e n d
  | _, _, .scr h => .scr (p.sqF h)
theorem Rps.pers {K : PySem.W.Frag} {Z Z' : Addr → Prop} {H H' : Hp} (p : Pers Z H Z' H') : ∀ {vs : List V} {ds : List D}, Rps K Z H vs ds → Rps K Z' H' vs ds
  | _, _, .nil => .nil
  | _, _, .cons h t => .cons (Rp.pers p h) (Rps.pers p t)
end
mutual
/-- unchangeable data hang on the tuples alone -/
theorem Rp.immz {K : PySem.W.Frag} {Z Z' : Addr → Prop} {H H' : Hp} (tp : ∀ a o, H a = some o → ¬ Mut (some o) → H' a = some o) : ∀ {v : V} {d : D}, Rp K Z H v d → imm d = true → Rp K Z' H' v d
  | _, _, .non, _ => .non
  | _, _, .bl b, _ => .bl b
  | _, _, .int i, _ => .int i
  | _, _, .str x, _ => .str x
  | _, _, .ty x, _ => .ty x
  | _, .tup ds, .tup h r, i => .tup (tp _ _ h fun z => z) (Rps.immz tp r (by simpa using i))
  | _, .con ds, .con h r, i => .con h (Rps.immz tp r (by simpa using i))
  | _, _, .lst _ _ _, i => by simp at i
  | _, _, .dK _ _ _ _, i => by simp at i
  | _, _, .dT _ _ _ _, i => by simp at i
  | _, _, .set _ _ _ _ _, i => by simp at i
  | _, _, .scr _, i => by simp at i
theorem Rps.immz {K : PySem.W.Frag} {Z Z' : Addr → Prop} {H H' : Hp} (tp : ∀ a o, H a = some o → ¬ Mut (some o) → H' a = some o) : ∀ {vs : List V} {ds : List D}, Rps K Z H vs ds → imms ds = true → Rps K Z' H' vs ds
  | _, _, .nil, _ => .nil
  | _, _, .cons (d := d) h t, i => by
    simp only [imms_cons, Bool.and_eq_true] at i
    exact .cons (Rp.immz tp h i.1) (Rps.immz tp t i.2)
end
theorem Rps.len {K : PySem.W.Frag} {Z : Addr → Prop} {H : Hp} : ∀ {vs : List V} {ds : List D}, Rps K Z H vs ds → vs.length = ds.length
  | _, _, .nil => rfl
  | _, _, .cons _ t => by simp [Rps.len t]
theorem Rps.get {K : PySem.W.Frag} {Z : Addr → Prop} {H : Hp} : ∀ {vs : List V} {ds : List D}, Rps K Z H vs ds → ∀ {i : Nat} {v : V}, vs[i]? = some v → ∃ d, ds[i]? = some d ∧ Rp K Z H v d
  | _, _, .nil, i, v, e => by simp at e
  | _, _, .cons h t, 0, v, e => by simp at e; subst e; exact ⟨_, rfl, h⟩
  | _, _, .cons h t, i + 1, v, e => by
    obtain ⟨d, e2, r⟩ := Rps.get t (i := i) (v := v) (by simpa using e)
    exact ⟨d, by simpa using e2, r⟩
theorem Rps.getD {K : PySem.W.Frag} {Z : Addr → Prop} {H : Hp} : ∀ {vs : List V} {ds : List D}, Rps K Z H vs ds → ∀ {i : Nat} {d : D}, ds[i]? = some d → ∃ v, vs[i]? = some v ∧ Rp K Z H v d
  | _, _, .nil, i, v, e => by simp at e
  | _, _, .cons h t, 0, v, e => by simp at e; subst e; exact ⟨_, rfl, h⟩
  | _, _, .cons h t, i + 1, v, e => by
    obtain ⟨d, e2, r⟩ := Rps.getD t (i := i) (d := v) (by simpa using e)
    exact ⟨d, by simpa using e2, r⟩
theorem Rps.append {K : PySem.W.Frag} {Z : Addr → Prop} {H : Hp} : ∀ {vs ws : List V} {ds es : List D}, Rps K Z H vs ds → Rps K Z H ws es → Rps K Z H (vs ++ ws) (ds ++ es)
  | _, _, _, _, .nil, r => r
  | _, _, _, _, .cons h t, r => .cons h (Rps.append t r)
theorem Rps.take {K : PySem.W.Frag} {Z : Addr → Prop} {H : Hp} : ∀ {vs : List V} {ds : List D} (n : Nat), Rps K Z H vs ds → Rps K Z H (vs.take n) (ds.take n)
  | _, _, 0, _ => by simp; exact .nil
  | _, _, n + 1, .nil => by simp; exact .nil
  | _, _, n + 1, .cons h t => .cons h (Rps.take n t)
theorem Rps.drop {K : PySem.W.Frag} {Z : Addr → Prop} {H : Hp} : ∀ {vs : List V} {ds : List D} (n : Nat), Rps K Z H vs ds → Rps K Z H (vs.drop n) (ds.drop n)
  | _, _, 0, r => by simpa using r
  | _, _, n + 1, .nil => by simp; exact .nil
  | _, _, n + 1, .cons h t => Rps.drop n t
theorem Rps.set {K : PySem.W.Frag} {Z : Addr → Prop} {H : Hp} {v : V} {d : D} (h : Rp K Z H v d) : ∀ {vs : List V} {ds : List D} (n : Nat), Rps K Z H vs ds → Rps K Z H (vs.set n v) (ds.set n d)
  | _, _, _, .nil => by simp; exact .nil
  | _, _, 0, .cons _ t => .cons h t
  | _, _, n + 1, .cons g t => .cons g (Rps.set h n t)
theorem Rps.rev {K : PySem.W.Frag} {Z : Addr → Prop} {H : Hp} : ∀ {vs : List V} {ds : List D}, Rps K Z H vs ds → Rps K Z H vs.reverse ds.reverse
  | _, _, .nil => by simp; exact .nil
  | _, _, .cons h t => by simp only [List.reverse_cons]; exact Rps.append (Rps.rev t) (.cons h .nil)
theorem Rps.ints {K : PySem.W.Frag} {Z : Addr → Prop} {H : Hp} : ∀ {vs : List V} {ns : List Int}, Rps K Z H vs (ns.map D.int) → vs = ns.map V.int
  | _, [], .nil => rfl
  | _, n :: ns, .cons h t => by cases h; simp [Rps.ints t]
theorem Rps.ofInts {K : PySem.W.Frag} {Z : Addr → Prop} {H : Hp} : ∀ (ns : List Int), Rps K Z H (ns.map V.int) (ns.map D.int)
  | [] => .nil
  | n :: ns => .cons (.int n) (Rps.ofInts ns)
/-- three lists, item by item -/
inductive All3 {α β γ : Type} (P : α → β → γ → Prop) : List α → List β → List γ → Prop
  | nil : All3 P [] [] []
  | cons {a b c as bs cs} : P a b c → All3 P as bs cs → All3 P (a :: as) (b :: bs) (c :: cs)

/-- v stands for d, the addresses rs are ours alone, n levels deep -/
def Own (K : PySem.W.Frag) (Z : Addr → Prop) (H : Hp) : Nat → V → D → List Addr → Prop
  | 0, v, d, rs => rs = [] ∧ Rp K Z H v d
  | n + 1, v, d, rs =>
    match d with
    | .lst ds => ∃ a vs rss, v = .ref a ∧ H a = some (.lst vs) ∧ ¬ Z a ∧ All3 (Own K Z H n) vs ds rss ∧ rs = a :: rss.flatten
    | .dK kds => ∃ a kvs rss, v = .ref a ∧ H a = some (.dK kvs) ∧ ¬ Z a ∧ kvs.map (·.1) = kds.map (·.1) ∧ All3 (Own K Z H n) (kvs.map (·.2)) (kds.map (·.2)) rss ∧ rs = a :: rss.flatten
    | .dT kds => ∃ a kvs rss, v = .ref a ∧ H a = some (.dT kvs) ∧ ¬ Z a ∧ kvs.map (·.1) = kds.map (·.1) ∧ All3 (Own K Z H n) (kvs.map (·.2)) (kds.map (·.2)) rss ∧ rs = a :: rss.flatten
    | .set xs => ∃ a S m, v = .ref a ∧ H a = some (.set S m) ∧ ¬ Z a ∧ (∀ i, S i = decide (i ∈ xs)) ∧ m = xs.length ∧ xs.Nodup ∧ rs = [a]
    | _ => rs = [] ∧ Rp K Z H v d

section
variable {K : PySem.W.Frag} {Z Z' : Addr → Prop} {H H' : Hp}
theorem All3.imp {α β γ : Type} {P Q : α → β → γ → Prop} : ∀ {as : List α} {bs : List β} {cs : List γ}, All3 P as bs cs → (∀ a b c, c ∈ cs → P a b c → Q a b c) → All3 Q as bs cs
  | _, _, _, .nil, _ => .nil
  | _, _, _, .cons h t, f => .cons (f _ _ _ List.mem_cons_self h) (t.imp fun a b c m => f a b c (List.mem_cons_of_mem _ m))
theorem mem_flatten_of {a : Addr} {rs : List Addr} {rss : List (List Addr)} (h : rs ∈ rss) (m : a ∈ rs) : a ∈ rss.flatten := List.mem_flatten.mpr ⟨rs, h, m⟩

theorem Own.imm : ∀ {n : Nat} {v : V} {d : D} {rs : List Addr}, Own K Z H n v d rs → imm d = true → rs = [] ∧ Rp K Z H v d
  | 0, _, _, _, h, _ => h
  | n + 1, _, .non, _, h, _ => h
  | n + 1, _, .bl _, _, h, _ => h
  | n + 1, _, .int _, _, h, _ => h
  | n + 1, _, .str _, _, h, _ => h
  | n + 1, _, .ty _, _, h, _ => h
  | n + 1, _, .tup _, _, h, _ => h
  | n + 1, _, .con _, _, h, _ => h
theorem Own.ofImm : ∀ {n : Nat} {v : V} {d : D}, Rp K Z H v d → Zk.imm d = true → Own K Z H n v d []
  | 0, _, _, h, _ => ⟨rfl, h⟩
  | n + 1, _, .non, h, _ => ⟨rfl, h⟩
  | n + 1, _, .bl _, h, _ => ⟨rfl, h⟩
  | n + 1, _, .int _, h, _ => ⟨rfl, h⟩
  | n + 1, _, .str _, h, _ => ⟨rfl, h⟩
  | n + 1, _, .ty _, h, _ => ⟨rfl, h⟩
  | n + 1, _, .tup _, h, _ => ⟨rfl, h⟩
  | n + 1, _, .con _, h, _ => ⟨rfl, h⟩
/-- an owned thing stands while its own addresses stand and what lies frozen persists -/
theorem Own.keep (p : Pers Z H Z' H') : ∀ {n : Nat} {v : V} {d : D} {rs : List Addr}, (∀ a ∈ rs, H' a = H a ∧ ¬ Z' a) → Own K Z H n v d rs → Own K Z' H' n v d rs
  | 0, _, _, _, k, h => ⟨h.1, h.2.pers p⟩
  | n + 1, _, .lst ds, rs, k, h => by
    obtain ⟨a, vs, rss, e, ha, z, r, rfl⟩ := h
    obtain ⟨k1, k2⟩ := k a List.mem_cons_self
    exact ⟨a, vs, rss, e, k1.trans ha, k2, r.imp fun v d rs m o => Own.keep p (fun b hb => k b (List.mem_cons_of_mem _ (mem_flatten_of m hb))) o, rfl⟩
  | n + 1, _, .dK ds, rs, k, h => by
    obtain ⟨a, vs, rss, e, ha, z, e2, r, rfl⟩ := h
    obtain ⟨k1, k2⟩ := k a List.mem_cons_self
    exact ⟨a, vs, rss, e, k1.trans ha, k2, e2, r.imp fun v d rs m o => Own.keep p (fun b hb => k b (List.mem_cons_of_mem _ (mem_flatten_of m hb))) o, rfl⟩
  | n + 1, _, .dT ds, rs, k, h => by
    obtain ⟨a, vs, rss, e, ha, z, e2, r, rfl⟩ := h
    obtain ⟨k1, k2⟩ := k a List.mem_cons_self
    exact ⟨a, vs, rss, e, k1.trans ha, k2, e2, r.imp fun v d rs m o => Own.keep p (fun b hb => k b (List.mem_cons_of_mem _ (mem_flatten_of m hb))) o, rfl⟩
  | n + 1, _, .set xs, rs, k, h => by
    obtain ⟨a, S, m, e, ha, z, e2, e3, e4, rfl⟩ := h
    obtain ⟨k1, k2⟩ := k a List.mem_cons_self
    exact ⟨a, S, m, e, k1.trans ha, k2, e2, e3, e4, rfl⟩
  | n + 1, _, .non, rs, k, h => ⟨h.1, h.2.pers p⟩
  | n + 1, _, .bl _, rs, k, h => ⟨h.1, h.2.pers p⟩
  | n + 1, _, .int _, rs, k, h => ⟨h.1, h.2.pers p⟩
  | n + 1, _, .str _, rs, k, h => ⟨h.1, h.2.pers p⟩
  | n + 1, _, .ty _, rs, k, h => ⟨h.1, h.2.pers p⟩
  | n + 1, _, .tup _, rs, k, h => ⟨h.1, h.2.pers p⟩
  | n + 1, _, .con _, rs, k, h => ⟨h.1, h.2.pers p⟩
  | n + 1, _, .scr _, rs, k, h => ⟨h.1, h.2.pers p⟩
theorem All3.rps {P : V → D → List Addr → Prop} {R : V → D → Prop} (hR : ∀ v d rs, P v d rs → Rp K Z H v d) : ∀ {vs : List V} {ds : List D} {rss : List (List Addr)}, All3 P vs ds rss → Rps K Z H vs ds
  | _, _, _, .nil => .nil
  | _, _, _, .cons h t => .cons (hR _ _ _ h) (All3.rps (R := R) hR t)
/-- what is ours may be frozen -/
theorem Own.freeze (p : Pers Z H Z' H') : ∀ {n : Nat} {v : V} {d : D} {rs : List Addr}, (∀ a ∈ rs, H' a = H a ∧ Z' a) → Own K Z H n v d rs → Rp K Z' H' v d
  | 0, _, _, _, k, h => h.2.pers p
  | n + 1, _, .lst ds, rs, k, h => by
    obtain ⟨a, vs, rss, e, ha, z, r, rfl⟩ := h
    obtain ⟨k1, k2⟩ := k a List.mem_cons_self
    subst e
    exact .lst k2 (k1.trans ha) (All3.rps (R := fun _ _ => True) (P := fun v d rs => Rp K Z' H' v d) (fun _ _ _ h => h) (r.imp fun v d rs m o => Own.freeze p (fun b hb => k b (List.mem_cons_of_mem _ (mem_flatten_of m hb))) o))
  | n + 1, _, .dK ds, rs, k, h => by
    obtain ⟨a, vs, rss, e, ha, z, e2, r, rfl⟩ := h
    obtain ⟨k1, k2⟩ := k a List.mem_cons_self
    subst e
    exact .dK k2 (.inl (k1.trans ha)) e2 (All3.rps (R := fun _ _ => True) (P := fun v d rs => Rp K Z' H' v d) (fun _ _ _ h => h) (r.imp fun v d rs m o => Own.freeze p (fun b hb => k b (List.mem_cons_of_mem _ (mem_flatten_of m hb))) o))
  | n + 1, _, .dT ds, rs, k, h => by
    obtain ⟨a, vs, rss, e, ha, z, e2, r, rfl⟩ := h
    obtain ⟨k1, k2⟩ := k a List.mem_cons_self
    subst e
    exact .dT k2 (k1.trans ha) e2 (All3.rps (R := fun _ _ => True) (P := fun v d rs => Rp K Z' H' v d) (fun _ _ _ h => h) (r.imp fun v d rs m o => Own.freeze p (fun b hb => k b (List.mem_cons_of_mem _ (mem_flatten_of m hb))) o))
  | n + 1, _, .set xs, rs, k, h => by
    obtain ⟨a, S, m, e, ha, z, e2, e3, e4, rfl⟩ := h
    obtain ⟨k1, k2⟩ := k a List.mem_cons_self
    subst e
    exact .set k2 (k1.trans ha) e2 e3 e4
  | n + 1, _, .non, rs, k, h => h.2.pers p
  | n + 1, _, .bl _, rs, k, h => h.2.pers p
  | n + 1, _, .int _, rs, k, h => h.2.pers p
  | n + 1, _, .str _, rs, k, h => h.2.pers p
  | n + 1, _, .ty _, rs, k, h => h.2.pers p
  | n + 1, _, .tup _, rs, k, h => h.2.pers p
  | n + 1, _, .con _, rs, k, h => h.2.pers p
  | n + 1, _, .scr _, rs, k, h => h.2.pers p
/-- it may be read -/
theorem Own.rd {n : Nat} {v : V} {d : D} {rs : List Addr} (h : Own K Z H n v d rs) : Rp K (fun _ => True) H v d :=
  Own.freeze (Z' := fun _ => True) (H' := H) ⟨fun _ _ => trivial, fun _ _ _ e => e, fun _ _ e _ => e⟩ (fun _ _ => ⟨rfl, trivial⟩) h
theorem Rp.rd {v : V} {d : D} (h : Rp K Z H v d) : Rp K (fun _ => True) H v d := h.pers ⟨fun _ _ => trivial, fun _ _ _ e => e, fun _ _ e _ => e⟩
theorem All3.flat {P : V → D → List Addr → Prop} {C : Addr → Prop} (hP : ∀ v d rs, P v d rs → ∀ a ∈ rs, C a) : ∀ {vs : List V} {ds : List D} {rss : List (List Addr)}, All3 P vs ds rss → ∀ a ∈ rss.flatten, C a
  | _, _, _, .nil, a, h => by simp at h
  | _, _, _, .cons h t, a, m => by
    rw [List.flatten_cons, List.mem_append] at m
    rcases m with m | m
    · exact hP _ _ _ h a m
    · exact All3.flat hP t a m
/-- what is ours is changeable and not frozen -/
theorem Own.mut : ∀ {n : Nat} {v : V} {d : D} {rs : List Addr}, Own K Z H n v d rs → ∀ a ∈ rs, Mut (H a) ∧ ¬ Z a
  | 0, _, _, _, h, a, m => by rw [h.1] at m; simp at m
  | n + 1, _, .lst ds, rs, h, a, m => by
    obtain ⟨b, vs, rss, e, ha, z, r, rfl⟩ := h
    rcases List.mem_cons.mp m with rfl | m
    · exact ⟨by rw [ha]; trivial, z⟩
    · exact All3.flat (C := fun a => Mut (H a) ∧ ¬ Z a) (fun v d rs o => Own.mut o) r a m
  | n + 1, _, .dK ds, rs, h, a, m => by
    obtain ⟨b, vs, rss, e, ha, z, _, r, rfl⟩ := h
    rcases List.mem_cons.mp m with rfl | m
    · exact ⟨by rw [ha]; trivial, z⟩
    · exact All3.flat (C := fun a => Mut (H a) ∧ ¬ Z a) (fun v d rs o => Own.mut o) r a m
  | n + 1, _, .dT ds, rs, h, a, m => by
    obtain ⟨b, vs, rss, e, ha, z, _, r, rfl⟩ := h
    rcases List.mem_cons.mp m with rfl | m
    · exact ⟨by rw [ha]; trivial, z⟩
    · exact All3.flat (C := fun a => Mut (H a) ∧ ¬ Z a) (fun v d rs o => Own.mut o) r a m
  | n + 1, _, .set xs, rs, h, a, m => by
    obtain ⟨b, S, k, e, ha, z, _, _, _, rfl⟩ := h
    have e : a = b := by simpa using m
    subst e
    exact ⟨by rw [ha]; trivial, z⟩
  | n + 1, _, .non, rs, h, a, m => by rw [h.1] at m; simp at m
  | n + 1, _, .bl _, rs, h, a, m => by rw [h.1] at m; simp at m
  | n + 1, _, .int _, rs, h, a, m => by rw [h.1] at m; simp at m
  | n + 1, _, .str _, rs, h, a, m => by rw [h.1] at m; simp at m
  | n + 1, _, .ty _, rs, h, a, m => by rw [h.1] at m; simp at m
  | n + 1, _, .tup _, rs, h, a, m => by rw [h.1] at m; simp at m
  | n + 1, _, .con _, rs, h, a, m => by rw [h.1] at m; simp at m
  | n + 1, _, .scr _, rs, h, a, m => by rw [h.1] at m; simp at m
end
end Zk
namespace Zk
open PySem PySem.Spec PyProof.Rows L2

/-- the slots: a thing and how many levels of it are ours -/
abbrev Ev := List (Option (D × Nat))
def eg (E : Ev) (i : Nat) : Option (D × Nat) := (E[i]?).join
/-- an expression's end: a slot (read later), or a thing -/
inductive Op where
  | slot (i : Nat)
  | val (d : D) (n : Nat)

abbrev Rs := Nat → List Addr
def ow (R : Rs) (a : Addr) : Prop := ∃ i, a ∈ R i
def put (R : Rs) (i : Nat) (rs : List Addr) : Rs := fun k => if k = i then rs else R k
theorem put_same {R : Rs} {i : Nat} {rs : List Addr} : put R i rs i = rs := if_pos rfl
theorem put_ne {R : Rs} {i k : Nat} {rs : List Addr} (h : k ≠ i) : put R i rs k = R k := if_neg h

structure S (K : PySem.W.Frag) (Z : Addr → Prop) (H : Hp) (σ : L2.St) (E : Ev) (R : Rs) : Prop where
  len : σ.length = E.length
  slot : ∀ i d n, eg E i = some (d, n) → ∃ v, σ[i]? = some (some v) ∧ Own K Z H n v d (R i)
  emp : ∀ i, eg E i = none → R i = []
  nd : ∀ i, (R i).Nodup
  dj : ∀ i j a, a ∈ R i → a ∈ R j → i = j
  zd : ∀ a, Z a → H a ≠ none

/-- what a step may change: O are the things that are ours -/
structure Step (Z : Addr → Prop) (H : Hp) (O : Addr → Prop) (Z' : Addr → Prop) (H' : Hp) (O' : Addr → Prop) : Prop where
  zz : ∀ a, Z a → Z' a
  zn : ∀ a, Z' a → Z a ∨ H a = none ∨ O a
  hh : ∀ a o, H a = some o → ¬ O a → H' a = some o
  on : ∀ a, O' a → O a ∨ H a = none
  dm : ∀ a, H a ≠ none → H' a ≠ none

section
variable {K : PySem.W.Frag} {Z Z' Z1 Z2 : Addr → Prop} {H H' H1 H2 : Hp} {O O' O1 O2 : Addr → Prop} {σ : L2.St} {E E' : Ev} {R R' : Rs}
theorem Step.refl : Step Z H O Z H O := ⟨fun _ h => h, fun _ h => .inl h, fun _ _ h _ => h, fun _ h => .inl h, fun _ h => h⟩
theorem Step.trans (a : Step Z H O Z1 H1 O1) (b : Step Z1 H1 O1 Z2 H2 O2) : Step Z H O Z2 H2 O2 where
  zz := fun x h => b.zz x (a.zz x h)
  zn := fun x h => by
    rcases b.zn x h with h | h | h
    · exact a.zn x h
    · by_cases q : H x = none
      · exact .inr (.inl q)
      · exact absurd h (a.dm x q)
    · rcases a.on x h with h | h
      · exact .inr (.inr h)
      · exact .inr (.inl h)
  hh := fun x o e n => b.hh x o (a.hh x o e n) fun h => by
    rcases a.on x h with h | h
    · exact n h
    · rw [e] at h; cases h
  on := fun x h => by
    rcases b.on x h with h | h
    · exact a.on x h
    · by_cases q : H x = none
      · exact .inr q
      · exact absurd h (a.dm x q)
  dm := fun x h => b.dm x (a.dm x h)
theorem S.owns (s : S K Z H σ E R) {a : Addr} (h : ow R a) : Mut (H a) ∧ ¬ Z a := by
  obtain ⟨i, m⟩ := h
  cases q : eg E i with
  | none => rw [s.emp i q] at m; simp at m
  | some dn =>
    obtain ⟨v, _, o⟩ := s.slot i dn.1 dn.2 q
    exact o.mut a m
theorem S.there (s : S K Z H σ E R) {a : Addr} (h : ow R a) : H a ≠ none := fun e => by
  have := (s.owns h).1
  rw [e] at this; exact this
/-- across a step the frozen and the tuples persist -/
theorem Step.pers (t : Step Z H O Z' H' O') (hO : ∀ a, O a → Mut (H a) ∧ ¬ Z a) : Pers Z H Z' H' :=
  ⟨t.zz, fun a o z e => t.hh a o e fun h => (hO a h).2 z, fun a o e n => t.hh a o e fun h => n (by have := (hO a h).1; rw [e] at this; exact this)⟩
theorem S.pers (s : S K Z H σ E R) (t : Step Z H (ow R) Z' H' O') : Pers Z H Z' H' := t.pers fun _ h => s.owns h
/-- a thing that was made ahead of a step stands behind it -/
theorem S.pend (s : S K Z H σ E R) (t : Step Z H (ow R) Z' H' O') {n : Nat} {v : V} {d : D} {rs : List Addr} (h : Own K Z H n v d rs) (f : ∀ a ∈ rs, ¬ ow R a) :
    Own K Z' H' n v d rs ∧ ∀ a ∈ rs, ¬ O' a := by
  have there : ∀ a ∈ rs, H a ≠ none := fun a m e => by
    have := (h.mut a m).1
    rw [e] at this; exact this
  refine ⟨h.keep (s.pers t) fun a m => ⟨?_, fun z => ?_⟩, fun a m z => ?_⟩
  · cases q : H a with
    | none => exact absurd q (there a m)
    | some o => exact t.hh a o q (f a m)
  · rcases t.zn a z with z | z | z
    · exact (h.mut a m).2 z
    · exact there a m z
    · exact f a m z
  · rcases t.on a z with z | z
    · exact f a m z
    · exact there a m z
end

/-- what an end stands for -/
def OV (K : PySem.W.Frag) (Z : Addr → Prop) (H : Hp) (σ : L2.St) (v : V) : Op → List Addr → Prop
  | .slot i, rs => σ[i]? = some (some v) ∧ rs = []
  | .val d n, rs => Own K Z H n v d rs
/-- an expression by data -/
abbrev Fe := Ev → Option (Op × Ev)
abbrev Ft := Ev → Option (Bool × Ev)
abbrev Fa := Ev → Option (List Op × Ev)
/-- how a statement ends -/
inductive Fl where
  | nx | bk | ct | rt (d : D) (n : Nat)
abbrev Fs := Ev → Option (Fl × Ev)

/-- fresh: it is no slot's, it was ours or is new -/
structure Fr (R : Rs) (H : Hp) (R' : Rs) (rs : List Addr) : Prop where
  nd : rs.Nodup
  no : ∀ a ∈ rs, ¬ ow R' a
  of : ∀ a ∈ rs, ow R a ∨ H a = none
theorem Fr.nil {R R' : Rs} {H : Hp} : Fr R H R' [] := ⟨List.nodup_nil, fun _ h => by simp at h, fun _ h => by simp at h⟩

def eOf (K : PySem.W.Frag) (f : Fe) : TE := fun σ H Q => ∃ Z E R, S K Z H σ E R ∧ ∃ o E', f E = some (o, E') ∧
  ∀ v Z' H' R' rs, S K Z' H' σ E' R' → Step Z H (ow R) Z' H' (ow R') → OV K Z' H' σ v o rs → Fr R H R' rs → Q v H'
def cOf (K : PySem.W.Frag) (f : Ft) : TT := fun σ H Q => ∃ Z E R, S K Z H σ E R ∧ ∃ b E', f E = some (b, E') ∧
  ∀ Z' H' R', S K Z' H' σ E' R' → Step Z H (ow R) Z' H' (ow R') → Q b H'
def aOf (K : PySem.W.Frag) (f : Fa) : TA := fun σ H Q => ∃ Z E R, S K Z H σ E R ∧ ∃ os E', f E = some (os, E') ∧
  ∀ vs Z' H' R' rss, S K Z' H' σ E' R' → Step Z H (ow R) Z' H' (ow R') → All3 (OV K Z' H' σ) vs os rss → Fr R H R' rss.flatten → Q vs H'
/-- a statement; w: the slots that it may set -/
def sOf (K : PySem.W.Frag) (w : List Nat) (f : Fs) : TS := fun D σ H => ∃ Z E R, S K Z H σ E R ∧ ∃ fl E', f E = some (fl, E') ∧
  ∀ σ' Z' H' R', S K Z' H' σ' E' R' → Step Z H (ow R) Z' H' (ow R') → (∀ i, i ∉ w → σ'[i]? = σ[i]?) →
    match fl with
    | .nx => D.nx σ' H'
    | .bk => D.bk σ' H'
    | .ct => D.ct σ' H'
    | .rt d n => ∀ v rs, Own K Z' H' n v d rs → Fr R H R' rs → D.rt v H'

abbrev AE (X : Cx) (e : Expr) (f : Fe) : Prop := PE X e (eOf X.K f)
abbrev AT (X : Cx) (e : Expr) (f : Ft) : Prop := PT X e (cOf X.K f)
abbrev AA (X : Cx) (es : List Expr) (f : Fa) : Prop := PA X es (aOf X.K f)
abbrev AS (X : Cx) (st : Stmt) (w : List Nat) (f : Fs) : Prop := PS X st (sOf X.K w f)
abbrev ASs (X : Cx) (st : List Stmt) (w : List Nat) (f : Fs) : Prop := PSs X st (sOf X.K w f)

theorem PE.mono {X : Cx} {e : Expr} {t t' : TE} (h : PE X e t) (m : ∀ σ H Q, t' σ H Q → t σ H Q) : PE X e t' := ⟨fun pins s σ H Q I q => h.run pins s σ H Q I (m σ H Q q)⟩
theorem PT.mono {X : Cx} {e : Expr} {t t' : TT} (h : PT X e t) (m : ∀ σ H Q, t' σ H Q → t σ H Q) : PT X e t' := ⟨fun pins s σ H Q I q => h.run pins s σ H Q I (m σ H Q q)⟩
theorem PW.mono {X : Cx} {e : Expr} {t t' : TT} (h : PW X e t) (m : ∀ σ H Q, t' σ H Q → t σ H Q) : PW X e t' := ⟨fun wh pins s σ H Q I q => h.run wh pins s σ H Q I (m σ H Q q)⟩
theorem PA.mono {X : Cx} {e : List Expr} {t t' : TA} (h : PA X e t) (m : ∀ σ H Q, t' σ H Q → t σ H Q) : PA X e t' := ⟨fun pos pins s σ H Q I q => h.run pos pins s σ H Q I (m σ H Q q)⟩
theorem PS.mono {X : Cx} {e : Stmt} {t t' : TS} (h : PS X e t) (m : ∀ D σ H, t' D σ H → t D σ H) : PS X e t' := ⟨fun pins s σ H D I q => h.run pins s σ H D I (m D σ H q)⟩
theorem PSs.mono {X : Cx} {e : List Stmt} {t t' : TS} (h : PSs X e t) (m : ∀ D σ H, t' D σ H → t D σ H) : PSs X e t' := ⟨fun pins s σ H D I q => h.run pins s σ H D I (m D σ H q)⟩

def rd (E : Ev) : Op → Option D
  | .slot i => (eg E i).map (·.1)
  | .val d _ => some d
/-- where an end comes to lie elsewhere, too: a slot's changeable thing is frozen -/
def tk (E : Ev) : Op → Option (D × Nat × Ev)
  | .slot i => match eg E i with
    | none => none
    | some (d, n) => if imm d = true then some (d, 9, E) else some (d, 0, E.set i (some (d, 0)))
  | .val d n => some (d, n, E)
/-- where an end is handed on for good -/
def mv (E : Ev) : Op → Option (D × Nat × Ev)
  | .slot i => match eg E i with
    | none => none
    | some (d, n) => if imm d = true then some (d, 9, E) else some (d, n, E.set i none)
  | .val d n => some (d, n, E)

section
variable {K : PySem.W.Frag} {Z Z' Z1 Z2 : Addr → Prop} {H H' H1 H2 : Hp} {O O' O1 O2 : Addr → Prop} {σ : L2.St} {E E' : Ev} {R R' : Rs}
theorem eg_set_same {i : Nat} {c : Option (D × Nat)} (h : i < E.length) : eg (E.set i c) i = c := by
  unfold eg; rw [List.getElem?_set_self h]; rfl
theorem eg_set_ne {i j : Nat} {c : Option (D × Nat)} (h : j ≠ i) : eg (E.set i c) j = eg E j := by
  unfold eg; rw [List.getElem?_set_ne (Ne.symm h)]
theorem eg_lt {i : Nat} {c : D × Nat} (h : eg E i = some c) : i < E.length := by
  unfold eg at h
  by_cases q : i < E.length
  · exact q
  · rw [List.getElem?_eq_none (by omega)] at h; cases h
theorem S.read (s : S K Z H σ E R) {v : V} {o : Op} {d : D} {rs : List Addr} (h : OV K Z H σ v o rs) (e : rd E o = some d) : Rp K (fun _ => True) H v d := by
  cases o with
  | slot i =>
    obtain ⟨h1, h2⟩ := h
    simp only [Zk.rd] at e
    cases q : eg E i with
    | none => rw [q] at e; cases e
    | some dn =>
      rw [q] at e
      obtain ⟨v', e1, o1⟩ := s.slot i dn.1 dn.2 q
      rw [h1] at e1
      cases e1
      cases e
      exact o1.rd
  | val d' n =>
    cases e
    exact Own.rd h
/-- an end made ahead of a step -/
theorem S.pendO (s : S K Z H σ E R) (t : Step Z H (ow R) Z' H' (ow R')) {v : V} {o : Op} {rs : List Addr} (h : OV K Z H σ v o rs) (f : ∀ a ∈ rs, ¬ ow R a) : OV K Z' H' σ v o rs ∧ ∀ a ∈ rs, ¬ ow R' a := by
  cases o with
  | slot i =>
    obtain ⟨h1, h2⟩ := h
    subst h2
    exact ⟨⟨h1, rfl⟩, fun a m => by simp at m⟩
  | val d n => exact s.pend t h f
/-- a slot set anew -/
theorem S.setSlot (s : S K Z H σ E R) {i : Nat} {v : V} {d : D} {n : Nat} {rs : List Addr} (hi : i < E.length) (h : Own K Z H n v d rs) (nd : rs.Nodup) (no : ∀ a ∈ rs, ¬ ow R a) :
    S K Z H (σ.set i (some v)) (E.set i (some (d, n))) (put R i rs) where
  len := by simp [s.len]
  slot := fun j d' n' e => by
    by_cases q : j = i
    · subst q
      rw [eg_set_same hi] at e
      cases e
      exact ⟨v, List.getElem?_set_self (by rw [s.len]; exact hi), by rw [put_same]; exact h⟩
    · rw [eg_set_ne q] at e
      obtain ⟨v', e1, o1⟩ := s.slot j d' n' e
      exact ⟨v', by rw [List.getElem?_set_ne (Ne.symm q)]; exact e1, by rw [put_ne q]; exact o1⟩
  emp := fun j e => by
    by_cases q : j = i
    · subst q; rw [eg_set_same hi] at e; cases e
    · rw [eg_set_ne q] at e; rw [put_ne q]; exact s.emp j e
  nd := fun j => by
    by_cases q : j = i
    · subst q; rw [put_same]; exact nd
    · rw [put_ne q]; exact s.nd j
  dj := fun j k a h1 h2 => by
    by_cases q : j = i
    · subst q
      rw [put_same] at h1
      by_cases q2 : k = j
      · exact q2.symm
      · rw [put_ne q2] at h2; exact absurd ⟨k, h2⟩ (no a h1)
    · rw [put_ne q] at h1
      by_cases q2 : k = i
      · subst q2; rw [put_same] at h2; exact absurd ⟨j, h1⟩ (no a h2)
      · rw [put_ne q2] at h2; exact s.dj j k a h1 h2
  zd := s.zd
/-- a slot that is forgotten -/
theorem S.dropSlot (s : S K Z H σ E R) {i : Nat} : S K Z H σ (E.set i none) (put R i []) where
  len := by simp [s.len]
  slot := fun j d' n' e => by
    by_cases q : j = i
    · subst q
      by_cases hi : j < E.length
      · rw [eg_set_same hi] at e; cases e
      · unfold eg at e; rw [List.getElem?_eq_none (by simp; omega)] at e; cases e
    · rw [eg_set_ne q] at e
      obtain ⟨v', e1, o1⟩ := s.slot j d' n' e
      exact ⟨v', e1, by rw [put_ne q]; exact o1⟩
  emp := fun j e => by
    by_cases q : j = i
    · subst q; exact put_same
    · rw [eg_set_ne q] at e; rw [put_ne q]; exact s.emp j e
  nd := fun j => by
    by_cases q : j = i
    · subst q; rw [put_same]; exact List.nodup_nil
    · rw [put_ne q]; exact s.nd j
  dj := fun j k a h1 h2 => by
    by_cases q : j = i
    · subst q; rw [put_same] at h1; simp at h1
    · rw [put_ne q] at h1
      by_cases q2 : k = i
      · subst q2; rw [put_same] at h2; simp at h2
      · rw [put_ne q2] at h2; exact s.dj j k a h1 h2
  zd := s.zd
theorem ow_put {i : Nat} {rs : List Addr} {a : Addr} : ow (put R i rs) a → a ∈ rs ∨ ow R a := fun ⟨j, m⟩ => by
  by_cases q : j = i
  · subst q; rw [put_same] at m; exact .inl m
  · rw [put_ne q] at m; exact .inr ⟨j, m⟩
/-- a slot's thing is frozen -/
theorem S.freeze (s : S K Z H σ E R) {i : Nat} {d : D} {n : Nat} (e : eg E i = some (d, n)) :
    S K (fun a => Z a ∨ a ∈ R i) H σ (E.set i (some (d, 0))) (put R i []) ∧ Step Z H (ow R) (fun a => Z a ∨ a ∈ R i) H (ow (put R i [])) ∧
      ∀ v, σ[i]? = some (some v) → Rp K (fun a => Z a ∨ a ∈ R i) H v d := by
  obtain ⟨v, e1, o1⟩ := s.slot i d n e
  have hi := eg_lt e
  have p : Pers Z H (fun a => Z a ∨ a ∈ R i) H := ⟨fun _ h => .inl h, fun _ _ _ h => h, fun _ _ h _ => h⟩
  have fz : Rp K (fun a => Z a ∨ a ∈ R i) H v d := o1.freeze p fun a m => ⟨rfl, .inr m⟩
  refine ⟨⟨by simp [s.len], fun j d' n' e' => ?_, fun j e' => ?_, fun j => ?_, fun j k a h1 h2 => ?_, fun a z => ?_⟩, ⟨fun _ h => .inl h, fun a h => ?_, fun _ _ h _ => h, fun a h => ?_, fun _ h => h⟩, fun v' e' => ?_⟩
  · by_cases q : j = i
    · subst q
      rw [eg_set_same hi] at e'
      cases e'
      exact ⟨v, e1, by rw [put_same]; exact ⟨rfl, fz⟩⟩
    · rw [eg_set_ne q] at e'
      obtain ⟨v', e2, o2⟩ := s.slot j d' n' e'
      refine ⟨v', e2, ?_⟩
      rw [put_ne q]
      refine o2.keep p fun a m => ⟨rfl, fun z => ?_⟩
      rcases z with z | z
      · exact (o2.mut a m).2 z
      · exact q (s.dj j i a m z)
  · by_cases q : j = i
    · subst q; exact put_same
    · rw [eg_set_ne q] at e'; rw [put_ne q]; exact s.emp j e'
  · by_cases q : j = i
    · subst q; rw [put_same]; exact List.nodup_nil
    · rw [put_ne q]; exact s.nd j
  · by_cases q : j = i
    · subst q; rw [put_same] at h1; simp at h1
    · rw [put_ne q] at h1
      by_cases q2 : k = i
      · subst q2; rw [put_same] at h2; simp at h2
      · rw [put_ne q2] at h2; exact s.dj j k a h1 h2
  · rcases z with z | z
    · exact s.zd a z
    · exact s.there ⟨i, z⟩
  · rcases h with h | h
    · exact .inl h
    · exact .inr (.inr ⟨i, h⟩)
  · rcases ow_put h with h | h
    · simp at h
    · exact .inl h
  · rw [e1] at e'; cases e'; exact fz
/-- taking an end -/
theorem S.take (s : S K Z H σ E R) {v : V} {o : Op} {d : D} {n : Nat} {E' : Ev} {rs : List Addr} (h : OV K Z H σ v o rs) (no : ∀ a ∈ rs, ¬ ow R a) (e : tk E o = some (d, n, E')) :
    ∃ Z' R', S K Z' H σ E' R' ∧ Step Z H (ow R) Z' H (ow R') ∧ Own K Z' H n v d rs ∧ (∀ a ∈ rs, ¬ ow R' a) ∧ (∀ a, ow R' a → ow R a) := by
  cases o with
  | val d' n' =>
    cases e
    exact ⟨Z, R, s, .refl, h, no, fun _ h => h⟩
  | slot i =>
    obtain ⟨h1, h2⟩ := h
    subst h2
    unfold tk at e
    cases q : eg E i with
    | none => simp [q] at e
    | some dn =>
      obtain ⟨d', n'⟩ := dn
      simp only [q] at e
      obtain ⟨v', e1, o1⟩ := s.slot i d' n' q
      rw [h1] at e1
      cases e1
      by_cases hi : imm d' = true
      · rw [if_pos hi] at e
        cases e
        exact ⟨Z, R, s, .refl, .ofImm (o1.imm hi).2 hi, no, fun _ h => h⟩
      · rw [if_neg hi] at e
        cases e
        obtain ⟨s1, t1, f1⟩ := s.freeze q
        refine ⟨_, _, s1, t1, ⟨rfl, f1 v h1⟩, fun a m => by simp at m, fun a h => ?_⟩
        rcases ow_put h with h | h
        · simp at h
        · exact h
/-- handing an end on -/
theorem S.move (s : S K Z H σ E R) {v : V} {o : Op} {d : D} {n : Nat} {E' : Ev} {rs : List Addr} (h : OV K Z H σ v o rs) (nd : rs.Nodup) (no : ∀ a ∈ rs, ¬ ow R a) (e : mv E o = some (d, n, E')) :
    ∃ R' rs', S K Z H σ E' R' ∧ Step Z H (ow R) Z H (ow R') ∧ Own K Z H n v d rs' ∧ rs'.Nodup ∧ (∀ a ∈ rs', ¬ ow R' a) ∧ (∀ a ∈ rs', a ∈ rs ∨ ow R a) ∧ (∀ a, ow R' a → ow R a) := by
  cases o with
  | val d' n' =>
    cases e
    exact ⟨R, rs, s, .refl, h, nd, no, fun _ h => .inl h, fun _ h => h⟩
  | slot i =>
    obtain ⟨h1, h2⟩ := h
    subst h2
    unfold mv at e
    cases q : eg E i with
    | none => simp [q] at e
    | some dn =>
      obtain ⟨d', n'⟩ := dn
      simp only [q] at e
      obtain ⟨v', e1, o1⟩ := s.slot i d' n' q
      rw [h1] at e1
      cases e1
      by_cases hi : imm d' = true
      · rw [if_pos hi] at e
        cases e
        exact ⟨R, [], s, .refl, .ofImm (o1.imm hi).2 hi, List.nodup_nil, fun a m => by simp at m, fun a m => by simp at m, fun _ h => h⟩
      · rw [if_neg hi] at e
        cases e
        have sub : ∀ a, ow (put R i []) a → ow R a := fun a h => by
          rcases ow_put h with h | h
          · simp at h
          · exact h
        refine ⟨_, R i, s.dropSlot, ⟨fun _ h => h, fun _ h => .inl h, fun _ _ h _ => h, fun a h => .inl (sub a h), fun _ h => h⟩, o1, s.nd i, fun a m ⟨j, hj⟩ => ?_, fun a m => .inr ⟨i, m⟩, sub⟩
        by_cases q2 : j = i
        · subst q2; rw [put_same] at hj; simp at hj
        · rw [put_ne q2] at hj; exact q2 (s.dj j i a hj m)
end
end Zk
namespace Zk
open PySem PySem.Spec PyProof.Rows L2

section
variable {K : PySem.W.Frag} {Z Z' Z1 Z2 : Addr → Prop} {H H' H1 H2 : Hp} {O O' O1 O2 : Addr → Prop} {σ : L2.St} {E E' : Ev} {R R' : Rs}
/-- the heap grows by new objects -/
def More (H H' : Hp) : Prop := ∀ a o, H a = some o → H' a = some o
theorem More.refl (H : Hp) : More H H := fun _ _ h => h
theorem More.trans {H H1 H2 : Hp} (a : More H H1) (b : More H1 H2) : More H H2 := fun x o h => b x o (a x o h)
theorem More.upd {p : Addr} {o : HO} (h : H p = none) : More H (upd H p o) := fun a u e => by rw [upd_ne (ne_of_none e h)]; exact e
theorem More.pers (m : More H H') (zz : ∀ a, Z a → Z' a) : Pers Z H Z' H' := ⟨zz, fun a o _ e => m a o e, fun a o e _ => m a o e⟩
theorem More.step (m : More H H') (O : Addr → Prop) : Step Z H O Z H' O :=
  ⟨fun _ h => h, fun _ h => .inl h, fun a o e _ => m a o e, fun _ h => .inl h, fun a h e => by
    cases q : H a with
    | none => exact h q
    | some o => rw [m a o q] at e; cases e⟩
theorem S.more (s : S K Z H σ E R) (m : More H H') : S K Z H' σ E R where
  len := s.len
  slot := fun i d n e => by
    obtain ⟨v, h1, h2⟩ := s.slot i d n e
    refine ⟨v, h1, h2.keep (m.pers fun _ h => h) fun a ha => ⟨?_, (h2.mut a ha).2⟩⟩
    cases q : H a with
    | none =>
      have := (h2.mut a ha).1
      rw [q] at this; exact this.elim
    | some o => exact m a o q
  emp := s.emp
  nd := s.nd
  dj := s.dj
  zd := fun a z e => by
    cases q : H a with
    | none => exact s.zd a z q
    | some o => rw [m a o q] at e; cases e
/-- more is frozen: addresses that are no slot's -/
theorem S.chill (s : S K Z H σ E R) {rs : List Addr} (no : ∀ a ∈ rs, ¬ ow R a) (th : ∀ a ∈ rs, H a ≠ none) : S K (fun a => Z a ∨ a ∈ rs) H σ E R where
  len := s.len
  slot := fun i d n e => by
    obtain ⟨v, h1, h2⟩ := s.slot i d n e
    refine ⟨v, h1, h2.keep ⟨fun _ h => .inl h, fun _ _ _ h => h, fun _ _ h _ => h⟩ fun a ha => ⟨rfl, fun z => ?_⟩⟩
    rcases z with z | z
    · exact (h2.mut a ha).2 z
    · exact no a z ⟨i, ha⟩
  emp := s.emp
  nd := s.nd
  dj := s.dj
  zd := fun a z => z.elim (s.zd a) (th a)
theorem Own.there {n : Nat} {v : V} {d : D} {rs : List Addr} (h : Own K Z H n v d rs) : ∀ a ∈ rs, H a ≠ none := fun a m e => by
  have := (h.mut a m).1
  rw [e] at this; exact this
theorem OV.there {v : V} {o : Op} {rs : List Addr} (h : OV K Z H σ v o rs) : ∀ a ∈ rs, H a ≠ none := by
  cases o with
  | slot i => intro a m; rw [h.2] at m; simp at m
  | val d n => exact Own.there h

/-- v stands for d, and all within is frozen -/
def Kf (K : PySem.W.Frag) (Z : Addr → Prop) (H : Hp) (v : V) (d : D) : Prop :=
  match d with
  | .lst ds => ∃ a vs, v = .ref a ∧ H a = some (.lst vs) ∧ Rps K Z H vs ds
  | .dK kds => ∃ a kvs, v = .ref a ∧ Rd H a (.dK kvs) ∧ kvs.map (·.1) = kds.map (·.1) ∧ Rps K Z H (kvs.map (·.2)) (kds.map (·.2))
  | .dT kds => ∃ a kvs, v = .ref a ∧ H a = some (.dT kvs) ∧ kvs.map (·.1) = kds.map (·.1) ∧ Rps K Z H (kvs.map (·.2)) (kds.map (·.2))
  | .set xs => ∃ a T m, v = .ref a ∧ H a = some (.set T m) ∧ (∀ i, T i = decide (i ∈ xs)) ∧ m = xs.length ∧ xs.Nodup
  | d => Rp K Z H v d
theorem Rp.kf {v : V} {d : D} (h : Rp K Z H v d) : Kf K Z H v d := by
  cases h with
  | lst z e r => exact ⟨_, _, rfl, e, r⟩
  | dK z e e2 r => exact ⟨_, _, rfl, e, e2, r⟩
  | dT z e e2 r => exact ⟨_, _, rfl, e, e2, r⟩
  | set z e a b c => exact ⟨_, _, _, rfl, e, a, b, c⟩
  | non => exact .non
  | bl b => exact .bl b
  | int b => exact .int b
  | str b => exact .str b
  | ty b => exact .ty b
  | tup a b => exact .tup a b
  | con a b => exact .con a b
  | scr a => exact .scr a
/-- taking items: a slot's thing of two levels or more is left with one -/
def ak (E : Ev) : Op → Option (D × Ev)
  | .slot i => match eg E i with
    | none => none
    | some (d, n) => if imm d = true ∨ flat d = true ∨ n ≤ 1 then some (d, E) else some (d, E.set i (some (d, 0)))
  | .val d _ => some (d, E)
theorem All3.immRps {n : Nat} : ∀ {vs : List V} {ds : List D} {rss : List (List Addr)}, All3 (Own K Z H n) vs ds rss → imms ds = true → Rps K Z H vs ds ∧ rss.flatten = []
  | _, _, _, .nil, _ => ⟨.nil, rfl⟩
  | _, _, _, .cons h t, i => by
    simp only [imms_cons, Bool.and_eq_true] at i
    obtain ⟨r, e⟩ := All3.immRps t i.2
    obtain ⟨e2, r2⟩ := h.imm i.1
    exact ⟨.cons r2 r, by rw [List.flatten_cons, e, e2]; rfl⟩
theorem All3.zeroRps : ∀ {vs : List V} {ds : List D} {rss : List (List Addr)}, All3 (Own K Z H 0) vs ds rss → Rps K Z H vs ds ∧ rss.flatten = []
  | _, _, _, .nil => ⟨.nil, rfl⟩
  | _, _, _, .cons h t => by
    obtain ⟨r, e⟩ := All3.zeroRps t
    exact ⟨.cons h.2 r, by rw [List.flatten_cons, e, h.1]; rfl⟩
theorem All3.ofRps0 : ∀ {vs : List V} {ds : List D}, Rps K Z H vs ds → All3 (Own K Z H 0) vs ds (ds.map fun _ => [])
  | _, _, .nil => .nil
  | _, _, .cons h t => .cons ⟨rfl, h⟩ (All3.ofRps0 t)
theorem All3.ofRpsI {n : Nat} : ∀ {vs : List V} {ds : List D}, Rps K Z H vs ds → imms ds = true → All3 (Own K Z H n) vs ds (ds.map fun _ => [])
  | _, _, .nil, _ => .nil
  | _, _, .cons h t, i => by
    simp only [imms_cons, Bool.and_eq_true] at i
    exact .cons (.ofImm h i.1) (All3.ofRpsI t i.2)
theorem flat_nils (ds : List D) : (ds.map fun _ => ([] : List Addr)).flatten = [] := by
  induction ds with
  | nil => rfl
  | cons d ds ih => simpa using ih
theorem Own.kf1 : ∀ {n : Nat} {v : V} {d : D} {rs : List Addr}, n ≤ 1 → Own K Z H n v d rs → Kf K Z H v d
  | 0, _, _, _, _, h => h.2.kf
  | 1, v, d, rs, _, h => by
    cases d with
    | lst ds =>
      obtain ⟨a, vs, rss, e, ha, z, r, _⟩ := h
      exact ⟨a, vs, e, ha, r.zeroRps.1⟩
    | dK ds =>
      obtain ⟨a, vs, rss, e, ha, z, e2, r, _⟩ := h
      exact ⟨a, vs, e, .inl ha, e2, r.zeroRps.1⟩
    | dT ds =>
      obtain ⟨a, vs, rss, e, ha, z, e2, r, _⟩ := h
      exact ⟨a, vs, e, ha, e2, r.zeroRps.1⟩
    | set xs =>
      obtain ⟨a, T, m, e, ha, z, e2, e3, e4, _⟩ := h
      exact ⟨a, T, m, e, ha, e2, e3, e4⟩
    | _ => exact h.2
theorem Own.kfFlat : ∀ {n : Nat} {v : V} {d : D} {rs : List Addr}, flat d = true → Own K Z H n v d rs → Kf K Z H v d
  | 0, _, _, _, _, h => h.2.kf
  | n + 1, v, d, rs, f, h => by
    cases d with
    | lst ds =>
      obtain ⟨a, vs, rss, e, ha, z, r, _⟩ := h
      exact ⟨a, vs, e, ha, (r.immRps (by simpa [flat] using f)).1⟩
    | dK ds =>
      obtain ⟨a, vs, rss, e, ha, z, e2, r, _⟩ := h
      exact ⟨a, vs, e, .inl ha, e2, (r.immRps (by simpa [flat] using f)).1⟩
    | dT ds =>
      obtain ⟨a, vs, rss, e, ha, z, e2, r, _⟩ := h
      exact ⟨a, vs, e, ha, e2, (r.immRps (by simpa [flat] using f)).1⟩
    | set xs =>
      obtain ⟨a, T, m, e, ha, z, e2, e3, e4, _⟩ := h
      exact ⟨a, T, m, e, ha, e2, e3, e4⟩
    | _ => exact h.2
theorem Own.kfImm {n : Nat} {v : V} {d : D} {rs : List Addr} (i : Zk.imm d = true) (h : Own K Z H n v d rs) : Kf K Z H v d := (h.imm i).2.kf
/-- behind taking items all within is frozen -/
theorem S.kids (s : S K Z H σ E R) {v : V} {o : Op} {d : D} {rs : List Addr} (h : OV K Z H σ v o rs) (no : ∀ a ∈ rs, ¬ ow R a) (e : ak E o = some (d, E')) :
    ∃ R', S K (fun a => (Z a ∨ a ∈ rs) ∨ (ow R a ∧ ¬ ow R' a)) H σ E' R' ∧ Kf K (fun a => (Z a ∨ a ∈ rs) ∨ (ow R a ∧ ¬ ow R' a)) H v d ∧ (∀ a, ow R' a → ow R a) := by
  cases o with
  | val d' n =>
    cases e
    have s1 := s.chill no (OV.there h)
    have p : Pers Z H (fun a => Z a ∨ a ∈ rs) H := ⟨fun _ h => .inl h, fun _ _ _ h => h, fun _ _ h _ => h⟩
    have ez : (fun a => (Z a ∨ a ∈ rs) ∨ (ow R a ∧ ¬ ow R a)) = fun a => Z a ∨ a ∈ rs := by
      funext a; simp
    refine ⟨R, by rw [ez]; exact s1, by rw [ez]; exact (Own.freeze p (fun a m => ⟨rfl, .inr m⟩) h).kf, fun _ h => h⟩
  | slot i =>
    obtain ⟨h1, h2⟩ := h
    subst h2
    have ez : (fun a => (Z a ∨ a ∈ ([] : List Addr)) ∨ (ow R a ∧ ¬ ow R a)) = Z := by
      funext a; simp
    unfold ak at e
    cases q : eg E i with
    | none => simp [q] at e
    | some dn =>
      obtain ⟨d', n'⟩ := dn
      simp only [q] at e
      obtain ⟨v', e1, o1⟩ := s.slot i d' n' q
      rw [h1] at e1
      cases e1
      split at e
      · rename_i c
        cases e
        refine ⟨R, by rw [ez]; exact s, ?_, fun _ h => h⟩
        rw [ez]
        rcases c with c | c | c
        · exact o1.kfImm c
        · exact o1.kfFlat c
        · exact o1.kf1 c
      · cases e
        obtain ⟨s1, t1, f1⟩ := s.freeze q
        have ez2 : (fun a => (Z a ∨ a ∈ ([] : List Addr)) ∨ (ow R a ∧ ¬ ow (put R i []) a)) = fun a => Z a ∨ a ∈ R i := by
          funext a
          simp only [List.not_mem_nil, or_false, eq_iff_iff]
          constructor
          · rintro (z | ⟨⟨j, m⟩, z⟩)
            · exact .inl z
            · by_cases c : j = i
              · subst c; exact .inr m
              · exact absurd ⟨j, by rw [put_ne c]; exact m⟩ z
          · rintro (z | z)
            · exact .inl z
            · refine .inr ⟨⟨i, z⟩, fun ⟨j, m⟩ => ?_⟩
              by_cases c : j = i
              · subst c; rw [put_same] at m; simp at m
              · rw [put_ne c] at m; exact c (s.dj j i a m z)
        refine ⟨put R i [], by rw [ez2]; exact s1, by rw [ez2]; exact (f1 v h1).kf, fun a h => ?_⟩
        rcases ow_put h with h | h
        · simp at h
        · exact h

/-- the end of an expression's step -/
theorem Step.fin {Z0 Zf : Addr → Prop} {H0 : Hp} {O0 : Addr → Prop} (t : Step Z0 H0 O0 Z H O) (zz : ∀ a, Z a → Zf a) (zn : ∀ a, Zf a → Z a ∨ O a ∨ O0 a ∨ H0 a = none) (m : More H H')
    (on : ∀ a, O' a → O a ∨ O0 a ∨ H0 a = none) : Step Z0 H0 O0 Zf H' O' where
  zz := fun a h => zz a (t.zz a h)
  zn := fun a h => by
    rcases zn a h with h | h | h | h
    · exact t.zn a h
    · rcases t.on a h with h | h
      · exact .inr (.inr h)
      · exact .inr (.inl h)
    · exact .inr (.inr h)
    · exact .inr (.inl h)
  hh := fun a o e n => m a o (t.hh a o e n)
  on := fun a h => by
    rcases on a h with h | h | h
    · exact t.on a h
    · exact .inl h
    · exact .inr h
  dm := fun a h e => by
    cases q : H a with
    | none => exact t.dm a h q
    | some o => rw [m a o q] at e; cases e

def rdL (E : Ev) : List Op → Option (List D)
  | [] => some []
  | o :: os => (rd E o).bind fun d => (rdL E os).map fun ds => d :: ds
def akL (E : Ev) : List Op → Option (List D × Ev)
  | [] => some ([], E)
  | o :: os => (ak E o).bind fun p => (akL p.2 os).map fun q => (p.1 :: q.1, q.2)
inductive Kfs (K : PySem.W.Frag) (Z : Addr → Prop) (H : Hp) : List V → List D → Prop
  | nil : Kfs K Z H [] []
  | cons {v : V} {d : D} {vs : List V} {ds : List D} : Kf K Z H v d → Kfs K Z H vs ds → Kfs K Z H (v :: vs) (d :: ds)
theorem S.readL (s : S K Z H σ E R) : ∀ {vs : List V} {os : List Op} {rss : List (List Addr)} {ds : List D}, All3 (OV K Z H σ) vs os rss → rdL E os = some ds → Rps K (fun _ => True) H vs ds
  | _, _, _, _, .nil, e => by cases e; exact .nil
  | _, _, _, _, .cons (b := o) (bs := os) h t, e => by
    simp only [rdL] at e
    cases q : rd E o with
    | none => rw [q] at e; cases e
    | some d =>
      cases q2 : rdL E os with
      | none => rw [q, q2] at e; cases e
      | some ds =>
        rw [q, q2] at e
        cases e
        exact .cons (s.read h q) (s.readL t q2)
theorem Kf.mono {v : V} {d : D} (h : Kf K Z H v d) (zz : ∀ a, Z a → Z' a) : Kf K Z' H v d := by
  have p : Pers Z H Z' H := ⟨zz, fun _ _ _ h => h, fun _ _ h _ => h⟩
  cases d with
  | lst ds => obtain ⟨a, vs, e, ha, r⟩ := h; exact ⟨a, vs, e, ha, r.pers p⟩
  | dK ds => obtain ⟨a, vs, e, ha, e2, r⟩ := h; exact ⟨a, vs, e, ha, e2, r.pers p⟩
  | dT ds => obtain ⟨a, vs, e, ha, e2, r⟩ := h; exact ⟨a, vs, e, ha, e2, r.pers p⟩
  | set xs => exact h
  | non => exact Rp.pers p h
  | bl _ => exact Rp.pers p h
  | int _ => exact Rp.pers p h
  | str _ => exact Rp.pers p h
  | ty _ => exact Rp.pers p h
  | tup _ => exact Rp.pers p h
  | con _ => exact Rp.pers p h
  | scr _ => exact Rp.pers p h
theorem Kfs.mono {vs : List V} {ds : List D} (h : Kfs K Z H vs ds) (zz : ∀ a, Z a → Z' a) : Kfs K Z' H vs ds := by
  induction h with
  | nil => exact .nil
  | cons h _ ih => exact .cons (h.mono zz) ih
theorem S.kidsL : ∀ {vs : List V} {os : List Op} {rss : List (List Addr)} {ds : List D} {Z : Addr → Prop} {E E' : Ev} {R : Rs}, S K Z H σ E R → All3 (OV K Z H σ) vs os rss → (∀ a ∈ rss.flatten, ¬ ow R a) → rss.flatten.Nodup → akL E os = some (ds, E') →
    ∃ Zf R', S K Zf H σ E' R' ∧ Kfs K Zf H vs ds ∧ (∀ a, ow R' a → ow R a) ∧ (∀ a, Z a → Zf a) ∧ (∀ a, Zf a → Z a ∨ a ∈ rss.flatten ∨ ow R a)
  | _, _, _, _, Z, E, E', R, s, .nil, no, nd, e => by
    cases e
    exact ⟨Z, R, s, .nil, fun _ h => h, fun _ h => h, fun _ h => .inl h⟩
  | _, _, _, _, Z, E, E', R, s, .cons (a := v) (b := o) (bs := os) (c := rs) (cs := rss) h t, no, nd, e => by
    simp only [akL] at e
    rw [List.flatten_cons, List.nodup_append] at nd
    obtain ⟨n1, n2, n3⟩ := nd
    have no1 : ∀ a ∈ rs, ¬ ow R a := fun a m => no a (by rw [List.flatten_cons, List.mem_append]; exact .inl m)
    have no2 : ∀ a ∈ rss.flatten, ¬ ow R a := fun a m => no a (by rw [List.flatten_cons, List.mem_append]; exact .inr m)
    cases q : ak E o with
    | none => rw [q] at e; cases e
    | some p =>
      obtain ⟨d, E1⟩ := p
      rw [q] at e
      cases q2 : akL E1 os with
      | none => simp only [Option.bind_some, q2] at e; cases e
      | some p2 =>
        obtain ⟨ds, E2⟩ := p2
        simp only [Option.bind_some, q2, Option.map_some, Option.some.injEq, Prod.mk.injEq] at e
        obtain ⟨rfl, rfl⟩ := e
        obtain ⟨R1, s1, k1, sub1⟩ := s.kids h no1 q
        have t1 : All3 (OV K (fun a => (Z a ∨ a ∈ rs) ∨ (ow R a ∧ ¬ ow R1 a)) H σ) _ os rss := t.imp fun v' o' rs' m hh => by
          cases o' with
          | slot i => exact hh
          | val d' n' =>
            refine Own.keep ⟨fun _ h => .inl (.inl h), fun _ _ _ h => h, fun _ _ h _ => h⟩ (fun a ma => ⟨rfl, fun z => ?_⟩) hh
            rcases z with (z | z) | z
            · exact (Own.mut hh a ma).2 z
            · exact n3 a z a (mem_flatten_of m ma) rfl
            · exact no2 a (mem_flatten_of m ma) z.1
        obtain ⟨Zf, R2, s2, k2, sub2, zz2, zn2⟩ := S.kidsL s1 t1 (fun a m z => no2 a m (sub1 a z)) n2 q2
        refine ⟨Zf, R2, s2, .cons (k1.mono zz2) k2, fun a h => sub1 a (sub2 a h), fun a h => zz2 a (.inl (.inl h)), fun a h => ?_⟩
        rw [List.flatten_cons, List.mem_append]
        rcases zn2 a h with ((h | h) | h) | h | h
        · exact .inl h
        · exact .inr (.inl (.inl h))
        · exact .inr (.inr h.1)
        · exact .inr (.inl (.inr h))
        · exact .inr (.inr (sub1 a h))

/-- an operation that only reads, its end is unchangeable -/
def RO (K : PySem.W.Frag) (r : List V → Hp → VK → Prop) (g : List D → Option D) : Prop :=
  (∀ ds d, g ds = some d → imm d = true) ∧ ∀ (H : Hp) (vs : List V) (ds : List D) (d : D) (Q : VK), Rps K (fun _ => True) H vs ds → g ds = some d → (∀ v, Rp K (fun _ => True) H v d → Q v H) → r vs H Q
/-- an operation whose end may hold the items of what is given, and may be new -/
def AL (K : PySem.W.Frag) (r : List V → Hp → VK → Prop) (g : List D → Option (D × Nat)) : Prop :=
  ∀ (Z : Addr → Prop) (H : Hp) (vs : List V) (ds : List D) (d : D) (n : Nat) (Q : VK), (∀ a, Z a → H a ≠ none) → Kfs K Z H vs ds → g ds = some (d, n) →
    (∀ v H' rs, More H H' → Own K Z H' n v d rs → rs.Nodup → (∀ a ∈ rs, H a = none) → Q v H') → r vs H Q
def mRO (g : List D → Option D) (fa : Fa) : Fe := fun E => (fa E).bind fun p => (rdL p.2 p.1).bind fun ds => (g ds).map fun d => (.val d 9, p.2)
def mAL (g : List D → Option (D × Nat)) (fa : Fa) : Fe := fun E => (fa E).bind fun p => (akL p.2 p.1).bind fun q => (g q.1).map fun d => (.val d.1 d.2, q.2)
theorem ro_of {r : List V → Hp → VK → Prop} {g : List D → Option D} (h : RO K r g) {fa : Fa} {σ : L2.St} {H : Hp} {Q : VK} (q : eOf K (mRO g fa) σ H Q) : aOf K fa σ H fun vs H2 => r vs H2 Q := by
  obtain ⟨Z, E, R, s, o, E', e, q⟩ := q
  unfold mRO at e
  cases e1 : fa E with
  | none => rw [e1] at e; cases e
  | some p =>
    obtain ⟨os, E1⟩ := p
    rw [e1] at e
    simp only [Option.bind_some] at e
    cases e2 : rdL E1 os with
    | none => rw [e2] at e; cases e
    | some ds =>
      rw [e2] at e
      simp only [Option.bind_some] at e
      cases e3 : g ds with
      | none => rw [e3] at e; cases e
      | some d =>
        rw [e3] at e
        simp only [Option.map_some, Option.some.injEq, Prod.mk.injEq] at e
        obtain ⟨rfl, rfl⟩ := e
        refine ⟨Z, E, R, s, os, E1, e1, fun vs Z1 H1 R1 rss s1 t1 a1 f1 => ?_⟩
        refine h.2 H1 vs ds d Q (s1.readL a1 e2) e3 fun v rv => ?_
        exact q v Z1 H1 R1 [] s1 t1 (Own.ofImm (rv.immz (fun _ _ e _ => e) (h.1 ds d e3)) (h.1 ds d e3)) .nil
theorem al_of {r : List V → Hp → VK → Prop} {g : List D → Option (D × Nat)} (h : AL K r g) {fa : Fa} {σ : L2.St} {H : Hp} {Q : VK} (q : eOf K (mAL g fa) σ H Q) : aOf K fa σ H fun vs H2 => r vs H2 Q := by
  obtain ⟨Z, E, R, s, o, E', e, q⟩ := q
  unfold mAL at e
  cases e1 : fa E with
  | none => rw [e1] at e; cases e
  | some p =>
    obtain ⟨os, E1⟩ := p
    rw [e1] at e
    simp only [Option.bind_some] at e
    cases e2 : akL E1 os with
    | none => rw [e2] at e; cases e
    | some p2 =>
      obtain ⟨ds, E2⟩ := p2
      rw [e2] at e
      simp only [Option.bind_some] at e
      cases e3 : g ds with
      | none => rw [e3] at e; cases e
      | some d =>
        rw [e3] at e
        simp only [Option.map_some, Option.some.injEq, Prod.mk.injEq] at e
        obtain ⟨rfl, rfl⟩ := e
        refine ⟨Z, E, R, s, os, E1, e1, fun vs Z1 H1 R1 rss s1 t1 a1 f1 => ?_⟩
        obtain ⟨Zf, R2, s2, k2, sub2, zz2, zn2⟩ := s1.kidsL a1 f1.no f1.nd e2
        refine h Zf H1 vs ds d.1 d.2 Q s2.zd k2 e3 fun v H' rs m o nd nw => ?_
        have th : ∀ a, ow R2 a → H1 a ≠ none := fun a => s2.there
        refine q v Zf H' R2 rs (s2.more m) (t1.fin zz2 (fun a z => ?_) m fun a z => .inl (sub2 a z)) o ⟨nd, fun a ma z => th a z (nw a ma), fun a ma => ?_⟩
        · rcases zn2 a z with z | z | z
          · exact .inl z
          · rcases f1.of a z with z | z
            · exact .inr (.inr (.inl z))
            · exact .inr (.inr (.inr z))
          · exact .inr (.inl z)
        · by_cases c : H a = none
          · exact .inr c
          · exact absurd (nw a ma) (t1.dm a c)
/-- two arguments -/
def mA2 (a b : Fe) : Fa := fun E => (a E).bind fun p => (b p.2).bind fun q => some ([p.1, q.1], q.2)
def mA1 (a : Fe) : Fa := fun E => (a E).bind fun p => some ([p.1], p.2)
def mA0 : Fa := fun E => some ([], E)
def mAc (a : Fe) (b : Fa) : Fa := fun E => (a E).bind fun p => (b p.2).bind fun q => some (p.1 :: q.1, q.2)
theorem Fr.trans {R0 R1 R2 : Rs} {H0 H1 : Hp} {rs : List Addr} (a : Fr R1 H1 R2 rs) (on : ∀ x, ow R1 x → ow R0 x ∨ H0 x = none) (dm : ∀ x, H0 x ≠ none → H1 x ≠ none) : Fr R0 H0 R2 rs :=
  ⟨a.nd, a.no, fun x m => by
    rcases a.of x m with h | h
    · exact on x h
    · by_cases q : H0 x = none
      · exact .inr q
      · exact absurd h (dm x q)⟩
theorem aOf_c {fa : Fe} {fb : Fa} {σ : L2.St} {H : Hp} {Q : List V → Hp → Prop} (q : aOf K (mAc fa fb) σ H Q) : eOf K fa σ H fun x H1 => aOf K fb σ H1 fun xs H2 => Q (x :: xs) H2 := by
  obtain ⟨Z, E, R, s, os, E', e, q⟩ := q
  unfold mAc at e
  cases e1 : fa E with
  | none => rw [e1] at e; cases e
  | some p =>
    obtain ⟨o1, E1⟩ := p
    rw [e1] at e
    simp only [Option.bind_some] at e
    cases e2 : fb E1 with
    | none => rw [e2] at e; cases e
    | some p2 =>
      obtain ⟨os2, E2⟩ := p2
      rw [e2] at e
      simp only [Option.bind_some, Option.some.injEq, Prod.mk.injEq] at e
      obtain ⟨rfl, rfl⟩ := e
      refine ⟨Z, E, R, s, o1, E1, e1, fun v1 Z1 H1 R1 rs1 s1 t1 v1r f1 => ?_⟩
      refine ⟨Z1, E1, R1, s1, os2, E2, e2, fun vs2 Z2 H2 R2 rss2 s2 t2 v2r f2 => ?_⟩
      obtain ⟨p1, p2⟩ := s1.pendO t2 v1r f1.no
      refine q (v1 :: vs2) Z2 H2 R2 (rs1 :: rss2) s2 (t1.trans t2) (.cons p1 v2r) ⟨?_, fun a m => ?_, fun a m => ?_⟩
      · rw [List.flatten_cons, List.nodup_append]
        refine ⟨f1.nd, f2.nd, fun a m b m2 e => ?_⟩
        subst e
        rcases f2.of a m2 with z | z
        · exact f1.no a m z
        · exact OV.there v1r a m z
      · rw [List.flatten_cons, List.mem_append] at m
        rcases m with m | m
        · exact p2 a m
        · exact f2.no a m
      · rw [List.flatten_cons, List.mem_append] at m
        rcases m with m | m
        · exact f1.of a m
        · exact (f2.trans t1.on t1.dm).of a m
theorem aOf_0 {σ : L2.St} {H : Hp} {Q : List V → Hp → Prop} (q : aOf K mA0 σ H Q) : Q [] H := by
  obtain ⟨Z, E, R, s, os, E', e, q⟩ := q
  cases e
  exact q [] Z H R [] s .refl .nil .nil
theorem mA1_eq (a : Fe) : mA1 a = mAc a mA0 := by
  funext E; unfold mA1 mAc mA0
  cases a E <;> rfl
theorem mA2_eq (a b : Fe) : mA2 a b = mAc a (mA1 b) := by
  funext E; unfold mA2 mAc mA1
  cases a E with
  | none => rfl
  | some p => simp only [Option.bind_some]; cases b p.2 <;> rfl
theorem aOf_1 {fa : Fe} {σ : L2.St} {H : Hp} {Q : List V → Hp → Prop} (q : aOf K (mA1 fa) σ H Q) : eOf K fa σ H fun x H1 => Q [x] H1 := by
  rw [mA1_eq] at q
  obtain ⟨Z, E, R, s, o1, E1, e1, q⟩ := aOf_c q
  exact ⟨Z, E, R, s, o1, E1, e1, fun v Z' H' R' rs s' t' o' f' => aOf_0 (q v Z' H' R' rs s' t' o' f')⟩
theorem aOf_2 {fa fb : Fe} {σ : L2.St} {H : Hp} {Q : List V → Hp → Prop} (q : aOf K (mA2 fa fb) σ H Q) : eOf K fa σ H fun x H1 => eOf K fb σ H1 fun y H2 => Q [x, y] H2 := by
  rw [mA2_eq] at q
  obtain ⟨Z, E, R, s, o1, E1, e1, q⟩ := aOf_c q
  exact ⟨Z, E, R, s, o1, E1, e1, fun v Z' H' R' rs s' t' o' f' => aOf_1 (q v Z' H' R' rs s' t' o' f')⟩
end
end Zk
set_option maxHeartbeats 4000000
namespace L2
open PySem PySem.Spec PyProof.Rows
theorem tuple_mulW1 (l : Addr) (items : Array Value) (n : Nat) (dd : Option Addr) (sl : Array (Option Value)) (x : Int) (u : Tok) (c0 : (decide (x < -(2 ^ 63)) || decide (x ≥ 2 ^ 63)) = false) (c1 : (items.isEmpty || x == 1) = true) :
    Meets (Builtin.«tuple.__mul__» ⟨[.ref l, .int x u], []⟩) (fun _ R s => s.heap.get? l = some { cls := .type "tuple", dict := dd, data := .seq items n, slots := sl } ∧ R (.ok (.ret (Value.ref l))) s) :=
  .of_wp fun prog w A R s h => by
    obtain ⟨hp, g, d, tk, os⟩ := s
    obtain ⟨hl, h⟩ := h
    have f1 := AutoSeq1.idx_int
    wp_walk using wpAny_loadPart' hl
    repeat (first
      | (refine wpAny_ite_false (decide_eq_false (by rw [c0]; exact Bool.false_ne_true)) ?_; wp_walk using wpAny_loadPart' hl)
      | (refine wpAny_ite_true (decide_eq_true (by rw [c1])) ?_; wp_walk using wpAny_loadPart' hl))
    exact ⟨_, rfl, h⟩
theorem tuple_mulW0 (l : Addr) (items : Array Value) (n : Nat) (dd : Option Addr) (sl : Array (Option Value)) (x : Int) (u : Tok) (c0 : (decide (x < -(2 ^ 63)) || decide (x ≥ 2 ^ 63)) = false) (c1 : (items.isEmpty || x == 1) = false) (c2 : (decide (x ≤ 0) || items.isEmpty) = true) :
    Meets (Builtin.«tuple.__mul__» ⟨[.ref l, .int x u], []⟩) (fun _ R s => s.heap.get? l = some { cls := .type "tuple", dict := dd, data := .seq items n, slots := sl } ∧
      R (.ok (.ret (Value.ref s.heap.objs.size))) { s with heap := s.heap.push { cls := Value.type "tuple", data := Data.seq #[] }, toks := s.toks }) :=
  .of_wp fun prog w A R s h => by
    obtain ⟨hp, g, d, tk, os⟩ := s
    obtain ⟨hl, h⟩ := h
    have f1 := AutoSeq1.idx_int
    wp_walk using wpAny_loadPart' hl
    repeat (first
      | (refine wpAny_ite_false (decide_eq_false (by rw [c0]; exact Bool.false_ne_true)) ?_; wp_walk using wpAny_loadPart' hl)
      | (refine wpAny_ite_false (decide_eq_false (by rw [c1]; exact Bool.false_ne_true)) ?_; wp_walk using wpAny_loadPart' hl)
      | (refine wpAny_ite_true (decide_eq_true (by rw [c2])) ?_; wp_walk using wpAny_loadPart' hl))
    exact ⟨_, rfl, h⟩
/-- a tuple 0 times, once, often -/
def rRepA (K : PySem.W.Frag) : R2 := fun x y H Q => ∃ l k xs, x = .ref l ∧ y = .int k ∧ SqT K H l xs ∧ xs ≠ [] ∧ 0 ≤ k ∧ k ≤ 1000 ∧ xs.length ≤ 1000 ∧ (k = 1 → Q (.ref l) H) ∧ (k ≠ 1 → ∀ p, H p = none → Q (.ref p) (upd H p (.tup (List.replicate k.toNat xs).flatten)))
section
variable {X : Cx}
theorem op_repA : OpR X (binaryOp .Mult) (rRepA X.K) := by
  intro pins s σ H x y v u Q I rx ry h
  obtain ⟨l, k, xs, rfl, rfl, hT, hne, h1, h2, hz, q1, q⟩ := h
  by_cases k2 : 2 ≤ k
  · exact op_repT pins s σ H _ _ v u Q I rx ry ⟨l, k, xs, rfl, rfl, hT, hne, k2, h2, hz, q (by omega)⟩
  cases rx
  obtain ⟨t, rfl⟩ := ry
  obtain ⟨its, r, ⟨⟨cls, dd, data, sl⟩, ho, hc, n, hd⟩, hs⟩ := I.tuple hT
  simp only at hc hd
  subst hc hd
  have hle : its.length = xs.length := r.length.symm
  have hn : its ≠ [] := fun e => hne (by
    rw [e] at hle
    exact List.eq_nil_of_length_eq_zero hle.symm)
  have hi : its.toArray.isEmpty = false := by
    cases its with
    | nil => exact absurd rfl hn
    | cons a b => rfl
  have c0 : (decide (k < -(2 ^ 63)) || decide (k ≥ 2 ^ 63)) = false := by
    rw [decide_eq_false (by omega), decide_eq_false (by omega)] <;> rfl
  by_cases e1 : k = 1
  · subst e1
    have c1 : (its.toArray.isEmpty || (1 : Int) == 1) = true := by rw [hi]; rfl
    refine wpAny_binaryOp_repeat_ref (T := "tuple") (U := "int") (by decide) ⟨_, ho, rfl⟩ (fun s' => typeIs_int s' 1 t) noFill_tuple_mul F.fills_int_mul F.slot_int_rmul repeat_tuple F.slot_int_index.lookup
      (call_meets F.slot_int_rmul (typeIs_int s 1 t) F.entry_int_rmul (F.args_int_rmul_2 _ _) (int_rmul_tuple 1 t l its.toArray n dd sl)
        ⟨ho, rfl, ⟨_, ho, rfl⟩, call_meets F.slot_tuple_mul ⟨_, ho, rfl⟩ F.entry_tuple_mul (F.args_tuple_mul_2 _ _) (tuple_mulW1 l its.toArray n dd sl 1 t c0 c1) ⟨ho, ?_⟩⟩)
    exact ⟨.ref l, H, I, rfl, q1 rfl⟩
  · have e0 : k = 0 := by omega
    subst e0
    have c1 : (its.toArray.isEmpty || (0 : Int) == 1) = false := by rw [hi]; rfl
    have c2 : (decide ((0 : Int) ≤ 0) || its.toArray.isEmpty) = true := by rw [decide_eq_true (by omega)]; rfl
    refine wpAny_binaryOp_repeat_ref (T := "tuple") (U := "int") (by decide) ⟨_, ho, rfl⟩ (fun s' => typeIs_int s' 0 t) noFill_tuple_mul F.fills_int_mul F.slot_int_rmul repeat_tuple F.slot_int_index.lookup
      (call_meets F.slot_int_rmul (typeIs_int s 0 t) F.entry_int_rmul (F.args_int_rmul_2 _ _) (int_rmul_tuple 0 t l its.toArray n dd sl)
        ⟨ho, rfl, ⟨_, ho, rfl⟩, call_meets F.slot_tuple_mul ⟨_, ho, rfl⟩ F.entry_tuple_mul (F.args_tuple_mul_2 _ _) (tuple_mulW0 l its.toArray n dd sl 0 t c0 c1 c2) ⟨ho, ?_⟩⟩)
    refine ⟨.ref s.heap.objs.size, _, I.laid (t' := s.toks) (o := .tup (List.replicate (0 : Int).toNat xs).flatten) (fun b ob q => Heap.get?_push_of_some _ q) (Nat.le_refl _) ?_, rfl, q (by decide) _ (I.hok.fresh (Nat.le_refl _))⟩
    exact ⟨by simp, _, r.rep 0, IsTup.new _ _⟩
end
end L2
namespace Zk
open PySem PySem.Spec PyProof.Rows L2

/-- a bound that nothing here comes near to; never reckoned -/
@[irreducible] def bigE : Nat := 60000000
theorem bigE_eq : bigE = 60000000 := by unfold bigE; rfl
theorem big_ex (e : Nat) : ∃ n : Nat, n = 2 ^ e := ⟨_, rfl⟩
noncomputable def big : Nat := Classical.choose (big_ex bigE)
theorem big_def : big = 2 ^ bigE := Classical.choose_spec (big_ex bigE)
theorem big_of {n k : Nat} (h : n < 2 ^ k) (hk : k ≤ 60000000) : n < big := by
  rw [big_def]
  exact Nat.lt_of_lt_of_le h (Nat.pow_le_pow_right (by decide) (by rw [bigE_eq]; exact hk))
theorem big_mul {i j : Int} (h1 : i.natAbs < big) (h2 : j.natAbs < big) : CMulX i j := by
  rw [big_def] at h1 h2
  exact mulx_ok h1 h2 (by rw [bigE_eq]; decide)

section
variable {X : Cx}
def mVar (i : Nat) : Fe := fun E => if (eg E i).isSome = true then some (.slot i, E) else none
def mC (d : D) : Fe := fun E => some (.val d 9, E)
theorem ae_var (i : Nat) {x : Str} {pos : PySem.Pos} (hN : X.N[i]? = some x := by rfl) (hv : Vis X.env.scope x := by first | exact Or.inl rfl | exact Or.inr (Or.inl rfl) | exact Or.inr (Or.inr rfl)) (hd : (x == ("__debug__" : Str)) = false := by decide)
    (hcd : (x == ("__classdict__" : Str)) = false := by decide) : AE X (.Name x pos) (mVar i) := by
  refine PE.mono (pe_var hN hv hd hcd) fun σ H Q q => ?_
  obtain ⟨Z, E, R, s, o, E', e, q⟩ := q
  unfold mVar at e
  split at e
  · rename_i hs
    cases e
    cases q2 : eg E i with
    | none => rw [q2] at hs; simp at hs
    | some dn =>
      obtain ⟨v, e1, o1⟩ := s.slot i dn.1 dn.2 q2
      exact ⟨v, e1, q v Z H R [] s .refl ⟨e1, rfl⟩ .nil⟩
  · cases e
theorem mC_of {K : PySem.W.Frag} {d : D} {v : V} (h : ∀ Z H, Rp K Z H v d) (hi : imm d = true) {σ : L2.St} {H : Hp} {Q : VK} (q : eOf K (mC d) σ H Q) : tC v σ H Q := by
  obtain ⟨Z, E, R, s, o, E', e, q⟩ := q
  cases e
  exact q v Z H R [] s .refl (Own.ofImm (h Z H) hi) .nil
theorem ae_int {i : Int} {j pos} : AE X (.Constant (.int i) j pos) (mC (.int i)) := PE.mono pe_int fun _ _ _ q => mC_of (fun _ _ => .int i) (by simp) q
theorem ae_bl {b j pos} : AE X (.Constant (.bool b) j pos) (mC (.bl b)) := PE.mono pe_bl fun _ _ _ q => mC_of (fun _ _ => .bl b) (by simp) q
end

section
variable {K : PySem.W.Frag} {fa fb : Fe} {σ : L2.St} {H : Hp} {Q : VK}
def two (r : R2) : List V → Hp → VK → Prop := fun vs H Q => ∃ x y, vs = [x, y] ∧ r x y H Q
theorem tOp_al {r : R2} {g : List D → Option (D × Nat)} (h : AL K (two r) g) (q : eOf K (mAL g (mA2 fa fb)) σ H Q) : tOp r (eOf K fa) (eOf K fb) σ H Q := by
  have z := aOf_2 (al_of h q)
  obtain ⟨Z, E, R, s, o1, E1, e1, z⟩ := z
  refine ⟨Z, E, R, s, o1, E1, e1, fun v Z' H' R' rs s' t' o' f' => ?_⟩
  obtain ⟨Z2, E2, R2, s2, o2, E3, e2, z2⟩ := z v Z' H' R' rs s' t' o' f'
  refine ⟨Z2, E2, R2, s2, o2, E3, e2, fun v2 Z3 H3 R3 rs3 s3 t3 o3 f3 => ?_⟩
  obtain ⟨x, y, e, q⟩ := z2 v2 Z3 H3 R3 rs3 s3 t3 o3 f3
  cases e
  exact q
theorem tOp_ro {r : R2} {g : List D → Option D} (h : RO K (two r) g) (q : eOf K (mRO g (mA2 fa fb)) σ H Q) : tOp r (eOf K fa) (eOf K fb) σ H Q := by
  have z := aOf_2 (ro_of h q)
  obtain ⟨Z, E, R, s, o1, E1, e1, z⟩ := z
  refine ⟨Z, E, R, s, o1, E1, e1, fun v Z' H' R' rs s' t' o' f' => ?_⟩
  obtain ⟨Z2, E2, R2, s2, o2, E3, e2, z2⟩ := z v Z' H' R' rs s' t' o' f'
  refine ⟨Z2, E2, R2, s2, o2, E3, e2, fun v2 Z3 H3 R3 rs3 s3 t3 o3 f3 => ?_⟩
  obtain ⟨x, y, e, q⟩ := z2 v2 Z3 H3 R3 rs3 s3 t3 o3 f3
  cases e
  exact q
theorem Rps.two {Z : Addr → Prop} {vs : List V} {d e : D} (h : Rps K Z H vs [d, e]) : ∃ x y, vs = [x, y] ∧ Rp K Z H x d ∧ Rp K Z H y e := by
  cases h with
  | cons h t =>
    cases t with
    | cons h2 t2 => cases t2; exact ⟨_, _, rfl, h, h2⟩
theorem Rps.one {Z : Addr → Prop} {vs : List V} {d : D} (h : Rps K Z H vs [d]) : ∃ x, vs = [x] ∧ Rp K Z H x d := by
  cases h with
  | cons h t => cases t; exact ⟨_, rfl, h⟩
theorem Kfs.two {Z : Addr → Prop} {vs : List V} {d e : D} (h : Kfs K Z H vs [d, e]) : ∃ x y, vs = [x, y] ∧ Kf K Z H x d ∧ Kf K Z H y e := by
  cases h with
  | cons h t =>
    cases t with
    | cons h2 t2 => cases t2; exact ⟨_, _, rfl, h, h2⟩
theorem Kfs.one {Z : Addr → Prop} {vs : List V} {d : D} (h : Kfs K Z H vs [d]) : ∃ x, vs = [x] ∧ Kf K Z H x d := by
  cases h with
  | cons h t => cases t; exact ⟨_, rfl, h⟩
theorem Rp.intE {Z : Addr → Prop} {v : V} {i : Int} (h : Rp K Z H v (.int i)) : v = .int i := by cases h; rfl
theorem Rp.blE {Z : Addr → Prop} {v : V} {i : Bool} (h : Rp K Z H v (.bl i)) : v = .bl i := by cases h; rfl
theorem Rp.strE {Z : Addr → Prop} {v : V} {i : Str} (h : Rp K Z H v (.str i)) : v = .str i := by cases h; rfl
theorem Rp.nonE {Z : Addr → Prop} {v : V} (h : Rp K Z H v .non) : v = .non := by cases h; rfl
/-- two ints to an int -/
def gI2 (c : Int → Int → Prop) [∀ i j, Decidable (c i j)] (f : Int → Int → Int) : List D → Option D
  | [.int i, .int j] => if c i j then some (.int (f i j)) else none
  | _ => none
theorem ro_I2 {c C : Int → Int → Prop} [∀ i j, Decidable (c i j)] {f : Int → Int → Int} {g : Int → Int → V} (hc : ∀ i j, c i j → C i j) (hf : ∀ i j, c i j → g i j = .int (f i j)) : RO K (two (rI C g)) (gI2 c f) := by
  refine ⟨fun ds d e => ?_, fun H vs ds d Q r e q => ?_⟩
  · unfold gI2 at e
    split at e
    · split at e
      · cases e; simp
      · cases e
    · cases e
  · unfold gI2 at e
    split at e
    · split at e
      · rename_i i j h
        cases e
        obtain ⟨x, y, rfl, h1, h2⟩ := r.two
        exact ⟨x, y, rfl, i, j, h1.intE, h2.intE, hc i j h, by rw [hf i j h]; exact q _ (.int _)⟩
      · cases e
    · cases e
theorem ro_I20 {f : Int → Int → Int} : RO K (two (rI0 fun i j => .int (f i j))) (gI2 (fun _ _ => True) f) := by
  refine ⟨fun ds d e => ?_, fun H vs ds d Q r e q => ?_⟩
  · unfold gI2 at e
    split at e
    · rw [if_pos trivial] at e; cases e; simp
    · cases e
  · unfold gI2 at e
    split at e
    · rename_i i j
      rw [if_pos trivial] at e
      cases e
      obtain ⟨x, y, rfl, h1, h2⟩ := r.two
      exact ⟨x, y, rfl, i, j, h1.intE, h2.intE, q _ (.int _)⟩
    · cases e
def gB2 (f : Int → Int → Bool) : List D → Option D
  | [.int i, .int j] => some (.bl (f i j))
  | _ => none
theorem ro_B20 {f : Int → Int → Bool} : RO K (two (rI0 fun i j => .bl (f i j))) (gB2 f) := by
  refine ⟨fun ds d e => ?_, fun H vs ds d Q r e q => ?_⟩
  · unfold gB2 at e
    split at e
    · cases e; simp
    · cases e
  · unfold gB2 at e
    split at e
    · rename_i i j
      cases e
      obtain ⟨x, y, rfl, h1, h2⟩ := r.two
      exact ⟨x, y, rfl, i, j, h1.intE, h2.intE, q _ (.bl _)⟩
    · cases e
/-- how deep a new list of things is ours -/
def lev (ds : List D) : Nat := if imms ds = true then 9 else 1
theorem Own.newL {Z : Addr → Prop} {H : Hp} {p : Addr} {vs : List V} {ds : List D} (hz : ∀ a, Z a → H a ≠ none) (hp : H p = none) (r : Rps K Z H vs ds) : Own K Z (upd H p (.lst vs)) (lev ds) (.ref p) (.lst ds) [p] := by
  have r' : Rps K Z (upd H p (.lst vs)) vs ds := r.pers ((More.upd hp).pers fun _ h => h)
  have nz : ¬ Z p := fun z => hz p z hp
  unfold lev
  split
  · rename_i i
    exact ⟨p, vs, _, rfl, upd_same, nz, All3.ofRpsI r' i, by rw [flat_nils]⟩
  · exact ⟨p, vs, _, rfl, upd_same, nz, All3.ofRps0 r', by rw [flat_nils]⟩
theorem Own.newT {Z : Addr → Prop} {H : Hp} {p : Addr} {vs : List V} {ds : List D} (hp : H p = none) (r : Rps K Z H vs ds) : Own K Z (upd H p (.tup vs)) 0 (.ref p) (.tup ds) [] :=
  ⟨rfl, .tup upd_same (r.pers ((More.upd hp).pers fun _ h => h))⟩
/-- what follows a new list, a new tuple -/
theorem fin_lst {Z : Addr → Prop} {H : Hp} {vs : List V} {ds : List D} {Q : VK} (hz : ∀ a, Z a → H a ≠ none) (r : Rps K Z H vs ds)
    (q : ∀ v H' rs, More H H' → Own K Z H' (lev ds) v (.lst ds) rs → rs.Nodup → (∀ a ∈ rs, H a = none) → Q v H') : ∀ p, H p = none → Q (.ref p) (upd H p (.lst vs)) := fun p hp =>
  q _ _ [p] (.upd hp) (.newL hz hp r) (by simp) (fun a m => by
    have e : a = p := by simpa using m
    rw [e]
    exact hp)
theorem fin_tup {Z : Addr → Prop} {H : Hp} {vs : List V} {ds : List D} {Q : VK} (r : Rps K Z H vs ds)
    (q : ∀ v H' rs, More H H' → Own K Z H' 0 v (.tup ds) rs → rs.Nodup → (∀ a ∈ rs, H a = none) → Q v H') : ∀ p, H p = none → Q (.ref p) (upd H p (.tup vs)) := fun p hp =>
  q _ _ [] (.upd hp) (.newT hp r) List.nodup_nil fun a m => by simp at m
theorem fin_imm {Z : Addr → Prop} {H : Hp} {v : V} {d : D} {n : Nat} {Q : VK} (r : Rp K Z H v d) (i : imm d = true) (q : ∀ v H' rs, More H H' → Own K Z H' n v d rs → rs.Nodup → (∀ a ∈ rs, H a = none) → Q v H') : Q v H :=
  q _ _ [] (.refl _) (.ofImm r i) List.nodup_nil fun a m => by simp at m
/-- + -/
def gAdd : List D → Option (D × Nat)
  | [.int i, .int j] => some (.int (i + j), 9)
  | [.tup a, .tup b] => if a.length + b.length ≤ sizeLine then some (.tup (a ++ b), 0) else none
  | [.lst a, .lst b] => if a.length + b.length ≤ sizeLine then some (.lst (a ++ b), lev (a ++ b)) else none
  | [.str a, .str b] => if a.length + b.length ≤ sizeLine then some (.str (a ++ b), 9) else none
  | _ => none
def rAdds (K : PySem.W.Frag) : R2 := fun x y H Q => rI0 (fun i j => .int (i + j)) x y H Q ∨ rCatA K x y H Q ∨ rCat x y H Q ∨ (∃ i j, x = .str i ∧ y = .str j ∧ i.length + j.length ≤ sizeLine ∧ Q (.str (i ++ j)) H)
theorem al_add : AL K (two (rAdds K)) gAdd := by
  intro Z H vs ds d n Q hz r e q
  unfold gAdd at e
  split at e
  · cases e
    obtain ⟨x, y, rfl, h1, h2⟩ := r.two
    refine ⟨x, y, rfl, .inl ⟨_, _, Rp.intE h1, Rp.intE h2, ?_⟩⟩
    exact fin_imm (Z := Z) (.int _) (by simp) q
  · rename_i a b
    split at e
    · rename_i hl
      cases e
      obtain ⟨x, y, rfl, h1, h2⟩ := r.two
      cases h1 with
      | tup s1 r1 =>
        cases h2 with
        | tup s2 r2 =>
          rename_i p1 xs p2 ys
          refine ⟨_, _, rfl, .inr (.inl ⟨p1, p2, xs, ys, rfl, rfl, .of s1, .of s2, by rw [r1.len, r2.len]; exact hl, fun z => ?_, fun z1 z2 => ?_, fun z1 z2 => ?_⟩)⟩
          · subst z
            cases r1
            exact q _ _ [] (.refl _) ⟨rfl, .tup s2 (by simpa using r2)⟩ List.nodup_nil fun a m => by simp at m
          · subst z2
            cases r2
            exact q _ _ [] (.refl _) ⟨rfl, .tup s1 (by simpa using r1)⟩ List.nodup_nil fun a m => by simp at m
          · exact fin_tup (r1.append r2) q
    · cases e
  · rename_i a b
    split at e
    · rename_i hl
      cases e
      obtain ⟨x, y, rfl, ⟨p1, xs, rfl, s1, r1⟩, ⟨p2, ys, rfl, s2, r2⟩⟩ := r.two
      exact ⟨_, _, rfl, .inr (.inr (.inl ⟨p1, p2, xs, ys, rfl, rfl, s1, s2, by rw [r1.len, r2.len]; exact hl, fin_lst hz (r1.append r2) q⟩))⟩
    · cases e
  · split at e
    · rename_i hl
      cases e
      obtain ⟨x, y, rfl, h1, h2⟩ := r.two
      refine ⟨x, y, rfl, .inr (.inr (.inr ⟨_, _, Rp.strE h1, Rp.strE h2, hl, ?_⟩))⟩
      exact fin_imm (Z := Z) (.str _) (by simp) q
    · cases e
  · cases e
/-- * of ints; a list as often as told -/
noncomputable def gMul : List D → Option (D × Nat)
  | [.int i, .int j] => if i.natAbs < big ∧ j.natAbs < big then some (.int (i * j), 9) else none
  | [.lst a, .int k] => if -(2 ^ 63) ≤ k ∧ k < 2 ^ 63 ∧ a.length * k.toNat ≤ sizeLine then some (.lst (List.replicate k.toNat a).flatten, lev (List.replicate k.toNat a).flatten) else none
  | [.tup a, .int k] => if a.isEmpty = false ∧ 0 ≤ k ∧ k ≤ 1000 ∧ a.length ≤ 1000 then some (.tup (List.replicate k.toNat a).flatten, 0) else none
  | _ => none
theorem Rps.rep {Z : Addr → Prop} {vs : List V} {ds : List D} (h : Rps K Z H vs ds) : ∀ k : Nat, Rps K Z H (List.replicate k vs).flatten (List.replicate k ds).flatten
  | 0 => by simp; exact .nil
  | k + 1 => by rw [List.replicate_succ, List.replicate_succ, List.flatten_cons, List.flatten_cons]; exact h.append (Rps.rep h k)
theorem al_mul : AL K (two (fun x y H Q => rI CMulX (fun i j => .int (i * j)) x y H Q ∨ rRep x y H Q ∨ rRepA K x y H Q)) gMul := by
  intro Z H vs ds d n Q hz r e q
  unfold gMul at e
  split at e
  · split at e
    · rename_i h
      cases e
      obtain ⟨x, y, rfl, h1, h2⟩ := r.two
      refine ⟨x, y, rfl, .inl ⟨_, _, Rp.intE h1, Rp.intE h2, big_mul h.1 h.2, ?_⟩⟩
      exact fin_imm (Z := Z) (.int _) (by simp) q
    · cases e
  · split at e
    · rename_i h
      cases e
      obtain ⟨x, y, rfl, ⟨p1, xs, rfl, s1, r1⟩, h2⟩ := r.two
      cases Rp.intE h2
      exact ⟨_, _, rfl, .inr (.inl ⟨p1, _, xs, rfl, rfl, s1, h.1, h.2.1, by rw [r1.len]; exact h.2.2, fin_lst hz (r1.rep _) q⟩)⟩
    · cases e
  · split at e
    · rename_i h
      cases e
      obtain ⟨x, y, rfl, h1, h2⟩ := r.two
      cases Rp.intE h2
      cases h1 with
      | tup s r1 =>
        rename_i vs
        exact ⟨_, _, rfl, .inr (.inr ⟨_, _, vs, rfl, rfl, .of s, fun e => by rw [e] at r1; cases r1; exact absurd h.1 (by simp), h.2.1, h.2.2.1, by rw [r1.len]; exact h.2.2.2, fun k1 => by subst k1; exact q _ _ [] (.refl _) ⟨rfl, .tup s (by simpa using r1)⟩ List.nodup_nil fun a m => by simp at m, fun _ => fin_tup (r1.rep _) q⟩)⟩
    · cases e
  · cases e
end
section
variable {X : Cx} {a b : Expr} {fa fb : Fe} {pos : PySem.Pos}
def mAdd (a b : Fe) : Fe := mAL gAdd (mA2 a b)
noncomputable def mMul (a b : Fe) : Fe := mAL gMul (mA2 a b)
theorem ae_add (ha : AE X a fa) (hb : AE X b fb) : AE X (.BinOp a .Add b pos) (mAdd fa fb) :=
  PE.mono (pe_op (op_add.or (op_catA.or (op_cat.or op_add_str))) ha hb) fun _ _ _ q => tOp_al al_add q
theorem ae_mul (ha : AE X a fa) (hb : AE X b fb) : AE X (.BinOp a .Mult b pos) (mMul fa fb) :=
  PE.mono (pe_op (op_mulX.or (op_rep.or op_repA)) ha hb) fun _ _ _ q => tOp_al al_mul q
abbrev gSub := gI2 (fun _ _ => True) fun i j => i - j
def mSub (a b : Fe) : Fe := mRO gSub (mA2 a b)
theorem ae_sub (ha : AE X a fa) (hb : AE X b fb) : AE X (.BinOp a .Sub b pos) (mSub fa fb) := PE.mono (pe_op op_sub ha hb) fun _ _ _ q => tOp_ro ro_I20 q
/-- a divisor above 0 -/
def divOk (_ j : Int) : Prop := 0 < j ∧ j < 2 ^ 8000
instance (i j : Int) : Decidable (divOk i j) := inferInstanceAs (Decidable (_ ∧ _))
theorem divOk_w {i j : Int} (h : divOk i j) : CDivW i j := wide_div (b := 8000) h.1 (by have := h.1; have := h.2; omega) (by decide) (by decide)
abbrev gDiv := gI2 divOk fun i j => i / j
def mDiv (a b : Fe) : Fe := mRO gDiv (mA2 a b)
theorem ae_div (ha : AE X a fa) (hb : AE X b fb) : AE X (.BinOp a .FloorDiv b pos) (mDiv fa fb) := PE.mono (pe_op op_fdivW ha hb) fun _ _ _ q => tOp_ro (ro_I2 (fun _ _ h => divOk_w h) fun _ _ _ => rfl) q
abbrev gMod := gI2 (fun _ j => 0 < j) fun i j => i % j
def mMod (a b : Fe) : Fe := mRO gMod (mA2 a b)
theorem ae_mod (ha : AE X a fa) (hb : AE X b fb) : AE X (.BinOp a .Mod b pos) (mMod fa fb) := PE.mono (pe_op op_mod ha hb) fun _ _ _ q => tOp_ro (ro_I2 (fun _ _ h => h) fun _ _ _ => rfl) q
abbrev gPow := gI2 (fun i j => 0 ≤ j ∧ j ≤ 1000000 ∧ i.natAbs < 2 ^ 64) fun i j => i ^ j.toNat
def mPow (a b : Fe) : Fe := mRO gPow (mA2 a b)
instance (i j : Int) : Decidable (CPow i j) := inferInstanceAs (Decidable (_ ∧ _ ∧ _))
theorem ae_pow (ha : AE X a fa) (hb : AE X b fb) : AE X (.BinOp a .Pow b pos) (mPow fa fb) := PE.mono (pe_op op_pow ha hb) fun _ _ _ q => tOp_ro (ro_I2 (fun _ _ h => h) fun _ _ _ => rfl) q
noncomputable abbrev gShl := gI2 (fun i j => 0 ≤ j ∧ j ≤ 1000000 ∧ i.natAbs < big) fun i j => i * 2 ^ j.toNat
theorem shl_big {i j : Int} (h : 0 ≤ j ∧ j ≤ 1000000 ∧ i.natAbs < big) : CShl i j := by
  obtain ⟨h1, h2, h3⟩ := h
  rw [big_def] at h3
  have := shl_ok (i := i) (j := j.toNat) h3 (by rw [bigE_eq]; omega)
  rwa [Int.toNat_of_nonneg h1] at this
noncomputable def mShl (a b : Fe) : Fe := mRO gShl (mA2 a b)
theorem ae_shl (ha : AE X a fa) (hb : AE X b fb) : AE X (.BinOp a .LShift b pos) (mShl fa fb) := PE.mono (pe_op op_shlW ha hb) fun _ _ _ q => tOp_ro (ro_I2 (fun _ _ h => shl_big h) fun _ _ _ => rfl) q
def mLt (a b : Fe) : Fe := mRO (gB2 fun i j => decide (i < j)) (mA2 a b)
def mGt (a b : Fe) : Fe := mRO (gB2 fun i j => decide (j < i)) (mA2 a b)
def mGe (a b : Fe) : Fe := mRO (gB2 fun i j => decide (j ≤ i)) (mA2 a b)
/-- -a -/
def gNeg : List D → Option D
  | [.int i] => some (.int (-i))
  | _ => none
def mNeg (a : Fe) : Fe := mRO gNeg (mA1 a)
theorem tUn_ro {K : PySem.W.Frag} {σ : L2.St} {H : Hp} {Q : VK} {r : V → Hp → VK → Prop} {g : List D → Option D} (h : RO K (fun vs H Q => ∃ x, vs = [x] ∧ r x H Q) g) (q : eOf K (mRO g (mA1 fa)) σ H Q) : tUn r (eOf K fa) σ H Q := by
  obtain ⟨Z, E, R, s, o1, E1, e1, z⟩ := aOf_1 (ro_of h q)
  refine ⟨Z, E, R, s, o1, E1, e1, fun v Z' H' R' rs s' t' o' f' => ?_⟩
  obtain ⟨x, e, q⟩ := z v Z' H' R' rs s' t' o' f'
  cases e
  exact q
theorem ae_neg (ha : AE X a fa) : AE X (.UnaryOp .USub a pos) (mNeg fa) := PE.mono (pe_un un_neg ha) fun _ _ _ q => tUn_ro (by
  refine ⟨fun ds d e => ?_, fun H vs ds d Q r e q => ?_⟩
  · unfold gNeg at e
    split at e
    · cases e; simp
    · cases e
  · unfold gNeg at e
    split at e
    · cases e
      obtain ⟨x, rfl, h⟩ := r.one
      exact ⟨x, rfl, _, h.intE, q _ (.int _)⟩
    · cases e) q
end
end Zk
namespace Zk
open PySem PySem.Spec PyProof.Rows L2

/-- comparable data, at most n levels -/
def dat : Nat → D → Bool
  | _, .non => true
  | _, .bl _ => true
  | _, .int _ => true
  | _, .str x => PyData.strOk x
  | n + 1, .tup xs => xs.all (dat n)
  | n + 1, .con xs => xs.all (dat n)
  | n + 1, .lst xs => xs.all (dat n)
  | _, _ => false
mutual
def py : D → PyData
  | .non => .none
  | .bl b => .bool b
  | .int i => .int i
  | .str x => .str x
  | .ty _ => .none
  | .tup xs => .tuple (pys xs)
  | .con xs => .tuple (pys xs)
  | .lst xs => .list (pys xs)
  | .dK _ => .none
  | .dT _ => .none
  | .set _ => .none
  | .scr _ => .none
def pys : List D → List PyData
  | [] => []
  | d :: ds => py d :: pys ds
end
theorem pys_map : ∀ ds : List D, pys ds = ds.map py
  | [] => by simp [pys]
  | d :: ds => by simp [pys, pys_map ds]
theorem canAll : ∀ (n : Nat) (xs : List D), (∀ d, dat n d = true → (py d).canLay0 = true ∧ (py d).depth ≤ n) → xs.all (dat n) = true → PyData.canLayAll0 (pys xs) = true ∧ PyData.depthAll (pys xs) ≤ n
  | n, [], _, _ => by simp [pys, PyData.canLayAll0, PyData.depthAll]
  | n, d :: ds, h, a => by
    simp only [List.all_cons, Bool.and_eq_true] at a
    obtain ⟨h1, h2⟩ := h d a.1
    obtain ⟨h3, h4⟩ := canAll n ds h a.2
    simp only [pys, PyData.canLayAll0, PyData.depthAll, h1, h3, Bool.and_self, true_and]
    omega
theorem dat_lay : ∀ (n : Nat) (d : D), dat n d = true → (py d).canLay0 = true ∧ (py d).depth ≤ n
  | n, .non, _ => by simp [py, PyData.canLay0, PyData.depth]
  | n, .bl _, _ => by simp [py, PyData.canLay0, PyData.depth]
  | n, .int _, _ => by simp [py, PyData.canLay0, PyData.depth]
  | n, .str x, h => by
    have h : PyData.strOk x = true := by cases n <;> simpa [dat] using h
    simp [py, PyData.canLay0, PyData.depth, h]
  | n + 1, .tup xs, h => by
    simp only [dat] at h
    obtain ⟨h1, h2⟩ := canAll n xs (dat_lay n) h
    simp only [py, PyData.canLay0, PyData.depth, h1, true_and]
    omega
  | n + 1, .con xs, h => by
    simp only [dat] at h
    obtain ⟨h1, h2⟩ := canAll n xs (dat_lay n) h
    simp only [py, PyData.canLay0, PyData.depth, h1, true_and]
    omega
  | 0, .con _, h => by simp [dat] at h
  | n + 1, .lst xs, h => by
    simp only [dat] at h
    obtain ⟨h1, h2⟩ := canAll n xs (dat_lay n) h
    simp only [py, PyData.canLay0, PyData.depth, h1, true_and]
    omega
  | 0, .tup _, h => by simp [dat] at h
  | 0, .lst _, h => by simp [dat] at h
  | 0, .dK _, h => by simp [dat] at h
  | n, .ty _, h => by cases n <;> simp [dat] at h
  | 0, .dT _, h => by simp [dat] at h
  | 0, .set _, h => by simp [dat] at h
  | 0, .scr _, h => by simp [dat] at h
  | _ + 1, .dK _, h => by simp [dat] at h
  | _ + 1, .dT _, h => by simp [dat] at h
  | _ + 1, .set _, h => by simp [dat] at h
  | _ + 1, .scr _, h => by simp [dat] at h
theorem dat_shaped {d : D} (h : dat 64 d = true) : SeqAt.shaped (py d) = true := by
  obtain ⟨h1, h2⟩ := dat_lay 64 d h
  unfold SeqAt.shaped
  rw [h1, Bool.true_and]
  exact decide_eq_true h2
section
variable {K : PySem.W.Frag} {Z : Addr → Prop} {H : Hp}
theorem dat_all : ∀ {n : Nat} {vs : List V} {ds : List D}, (∀ (v : V) (d : D), dat n d = true → Rp K Z H v d → Dp K H v (py d)) → ds.all (dat n) = true → Rps K Z H vs ds → DpAll K H vs (pys ds)
  | _, _, _, _, _, .nil => .nil
  | n, _, _, f, a, .cons h t => by
    simp only [List.all_cons, Bool.and_eq_true] at a
    exact .cons (f _ _ a.1 h) (dat_all f a.2 t)
theorem dat_dp : ∀ (n : Nat) (v : V) (d : D), dat n d = true → Rp K Z H v d → Dp K H v (py d)
  | _, _, .non, _, .non => .non
  | _, _, .bl b, _, .bl _ => .bl b
  | _, _, .int i, _, .int _ => .int i
  | _, _, .str x, _, .str _ => .str x
  | n + 1, _, .tup xs, h, .tup s r => by
    simp only [dat] at h
    exact .tup (.of s) (dat_all (dat_dp n) h r)
  | n + 1, _, .con xs, h, .con s r => by
    simp only [dat] at h
    exact .tup s.sq (dat_all (dat_dp n) h r)
  | 0, _, .con _, h, _ => by simp [dat] at h
  | n + 1, _, .lst xs, h, .lst z e r => by
    simp only [dat] at h
    exact .lst (.inl (.inl e)) (dat_all (dat_dp n) h r)
  | 0, _, .tup _, h, _ => by simp [dat] at h
  | 0, _, .lst _, h, _ => by simp [dat] at h
  | n, _, .dK _, h, _ => by cases n <;> simp [dat] at h
  | n, _, .ty _, h, _ => by cases n <;> simp [dat] at h
  | n, _, .dT _, h, _ => by cases n <;> simp [dat] at h
  | n, _, .set _, h, _ => by cases n <;> simp [dat] at h
  | n, _, .scr _, h, _ => by cases n <;> simp [dat] at h
end
/-- == -/
def deq (a b : D) : Bool := PyData.eqv (py a) (py b)
def deqs (a b : List D) : Bool := PyData.eqvAll (pys a) (pys b)
@[simp] theorem deq_int (i j : Int) : deq (.int i) (.int j) = decide (i = j) := by simp [deq, py, PyData.eqv, Bool.beq_eq_decide_eq]
@[simp] theorem deq_bl (i j : Bool) : deq (.bl i) (.bl j) = decide (i = j) := by simp [deq, py, PyData.eqv, Bool.beq_eq_decide_eq]
@[simp] theorem deq_non : deq .non .non = true := by simp [deq, py, PyData.eqv]
@[simp] theorem deq_non_int (i : Int) : deq .non (.int i) = false := by simp [deq, py, PyData.eqv]
@[simp] theorem deq_int_non (i : Int) : deq (.int i) .non = false := by simp [deq, py, PyData.eqv]
@[simp] theorem deq_non_tup (i : List D) : deq .non (.tup i) = false := by simp [deq, py, PyData.eqv]
@[simp] theorem deq_tup_non (i : List D) : deq (.tup i) .non = false := by simp [deq, py, PyData.eqv]
@[simp] theorem deq_int_tup (j : Int) (i : List D) : deq (.int j) (.tup i) = false := by simp [deq, py, PyData.eqv]
@[simp] theorem deq_tup_int (j : Int) (i : List D) : deq (.tup i) (.int j) = false := by simp [deq, py, PyData.eqv]
@[simp] theorem deq_tup (a b : List D) : deq (.tup a) (.tup b) = deqs a b := by simp [deq, deqs, py, PyData.eqv]
@[simp] theorem deq_lst (a b : List D) : deq (.lst a) (.lst b) = deqs a b := by simp [deq, deqs, py, PyData.eqv]
@[simp] theorem deq_lst_tup (a b : List D) : deq (.lst a) (.tup b) = false := by simp [deq, py, PyData.eqv]
@[simp] theorem deq_tup_lst (a b : List D) : deq (.tup a) (.lst b) = false := by simp [deq, py, PyData.eqv]
@[simp] theorem deq_str (a b : Str) : deq (.str a) (.str b) = (a == b) := by simp [deq, py, PyData.eqv]
@[simp] theorem deqs_nil : deqs [] [] = true := by simp [deqs, pys, PyData.eqvAll]
@[simp] theorem deqs_nc (a : D) (as : List D) : deqs [] (a :: as) = false := by simp [deqs, pys, PyData.eqvAll]
@[simp] theorem deqs_cn (a : D) (as : List D) : deqs (a :: as) [] = false := by simp [deqs, pys, PyData.eqvAll]
@[simp] theorem deqs_cons (a b : D) (as bs : List D) : deqs (a :: as) (b :: bs) = (deq a b && deqs as bs) := by simp [deqs, deq, pys, PyData.eqvAll]

section
variable {X : Cx} {a b : Expr} {ta tb : TE} {fa fb : Fe} {pos : PySem.Pos}
theorem pc_op {op : CmpOp} {r : R2} (ho : OpR X (compareOp op) r) (ha : PE X a ta) (hb : PE X b tb) : PC X op a b (tOp r ta tb) :=
  ⟨fun pins s σ H Q I h => binT ha hb I h fun v u s2 x y H2 I2 rx ry q => ho pins s2 σ H2 x y v u Q I2 rx ry q⟩
abbrev AC (X : Cx) (op : CmpOp) (a b : Expr) (f : Fe) : Prop := PC X op a b (eOf X.K f)
theorem PC.mono {op : CmpOp} {t t' : TE} (h : PC X op a b t) (m : ∀ σ H Q, t' σ H Q → t σ H Q) : PC X op a b t' := ⟨fun pins s σ H Q I q => h.run pins s σ H Q I (m σ H Q q)⟩
/-- the truth of an end that is a bool -/
def mB (f : Fe) : Ft := fun E => (f E).bind fun p => (rd p.2 p.1).bind fun d => match d with
  | .bl b => some (b, p.2)
  | _ => none
theorem mB_of {K : PySem.W.Frag} {f : Fe} {σ : L2.St} {H : Hp} {Q : Bool → Hp → Prop} (q : cOf K (mB f) σ H Q) : eOf K f σ H fun x H1 => ∃ c, x = .bl c ∧ Q c H1 := by
  obtain ⟨Z, E, R, s, b, E', e, q⟩ := q
  unfold mB at e
  cases e1 : f E with
  | none => rw [e1] at e; cases e
  | some p =>
    obtain ⟨o, E1⟩ := p
    rw [e1] at e
    simp only [Option.bind_some] at e
    cases e2 : rd E1 o with
    | none => rw [e2] at e; cases e
    | some d =>
      rw [e2] at e
      simp only [Option.bind_some] at e
      split at e
      · cases e
        refine ⟨Z, E, R, s, o, _, e1, fun v Z' H' R' rs s' t' o' f' => ?_⟩
        exact ⟨_, (s'.read o' e2).blE, q Z' H' R' s' t'⟩
      · cases e
theorem ae_cmp {op : CmpOp} {f : Fe} (h : AC X op a b f) (h1 : behindInMarks op b = false := by first | exact nobehind _ (by decide) (by decide) | rfl) : AE X (.Compare a [op] [b] pos) f := pe_cmp h h1
theorem at_cmp {op : CmpOp} {f : Fe} (h : AC X op a b f) (h1 : behindInMarks op b = false := by first | exact nobehind _ (by decide) (by decide) | rfl) : AT X (.Compare a [op] [b] pos) (mB f) :=
  PT.mono (pt_cmp h h1) fun _ _ _ q => mB_of q
theorem ac_lt (ha : AE X a fa) (hb : AE X b fb) : AC X .Lt a b (mLt fa fb) := PC.mono (pc_op op_lt ha hb) fun _ _ _ q => tOp_ro ro_B20 q
theorem ac_gt (ha : AE X a fa) (hb : AE X b fb) : AC X .Gt a b (mGt fa fb) := PC.mono (pc_op op_gt ha hb) fun _ _ _ q => tOp_ro ro_B20 q
theorem ac_ge (ha : AE X a fa) (hb : AE X b fb) : AC X .GtE a b (mGe fa fb) := PC.mono (pc_op op_ge ha hb) fun _ _ _ q => tOp_ro ro_B20 q
def gEq : List D → Option D
  | [a, b] => if dat 64 a = true ∧ dat 64 b = true then some (.bl (deq a b)) else none
  | _ => none
def gNe : List D → Option D
  | [a, b] => if dat 64 a = true ∧ dat 64 b = true then some (.bl (!deq a b)) else none
  | _ => none
def mEq (a b : Fe) : Fe := mRO gEq (mA2 a b)
def mNe (a b : Fe) : Fe := mRO gNe (mA2 a b)
theorem ro_eq {K : PySem.W.Frag} : RO K (two (rEqD K)) gEq := by
  refine ⟨fun ds d e => ?_, fun H vs ds d Q r e q => ?_⟩
  · unfold gEq at e
    split at e
    · split at e
      · cases e; simp
      · cases e
    · cases e
  · unfold gEq at e
    split at e
    · split at e
      · rename_i h
        cases e
        obtain ⟨x, y, rfl, h1, h2⟩ := r.two
        exact ⟨x, y, rfl, _, _, dat_dp 64 x _ h.1 h1, dat_dp 64 y _ h.2 h2, dat_shaped h.1, dat_shaped h.2, q _ (.bl _)⟩
      · cases e
    · cases e
theorem ro_ne {K : PySem.W.Frag} : RO K (two (rNeD K)) gNe := by
  refine ⟨fun ds d e => ?_, fun H vs ds d Q r e q => ?_⟩
  · unfold gNe at e
    split at e
    · split at e
      · cases e; simp
      · cases e
    · cases e
  · unfold gNe at e
    split at e
    · split at e
      · rename_i h
        cases e
        obtain ⟨x, y, rfl, h1, h2⟩ := r.two
        exact ⟨x, y, rfl, _, _, dat_dp 64 x _ h.1 h1, dat_dp 64 y _ h.2 h2, dat_shaped h.1, dat_shaped h.2, q _ (.bl _)⟩
      · cases e
    · cases e
theorem ac_eq (hu : X.A.units + 64 < cLine) (ha : AE X a fa) (hb : AE X b fb) : AC X .Eq a b (mEq fa fb) := PC.mono (pc_op (op_eqD hu) ha hb) fun _ _ _ q => tOp_ro ro_eq q
theorem ac_ne (hu : X.A.units + 64 < cLine) (ha : AE X a fa) (hb : AE X b fb) : AC X .NotEq a b (mNe fa fb) := PC.mono (pc_op (op_neD hu) ha hb) fun _ _ _ q => tOp_ro ro_ne q

def isNon : D → Bool
  | .non => true
  | _ => false
@[simp] theorem isNon_non : isNon .non = true := rfl
@[simp] theorem isNon_int (i : Int) : isNon (.int i) = false := rfl
@[simp] theorem isNon_tup (i : List D) : isNon (.tup i) = false := rfl
@[simp] theorem isNon_lst (i : List D) : isNon (.lst i) = false := rfl
@[simp] theorem isNon_str (i : Str) : isNon (.str i) = false := rfl
@[simp] theorem isNon_bl (i : Bool) : isNon (.bl i) = false := rfl
@[simp] theorem isNon_dK (i : List (Key × D)) : isNon (.dK i) = false := rfl
@[simp] theorem isNon_dT (i : List (List Key × D)) : isNon (.dT i) = false := rfl
theorem Rp.isNon {K : PySem.W.Frag} {Z : Addr → Prop} {H : Hp} {v : V} {d : D} (h : Rp K Z H v d) : decide (v = .non) = Zk.isNon d := by
  cases h <;> simp [Zk.isNon]
def gIsN : List D → Option D
  | [a] => some (.bl (isNon a))
  | _ => none
def mIsN (a : Fe) : Fe := mRO gIsN (mA1 a)
theorem t1_ro {K : PySem.W.Frag} {σ : L2.St} {H : Hp} {Q : VK} {r : V → Hp → VK → Prop} {g : List D → Option D} (h : RO K (fun vs H Q => ∃ x, vs = [x] ∧ r x H Q) g) (q : eOf K (mRO g (mA1 fa)) σ H Q) : eOf K fa σ H fun x H1 => r x H1 Q := tUn_ro h q
theorem ac_isN {j pos'} (ha : AE X a fa) : AC X .Is a (.Constant .none j pos') (mIsN fa) := PC.mono (pc_isN ha) fun _ _ _ q =>
  t1_ro (r := fun x H1 Q => Q (.bl (decide (x = .non))) H1) (by
    refine ⟨fun ds d e => ?_, fun H vs ds d Q r e q => ?_⟩
    · unfold gIsN at e
      split at e
      · cases e; simp
      · cases e
    · unfold gIsN at e
      split at e
      · cases e
        obtain ⟨x, rfl, h⟩ := r.one
        exact ⟨x, rfl, by rw [h.isNon]; exact q _ (.bl _)⟩
      · cases e) q
def tru : D → Option Bool
  | .non => some false
  | .bl b => some b
  | .int i => some (i != 0)
  | .tup xs => some (!xs.isEmpty)
  | .con xs => some (!xs.isEmpty)
  | .lst xs => some (!xs.isEmpty)
  | .dK _ => none
  | .str x => if x.length ≤ sizeLine then some ((x.length : Int) != 0) else none
  | _ => none
def mTr (f : Fe) : Ft := fun E => (f E).bind fun p => (rd p.2 p.1).bind fun d => (tru d).map fun b => (b, p.2)
theorem Rps.isEmpty {K : PySem.W.Frag} {Z : Addr → Prop} {H : Hp} {vs : List V} {ds : List D} (r : Rps K Z H vs ds) : vs.isEmpty = ds.isEmpty := by cases r <;> rfl
theorem Rp.tru {K : PySem.W.Frag} {Z : Addr → Prop} {H : Hp} {v : V} {d : D} {b : Bool} (h : Rp K Z H v d) (e : Zk.tru d = some b) : TruV K v H b := by
  cases h with
  | non => cases e; exact rfl
  | bl c => cases e; exact rfl
  | int i => cases e; exact rfl
  | str x =>
    simp only [Zk.tru] at e
    split at e
    · rename_i hl
      cases e
      exact ⟨hl, rfl⟩
    · cases e
  | tup s r => cases e; exact .inr (.inl ⟨_, .of s, by rw [r.isEmpty]⟩)
  | con s r => cases e; exact .inr (.inl ⟨_, s.sq, by rw [r.isEmpty]⟩)
  | lst z s r => cases e; exact .inl ⟨_, .inl (.inl s), by rw [r.isEmpty]⟩
  | dK z s e2 r => simp [Zk.tru] at e
  | dT z s e2 r => simp [Zk.tru] at e
  | ty _ => simp [Zk.tru] at e
  | set _ _ _ _ _ => simp [Zk.tru] at e
  | scr _ => simp [Zk.tru] at e
theorem mTr_of {K : PySem.W.Frag} {f : Fe} {σ : L2.St} {H : Hp} {Q : Bool → Hp → Prop} (q : cOf K (mTr f) σ H Q) : eOf K f σ H fun x H1 => ∃ k, TruV K x H1 k ∧ Q k H1 := by
  obtain ⟨Z, E, R, s, b, E', e, q⟩ := q
  unfold mTr at e
  cases e1 : f E with
  | none => rw [e1] at e; cases e
  | some p =>
    obtain ⟨o, E1⟩ := p
    rw [e1] at e
    simp only [Option.bind_some] at e
    cases e2 : rd E1 o with
    | none => rw [e2] at e; cases e
    | some d =>
      rw [e2] at e
      simp only [Option.bind_some] at e
      cases e3 : tru d with
      | none => rw [e3] at e; cases e
      | some k =>
        rw [e3] at e
        cases e
        refine ⟨Z, E, R, s, o, _, e1, fun v Z' H' R' rs s' t' o' f' => ?_⟩
        exact ⟨_, (s'.read o' e2).tru e3, q Z' H' R' s' t'⟩
/-- any other expression as a test -/
theorem at_tru (ha : AE X a fa) (he : ∀ whole, isTrue a X.env whole = (do let v ← whole; standAt a.pos; holding [v] (truthy v)) := by intro _; rfl) : AT X a (mTr fa) := PT.mono (pt_truth ha he) fun _ _ _ q => mTr_of q

variable {ca cb : Ft} {rest : List Expr}
def mAndT (a b : Ft) : Ft := fun E => (a E).bind fun p => if p.1 = true then b p.2 else some (false, p.2)
def mOrT (a b : Ft) : Ft := fun E => (a E).bind fun p => if p.1 = true then some (true, p.2) else b p.2
def mNotT (a : Ft) : Ft := fun E => (a E).map fun p => (!p.1, p.2)
abbrev AW (X : Cx) (e : Expr) (f : Ft) : Prop := PW X e (cOf X.K f)
theorem cOf_seq {K : PySem.W.Frag} {a b : Ft} {f : Ft} {σ : L2.St} {H : Hp} {Q : Bool → Hp → Prop} (w : Bool) (hf : ∀ E, f E = (a E).bind fun p => if p.1 = w then b p.2 else some (!w, p.2)) (q : cOf K f σ H Q) :
    cOf K a σ H fun c H1 => if c = w then cOf K b σ H1 Q else Q (!w) H1 := by
  obtain ⟨Z, E, R, s, c, E', e, q⟩ := q
  rw [hf] at e
  cases e1 : a E with
  | none => rw [e1] at e; cases e
  | some p =>
    obtain ⟨c1, E1⟩ := p
    rw [e1] at e
    simp only [Option.bind_some] at e
    refine ⟨Z, E, R, s, c1, E1, e1, fun Z' H' R' s' t' => ?_⟩
    by_cases k : c1 = w
    · rw [if_pos k] at e ⊢
      exact ⟨Z', E1, R', s', c, E', e, fun Z2 H2 R2 s2 t2 => q Z2 H2 R2 s2 (t'.trans t2)⟩
    · rw [if_neg k] at e ⊢
      cases e
      exact q Z' H' R' s' t'
theorem aw_and1 (ha : AT X a ca) : AW X (.BoolOp .And [a] pos) ca := pw_and1 ha
theorem aw_or1 (ha : AT X a ca) : AW X (.BoolOp .Or [a] pos) ca := pw_or1 ha
theorem aw_and (ha : AT X a ca) (hb : AW X (.BoolOp .And (b :: rest) pos) cb) : AW X (.BoolOp .And (a :: b :: rest) pos) (mAndT ca cb) := PW.mono (pw_and ha hb) fun σ H Q q => by
  obtain ⟨Z, E, R, s, c, E', e, q⟩ := cOf_seq true (fun E => rfl) q
  refine ⟨Z, E, R, s, c, E', e, fun Z' H' R' s' t' => ?_⟩
  have := q Z' H' R' s' t'
  cases c <;> simpa using this
theorem aw_or (ha : AT X a ca) (hb : AW X (.BoolOp .Or (b :: rest) pos) cb) : AW X (.BoolOp .Or (a :: b :: rest) pos) (mOrT ca cb) := PW.mono (pw_or ha hb) fun σ H Q q => by
  obtain ⟨Z, E, R, s, c, E', e, q⟩ := cOf_seq (a := ca) (b := cb) false (fun E => by unfold mOrT; cases ca E with | none => rfl | some p => obtain ⟨c, E1⟩ := p; cases c <;> rfl) q
  refine ⟨Z, E, R, s, c, E', e, fun Z' H' R' s' t' => ?_⟩
  have := q Z' H' R' s' t'
  cases c <;> simpa using this
theorem at_w (h : AW X a ca) : AT X a ca := h.pt
theorem at_not (ha : AT X a ca) : AT X (.UnaryOp .Not a pos) (mNotT ca) := PT.mono (pt_not ha) fun σ H Q q => by
  obtain ⟨Z, E, R, s, c, E', e, q⟩ := q
  unfold mNotT at e
  cases e1 : ca E with
  | none => rw [e1] at e; cases e
  | some p =>
    rw [e1] at e
    cases e
    exact ⟨Z, E, R, s, p.1, p.2, e1, fun Z' H' R' s' t' => q Z' H' R' s' t'⟩
/-- .. as values, by truth -/
def mAndV (a b : Fe) : Fe := fun E => (a E).bind fun p => (rd p.2 p.1).bind fun d => (tru d).bind fun k => if k = true then b p.2 else some (p.1, p.2)
theorem eOf_tru {K : PySem.W.Frag} {f : Fe} {b : Fe} {g : Fe} {w : Bool} {σ : L2.St} {H : Hp} {Q : VK}
    (hf : ∀ E, f E = (g E).bind fun p => (rd p.2 p.1).bind fun d => (tru d).bind fun k => if k = w then b p.2 else some (p.1, p.2)) (q : eOf K f σ H Q) :
    eOf K g σ H fun x H1 => ∃ k, TruV K x H1 k ∧ if k = w then eOf K b σ H1 Q else Q x H1 := by
  obtain ⟨Z, E, R, s, o, E', e, q⟩ := q
  rw [hf] at e
  cases e1 : g E with
  | none => rw [e1] at e; cases e
  | some p =>
    obtain ⟨o1, E1⟩ := p
    rw [e1] at e
    simp only [Option.bind_some] at e
    cases e2 : rd E1 o1 with
    | none => rw [e2] at e; cases e
    | some d =>
      rw [e2] at e
      simp only [Option.bind_some] at e
      cases e3 : tru d with
      | none => rw [e3] at e; cases e
      | some k =>
        rw [e3] at e
        simp only [Option.bind_some] at e
        refine ⟨Z, E, R, s, o1, E1, e1, fun v Z' H' R' rs s' t' o' f' => ⟨k, (s'.read o' e2).tru e3, ?_⟩⟩
        by_cases c : k = w
        · rw [if_pos c] at e ⊢
          exact ⟨Z', E1, R', s', o, E', e, fun v2 Z2 H2 R2 rs2 s2 t2 o2 f2 => q v2 Z2 H2 R2 rs2 s2 (t'.trans t2) o2 (f2.trans t'.on t'.dm)⟩
        · rw [if_neg c] at e ⊢
          cases e
          exact q v Z' H' R' rs s' t' o' f'
theorem ae_one {op} (h : AE X a fa) : AE X (.BoolOp op [a] pos) fa := pe_one h
theorem ae_andV (ha : AE X a fa) (hb : AE X (.BoolOp .And (b :: rest) pos) fb) : AE X (.BoolOp .And (a :: b :: rest) pos) (mAndV fa fb) := PE.mono (pe_andT ha hb) fun σ H Q q => eOf_tru (w := true) (fun E => rfl) q
end
end Zk
namespace Zk
open PySem PySem.Spec PyProof.Rows L2

section
variable {K : PySem.W.Frag} {Z Z' : Addr → Prop} {H H' : Hp} {σ : L2.St} {E E' : Ev} {R R' : Rs}
/-- an unchangeable end leaves all as it is; another one may hold the items of what is given -/
def mOp (g : List D → Option (D × Nat)) (fa : Fa) : Fe := fun E => (fa E).bind fun p => (rdL p.2 p.1).bind fun ds => (g ds).bind fun d =>
  if imm d.1 = true then some (.val d.1 9, p.2) else (akL p.2 p.1).map fun q => (.val d.1 d.2, q.2)
theorem Rps.kfs : ∀ {vs : List V} {ds : List D}, Rps K Z H vs ds → Kfs K Z H vs ds
  | _, _, .nil => .nil
  | _, _, .cons h t => .cons h.kf (Rps.kfs t)
mutual
/-- what is readable is there -/
theorem Rp.dom : ∀ {v : V} {d : D}, Rp K (fun _ => True) H v d → Rp K (fun a => H a ≠ none) H v d
  | _, _, .non => .non
  | _, _, .bl b => .bl b
  | _, _, .int i => .int i
  | _, _, .str x => .str x
  | _, _, .ty x => .ty x
  | _, _, .tup h r => .tup h (Rps.dom r)
  | _, _, .con h r => .con h (Rps.dom r)
  | _, _, .lst _ h r => .lst (by rw [h]; simp) h (Rps.dom r)
  | _, _, .dK _ h e r => .dK (by rcases h with h | ⟨o, h⟩ <;> rw [h] <;> simp) h e (Rps.dom r)
  | _, _, .dT _ h e r => .dT (by rw [h]; simp) h e (Rps.dom r)
  | _, _, .set _ h e n d => .set (by rw [h]; simp) h e n d
  | _, _, .scr h => .scr h
theorem Rps.dom : ∀ {vs : List V} {ds : List D}, Rps K (fun _ => True) H vs ds → Rps K (fun a => H a ≠ none) H vs ds
  | _, _, .nil => .nil
  | _, _, .cons h t => .cons (Rp.dom h) (Rps.dom t)
end
theorem ak_rd {E E' : Ev} {o : Op} {d : D} (h : ak E o = some (d, E')) : rd E o = some d := by
  cases o with
  | val d' n => cases h; rfl
  | slot i =>
    unfold ak at h
    cases q : eg E i with
    | none => simp [q] at h
    | some dn =>
      simp only [q] at h
      split at h <;> (cases h; simp [Zk.rd, q])
theorem ak_len {E E' : Ev} {o : Op} {d : D} (h : ak E o = some (d, E')) (j : Nat) (d' : D) (n' : Nat) (e : eg E j = some (d', n')) : ∃ m, eg E' j = some (d', m) := by
  cases o with
  | val d' n => cases h; exact ⟨_, e⟩
  | slot i =>
    unfold ak at h
    cases q : eg E i with
    | none => simp [q] at h
    | some dn =>
      simp only [q] at h
      split at h
      · cases h; exact ⟨_, e⟩
      · cases h
        by_cases c : j = i
        · subst c
          rw [q] at e
          cases e
          exact ⟨0, eg_set_same (eg_lt q)⟩
        · exact ⟨n', by rw [eg_set_ne c]; exact e⟩
theorem rd_ak {E E' : Ev} {o o' : Op} {d d' : D} (h : ak E o = some (d, E')) (e : rd E o' = some d') : rd E' o' = some d' := by
  cases o' with
  | val x n => exact e
  | slot j =>
    simp only [Zk.rd] at e ⊢
    cases q : eg E j with
    | none => simp [q] at e
    | some dn =>
      obtain ⟨m, hm⟩ := ak_len h j dn.1 dn.2 q
      rw [q] at e
      cases e
      rw [hm]; rfl
theorem akL_rd : ∀ {os : List Op} {E E' : Ev} {ds es : List D}, akL E os = some (ds, E') → rdL E os = some es → ds = es
  | [], _, _, _, _, h, e => by cases h; cases e; rfl
  | o :: os, E, E', ds, es, h, e => by
    simp only [akL] at h
    simp only [rdL] at e
    cases q : ak E o with
    | none => rw [q] at h; cases h
    | some p =>
      rw [q] at h
      simp only [Option.bind_some] at h
      cases q2 : akL p.2 os with
      | none => rw [q2] at h; cases h
      | some p2 =>
        rw [q2] at h
        cases h
        rw [ak_rd (E' := p.2) (d := p.1) q] at e
        simp only [Option.bind_some] at e
        cases q3 : rdL E os with
        | none => rw [q3] at e; cases e
        | some fs =>
          rw [q3] at e
          cases e
          have mono : ∀ {os : List Op} {es : List D}, rdL E os = some es → rdL p.2 os = some es := by
            intro os
            induction os with
            | nil => intro es h; exact h
            | cons o' os ih =>
              intro es h
              simp only [rdL] at h ⊢
              cases r1 : rd E o' with
              | none => rw [r1] at h; cases h
              | some d1 =>
                rw [r1] at h
                simp only [Option.bind_some] at h
                cases r2 : rdL E os with
                | none => rw [r2] at h; cases h
                | some ds1 =>
                  rw [r2] at h
                  rw [rd_ak (E' := p.2) (d := p.1) q r1, ih r2]
                  exact h
          rw [akL_rd q2 (mono q3)]
theorem op_of {r : List V → Hp → VK → Prop} {g : List D → Option (D × Nat)} (h : AL K r g) {fa : Fa} {σ : L2.St} {H : Hp} {Q : VK} (q : eOf K (mOp g fa) σ H Q) : aOf K fa σ H fun vs H2 => r vs H2 Q := by
  obtain ⟨Z, E, R, s, o, E', e, q⟩ := q
  unfold mOp at e
  cases e1 : fa E with
  | none => rw [e1] at e; cases e
  | some p =>
    obtain ⟨os, E1⟩ := p
    rw [e1] at e
    simp only [Option.bind_some] at e
    cases e2 : rdL E1 os with
    | none => rw [e2] at e; cases e
    | some ds =>
      rw [e2] at e
      simp only [Option.bind_some] at e
      cases e3 : g ds with
      | none => rw [e3] at e; cases e
      | some d =>
        rw [e3] at e
        simp only [Option.bind_some] at e
        by_cases hi : imm d.1 = true
        · rw [if_pos hi] at e
          cases e
          refine ⟨Z, E, R, s, os, _, e1, fun vs Z1 H1 R1 rss s1 t1 a1 f1 => ?_⟩
          refine h (fun a => H1 a ≠ none) H1 vs ds d.1 d.2 Q (fun _ z => z) (s1.readL a1 e2).dom.kfs e3 fun v H' rs m o nd nw => ?_
          obtain ⟨rfl, rp⟩ := o.imm hi
          exact q v Z1 H' R1 [] (s1.more m) (t1.trans (m.step _)) (Own.ofImm (rp.immz (fun _ _ e _ => e) hi) hi) .nil
        · rw [if_neg hi] at e
          cases e4 : akL E1 os with
          | none => rw [e4] at e; cases e
          | some p2 =>
            obtain ⟨ds', E2⟩ := p2
            rw [e4] at e
            cases e
            cases akL_rd e4 e2
            refine al_of h (fa := fa) ⟨Z, E, R, s, .val d.1 d.2, E2, ?_, q⟩
            unfold mAL
            rw [e1]
            simp only [Option.bind_some, e4, e3, Option.map_some]
theorem tOp_op {fa fb : Fe} {r : R2} {g : List D → Option (D × Nat)} {Q : VK} (h : AL K (two r) g) (q : eOf K (mOp g (mA2 fa fb)) σ H Q) : tOp r (eOf K fa) (eOf K fb) σ H Q := by
  have z := aOf_2 (op_of h q)
  obtain ⟨Z, E, R, s, o1, E1, e1, z⟩ := z
  refine ⟨Z, E, R, s, o1, E1, e1, fun v Z' H' R' rs s' t' o' f' => ?_⟩
  obtain ⟨Z2, E2, R2, s2, o2, E3, e2, z2⟩ := z v Z' H' R' rs s' t' o' f'
  refine ⟨Z2, E2, R2, s2, o2, E3, e2, fun v2 Z3 H3 R3 rs3 s3 t3 o3 f3 => ?_⟩
  obtain ⟨x, y, e, q⟩ := z2 v2 Z3 H3 R3 rs3 s3 t3 o3 f3
  cases e
  exact q

theorem Rps.atI {Z : Addr → Prop} {vs : List V} {ds : List D} (r : Rps K Z H vs ds) {i : Int} {d : D} (e : L2.atI ds i = some d) : ∃ v, L2.atI vs i = some v ∧ Rp K Z H v d := by
  unfold L2.atI at e ⊢
  rw [r.len]
  cases q : ixN ds.length i with
  | none => rw [q] at e; cases e
  | some j =>
    rw [q] at e
    simp only [Option.bind_some] at e ⊢
    exact r.getD e
/-- xs[i] -/
def gIx : List D → Option (D × Nat)
  | [.lst ds, .int i] => (atI ds i).map fun d => (d, 0)
  | [.tup ds, .int i] => (atI ds i).map fun d => (d, 0)
  | [.con ds, .int i] => (atI ds i).map fun d => (d, 0)
  | [.scr ds, .int i] => (atI ds i).map fun d => (.int d, 9)
  | [.str z, .int i] => if z.length ≤ sizeLine then (atI z.cps.toList i).map fun c => (.str ⟨#[c]⟩, 9) else none
  | _ => none
theorem atI_map {α β : Type} (f : α → β) (xs : List α) (i : Int) : L2.atI (xs.map f) i = (L2.atI xs i).map f := by
  unfold L2.atI
  rw [List.length_map]
  cases ixN xs.length i with
  | none => rfl
  | some j => simp
theorem al_ix : AL K (two (rIx K)) gIx := by
  intro Z H vs ds d n Q hz k e q
  unfold gIx at e
  split at e
  · rename_i ds i
    cases e1 : atI ds i with
    | none => rw [e1] at e; cases e
    | some d1 =>
      rw [e1] at e
      cases e
      obtain ⟨x, y, rfl, ⟨p, xs, rfl, hp, r⟩, h2⟩ := k.two
      cases Rp.intE h2
      obtain ⟨v, ev, rv⟩ := r.atI e1
      exact ⟨_, _, rfl, .inl ⟨p, xs, i, v, rfl, rfl, .inl (.inl hp), ev, q v H [] (.refl _) ⟨rfl, rv⟩ List.nodup_nil fun a m => by simp at m⟩⟩
  · rename_i ds i
    cases e1 : atI ds i with
    | none => rw [e1] at e; cases e
    | some d1 =>
      rw [e1] at e
      cases e
      obtain ⟨x, y, rfl, h1, h2⟩ := k.two
      cases Rp.intE h2
      cases h1 with
      | tup s r =>
        obtain ⟨v, ev, rv⟩ := r.atI e1
        exact ⟨_, _, rfl, .inr (.inl ⟨_, _, i, v, rfl, rfl, .of s, ev, q v H [] (.refl _) ⟨rfl, rv⟩ List.nodup_nil fun a m => by simp at m⟩)⟩
  · rename_i ds i
    cases e1 : atI ds i with
    | none => rw [e1] at e; cases e
    | some d1 =>
      rw [e1] at e
      cases e
      obtain ⟨x, y, rfl, h1, h2⟩ := k.two
      cases Rp.intE h2
      cases h1 with
      | con s r =>
        obtain ⟨v, ev, rv⟩ := r.atI e1
        exact ⟨_, _, rfl, .inr (.inl ⟨_, _, i, v, rfl, rfl, s.sq, ev, q v H [] (.refl _) ⟨rfl, rv⟩ List.nodup_nil fun a m => by simp at m⟩)⟩
  · rename_i ns i
    cases e1 : atI ns i with
    | none => rw [e1] at e; cases e
    | some d1 =>
      rw [e1] at e
      cases e
      obtain ⟨x, y, rfl, h1, h2⟩ := k.two
      cases Rp.intE h2
      cases h1 with
      | scr s =>
        exact ⟨_, _, rfl, .inl ⟨_, _, i, .int d1, rfl, rfl, s.sq, by rw [atI_map, e1]; rfl, fin_imm (Z := Z) (.int _) (by simp) q⟩⟩
  · rename_i z i
    split at e
    · rename_i hl
      cases e1 : atI z.cps.toList i with
      | none => rw [e1] at e; cases e
      | some c =>
        rw [e1] at e
        cases e
        obtain ⟨x, y, rfl, h1, h2⟩ := k.two
        cases Rp.intE h2
        cases Rp.strE h1
        exact ⟨_, _, rfl, .inr (.inr ⟨z, i, c, rfl, rfl, hl, e1, fin_imm (Z := Z) (.str _) (by simp) q⟩)⟩
    · cases e
  · cases e
end
section
variable {X : Cx} {a b e : Expr} {es : List Expr} {fa fb fe : Fe} {fs : Fa} {pos : PySem.Pos} {x : Str} {p : PySem.Pos} {id T : String} {r : List V → Hp → VK → Prop}
theorem aa_nil : AA X [] mA0 := PA.mono pa_nil fun _ _ _ q => aOf_0 q
theorem aa_cons (ha : AE X e fe) (hr : AA X es fs) (hs : starEach (e :: es) X.env = (false, eval e X.env) :: starEach es X.env := by rfl) : AA X (e :: es) (mAc fe fs) := PA.mono (pa_cons ha hr hs) fun _ _ _ q => aOf_c q

theorem ae_blt {g : List D → Option (D × Nat)} (hc : CallR X (.builtin id) r) (hal : AL X.K r g) (hg : Gl X x) (hm : X.mg x = none) (hv : bootBuiltins x = some (.builtin id)) (ha : AA X (e :: es) fs) (hn : x ≠ "__name__" := by decide) (hdb : (x == ("__debug__" : Str)) = false := by decide)
    (he : starEach (e :: es) X.env = (false, eval e X.env) :: starEach es X.env := by rfl) (hpl : (backTo pos (starEach es X.env)).any (·.1) = false := by rfl) : AE X (.Call (.Name x p) (e :: es) [] pos) (mOp g fs) :=
  PE.mono (pe_callB hc hg hm hv ha hn hdb he hpl) fun _ _ _ q => op_of hal q
theorem ae_bty {g : List D → Option (D × Nat)} (hc : CallR X (.type T) r) (hal : AL X.K r g) (hg : Gl X x) (hm : X.mg x = none) (hv : bootBuiltins x = some (.type T)) (ha : AA X (e :: es) fs) (hn : x ≠ "__name__" := by decide) (hdb : (x == ("__debug__" : Str)) = false := by decide)
    (he : starEach (e :: es) X.env = (false, eval e X.env) :: starEach es X.env := by rfl) (hpl : (backTo pos (starEach es X.env)).any (·.1) = false := by rfl) : AE X (.Call (.Name x p) (e :: es) [] pos) (mOp g fs) :=
  PE.mono (pe_callTy hc hg hm hv ha hn hdb he hpl) fun _ _ _ q => op_of hal q
/-- a built-in type as a value -/
theorem ae_typ {n : String} (hg : Gl X x) (hm : X.mg x = none) (hv : bootBuiltins x = some (.type n)) (hn : x ≠ "__name__" := by decide) (hdb : (x == ("__debug__" : Str)) = false := by decide) : AE X (.Name x pos) (mC (.ty n)) :=
  PE.mono (pe_bltn (v := .ty n) hg hm hv rfl hn hdb) fun _ _ _ q => mC_of (fun _ _ => .ty n) (by simp) q
end
section
variable {K : PySem.W.Frag} {Z Z' : Addr → Prop} {H H' : Hp} {σ : L2.St}
/-- len -/
def gLen : List D → Option (D × Nat)
  | [.lst ds] => some (.int ds.length, 9)
  | [.tup ds] => some (.int ds.length, 9)
  | [.con ds] => some (.int ds.length, 9)
  | [.scr ds] => some (.int ds.length, 9)
  | [.str z] => if z.length ≤ sizeLine then some (.int z.length, 9) else none
  | _ => none
theorem al_len : AL K (fun xs H Q => ∃ x n, xs = [x] ∧ LenV K x H n ∧ Q (.int n) H) gLen := by
  intro Z H vs ds d n Q hz k e q
  unfold gLen at e
  split at e
  · cases e
    obtain ⟨x, rfl, ⟨p, xs, rfl, hp, r⟩⟩ := k.one
    exact ⟨_, xs.length, rfl, .inl ⟨xs, .inl (.inl hp), rfl⟩, by rw [r.len]; exact fin_imm (Z := Z) (.int _) (by simp) q⟩
  · cases e
    obtain ⟨x, rfl, h1⟩ := k.one
    cases h1 with
    | tup s r => exact ⟨_, _, rfl, .inr ⟨_, .of s, rfl⟩, by rw [r.len]; exact fin_imm (Z := Z) (.int _) (by simp) q⟩
  · cases e
    obtain ⟨x, rfl, h1⟩ := k.one
    cases h1 with
    | con s r => exact ⟨_, _, rfl, .inr ⟨_, s.sq, rfl⟩, by rw [r.len]; exact fin_imm (Z := Z) (.int _) (by simp) q⟩
  · cases e
    obtain ⟨x, rfl, h1⟩ := k.one
    cases h1 with
    | scr s => exact ⟨_, _, rfl, .inl ⟨_, s.sq, rfl⟩, by rw [List.length_map]; exact fin_imm (Z := Z) (.int _) (by simp) q⟩
  · split at e
    · rename_i hl
      cases e
      obtain ⟨x, rfl, h1⟩ := k.one
      cases Rp.strE h1
      exact ⟨_, _, rfl, ⟨hl, rfl⟩, fin_imm (Z := Z) (.int _) (by simp) q⟩
    · cases e
  · cases e
/-- the ints of some data -/
def iof : List D → Option (List Int)
  | [] => some []
  | .int i :: ds => (iof ds).map (i :: ·)
  | _ => none
theorem iof_eq : ∀ {ds : List D} {ns : List Int}, iof ds = some ns → ds = ns.map D.int
  | [], _, h => by cases h; rfl
  | d :: ds, ns, h => by
    cases d with
    | int i =>
      simp only [iof] at h
      cases q : iof ds with
      | none => rw [q] at h; cases h
      | some ms => rw [q] at h; cases h; simp [iof_eq q]
    | _ => simp [iof] at h
@[simp] theorem iof_map (ns : List Int) : iof (ns.map D.int) = some ns := by
  induction ns with
  | nil => rfl
  | cons n ns ih => simp [iof, ih]
/-- sum of a list of ints -/
def gSum : List D → Option (D × Nat)
  | [.lst ds] => (iof ds).map fun ns => (.int ns.sum, 9)
  | _ => none
theorem al_sum : AL K (rSum K) gSum := by
  intro Z H vs ds d n Q hz k e q
  unfold gSum at e
  split at e
  · rename_i ds
    cases e1 : iof ds with
    | none => rw [e1] at e; cases e
    | some ns =>
      rw [e1] at e
      cases e
      cases iof_eq e1
      obtain ⟨x, rfl, ⟨p, xs, rfl, hp, r⟩⟩ := k.one
      cases r.ints
      exact ⟨p, ns, rfl, .inl (.inl hp), fin_imm (Z := Z) (.int _) (by simp) q⟩
  · cases e
/-- the greatest, the least one -/
def maxL : List Int → Int
  | [] => 0
  | [a] => a
  | a :: as => max a (maxL as)
def minL : List Int → Int
  | [] => 0
  | [a] => a
  | a :: as => min a (minL as)
theorem maxL_mem : ∀ {ns : List Int}, ns ≠ [] → maxL ns ∈ ns ∧ ∀ y ∈ ns, y ≤ maxL ns
  | [a], _ => by simp [maxL]
  | a :: b :: r, _ => by
    obtain ⟨h1, h2⟩ := maxL_mem (ns := b :: r) (by simp)
    simp only [maxL]
    refine ⟨?_, fun y hy => ?_⟩
    · by_cases c : a ≤ maxL (b :: r)
      · rw [Int.max_eq_right c]; exact List.mem_cons_of_mem _ h1
      · rw [Int.max_eq_left (by omega)]; exact List.mem_cons_self
    · rcases List.mem_cons.mp hy with rfl | hy
      · omega
      · have := h2 y hy; omega
theorem minL_mem : ∀ {ns : List Int}, ns ≠ [] → minL ns ∈ ns ∧ ∀ y ∈ ns, minL ns ≤ y
  | [a], _ => by simp [minL]
  | a :: b :: r, _ => by
    obtain ⟨h1, h2⟩ := minL_mem (ns := b :: r) (by simp)
    simp only [minL]
    refine ⟨?_, fun y hy => ?_⟩
    · by_cases c : a ≤ minL (b :: r)
      · rw [Int.min_eq_left c]; exact List.mem_cons_self
      · rw [Int.min_eq_right (by omega)]; exact List.mem_cons_of_mem _ h1
    · rcases List.mem_cons.mp hy with rfl | hy
      · omega
      · have := h2 y hy; omega
def gMax : List D → Option (D × Nat)
  | [.lst ds] => (iof ds).bind fun ns => if ns = [] then none else some (.int (maxL ns), 9)
  | [.int i, .int j] => some (.int (max i j), 9)
  | _ => none
def gMin : List D → Option (D × Nat)
  | [.lst ds] => (iof ds).bind fun ns => if ns = [] then none else some (.int (minL ns), 9)
  | [.int i, .int j] => some (.int (min i j), 9)
  | _ => none
def rMaxs (K : PySem.W.Frag) : List V → Hp → VK → Prop := fun xs H Q => rMax K xs H Q ∨ (∃ i j, xs = [.int i, .int j] ∧ Q (.int (if j > i then j else i)) H)
def rMins (K : PySem.W.Frag) : List V → Hp → VK → Prop := fun xs H Q => rMin K xs H Q ∨ (∃ i j, xs = [.int i, .int j] ∧ Q (.int (if j < i then j else i)) H)
theorem al_max : AL K (rMaxs K) gMax := by
  intro Z H vs ds d n Q hz k e q
  unfold gMax at e
  split at e
  · rename_i ds
    cases e1 : iof ds with
    | none => rw [e1] at e; cases e
    | some ns =>
      rw [e1] at e
      simp only [Option.bind_some] at e
      split at e
      · cases e
      · rename_i ne
        cases e
        cases iof_eq e1
        obtain ⟨x, rfl, ⟨p, xs, rfl, hp, r⟩⟩ := k.one
        cases r.ints
        refine .inl ⟨p, ns, rfl, .inl (.inl hp), by cases ns with | nil => exact absurd rfl ne | cons a b => simp, fun m hm hle => ?_⟩
        obtain ⟨h1, h2⟩ := maxL_mem ne
        have e2 : m = maxL ns := Int.le_antisymm (h2 m hm) (hle _ h1)
        rw [e2]
        exact fin_imm (Z := Z) (.int _) (by simp) q
  · rename_i i j
    cases e
    obtain ⟨x, y, rfl, h1, h2⟩ := k.two
    cases Rp.intE h1
    cases Rp.intE h2
    refine .inr ⟨i, j, rfl, ?_⟩
    have e2 : (if j > i then j else i) = max i j := by split <;> omega
    rw [e2]
    exact fin_imm (Z := Z) (.int _) (by simp) q
  · cases e
theorem al_min : AL K (rMins K) gMin := by
  intro Z H vs ds d n Q hz k e q
  unfold gMin at e
  split at e
  · rename_i ds
    cases e1 : iof ds with
    | none => rw [e1] at e; cases e
    | some ns =>
      rw [e1] at e
      simp only [Option.bind_some] at e
      split at e
      · cases e
      · rename_i ne
        cases e
        cases iof_eq e1
        obtain ⟨x, rfl, ⟨p, xs, rfl, hp, r⟩⟩ := k.one
        cases r.ints
        refine .inl ⟨p, ns, rfl, .inl (.inl hp), by cases ns with | nil => exact absurd rfl ne | cons a b => simp, fun m hm hle => ?_⟩
        obtain ⟨h1, h2⟩ := minL_mem ne
        have e2 : m = minL ns := Int.le_antisymm (hle _ h1) (h2 m hm)
        rw [e2]
        exact fin_imm (Z := Z) (.int _) (by simp) q
  · rename_i i j
    cases e
    obtain ⟨x, y, rfl, h1, h2⟩ := k.two
    cases Rp.intE h1
    cases Rp.intE h2
    refine .inr ⟨i, j, rfl, ?_⟩
    have e2 : (if j < i then j else i) = min i j := by split <;> omega
    rw [e2]
    exact fin_imm (Z := Z) (.int _) (by simp) q
  · cases e
def gAbs : List D → Option (D × Nat)
  | [.int i] => some (.int (if i < 0 then -i else i), 9)
  | _ => none
theorem al_abs : AL K (fun xs H Q => ∃ i, xs = [.int i] ∧ Q (.int (if i < 0 then -i else i)) H) gAbs := by
  intro Z H vs ds d n Q hz k e q
  unfold gAbs at e
  split at e
  · cases e
    obtain ⟨x, rfl, h1⟩ := k.one
    cases Rp.intE h1
    exact ⟨_, rfl, fin_imm (Z := Z) (.int _) (by simp) q⟩
  · cases e
def gInt : List D → Option (D × Nat)
  | [.int i] => some (.int i, 9)
  | [.bl b] => some (.int (if b then 1 else 0), 9)
  | _ => none
theorem al_int : AL K (fun xs H Q => (∃ i, xs = [.int i] ∧ Q (.int i) H) ∨ ∃ k, xs = [.bl k] ∧ Q (.int (if k then 1 else 0)) H) gInt := by
  intro Z H vs ds d n Q hz k e q
  unfold gInt at e
  split at e
  · cases e
    obtain ⟨x, rfl, h1⟩ := k.one
    cases Rp.intE h1
    exact .inl ⟨_, rfl, fin_imm (Z := Z) (.int _) (by simp) q⟩
  · cases e
    obtain ⟨x, rfl, h1⟩ := k.one
    cases Rp.blE h1
    exact .inr ⟨_, rfl, fin_imm (Z := Z) (.int _) (by simp) q⟩
  · cases e
/-- list(xs), tuple(xs) -/
def gList : List D → Option (D × Nat)
  | [.lst ds] => some (.lst ds, lev ds)
  | [.tup ds] => some (.lst ds, lev ds)
  | _ => none
theorem al_list : AL K (fun xs H Q => ∃ p ys, xs = [.ref p] ∧ (SqL K H p ys ∨ SqT K H p ys) ∧ ∀ l, H l = none → Q (.ref l) (upd H l (.lst ys))) gList := by
  intro Z H vs ds d n Q hz k e q
  unfold gList at e
  split at e
  · cases e
    obtain ⟨x, rfl, ⟨p, xs, rfl, hp, r⟩⟩ := k.one
    exact ⟨p, xs, rfl, .inl (.inl (.inl hp)), fin_lst hz r q⟩
  · cases e
    obtain ⟨x, rfl, h1⟩ := k.one
    cases h1 with
    | tup s r => exact ⟨_, _, rfl, .inr (.of s), fin_lst hz r q⟩
  · cases e
def gTuple : List D → Option (D × Nat)
  | [.lst ds] => some (.tup ds, 0)
  | [.tup ds] => some (.tup ds, 0)
  | _ => none
theorem al_tuple : AL K (fun xs H Q => ∃ p ys, xs = [.ref p] ∧ ((SqL K H p ys ∧ ∀ l, H l = none → Q (.ref l) (upd H l (.tup ys))) ∨ (SqT K H p ys ∧ Q (.ref p) H))) gTuple := by
  intro Z H vs ds d n Q hz k e q
  unfold gTuple at e
  split at e
  · cases e
    obtain ⟨x, rfl, ⟨p, xs, rfl, hp, r⟩⟩ := k.one
    exact ⟨p, xs, rfl, .inl ⟨.inl (.inl hp), fin_tup r q⟩⟩
  · cases e
    obtain ⟨x, rfl, h1⟩ := k.one
    cases h1 with
    | tup s r => exact ⟨_, _, rfl, .inr ⟨.of s, q _ H [] (.refl _) ⟨rfl, .tup s r⟩ List.nodup_nil fun a m => by simp at m⟩⟩
  · cases e
/-- sorted of iof -/
def srt (ns : List Int) : List Int := ns.mergeSort (fun a b => decide (a ≤ b))
theorem srt_perm (ns : List Int) : (srt ns).Perm ns := List.mergeSort_perm _ _
theorem srt_pair (ns : List Int) : (srt ns).Pairwise (· ≤ ·) := by
  have h := List.pairwise_mergeSort (le := fun a b : Int => decide (a ≤ b)) (fun a b c h1 h2 => by simp at *; omega) (fun a b => by simp; omega) ns
  exact h.imp fun h => by simpa using h
theorem srt_uniq : ∀ {xs ys : List Int}, xs.Perm ys → xs.Pairwise (· ≤ ·) → ys.Pairwise (· ≤ ·) → xs = ys := fun p h1 h2 =>
  p.eq_of_pairwise (le := (· ≤ ·)) (fun _ _ _ _ h1 h2 => Int.le_antisymm h1 h2) h1 h2
theorem lev_ints (ns : List Int) : lev (ns.map D.int) = 9 := by unfold lev; rw [imms_map _ (fun _ => by simp)]; rfl
/-- isinstance -/
def tyOf : D → Option String
  | .non => some "NoneType"
  | .bl _ => some "bool"
  | .int _ => some "int"
  | .str _ => some "str"
  | .tup _ => some "tuple"
  | .con _ => some "tuple"
  | .lst _ => some "list"
  | .dK _ => some "dict"
  | .dT _ => some "dict"
  | _ => none
/-- what isinstance of built-in types says, for those that are met here -/
def isi (a b : String) : Option Bool :=
  if b = "int" then some (a == "int" || a == "bool")
  else if b = "bool" ∨ b = "str" ∨ b = "tuple" ∨ b = "list" ∨ b = "dict" then some (a == b) else none
theorem isi_kit {d : D} {a b : String} {r : Bool} (h : tyOf d = some a) (e : isi a b = some r) : kitB a b = some r := by
  have ha : a = "NoneType" ∨ a = "bool" ∨ a = "int" ∨ a = "str" ∨ a = "tuple" ∨ a = "list" ∨ a = "dict" := by
    cases d <;> simp [tyOf] at h <;> subst h <;> simp
  unfold isi at e
  split at e
  · rename_i hb
    subst hb
    cases e
    rcases ha with rfl | rfl | rfl | rfl | rfl | rfl | rfl <;> decide +kernel
  · split at e
    · rename_i hb
      cases e
      rcases hb with rfl | rfl | rfl | rfl | rfl <;> rcases ha with rfl | rfl | rfl | rfl | rfl | rfl | rfl <;> decide +kernel
    · cases e
theorem Kf.ty {v : V} {d : D} {n : String} (h : Kf K Z H v d) (e : tyOf d = some n) : TyX K H v (.type n) := by
  cases d with
  | non => cases e; cases Rp.nonE h; exact .base .non
  | bl b => cases e; cases Rp.blE h; exact .base (.bl b)
  | int b => cases e; cases Rp.intE h; exact .base (.int b)
  | str b => cases e; cases Rp.strE h; exact .base (.str b)
  | tup ds =>
    cases e
    cases h with
    | tup s r =>
      exact .base (.tup s)
  | con ds =>
    cases e
    cases h with
    | con s r =>
      obtain ⟨o, its, m, s, c, _⟩ := s
      exact .kTuple s c
  | lst ds => cases e; obtain ⟨a, vs, rfl, ha, _⟩ := h; exact .base (.lst ha)
  | dK ds =>
    cases e
    obtain ⟨a, vs, rfl, ha, _⟩ := h
    rcases ha with ha | ⟨o, ha⟩
    · exact .base (.dK ha)
    · exact .fDict ha
  | dT ds => cases e; obtain ⟨a, vs, rfl, ha, _⟩ := h; exact .base (.dT ha)
  | _ => simp [tyOf] at e
def gIsi : List D → Option (D × Nat)
  | [d, .ty b] => (tyOf d).bind fun a => (isi a b).map fun r => (.bl r, 9)
  | [d, .tup [.ty b, .ty c]] => (tyOf d).bind fun a => (isi a b).bind fun r => (isi a c).map fun r2 => (.bl (r || r2), 9)
  | _ => none
theorem isi_any {d : D} {a b c : String} {r r2 : Bool} (h : tyOf d = some a) (e : isi a b = some r) (e2 : isi a c = some r2) : PySem.W.kitAny K (.type a) [.type b, .type c] = some (r || r2) := by
  refine kitAny_cons (kit_ty (isi_kit h e)) (fun z => ?_) fun z => by rw [z]; rfl
  rw [z, Bool.false_or]
  exact kitAny_cons (kit_ty (isi_kit h e2)) (fun z => by rw [z]; exact kitAny_nil) fun z => z
theorem al_isi : AL K (fun vs H Q => rIsi K vs H Q ∨ rIsiT K vs H Q ∨ rIsiK K vs H Q) gIsi := by
  intro Z H vs ds d n Q hz k e q
  unfold gIsi at e
  split at e
  · rename_i d b
    cases e1 : tyOf d with
    | none => rw [e1] at e; cases e
    | some a =>
      rw [e1] at e
      simp only [Option.bind_some] at e
      cases e2 : isi a b with
      | none => rw [e2] at e; cases e
      | some r =>
        rw [e2] at e
        cases e
        obtain ⟨x, y, rfl, h1, h2⟩ := k.two
        cases (show Rp K Z H y (.ty b) from h2)
        exact .inl ⟨x, _, _, _, r, rfl, .ty b, h1.ty e1, kit_ty (isi_kit e1 e2), fin_imm (Z := Z) (.bl _) (by simp) q⟩
  · rename_i d b c
    cases e1 : tyOf d with
    | none => rw [e1] at e; cases e
    | some a =>
      rw [e1] at e
      simp only [Option.bind_some] at e
      cases e2 : isi a b with
      | none => rw [e2] at e; cases e
      | some r =>
        rw [e2] at e
        simp only [Option.bind_some] at e
        cases e3 : isi a c with
        | none => rw [e3] at e; cases e
        | some r2 =>
          rw [e3] at e
          cases e
          obtain ⟨x, y, rfl, h1, h2⟩ := k.two
          have kk := isi_any (K := K) e1 e2 e3
          cases (show Rp K Z H y (.tup [.ty b, .ty c]) from h2) with
          | tup s rr =>
            obtain ⟨v1, v2, rfl, r1, r3⟩ := rr.two
            cases r1
            cases r3
            exact .inr (.inl ⟨x, _, _, _, _, _, rfl, s, .cons (.ty b) (.cons (.ty c) .nil), h1.ty e1, kk, fin_imm (Z := Z) (.bl _) (by simp) q⟩)
  · cases e
end
end Zk
namespace Zk
open PySem PySem.Spec PyProof.Rows L2

section
variable {K : PySem.W.Frag} {Z Z' : Addr → Prop} {H H' : Hp} {σ : L2.St} {E E' : Ev} {R R' : Rs}
/-- taken items -/
abbrev TL (K : PySem.W.Frag) (Z : Addr → Prop) (H : Hp) : List V → List (D × Nat) → List (List Addr) → Prop := All3 fun v dn rs => Own K Z H dn.2 v dn.1 rs
def tkL (E : Ev) : List Op → Option (List (D × Nat) × Ev)
  | [] => some ([], E)
  | o :: os => (tk E o).bind fun p => (tkL p.2.2 os).map fun q => ((p.1, p.2.1) :: q.1, q.2)
theorem S.takeL : ∀ {vs : List V} {os : List Op} {rss : List (List Addr)} {ds : List (D × Nat)} {Z : Addr → Prop} {E E' : Ev} {R : Rs}, S K Z H σ E R → All3 (OV K Z H σ) vs os rss → (∀ a ∈ rss.flatten, ¬ ow R a) → tkL E os = some (ds, E') →
    ∃ Zf R', S K Zf H σ E' R' ∧ Step Z H (ow R) Zf H (ow R') ∧ TL K Zf H vs ds rss ∧ (∀ a ∈ rss.flatten, ¬ ow R' a) ∧ (∀ a, ow R' a → ow R a)
  | _, _, _, _, Z, E, E', R, s, .nil, no, e => by
    cases e
    exact ⟨Z, R, s, .refl, .nil, no, fun _ h => h⟩
  | _, _, _, _, Z, E, E', R, s, .cons (a := v) (b := o) (bs := os) (c := rs) (cs := rss) h t, no, e => by
    simp only [tkL] at e
    have no1 : ∀ a ∈ rs, ¬ ow R a := fun a m => no a (by rw [List.flatten_cons, List.mem_append]; exact .inl m)
    have no2 : ∀ a ∈ rss.flatten, ¬ ow R a := fun a m => no a (by rw [List.flatten_cons, List.mem_append]; exact .inr m)
    cases q : tk E o with
    | none => rw [q] at e; cases e
    | some p =>
      obtain ⟨d, n, E1⟩ := p
      rw [q] at e
      cases q2 : tkL E1 os with
      | none => simp only [Option.bind_some, q2] at e; cases e
      | some p2 =>
        obtain ⟨ds, E2⟩ := p2
        simp only [Option.bind_some, q2, Option.map_some, Option.some.injEq, Prod.mk.injEq] at e
        obtain ⟨rfl, rfl⟩ := e
        obtain ⟨Z1, R1, s1, t1, o1, n1, sub1⟩ := s.take h no1 q
        have a1 : All3 (OV K Z1 H σ) _ os rss := t.imp fun v' o' rs' m hh => (s.pendO t1 hh fun a ma => no2 a (mem_flatten_of m ma)).1
        obtain ⟨Zf, R2, s2, t2, tl2, n2, sub2⟩ := S.takeL s1 a1 (fun a m z => no2 a m (sub1 a z)) q2
        obtain ⟨k1, k2⟩ := s1.pend t2 o1 n1
        refine ⟨Zf, R2, s2, t1.trans t2, .cons k1 tl2, fun a m => ?_, fun a z => sub1 a (sub2 a z)⟩
        rw [List.flatten_cons, List.mem_append] at m
        rcases m with m | m
        · exact k2 a m
        · exact n2 a m
theorem TL.there {vs : List V} {ds : List (D × Nat)} {rss : List (List Addr)} (h : TL K Z H vs ds rss) : ∀ a ∈ rss.flatten, H a ≠ none := by
  induction h with
  | nil => intro a m; simp at m
  | cons h t ih =>
    intro a m
    rw [List.flatten_cons, List.mem_append] at m
    rcases m with m | m
    · exact Own.there h a m
    · exact ih a m
theorem TL.notZ {vs : List V} {ds : List (D × Nat)} {rss : List (List Addr)} (h : TL K Z H vs ds rss) : ∀ a ∈ rss.flatten, ¬ Z a := by
  induction h with
  | nil => intro a m; simp at m
  | cons h t ih =>
    intro a m
    rw [List.flatten_cons, List.mem_append] at m
    rcases m with m | m
    · exact (Own.mut h a m).2
    · exact ih a m
theorem TL.froz (p : Pers Z H Z' H') {vs : List V} {ds : List (D × Nat)} {rss : List (List Addr)} (h : TL K Z H vs ds rss) (k : ∀ a ∈ rss.flatten, H' a = H a ∧ Z' a) : Rps K Z' H' vs (ds.map (·.1)) := by
  induction h with
  | nil => exact .nil
  | cons h t ih =>
    refine .cons (Own.freeze p (fun a m => k a (by rw [List.flatten_cons, List.mem_append]; exact .inl m)) h) (ih fun a m => k a (by rw [List.flatten_cons, List.mem_append]; exact .inr m))
theorem TL.keep (p : Pers Z H Z' H') {vs : List V} {ds : List (D × Nat)} {rss : List (List Addr)} (h : TL K Z H vs ds rss) (k : ∀ a ∈ rss.flatten, H' a = H a ∧ ¬ Z' a) : TL K Z' H' vs ds rss :=
  All3.imp h fun v d rs m o => o.keep p fun a ma => k a (mem_flatten_of m ma)
theorem TL.len {vs : List V} {ds : List (D × Nat)} {rss : List (List Addr)} (h : TL K Z H vs ds rss) : vs.length = ds.length := by
  induction h with
  | nil => rfl
  | cons _ _ ih => simp [ih]
/-- how deep a new list of taken items is ours: all items unchangeable; all others of one depth; else they are frozen -/
def uni (ds : List (D × Nat)) : Nat :=
  if imms (ds.map (·.1)) = true then 9 else
    match ds.find? (fun d => !imm d.1) with
    | some d => if ds.all (fun e => imm e.1 || e.2 == d.2) = true then d.2 + 1 else 1
    | none => 9
theorem TL.all {n : Nat} : ∀ {vs : List V} {ds : List (D × Nat)} {rss : List (List Addr)}, TL K Z H vs ds rss → ds.all (fun e => imm e.1 || e.2 == n) = true → All3 (Own K Z H n) vs (ds.map (·.1)) rss
  | _, _, _, .nil, _ => .nil
  | _, _, _, .cons (b := d) (c := rs) h t, a => by
    simp only [List.all_cons, Bool.and_eq_true, Bool.or_eq_true, beq_iff_eq] at a
    refine .cons ?_ (TL.all t a.2)
    rcases a.1 with i | e
    · obtain ⟨rfl, r⟩ := h.imm i
      exact .ofImm r i
    · rw [← e]; exact h
theorem TL.immR : ∀ {vs : List V} {ds : List (D × Nat)} {rss : List (List Addr)}, TL K Z H vs ds rss → imms (ds.map (·.1)) = true → Rps K Z H vs (ds.map (·.1)) ∧ rss.flatten = []
  | _, _, _, .nil, _ => ⟨.nil, rfl⟩
  | _, _, _, .cons h t, i => by
    simp only [List.map_cons, imms_cons, Bool.and_eq_true] at i
    obtain ⟨rfl, r⟩ := h.imm i.1
    obtain ⟨r2, e2⟩ := TL.immR t i.2
    exact ⟨.cons r r2, by rw [List.flatten_cons, e2]; rfl⟩
/-- a new list of taken items -/
theorem S.newList (s : S K Z H σ E R) {vs : List V} {ds : List (D × Nat)} {rss : List (List Addr)} (h : TL K Z H vs ds rss) (nd : rss.flatten.Nodup) (no : ∀ a ∈ rss.flatten, ¬ ow R a) {p : Addr} (hp : H p = none) :
    ∃ Zf rs, S K Zf (upd H p (.lst vs)) σ E R ∧ Own K Zf (upd H p (.lst vs)) (uni ds) (.ref p) (.lst (ds.map (·.1))) rs ∧ rs.Nodup ∧ (∀ a ∈ rs, a = p ∨ a ∈ rss.flatten) ∧ (∀ a, Z a → Zf a) ∧ (∀ a, Zf a → Z a ∨ a ∈ rss.flatten) := by
  have m : More H (upd H p (.lst vs)) := .upd hp
  have th := TL.there h
  have pne : ∀ a ∈ rss.flatten, a ≠ p := fun a ma e => th a ma (by rw [e]; exact hp)
  have nz : ¬ Z p := fun z => s.zd p z hp
  have froz : ∃ Zf rs, S K Zf (upd H p (.lst vs)) σ E R ∧ Own K Zf (upd H p (.lst vs)) 1 (.ref p) (.lst (ds.map (·.1))) rs ∧ rs.Nodup ∧ (∀ a ∈ rs, a = p ∨ a ∈ rss.flatten) ∧ (∀ a, Z a → Zf a) ∧ (∀ a, Zf a → Z a ∨ a ∈ rss.flatten) := by
    have s1 := (s.chill no th).more m
    refine ⟨_, [p], s1, ⟨p, vs, _, rfl, upd_same, fun z => ?_, All3.ofRps0 (h.froz (Z' := fun a => Z a ∨ a ∈ rss.flatten) (m.pers fun _ h => .inl h) fun a ma => ⟨upd_ne (pne a ma), .inr ma⟩), by rw [flat_nils]⟩, by simp, fun a ma => .inl (by simpa using ma), fun _ h => .inl h, fun _ h => h⟩
    rcases z with z | z
    · exact nz z
    · exact pne p z rfl
  unfold uni
  split
  · rename_i i
    obtain ⟨r, e⟩ := h.immR i
    exact ⟨Z, [p], s.more m, ⟨p, vs, _, rfl, upd_same, nz, All3.ofRpsI (r.pers (m.pers fun _ h => h)) i, by rw [flat_nils]⟩, by simp, fun a ma => .inl (by simpa using ma), fun _ h => h, fun _ h => .inl h⟩
  · split
    · rename_i d hd
      split
      · rename_i a
        have h2 : TL K Z (upd H p (.lst vs)) vs ds rss := h.keep (m.pers fun _ h => h) fun a ma => ⟨upd_ne (pne a ma), TL.notZ h a ma⟩
        refine ⟨Z, p :: rss.flatten, s.more m, ⟨p, vs, rss, rfl, upd_same, nz, h2.all a, rfl⟩, List.nodup_cons.mpr ⟨fun z => pne p z rfl, nd⟩, fun a ma => List.mem_cons.mp ma, fun _ h => h, fun _ h => .inl h⟩
      · exact froz
    · rename_i hn _ hi
      exact absurd (by
        rw [imms_all, List.all_map, List.all_eq_true]
        intro x hx
        have := List.find?_eq_none.mp hi x hx
        simpa using this) hn
def mLst (fa : Fa) : Fe := fun E => (fa E).bind fun p => (tkL p.2 p.1).bind fun q => if q.1.length ≤ sizeLine then some (.val (.lst (q.1.map (·.1))) (uni q.1), q.2) else none
def mTup (fa : Fa) : Fe := fun E => (fa E).bind fun p => (tkL p.2 p.1).bind fun q => if q.1.length ≤ sizeLine then some (.val (.tup (q.1.map (·.1))) 0, q.2) else none
theorem take_of {fa : Fa} {g : List (D × Nat) → Option (D × Nat)} {f : Fe} (hf : ∀ E, f E = (fa E).bind fun p => (tkL p.2 p.1).bind fun q => (g q.1).map fun d => (.val d.1 d.2, q.2)) {Q : VK} {r : List V → Hp → Prop}
    (h : ∀ Z0 H0 R0 Z H E R vs ds d n rss, S K Z H σ E R → Step Z0 H0 (ow R0) Z H (ow R) → TL K Z H vs ds rss → Fr R0 H0 R rss.flatten → g ds = some (d, n) →
      (∀ v Z' H' rs, S K Z' H' σ E R → Step Z0 H0 (ow R0) Z' H' (ow R) → Own K Z' H' n v d rs → Fr R0 H0 R rs → Q v H') → r vs H) {H : Hp} (q : eOf K f σ H Q) : aOf K fa σ H r := by
  obtain ⟨Z, E, R, s, o, E', e, q⟩ := q
  rw [hf] at e
  cases e1 : fa E with
  | none => rw [e1] at e; cases e
  | some p =>
    obtain ⟨os, E1⟩ := p
    rw [e1] at e
    simp only [Option.bind_some] at e
    cases e2 : tkL E1 os with
    | none => rw [e2] at e; cases e
    | some p2 =>
      obtain ⟨ds, E2⟩ := p2
      rw [e2] at e
      simp only [Option.bind_some] at e
      cases e3 : g ds with
      | none => rw [e3] at e; cases e
      | some d =>
        rw [e3] at e
        cases e
        refine ⟨Z, E, R, s, os, E1, e1, fun vs Z1 H1 R1 rss s1 t1 a1 f1 => ?_⟩
        obtain ⟨Zf, R2, s2, t2, tl, no2, sub⟩ := s1.takeL a1 f1.no e2
        exact h Z H R Zf H1 _ R2 vs ds d.1 d.2 rss s2 (t1.trans t2) tl ⟨f1.nd, no2, f1.of⟩ e3 fun v Z' H' rs s' t' o' f' => q v Z' H' R2 rs s' t' o' f'
theorem lst_of {fa : Fa} {H : Hp} {Q : VK} (q : eOf K (mLst fa) σ H Q) : aOf K fa σ H fun xs H1 => xs.length ≤ sizeLine ∧ ∀ p, H1 p = none → Q (.ref p) (upd H1 p (.lst xs)) :=
  take_of (g := fun ds => if ds.length ≤ sizeLine then some (.lst (ds.map (·.1)), uni ds) else none) (fun E => by
    unfold mLst
    congr 1; funext p; congr 1; funext q
    split <;> rfl) (fun Z0 H0 R0 Z H E R vs ds d n rss s t tl fr e q => by
    split at e
    · rename_i hl
      cases e
      refine ⟨by rw [tl.len]; exact hl, fun p hp => ?_⟩
      obtain ⟨Zf, rs, s2, o2, nd2, in2, zz, zn⟩ := s.newList tl fr.nd fr.no hp
      refine q _ Zf _ rs s2 (t.fin zz (fun a z => ?_) (.upd hp) fun a h => .inl h) o2 ⟨nd2, fun a m => ?_, fun a m => ?_⟩
      · rcases zn a z with z | z
        · exact .inl z
        · rcases fr.of a z with z | z
          · exact .inr (.inr (.inl z))
          · exact .inr (.inr (.inr z))
      · rcases in2 a m with rfl | m
        · exact fun z => s.there z hp
        · exact fr.no a m
      · rcases in2 a m with rfl | m
        · by_cases c : H0 a = none
          · exact .inr c
          · exact absurd hp (t.dm a c)
        · exact fr.of a m
    · cases e) q
theorem tup_of {fa : Fa} {H : Hp} {Q : VK} (q : eOf K (mTup fa) σ H Q) : aOf K fa σ H fun xs H1 => xs.length ≤ sizeLine ∧ ∀ p, H1 p = none → Q (.ref p) (upd H1 p (.tup xs)) :=
  take_of (g := fun ds => if ds.length ≤ sizeLine then some (.tup (ds.map (·.1)), 0) else none) (fun E => by
    unfold mTup
    congr 1; funext p; congr 1; funext q
    split <;> rfl) (fun Z0 H0 R0 Z H E R vs ds d n rss s t tl fr e q => by
    split at e
    · rename_i hl
      cases e
      refine ⟨by rw [tl.len]; exact hl, fun p hp => ?_⟩
      have m : More H (upd H p (.tup vs)) := .upd hp
      have th := TL.there tl
      have s1 := (s.chill fr.no th).more m
      refine q _ _ _ [] s1 (t.fin (fun _ h => .inl h) (fun a z => ?_) m fun a h => .inl h) ⟨rfl, .tup upd_same (tl.froz (m.pers fun _ h => .inl h) fun a ma => ⟨upd_ne fun e => th a ma (by rw [e]; exact hp), .inr ma⟩)⟩ .nil
      rcases z with z | z
      · exact .inl z
      · rcases fr.of a z with z | z
        · exact .inr (.inr (.inl z))
        · exact .inr (.inr (.inr z))
    · cases e) q
end
section
variable {X : Cx} {a b e : Expr} {es : List Expr} {fa fb fe : Fe} {fs : Fa} {pos : PySem.Pos}
theorem ae_lst (h : AA X es fs) : AE X (.List es pos) (mLst fs) := PE.mono (pe_lst h) fun _ _ _ q => lst_of q
theorem ae_tup {x1} (h : AA X es fs) : AE X (.Tuple es x1 pos) (mTup fs) := PE.mono (pe_tup h) fun _ _ _ q => tup_of q

/-- the ends of a slice: None for a part left out -/
def cutD (xs : List D) (lo hi : Option Int) : List D := (xs.drop (HT.sIx xs.length 0 lo)).take (HT.sIx xs.length xs.length hi - HT.sIx xs.length 0 lo)
def part : D → Option (Option Int)
  | .non => some none
  | .int i => some (some i)
  | _ => none
def gSl : List D → Option (D × Nat)
  | [.lst ds, l, h] => (part l).bind fun l => (part h).map fun h => (.lst (cutD ds l h), lev (cutD ds l h))
  | [.scr ns, l, h] => (part l).bind fun l => (part h).map fun h => (.lst (cutD (ns.map D.int) l h), lev (cutD (ns.map D.int) l h))
  | [.tup ds, l, h] => (part l).bind fun l => (part h).map fun h => (.tup (cutD ds l h), 0)
  | [.str z, l, h] => (part l).bind fun l => (part h).bind fun h => if z.length ≤ sizeLine then some (.str (cutS z l h), 9) else none
  | _ => none
end
section
variable {K : PySem.W.Frag} {Z Z' : Addr → Prop} {H H' : Hp} {σ : L2.St}
theorem Rps.cut {vs : List V} {ds : List D} (r : Rps K Z H vs ds) (lo hi : Option Int) : Rps K Z H (cutV vs lo hi) (cutD ds lo hi) := by
  unfold cutV cutD
  rw [r.len]
  exact (r.drop _).take _
def rSls (K : PySem.W.Frag) : V → Option Int → Option Int → Hp → VK → Prop := fun x lo hi H Q => rSlL K x lo hi H Q ∨ rSlA K x lo hi H Q ∨ rSlS x lo hi H Q
def rS3 (K : PySem.W.Frag) : List V → Hp → VK → Prop := fun vs H Q => ∃ x l h lo hi, vs = [x, l, h] ∧ ((l = .non ∧ lo = none) ∨ ∃ i, l = .int i ∧ lo = some i) ∧ ((h = .non ∧ hi = none) ∨ ∃ i, h = .int i ∧ hi = some i) ∧ rSls K x lo hi H Q
theorem Kf.part {v : V} {d : D} {o : Option Int} (h : Kf K Z H v d) (e : part d = some o) : (v = .non ∧ o = none) ∨ ∃ i, v = .int i ∧ o = some i := by
  cases d with
  | non => cases e; cases Rp.nonE h; exact .inl ⟨rfl, rfl⟩
  | int i => cases e; cases Rp.intE h; exact .inr ⟨i, rfl, rfl⟩
  | _ => simp [Zk.part] at e
theorem Kfs.three {vs : List V} {a b c : D} (h : Kfs K Z H vs [a, b, c]) : ∃ x y z, vs = [x, y, z] ∧ Kf K Z H x a ∧ Kf K Z H y b ∧ Kf K Z H z c := by
  cases h with
  | cons h t =>
    obtain ⟨y, z, rfl, h2, h3⟩ := t.two
    exact ⟨_, _, _, rfl, h, h2, h3⟩
theorem al_sl : AL K (rS3 K) gSl := by
  intro Z H vs ds d n Q hz k e q
  unfold gSl at e
  split at e
  · rename_i ds l h
    cases e1 : part l with
    | none => rw [e1] at e; cases e
    | some lo =>
      cases e2 : part h with
      | none => rw [e1, e2] at e; cases e
      | some hi =>
        rw [e1, e2] at e
        cases e
        obtain ⟨x, y, z, rfl, ⟨p, xs, rfl, hp, r⟩, h2, h3⟩ := k.three
        exact ⟨_, _, _, lo, hi, rfl, h2.part e1, h3.part e2, .inl ⟨p, xs, rfl, .inl (.inl hp), fin_lst hz (r.cut lo hi) q⟩⟩
  · rename_i ds l h
    cases e1 : part l with
    | none => rw [e1] at e; cases e
    | some lo =>
      cases e2 : part h with
      | none => rw [e1, e2] at e; cases e
      | some hi =>
        rw [e1, e2] at e
        cases e
        obtain ⟨x, y, z, rfl, h1, h2, h3⟩ := k.three
        cases h1 with
        | scr s => exact ⟨_, _, _, lo, hi, rfl, h2.part e1, h3.part e2, .inl ⟨_, _, rfl, s.sq, fin_lst hz ((Rps.ofInts (K := K) (Z := Z) (H := H) ds).cut lo hi) q⟩⟩
  · rename_i ds l h
    cases e1 : part l with
    | none => rw [e1] at e; cases e
    | some lo =>
      cases e2 : part h with
      | none => rw [e1, e2] at e; cases e
      | some hi =>
        rw [e1, e2] at e
        cases e
        obtain ⟨x, y, z, rfl, h1, h2, h3⟩ := k.three
        cases h1 with
        | tup s r =>
          refine ⟨_, _, _, lo, hi, rfl, h2.part e1, h3.part e2, .inr (.inl ⟨_, _, rfl, .of s, fun c => ?_, fun c => fin_tup (r.cut lo hi) q⟩)⟩
          have e4 : cutD ds lo hi = ds := by
            unfold cutD
            rw [← r.len, c.1, c.2]
            simp [r.len]
          rw [e4] at q
          exact q _ H [] (.refl _) ⟨rfl, .tup s r⟩ List.nodup_nil fun a m => by simp at m
  · rename_i z0 l h
    cases e1 : part l with
    | none => rw [e1] at e; cases e
    | some lo =>
      cases e2 : part h with
      | none => rw [e1, e2] at e; cases e
      | some hi =>
        rw [e1, e2] at e
        simp only [Option.bind_some] at e
        split at e
        · rename_i hl
          cases e
          obtain ⟨x, y, z, rfl, h1, h2, h3⟩ := k.three
          cases Rp.strE h1
          exact ⟨_, _, _, lo, hi, rfl, h2.part e1, h3.part e2, .inr (.inr ⟨z0, rfl, hl, fin_imm (Z := Z) (.str _) (by simp) q⟩)⟩
        · cases e
  · cases e
end
section
variable {X : Cx} {a b e : Expr} {es : List Expr} {fa fb fe fl fh : Fe} {fs : Fa} {pos : PySem.Pos} {lo hi : Option Expr}
def Pt (v : V) (o : Option Int) : Prop := (v = .non ∧ o = none) ∨ ∃ i, v = .int i ∧ o = some i
/-- a part of a slice -/
def AO (X : Cx) (e : Option Expr) (f : Fe) : Prop := ∃ t, PO X e t ∧ ∀ σ H (Q : VK) (Q' : Option Int → Hp → Prop), (∀ v H1, Q v H1 → ∀ o, Pt v o → Q' o H1) → eOf X.K f σ H Q → t σ H Q'
theorem ao_none : AO X none (mC .non) := ⟨_, po_none, fun σ H Q Q' h q => h .non H (mC_of (v := .non) (fun _ _ => .non) (by simp) q) none (.inl ⟨rfl, rfl⟩)⟩
def mInt (f : Fe) : Fe := fun E => (f E).bind fun p => (rd p.2 p.1).bind fun d => match d with
  | .int i => some (.val (.int i) 9, p.2)
  | _ => none
theorem mInt_of {K : PySem.W.Frag} {f : Fe} {σ : L2.St} {H : Hp} {Q : VK} (q : eOf K (mInt f) σ H Q) : eOf K f σ H fun v H1 => ∃ i, v = .int i ∧ Q (.int i) H1 := by
  obtain ⟨Z, E, R, s, o, E', e, q⟩ := q
  unfold mInt at e
  cases e1 : f E with
  | none => rw [e1] at e; cases e
  | some p =>
    obtain ⟨o1, E1⟩ := p
    rw [e1] at e
    simp only [Option.bind_some] at e
    cases e2 : rd E1 o1 with
    | none => rw [e2] at e; cases e
    | some d =>
      rw [e2] at e
      simp only [Option.bind_some] at e
      split at e
      · cases e
        refine ⟨Z, E, R, s, o1, _, e1, fun v Z' H' R' rs s' t' o' f' => ?_⟩
        exact ⟨_, (s'.read o' e2).intE, q _ Z' H' R' [] s' t' (Own.ofImm (.int _) (by simp)) .nil⟩
      · cases e
theorem ao_some (h : AE X e fe) : AO X (some e) (mInt fe) := ⟨_, po_some h, fun σ H Q Q' hh q => by
  obtain ⟨Z, E, R, s, o, E', e, q⟩ := mInt_of q
  refine ⟨Z, E, R, s, o, E', e, fun v Z' H' R' rs s' t' o' f' => ?_⟩
  obtain ⟨i, ev, q⟩ := q v Z' H' R' rs s' t' o' f'
  exact ⟨i, ev, hh _ _ q _ (.inr ⟨i, rfl, rfl⟩)⟩⟩
def mSl (a l h : Fe) : Fe := mOp gSl (mAc a (mAc l (mAc h mA0)))
theorem eOf_imp {K : PySem.W.Frag} {f : Fe} {σ : L2.St} {H : Hp} {Q Q' : VK} (h : ∀ v H1, Q v H1 → Q' v H1) (q : eOf K f σ H Q) : eOf K f σ H Q' := by
  obtain ⟨Z, E, R, s, o, E', e, q⟩ := q
  exact ⟨Z, E, R, s, o, E', e, fun v Z' H' R' rs s' t' o' f' => h _ _ (q v Z' H' R' rs s' t' o' f')⟩
theorem ae_sl {p2 : PySem.Pos} (ha : AE X a fa) (hl : AO X lo fl) (hh : AO X hi fh) : AE X (.Subscript a (.Slice lo hi none p2) pos) (mSl fa fl fh) := by
  obtain ⟨tl, h1, k1⟩ := hl
  obtain ⟨th, h2, k2⟩ := hh
  refine PE.mono (pe_slice (sl_list.or (sl_tupA.or sl_str)) ha h1 h2) fun σ H Q q => ?_
  refine eOf_imp (fun x H1 q1 => ?_) (aOf_c (op_of al_sl q))
  refine k1 σ H1 _ _ (fun y H2 q2 lo hlo => ?_) (aOf_c q1)
  refine k2 σ H2 _ _ (fun z H3 q3 hi hhi => ?_) (aOf_c q2)
  obtain ⟨x', y', z', lo', hi', e, p1, p2, r⟩ := aOf_0 q3
  cases e
  have e1 : lo' = lo := by
    rcases p1 with ⟨a, b⟩ | ⟨i, a, b⟩ <;> rcases hlo with ⟨c, d⟩ | ⟨j, c, d⟩ <;> subst_vars <;> simp_all
  have e2 : hi' = hi := by
    rcases p2 with ⟨a, b⟩ | ⟨i, a, b⟩ <;> rcases hhi with ⟨c, d⟩ | ⟨j, c, d⟩ <;> subst_vars <;> simp_all
  subst e1 e2
  exact r
end
end Zk
namespace Zk
open PySem PySem.Spec PyProof.Rows L2

def kD : Key → D
  | .inl i => .int i
  | .inr x => .str x
def keyOf : D → Option Key
  | .int i => some (.inl i)
  | .str x => some (.inr x)
  | _ => none
def keysOf : List D → Option (List Key)
  | [] => some []
  | d :: ds => (keyOf d).bind fun k => (keysOf ds).map fun ks => k :: ks
def valD {κ : Type} [DecidableEq κ] (kvs : List (κ × D)) (k : κ) : Option D := (kvs.find? fun kv => decide (kv.1 = k)).map (·.2)
def putD {κ : Type} [DecidableEq κ] (kvs : List (κ × D)) (k : κ) (v : D) : List (κ × D) :=
  if (kvs.any fun kv => decide (kv.1 = k)) = true then kvs.map (fun kv => if kv.1 = k then (kv.1, v) else kv) else kvs ++ [(k, v)]
section
variable {K : PySem.W.Frag} {Z Z' : Addr → Prop} {H H' : Hp} {σ : L2.St} {κ : Type} [DecidableEq κ]
/-- two rows of keys and values that stand for one another -/
def KR (K : PySem.W.Frag) (Z : Addr → Prop) (H : Hp) (kvs : List (κ × V)) (kds : List (κ × D)) : Prop := kvs.map (·.1) = kds.map (·.1) ∧ Rps K Z H (kvs.map (·.2)) (kds.map (·.2))
theorem KR.nil : KR K Z H ([] : List (κ × V)) [] := ⟨rfl, .nil⟩
theorem KR.cases : ∀ {kvs : List (κ × V)} {kds : List (κ × D)}, KR K Z H kvs kds → (kvs = [] ∧ kds = []) ∨ ∃ k v d r s, kvs = (k, v) :: r ∧ kds = (k, d) :: s ∧ Rp K Z H v d ∧ KR K Z H r s
  | [], [], _ => .inl ⟨rfl, rfl⟩
  | [], _ :: _, h => by simp [KR] at h
  | _ :: _, [], h => by simp [KR] at h
  | (k, v) :: r, (k', d) :: s, h => by
    obtain ⟨h1, h2⟩ := h
    simp only [List.map_cons, List.cons.injEq] at h1
    cases h1.1
    simp only [List.map_cons] at h2
    cases h2 with
    | cons a b => exact .inr ⟨k, v, d, r, s, rfl, rfl, a, h1.2, b⟩
theorem KR.cons {k : κ} {v : V} {d : D} {r : List (κ × V)} {s : List (κ × D)} (h : Rp K Z H v d) (t : KR K Z H r s) : KR K Z H ((k, v) :: r) ((k, d) :: s) := ⟨by simp [t.1], .cons h t.2⟩
theorem KR.len {kvs : List (κ × V)} {kds : List (κ × D)} (h : KR K Z H kvs kds) : kvs.length = kds.length := by
  have := congrArg List.length h.1
  simpa using this
theorem KR.val : ∀ {kvs : List (κ × V)} {kds : List (κ × D)} (k : κ), KR K Z H kvs kds → (valV kvs k = none ∧ valD kds k = none) ∨ ∃ v d, valV kvs k = some v ∧ valD kds k = some d ∧ Rp K Z H v d := by
  intro kvs
  induction kvs with
  | nil =>
    intro kds k h
    rcases h.cases with ⟨_, rfl⟩ | ⟨_, _, _, _, _, e, _⟩
    · exact .inl ⟨rfl, rfl⟩
    · cases e
  | cons p r ih =>
    intro kds k h
    rcases h.cases with ⟨e, _⟩ | ⟨k', v, d, r', s, e, rfl, h1, h2⟩
    · cases e
    · cases e
      by_cases c : k' = k
      · subst c
        exact .inr ⟨v, d, by simp [valV], by simp [valD], h1⟩
      · have e1 : valV ((k', v) :: r) k = valV r k := by simp [valV, List.find?_cons, c]
        have e2 : valD ((k', d) :: s) k = valD s k := by simp [valD, List.find?_cons, c]
        rw [e1, e2]
        exact ih k h2
theorem KR.any {kvs : List (κ × V)} {kds : List (κ × D)} (h : KR K Z H kvs kds) (k : κ) : (kvs.any fun kv => decide (kv.1 = k)) = kds.any fun kv => decide (kv.1 = k) := by
  have e1 : (kvs.any fun kv => decide (kv.1 = k)) = (kvs.map (·.1)).any fun x => decide (x = k) := by rw [List.any_map]; rfl
  have e2 : (kds.any fun kv => decide (kv.1 = k)) = (kds.map (·.1)).any fun x => decide (x = k) := by rw [List.any_map]; rfl
  rw [e1, e2, h.1]
theorem KR.rep {v : V} {d : D} (k : κ) (hv : Rp K Z H v d) : ∀ {kvs : List (κ × V)} {kds : List (κ × D)}, KR K Z H kvs kds →
    KR K Z H (kvs.map fun kv => if kv.1 = k then (kv.1, v) else kv) (kds.map fun kv => if kv.1 = k then (kv.1, d) else kv) := by
  intro kvs
  induction kvs with
  | nil =>
    intro kds h
    rcases h.cases with ⟨_, rfl⟩ | ⟨_, _, _, _, _, e, _⟩
    · exact .nil
    · cases e
  | cons p r ih =>
    intro kds h
    rcases h.cases with ⟨e, _⟩ | ⟨k', v', d', r', s, e, rfl, h1, h2⟩
    · cases e
    · cases e
      simp only [List.map_cons]
      by_cases c : k' = k
      · rw [if_pos c, if_pos c]; exact .cons hv (ih h2)
      · rw [if_neg c, if_neg c]; exact .cons h1 (ih h2)
theorem KR.put {kvs : List (κ × V)} {kds : List (κ × D)} {v : V} {d : D} (h : KR K Z H kvs kds) (k : κ) (hv : Rp K Z H v d) : KR K Z H (putK kvs k v) (putD kds k d) := by
  unfold putK putD
  rw [h.any k]
  split
  · exact h.rep k hv
  · refine ⟨by simp [h.1], ?_⟩
    rw [List.map_append, List.map_append]
    exact h.2.append (.cons hv .nil)
theorem key_kV {v : V} {d : D} {k : Key} (h : Rp K Z H v d) (e : keyOf d = some k) : v = kV k := by
  cases d with
  | int i => cases e; exact h.intE
  | str x => cases e; exact h.strE
  | _ => simp [keyOf] at e
theorem keys_kV : ∀ {vs : List V} {ds : List D} {ks : List Key}, Rps K Z H vs ds → keysOf ds = some ks → vs = ks.map kV
  | _, _, _, .nil, e => by cases e; rfl
  | _, _, _, .cons (d := d) (ds := ds) h t, e => by
    simp only [keysOf] at e
    cases q : keyOf d with
    | none => rw [q] at e; cases e
    | some k =>
      rw [q] at e
      cases q2 : keysOf ds with
      | none => rw [q2] at e; cases e
      | some ks =>
        rw [q2] at e
        cases e
        simp [key_kV h q, keys_kV t q2]
/-- what a dict holds at a key, by data -/
def look : D → D → Option (Option D)
  | .dK kds, k => (keyOf k).map fun k => valD kds k
  | .dT kds, .tup ks => (keysOf ks).map fun k => valD kds k
  | _, _ => none
/-- by the heap -/
theorem look_get {x y : V} {d k : D} {o : Option D} (hd : Kf K Z H x d) (hk : Rp K Z' H y k) (e : look d k = some o) : ∃ a r, x = .ref a ∧ DGet H a y r ∧ IsD H a ∧ ((r = none ∧ o = none) ∨ ∃ v d', r = some v ∧ o = some d' ∧ Rp K Z H v d') := by
  cases d with
  | dK kds =>
    obtain ⟨a, kvs, rfl, ha, e1, r⟩ := hd
    simp only [look] at e
    cases q : keyOf k with
    | none => rw [q] at e; cases e
    | some k' =>
      rw [q] at e
      cases e
      cases key_kV hk q
      refine ⟨a, _, rfl, .inl ⟨kvs, k', ha, rfl, rfl⟩, .inl ⟨kvs, ha⟩, ?_⟩
      exact KR.val k' (⟨e1, r⟩ : KR K Z H kvs kds)
  | dT kds =>
    obtain ⟨a, kvs, rfl, ha, e1, r⟩ := hd
    cases k with
    | tup ks =>
      simp only [look] at e
      cases q : keysOf ks with
      | none => rw [q] at e; cases e
      | some k' =>
        rw [q] at e
        cases e
        cases hk with
        | tup hb rb =>
          cases keys_kV rb q
          refine ⟨a, _, rfl, .t ha hb, .inr ⟨kvs, .inl ha⟩, ?_⟩
          exact KR.val k' (⟨e1, r⟩ : KR K Z H kvs kds)
    | _ => simp [look] at e
  | _ => simp [look] at e
theorem Kf.rp {v : V} {d : D} (h : Kf K Z H v d) (i : imm d = true) : Rp K Z H v d := by
  cases d <;> first | exact h | simp at i
theorem look_key {d k : D} {o : Option D} (e : look d k = some o) : ∀ {y : V}, Kf K Z H y k → Rp K Z H y k := by
  intro y h
  cases k with
  | int i => exact h
  | str x => exact h
  | tup x => exact h
  | _ => cases d <;> simp [look, keyOf] at e
end
section
variable {X : Cx} {e : Expr}
theorem PE.or {t u : TE} (h : PE X e t) (h' : PE X e u) : PE X e fun σ H Q => t σ H Q ∨ u σ H Q := ⟨fun pins s σ H Q I q => q.elim (h.run pins s σ H Q I) (h'.run pins s σ H Q I)⟩
theorem PC.or {op : CmpOp} {a b : Expr} {t u : TE} (h : PC X op a b t) (h' : PC X op a b u) : PC X op a b fun σ H Q => t σ H Q ∨ u σ H Q := ⟨fun pins s σ H Q I q => q.elim (h.run pins s σ H Q I) (h'.run pins s σ H Q I)⟩
end
section
variable {K : PySem.W.Frag} {Z Z' : Addr → Prop} {H H' : Hp} {σ : L2.St}
theorem op_split {g gA gB : List D → Option (D × Nat)} {fa : Fa} (hg : ∀ ds, g ds = gA ds ∨ g ds = gB ds) {Q : VK} (q : eOf K (mOp g fa) σ H Q) : eOf K (mOp gA fa) σ H Q ∨ eOf K (mOp gB fa) σ H Q := by
  obtain ⟨Z, E, R, s, o, E', e, q⟩ := q
  have e0 := e
  unfold mOp at e
  cases e1 : fa E with
  | none => rw [e1] at e; cases e
  | some p =>
    rw [e1] at e
    simp only [Option.bind_some] at e
    cases e2 : rdL p.2 p.1 with
    | none => rw [e2] at e; cases e
    | some ds =>
      rw [e2] at e
      simp only [Option.bind_some] at e
      rcases hg ds with h | h
      · rw [h] at e
        refine .inl ⟨Z, E, R, s, o, E', ?_, q⟩
        unfold mOp
        rw [e1]; simp only [Option.bind_some, e2]; exact e
      · rw [h] at e
        refine .inr ⟨Z, E, R, s, o, E', ?_, q⟩
        unfold mOp
        rw [e1]; simp only [Option.bind_some, e2]; exact e
/-- d[k] -/
def gDg : List D → Option (D × Nat)
  | [d, k] => (look d k).bind fun o => o.map fun v => (v, 0)
  | _ => none
def rDg : R2 := fun x y H Q => ∃ a v, x = .ref a ∧ DGet H a y (some v) ∧ Q v H
theorem al_dg : AL K (two rDg) gDg := by
  intro Z H vs ds d n Q hz k e q
  unfold gDg at e
  split at e
  · rename_i d0 k0
    cases e1 : look d0 k0 with
    | none => rw [e1] at e; cases e
    | some o =>
      rw [e1] at e
      simp only [Option.bind_some] at e
      cases o with
      | none => cases e
      | some v0 =>
        cases e
        obtain ⟨x, y, rfl, h1, h2⟩ := k.two
        obtain ⟨a, r, rfl, g, _, c⟩ := look_get h1 (look_key e1 h2) e1
        rcases c with ⟨_, c⟩ | ⟨v, d', rfl, c, rv⟩
        · cases c
        · cases c
          exact ⟨_, _, rfl, a, v, rfl, g, q v H [] (.refl _) ⟨rfl, rv⟩ List.nodup_nil fun a m => by simp at m⟩
  · cases e
def gIxd : List D → Option (D × Nat) := fun ds => match ds with
  | .dK _ :: _ => gDg ds
  | .dT _ :: _ => gDg ds
  | _ => gIx ds
/-- x in a list, a tuple, a dict -/
def gIn (neg : Bool) : List D → Option (D × Nat)
  | [x, .lst ds] => if dat 64 x = true ∧ dat 64 (.lst ds) = true then some (.bl ((ds.any fun z => deq z x) ^^ neg), 9) else none
  | [x, .tup ds] => if dat 64 x = true ∧ dat 64 (.tup ds) = true then some (.bl ((ds.any fun z => deq z x) ^^ neg), 9) else none
  | _ => none
def gInD (neg : Bool) : List D → Option (D × Nat)
  | [k, d] => (look d k).map fun o => (.bl (o.isSome ^^ neg), 9)
  | _ => none
def rInT (K : PySem.W.Frag) (neg : Bool) : R2 := fun x y H Q => ∃ d ds, Dp K H x d ∧ Dp K H y (.tuple ds) ∧ SeqAt.shaped d = true ∧ SeqAt.shaped (.tuple ds) = true ∧ Q (.bl ((ds.any fun z => PyData.eqv z d) ^^ neg)) H
def rInL (K : PySem.W.Frag) (neg : Bool) : R2 := fun x y H Q => ∃ d ds, Dp K H x d ∧ Dp K H y (.list ds) ∧ SeqAt.shaped d = true ∧ SeqAt.shaped (.list ds) = true ∧ Q (.bl ((ds.any fun z => PyData.eqv z d) ^^ neg)) H
theorem any_py (ds : List D) (x : D) : ((pys ds).any fun z => PyData.eqv z (py x)) = ds.any fun z => deq z x := by
  rw [pys_map, List.any_map]; rfl
theorem al_in {neg : Bool} : AL K (two fun x y H Q => rInL K neg x y H Q ∨ rInT K neg x y H Q) (gIn neg) := by
  intro Z H vs ds d n Q hz k e q
  unfold gIn at e
  split at e
  · split at e
    · rename_i h
      cases e
      obtain ⟨x, y, rfl, h1, h2⟩ := k.two
      have r1 : Rp K (fun _ => True) H x _ := dat_rp h1 h.1
      have r2 : Rp K (fun _ => True) H y _ := dat_rp h2 h.2
      refine ⟨x, y, rfl, .inl ⟨_, _, dat_dp 64 x _ h.1 r1, dat_dp 64 y _ h.2 r2, dat_shaped h.1, dat_shaped h.2, ?_⟩⟩
      rw [any_py]
      exact fin_imm (Z := Z) (.bl _) (by simp) q
    · cases e
  · split at e
    · rename_i h
      cases e
      obtain ⟨x, y, rfl, h1, h2⟩ := k.two
      have r1 : Rp K (fun _ => True) H x _ := dat_rp h1 h.1
      have r2 : Rp K (fun _ => True) H y _ := dat_rp h2 h.2
      refine ⟨x, y, rfl, .inr ⟨_, _, dat_dp 64 x _ h.1 r1, dat_dp 64 y _ h.2 r2, dat_shaped h.1, dat_shaped h.2, ?_⟩⟩
      rw [any_py]
      exact fin_imm (Z := Z) (.bl _) (by simp) q
    · cases e
  · cases e
where
  dat_rp {Z : Addr → Prop} {H : Hp} {v : V} {d : D} (h : Kf K Z H v d) (_ : dat 64 d = true) : Rp K (fun _ => True) H v d := by
    have p : Pers Z H (fun _ => True) H := ⟨fun _ _ => trivial, fun _ _ _ h => h, fun _ _ h _ => h⟩
    cases d with
    | lst ds => obtain ⟨a, vs, rfl, ha, r⟩ := h; exact .lst trivial ha (r.pers p)
    | dK ds => obtain ⟨a, vs, rfl, ha, e, r⟩ := h; exact .dK trivial ha e (r.pers p)
    | dT ds => obtain ⟨a, vs, rfl, ha, e, r⟩ := h; exact .dT trivial ha e (r.pers p)
    | set xs => obtain ⟨a, T, m, rfl, ha, e1, e2, e3⟩ := h; exact .set trivial ha e1 e2 e3
    | non => exact Rp.pers p h
    | bl _ => exact Rp.pers p h
    | int _ => exact Rp.pers p h
    | str _ => exact Rp.pers p h
    | ty _ => exact Rp.pers p h
    | tup _ => exact Rp.pers p h
    | con _ => exact Rp.pers p h
    | scr _ => exact Rp.pers p h
theorem al_inD {neg : Bool} : AL K (two fun x y H Q => ∃ a o, y = .ref a ∧ DGet H a x o ∧ Q (.bl (o.isSome ^^ neg)) H) (gInD neg) := by
  intro Z H vs ds d n Q hz k e q
  unfold gInD at e
  split at e
  · rename_i k0 d0
    cases e1 : look d0 k0 with
    | none => rw [e1] at e; cases e
    | some o =>
      rw [e1] at e
      cases e
      obtain ⟨y, x, rfl, h2, h1⟩ := k.two
      obtain ⟨a, r, rfl, g, _, c⟩ := look_get h1 (look_key e1 h2) e1
      refine ⟨_, _, rfl, a, r, rfl, g, ?_⟩
      have e2 : r.isSome = o.isSome := by
        rcases c with ⟨rfl, rfl⟩ | ⟨v, d', rfl, rfl, _⟩ <;> rfl
      rw [e2]
      exact fin_imm (Z := Z) (.bl _) (by simp) q
  · cases e
def gInA (neg : Bool) : List D → Option (D × Nat) := fun ds => match ds with
  | [_, .dK _] => gInD neg ds
  | [_, .dT _] => gInD neg ds
  | _ => gIn neg ds
end
section
variable {X : Cx} {a b c e : Expr} {fa fb fc fe : Fe} {pos apos cpos : PySem.Pos}
theorem op_notInT (hu : X.A.units + 65 < cLine) : OpR X (compareOp .NotIn) (rInT X.K true) := by
  intro pins s σ H x y v u Q I rx ry h
  obtain ⟨d, ds, hd, he, sd, se, q⟩ := h
  obtain ⟨as, r1⟩ := Dp.reads I d x v hd rx
  obtain ⟨bs, r2⟩ := Dp.reads I (.tuple ds) y u he ry
  exact SeqAt.notIn_tuple_reads r2 r1 (SeqAt.canLay_of_shaped se) (SeqAt.canLay_of_shaped sd) (PyProof.Rows.room_in_shaped sd hu) ⟨.bl _, H, I, rfl, by rw [Bool.xor_true] at q; exact q⟩
def mNotIn (a b : Fe) : Fe := mOp (gInA true) (mA2 a b)
theorem in_split (neg : Bool) (ds : List D) : gInA neg ds = gIn neg ds ∨ gInA neg ds = gInD neg ds := by
  unfold gInA
  split
  · exact .inr rfl
  · exact .inr rfl
  · exact .inl rfl
theorem ac_notIn (hu : X.A.units + 65 < cLine) (ha : AE X a fa) (hb : AE X b fb) : AC X .NotIn a b (mNotIn fa fb) :=
  PC.mono (PC.or (pc_op ((op_notInD hu).or (op_notInT hu)) ha hb) (pc_dnotin (Nat.lt_of_le_of_lt (Nat.add_le_add_left (by decide) _) hu) ha hb)) fun σ H Q q => by
    rcases op_split (in_split true) q with q | q
    · refine .inl (tOp_op (r := fun x y H Q => rNotInD X.K x y H Q ∨ rInT X.K true x y H Q) ?_ q)
      intro Z H vs ds d n Q hz k e q
      obtain ⟨x, y, rfl, h | h⟩ := al_in Z H vs ds d n Q hz k e q
      · refine ⟨x, y, rfl, .inl ?_⟩
        obtain ⟨d, ds, h1, h2, h3, h4, h5⟩ := h
        exact ⟨d, ds, h1, h2, h3, h4, by rw [Bool.xor_true] at h5; exact h5⟩
      · exact ⟨x, y, rfl, .inr h⟩
    · refine .inr (tOp_op (r := fun x y H Q => ∃ a o, y = .ref a ∧ DGet H a x o ∧ Q (.bl (!o.isSome)) H) ?_ q)
      intro Z H vs ds d n Q hz k e q
      obtain ⟨x, y, rfl, a, o, h1, h2, h3⟩ := al_inD Z H vs ds d n Q hz k e q
      exact ⟨x, y, rfl, a, o, h1, h2, by rw [Bool.xor_true] at h3; exact h3⟩
/-- x[i], lists, tuples, texts and dicts -/
def mIxd (a b : Fe) : Fe := mOp gIxd (mA2 a b)
theorem ae_ixd (hu : X.A.units + 1 < cLine) (ha : AE X a fa) (hb : AE X b fb) (hs : PlainIx b := by exact fun _ _ => rfl) (hs2 : NoSl b := by exact fun _ _ => rfl) : AE X (.Subscript a b pos) (mIxd fa fb) :=
  PE.mono (PE.or (pe_ix ix_seq ha hb hs) (pe_dget hu ha hb hs2)) fun σ H Q q => by
    have sp : ∀ ds, gIxd ds = gIx ds ∨ gIxd ds = gDg ds := fun ds => by
      unfold gIxd
      split
      · exact .inr rfl
      · exact .inr rfl
      · exact .inl rfl
    rcases op_split sp q with q | q
    · exact .inl (tOp_op al_ix q)
    · exact .inr (tOp_op al_dg q)
end
end Zk
namespace Zk
open PySem PySem.Spec PyProof.Rows L2

section
variable {K : PySem.W.Frag} {Z Z' Zf Z0 : Addr → Prop} {H H' H0 : Hp} {σ : L2.St} {E E' : Ev} {R R' R0 : Rs}
/-- the thing of slot i is changed at its root a -/
theorem S.write (s : S K Z H σ E R) (t0 : Step Z0 H0 (ow R0) Z H (ow R)) {i : Nat} {a : Addr} {o' : HO} {d' : D} {n' : Nat} {rs' ts : List Addr} (hi : i < E.length) (hσ : σ[i]? = some (some (.ref a))) (ha : a ∈ R i)
    (new : Own K Zf (upd H a o') n' (.ref a) d' rs') (hz : ∀ b, Z b → Zf b) (hzn : ∀ b, Zf b → Z b ∨ b ∈ R i ∨ b ∈ ts) (sub : ∀ b ∈ rs', b ∈ R i ∨ b ∈ ts) (nd : rs'.Nodup)
    (tno : ∀ b ∈ ts, ¬ ow R b) (tth : ∀ b ∈ ts, H b ≠ none) (tof : ∀ b ∈ ts, ow R0 b ∨ H0 b = none) :
    S K Zf (upd H a o') σ (E.set i (some (d', n'))) (put R i rs') ∧ Step Z0 H0 (ow R0) Zf (upd H a o') (ow (put R i rs')) := by
  have oa : ow R a := ⟨i, ha⟩
  have p : Pers Z H Zf (upd H a o') := ⟨hz, fun b o z e => by
    have ne : b ≠ a := fun e2 => (s.owns oa).2 (by rw [← e2]; exact z)
    rw [upd_ne ne]; exact e, fun b o e n => by
    have ne : b ≠ a := fun e2 => n (by have := (s.owns oa).1; rw [← e2, e] at this; exact this)
    rw [upd_ne ne]; exact e⟩
  have no : ∀ b ∈ rs', ∀ j, j ≠ i → b ∉ R j := fun b m j hj mj => by
    rcases sub b m with h | h
    · exact hj (s.dj j i b mj h)
    · exact tno b h ⟨j, mj⟩
  refine ⟨⟨by simp [s.len], fun j d n e => ?_, fun j e => ?_, fun j => ?_, fun j k b h1 h2 => ?_, fun b z => ?_⟩, ⟨fun b z => hz b (t0.zz b z), fun b z => ?_, fun b o e n => ?_, fun b h => ?_, fun b h e => ?_⟩⟩
  · by_cases q : j = i
    · subst q
      rw [eg_set_same hi] at e
      cases e
      exact ⟨_, hσ, by rw [put_same]; exact new⟩
    · rw [eg_set_ne q] at e
      obtain ⟨v, e1, o1⟩ := s.slot j d n e
      refine ⟨v, e1, ?_⟩
      rw [put_ne q]
      refine o1.keep p fun b m => ⟨upd_ne fun e2 => q (s.dj j i b m (e2 ▸ ha)), fun z => ?_⟩
      rcases hzn b z with z | z | z
      · exact (o1.mut b m).2 z
      · exact q (s.dj j i b m z)
      · exact tno b z ⟨j, m⟩
  · by_cases q : j = i
    · subst q; rw [eg_set_same hi] at e; cases e
    · rw [eg_set_ne q] at e; rw [put_ne q]; exact s.emp j e
  · by_cases q : j = i
    · subst q; rw [put_same]; exact nd
    · rw [put_ne q]; exact s.nd j
  · by_cases q : j = i
    · subst q
      rw [put_same] at h1
      by_cases q2 : k = j
      · exact q2.symm
      · rw [put_ne q2] at h2; exact absurd h2 (no b h1 k q2)
    · rw [put_ne q] at h1
      by_cases q2 : k = i
      · subst q2; rw [put_same] at h2; exact absurd h1 (no b h2 j q)
      · rw [put_ne q2] at h2; exact s.dj j k b h1 h2
  · by_cases c : b = a
    · rw [c, upd_same]; simp
    · rw [upd_ne c]
      rcases hzn b z with z | z | z
      · exact s.zd b z
      · exact s.there ⟨i, z⟩
      · exact tth b z
  · rcases hzn b z with z | z | z
    · exact t0.zn b z
    · rcases t0.on b ⟨i, z⟩ with h | h
      · exact .inr (.inr h)
      · exact .inr (.inl h)
    · rcases tof b z with h | h
      · exact .inr (.inr h)
      · exact .inr (.inl h)
  · have c : b ≠ a := fun c => by
      subst c
      rcases t0.on b oa with h | h
      · exact n h
      · rw [e] at h; cases h
    rw [upd_ne c]
    exact t0.hh b o e n
  · rcases ow_put h with h | h
    · rcases sub b h with h | h
      · exact t0.on b ⟨i, h⟩
      · exact tof b h
    · exact t0.on b h
  · by_cases c : b = a
    · rw [c, upd_same] at e; cases e
    · rw [upd_ne c] at e; exact t0.dm b h e

theorem All3.append {α β γ : Type} {P : α → β → γ → Prop} : ∀ {as as' : List α} {bs bs' : List β} {cs cs' : List γ}, All3 P as bs cs → All3 P as' bs' cs' → All3 P (as ++ as') (bs ++ bs') (cs ++ cs')
  | _, _, _, _, _, _, .nil, r => r
  | _, _, _, _, _, _, .cons h t, r => .cons h (All3.append t r)
theorem All3.len {α β γ : Type} {P : α → β → γ → Prop} {as : List α} {bs : List β} {cs : List γ} (h : All3 P as bs cs) : as.length = bs.length ∧ cs.length = bs.length := by
  induction h with
  | nil => exact ⟨rfl, rfl⟩
  | cons _ _ ih => simp [ih]
theorem All3.set {α β γ : Type} {P : α → β → γ → Prop} {a : α} {b : β} {c : γ} (h : P a b c) : ∀ {as : List α} {bs : List β} {cs : List γ} (n : Nat), All3 P as bs cs → All3 P (as.set n a) (bs.set n b) (cs.set n c)
  | _, _, _, _, .nil => by simp; exact .nil
  | _, _, _, 0, .cons _ t => .cons h t
  | _, _, _, n + 1, .cons g t => .cons g (All3.set h n t)
theorem All3.erase {α β γ : Type} {P : α → β → γ → Prop} : ∀ {as : List α} {bs : List β} {cs : List γ} (n : Nat), All3 P as bs cs → All3 P (as.eraseIdx n) (bs.eraseIdx n) (cs.eraseIdx n)
  | _, _, _, _, .nil => by simp; exact .nil
  | _, _, _, 0, .cons _ t => t
  | _, _, _, n + 1, .cons g t => .cons g (All3.erase n t)
theorem All3.get {α β γ : Type} {P : α → β → γ → Prop} : ∀ {as : List α} {bs : List β} {cs : List γ}, All3 P as bs cs → ∀ {i : Nat} {b : β}, bs[i]? = some b → ∃ a c, as[i]? = some a ∧ cs[i]? = some c ∧ P a b c
  | _, _, _, .nil, i, b, e => by simp at e
  | _, _, _, .cons h t, 0, b, e => by simp at e; subst e; exact ⟨_, _, rfl, rfl, h⟩
  | _, _, _, .cons h t, i + 1, b, e => by
    obtain ⟨x, y, h1, h2, h3⟩ := All3.get t (i := i) (b := b) (by simpa using e)
    exact ⟨x, y, by simpa using h1, by simpa using h2, h3⟩
theorem All3.rev {α β γ : Type} {P : α → β → γ → Prop} : ∀ {as : List α} {bs : List β} {cs : List γ}, All3 P as bs cs → All3 P as.reverse bs.reverse cs.reverse
  | _, _, _, .nil => by simp; exact .nil
  | _, _, _, .cons h t => by simp only [List.reverse_cons]; exact All3.append (All3.rev t) (.cons h .nil)
theorem nodup_set_flat : ∀ {rss : List (List Addr)} {rs : List Addr} (n : Nat), rss.flatten.Nodup → rs.Nodup → (∀ a ∈ rs, a ∉ rss.flatten) → (rss.set n rs).flatten.Nodup
  | [], rs, n, _, _, _ => by simp
  | r :: rss, rs, 0, h, h2, h3 => by
    rw [List.flatten_cons, List.nodup_append] at h
    rw [List.set_cons_zero, List.flatten_cons, List.nodup_append]
    exact ⟨h2, h.2.1, fun a m b m2 e => h3 a m (by rw [List.flatten_cons, List.mem_append]; exact .inr (e ▸ m2))⟩
  | r :: rss, rs, n + 1, h, h2, h3 => by
    rw [List.flatten_cons, List.nodup_append] at h
    rw [List.set_cons_succ, List.flatten_cons, List.nodup_append]
    refine ⟨h.1, nodup_set_flat n h.2.1 h2 fun a m z => h3 a m (by rw [List.flatten_cons, List.mem_append]; exact .inr z), fun a m b m2 e => ?_⟩
    subst e
    rcases mem_set_flat n m2 with z | z
    · exact h.2.2 a m a z rfl
    · exact h3 a z (by rw [List.flatten_cons, List.mem_append]; exact .inl m)
where
  mem_set_flat : ∀ {rss : List (List Addr)} {rs : List Addr} {a : Addr} (n : Nat), a ∈ (rss.set n rs).flatten → a ∈ rss.flatten ∨ a ∈ rs
    | [], rs, a, n, h => by simp at h
    | r :: rss, rs, a, 0, h => by
      rw [List.set_cons_zero, List.flatten_cons, List.mem_append] at h
      rw [List.flatten_cons, List.mem_append]
      rcases h with h | h
      · exact .inr h
      · exact .inl (.inr h)
    | r :: rss, rs, a, n + 1, h => by
      rw [List.set_cons_succ, List.flatten_cons, List.mem_append] at h
      rw [List.flatten_cons, List.mem_append]
      rcases h with h | h
      · exact .inl (.inl h)
      · rcases mem_set_flat n h with h | h
        · exact .inl (.inr h)
        · exact .inr h
theorem flat_erase : ∀ {rss : List (List Addr)} (n : Nat), rss.flatten.Nodup → (rss.eraseIdx n).flatten.Nodup ∧ ∀ a ∈ (rss.eraseIdx n).flatten, a ∈ rss.flatten
  | [], n, h => by simp
  | r :: rss, 0, h => by
    rw [List.flatten_cons, List.nodup_append] at h
    exact ⟨h.2.1, fun a m => by rw [List.flatten_cons, List.mem_append]; exact .inr m⟩
  | r :: rss, n + 1, h => by
    rw [List.flatten_cons, List.nodup_append] at h
    obtain ⟨h1, h2⟩ := flat_erase n h.2.1
    rw [List.eraseIdx_cons_succ, List.flatten_cons]
    refine ⟨List.nodup_append.mpr ⟨h.1, h1, fun a m b m2 => h.2.2 a m b (h2 b m2)⟩, fun a m => ?_⟩
    rw [List.mem_append] at m
    rw [List.flatten_cons, List.mem_append]
    rcases m with m | m
    · exact .inl m
    · exact .inr (h2 a m)

/-- the depth of a list behind a thing came into it -/
def upl (n : Nat) (d dv : D) (nv : Nat) : Nat := if imm dv = true then n else if flat d = true then nv + 1 else if n = nv + 1 then n else 1
/-- all within a list, and a thing that comes into it, at one depth -/
theorem level {n : Nat} {vs : List V} {ds : List D} {rss : List (List Addr)} {v : V} {dv : D} {nv : Nat} {rv : List Addr} {d : D} (hd : flat d = true → imms ds = true) (h : All3 (Own K Z H n) vs ds rss) (hv : Own K Z H nv v dv rv) :
    ∃ m Zf rss' rv', upl (n + 1) d dv nv = m + 1 ∧ All3 (Own K Zf H m) vs ds rss' ∧ Own K Zf H m v dv rv' ∧ (∀ b, Z b → Zf b) ∧ (∀ b, Zf b → Z b ∨ b ∈ rss.flatten ∨ b ∈ rv) ∧
      ((rss' = rss ∧ rv' = rv ∧ Zf = Z) ∨ (rss'.flatten = [] ∧ rv' = [] ∧ Zf = fun b => Z b ∨ b ∈ rss.flatten ∨ b ∈ rv) ∨ (rss'.flatten = [] ∧ rv' = rv ∧ Zf = Z)) := by
  unfold upl
  split
  · rename_i i
    obtain ⟨rfl, r⟩ := hv.imm i
    exact ⟨n, Z, rss, [], rfl, h, .ofImm r i, fun _ h => h, fun _ h => .inl h, .inl ⟨rfl, rfl, rfl⟩⟩
  · split
    · rename_i f
      obtain ⟨r, e⟩ := h.immRps (hd f)
      exact ⟨nv, Z, _, rv, rfl, All3.ofRpsI r (hd f), hv, fun _ h => h, fun _ h => .inl h, .inr (.inr ⟨flat_nils _, rfl, rfl⟩)⟩
    · split
      · rename_i e
        have e : n = nv := by omega
        subst e
        exact ⟨n, Z, rss, rv, rfl, h, hv, fun _ h => h, fun _ h => .inl h, .inl ⟨rfl, rfl, rfl⟩⟩
      · have p : Pers Z H (fun b => Z b ∨ b ∈ rss.flatten ∨ b ∈ rv) H := ⟨fun _ h => .inl h, fun _ _ _ h => h, fun _ _ h _ => h⟩
        have r : Rps K (fun b => Z b ∨ b ∈ rss.flatten ∨ b ∈ rv) H vs ds :=
          All3.rps (R := fun _ _ => True) (P := fun v d rs => Rp K (fun b => Z b ∨ b ∈ rss.flatten ∨ b ∈ rv) H v d) (fun _ _ _ h => h) (h.imp fun v d rs m o => Own.freeze p (fun b hb => ⟨rfl, .inr (.inl (mem_flatten_of m hb))⟩) o)
        exact ⟨0, _, _, [], rfl, All3.ofRps0 r, ⟨rfl, hv.freeze p fun b hb => ⟨rfl, .inr (.inr hb)⟩⟩, fun _ h => .inl h, fun _ h => h, .inr (.inl ⟨flat_nils _, rfl, rfl⟩)⟩
theorem Own.lstE {n : Nat} {v : V} {ds : List D} {rs : List Addr} (h : Own K Z H (n + 1) v (.lst ds) rs) : ∃ a vs rss, v = .ref a ∧ H a = some (.lst vs) ∧ ¬ Z a ∧ All3 (Own K Z H n) vs ds rss ∧ rs = a :: rss.flatten := h

/-- the thing v (dv, nv, rv) comes into the owned list of slot i by the editing of the lists f -/
theorem S.edit (s : S K Z H σ E R) (t0 : Step Z0 H0 (ow R0) Z H (ow R)) {i : Nat} {ds : List D} {n : Nat} (e : eg E i = some (.lst ds, n + 1)) {v : V} {dv : D} {nv : Nat} {rv : List Addr} (hv : Own K Z H nv v dv rv) (fr : Fr R0 H0 R rv)
    (fV : List V → List V) (fD : List D → List D) (fR : List (List Addr) → List Addr → List (List Addr))
    (hf : ∀ (Z : Addr → Prop) (H : Hp) (m : Nat) (vs : List V) (rss : List (List Addr)) (rv : List Addr), All3 (Own K Z H m) vs ds rss → Own K Z H m v dv rv → All3 (Own K Z H m) (fV vs) (fD ds) (fR rss rv))
    (hr : ∀ (rss : List (List Addr)) (rv : List Addr), rss.flatten.Nodup → rv.Nodup → (∀ a ∈ rv, a ∉ rss.flatten) → (fR rss rv).flatten.Nodup ∧ ∀ a ∈ (fR rss rv).flatten, a ∈ rss.flatten ∨ a ∈ rv) :
    ∃ a vs, σ[i]? = some (some (.ref a)) ∧ H a = some (.lst vs) ∧ vs.length = ds.length ∧ ∃ Zf rs', S K Zf (upd H a (.lst (fV vs))) σ (E.set i (some (.lst (fD ds), upl (n + 1) (.lst ds) dv nv))) (put R i rs') ∧
      Step Z0 H0 (ow R0) Zf (upd H a (.lst (fV vs))) (ow (put R i rs')) := by
  obtain ⟨w, e1, o1⟩ := s.slot i _ _ e
  obtain ⟨a, vs, rss, rfl, ha, nz, al, er⟩ := o1.lstE
  refine ⟨a, vs, e1, ha, al.len.1, ?_⟩
  obtain ⟨m, Zf, rss', rv', em, al', hv', zz, zn, c⟩ := level (d := .lst ds) (fun f => by simpa [flat] using f) al hv
  have nd := s.nd i
  rw [er] at nd
  obtain ⟨nd1, nd2⟩ := List.nodup_cons.mp nd
  have inR : ∀ b ∈ rss.flatten, b ∈ R i := fun b m => by rw [er]; exact List.mem_cons_of_mem _ m
  have sub' : ∀ b ∈ rss'.flatten, b ∈ rss.flatten := fun b m => by
    rcases c with ⟨rfl, _, _⟩ | ⟨h, _, _⟩ | ⟨h, _, _⟩
    · exact m
    · rw [h] at m; simp at m
    · rw [h] at m; simp at m
  have nd' : rss'.flatten.Nodup := by
    rcases c with ⟨rfl, _, _⟩ | ⟨h, _, _⟩ | ⟨h, _, _⟩
    · exact nd2
    · rw [h]; exact List.nodup_nil
    · rw [h]; exact List.nodup_nil
  have subv : ∀ b ∈ rv', b ∈ rv := fun b m => by
    rcases c with ⟨_, rfl, _⟩ | ⟨_, rfl, _⟩ | ⟨_, rfl, _⟩
    · exact m
    · simp at m
    · exact m
  have ndv : rv'.Nodup := by
    rcases c with ⟨_, rfl, _⟩ | ⟨_, rfl, _⟩ | ⟨_, rfl, _⟩
    · exact fr.nd
    · exact List.nodup_nil
    · exact fr.nd
  have vno : ∀ b ∈ rv, b ∉ R i := fun b m z => fr.no b m ⟨i, z⟩
  obtain ⟨h1, h2⟩ := hr rss' rv' nd' ndv fun b m z => vno b (subv b m) (inR b (sub' b z))
  have aRi : a ∈ R i := by rw [er]; exact List.mem_cons_self
  have ane : ∀ b ∈ (fR rss' rv').flatten, b ≠ a := fun b m e => by
    subst e
    rcases h2 b m with z | z
    · exact nd1 (sub' b z)
    · exact vno b (subv b z) aRi
  have nzf : ¬ Zf a := fun z => by
    rcases zn a z with z | z | z
    · exact nz z
    · exact nd1 z
    · exact vno a z aRi
  have p : Pers Zf H Zf (upd H a (.lst (fV vs))) := ⟨fun _ h => h, fun b o z e => by
    have ne : b ≠ a := fun e2 => nzf (by rw [← e2]; exact z)
    rw [upd_ne ne]; exact e, fun b o e n => by
    have ne : b ≠ a := fun e2 => n (by rw [e2, ha] at e; cases e; trivial)
    rw [upd_ne ne]; exact e⟩
  have al2 := hf Zf H m vs rss' rv' al' hv'
  have new : Own K Zf (upd H a (.lst (fV vs))) (m + 1) (.ref a) (.lst (fD ds)) (a :: (fR rss' rv').flatten) :=
    ⟨a, _, _, rfl, upd_same, nzf, al2.imp fun v d rs mm o => o.keep p fun b hb => ⟨upd_ne (ane b (mem_flatten_of mm hb)), (o.mut b hb).2⟩, rfl⟩
  have q := s.write t0 (ts := rv) (eg_lt e) e1 aRi new zz (fun b z => ?_) (fun b m => ?_) (List.nodup_cons.mpr ⟨fun z => ane a z rfl, h1⟩) fr.no hv.there fr.of
  · rw [em]; exact ⟨Zf, _, q⟩
  · rcases zn b z with z | z | z
    · exact .inl z
    · exact .inr (.inl (inR b z))
    · exact .inr (.inr z)
  · rcases List.mem_cons.mp m with rfl | m
    · exact .inl aRi
    · rcases h2 b m with z | z
      · exact .inl (inR b (sub' b z))
      · exact .inr (subv b z)

/-- what slot i holds, if it is an owned list -/
def lstAt (E : Ev) (i : Nat) : Option (List D × Nat) := match eg E i with
  | some (.lst ds, n + 1) => some (ds, n + 1)
  | _ => none
theorem lstAt_eg {i : Nat} {ds : List D} {n : Nat} (h : lstAt E i = some (ds, n)) : ∃ m, n = m + 1 ∧ eg E i = some (.lst ds, m + 1) := by
  unfold lstAt at h
  split at h
  · rename_i q
    cases h
    exact ⟨_, rfl, q⟩
  · cases h
/-- xs.append(e) -/
def mApp (i : Nat) (fe : Fe) : Fe := fun E => (lstAt E i).bind fun _ => (fe E).bind fun p => (tk p.2 p.1).bind fun q => (lstAt q.2.2 i).bind fun l =>
  if l.1.length < sizeLine then some (.val .non 9, q.2.2.set i (some (.lst (l.1 ++ [q.1]), upl l.2 (.lst l.1) q.1 q.2.1))) else none
theorem app_of {i : Nat} {fe : Fe} {H : Hp} {Q : VK} (q : eOf K (mApp i fe) σ H Q) : ∃ x, σ[i]? = some (some x) ∧ tyV K "list" x H ∧ eOf K fe σ H fun y H1 => rAppend x [y] H1 Q := by
  obtain ⟨Z, E, R, s, o, E', e, q⟩ := q
  unfold mApp at e
  cases e0 : lstAt E i with
  | none => rw [e0] at e; cases e
  | some l0 =>
    rw [e0] at e
    simp only [Option.bind_some] at e
    cases e1 : fe E with
    | none => rw [e1] at e; cases e
    | some p =>
      obtain ⟨o1, E1⟩ := p
      rw [e1] at e
      simp only [Option.bind_some] at e
      cases e2 : tk E1 o1 with
      | none => rw [e2] at e; cases e
      | some p2 =>
        obtain ⟨dv, nv, E2⟩ := p2
        rw [e2] at e
        simp only [Option.bind_some] at e
        cases e3 : lstAt E2 i with
        | none => rw [e3] at e; cases e
        | some l =>
          obtain ⟨ds, n⟩ := l
          rw [e3] at e
          simp only [Option.bind_some] at e
          split at e
          · rename_i hl
            cases e
            obtain ⟨m0, _, g0⟩ := lstAt_eg (n := l0.2) (ds := l0.1) e0
            obtain ⟨m, rfl, g⟩ := lstAt_eg e3
            obtain ⟨w, ew, ow1⟩ := s.slot i _ _ g0
            obtain ⟨a0, vs0, rss0, rfl, ha0, _⟩ := ow1.lstE
            refine ⟨_, ew, .inl ⟨rfl, _, .inl (.inl ha0)⟩, Z, E, R, s, o1, E1, e1, fun v Z1 H1 R1 rs s1 t1 ov f1 => ?_⟩
            obtain ⟨Z2, R2, s2, t2, o2, n2, sub2⟩ := s1.take ov f1.no e2
            obtain ⟨a, vs, e4, ha, hlen, Zf, rs', s3, t3⟩ := s2.edit (t1.trans t2) g o2 ⟨f1.nd, n2, f1.of⟩ (fun vs => vs ++ [v]) (fun ds => ds ++ [dv]) (fun rss rv => rss ++ [rv]) (fun Z H m vs rss rv al ho => al.append (.cons ho .nil)) (fun rss rv h1 h2 h3 => by
              rw [List.flatten_append]
              simp only [List.flatten_cons, List.flatten_nil, List.append_nil]
              exact ⟨List.nodup_append.mpr ⟨h1, h2, fun a m b m2 e => h3 b m2 (e ▸ m)⟩, fun a m => List.mem_append.mp m⟩)
            rw [ew] at e4
            cases e4
            refine ⟨_, vs, v, rfl, rfl, ha, by rw [hlen]; exact hl, ?_⟩
            exact q _ Zf _ _ [] s3 t3 (Own.ofImm .non (by simp)) .nil
          · cases e
/-- the k-th thing is taken out of the owned list of slot i -/
theorem S.out (s : S K Z H σ E R) (t0 : Step Z0 H0 (ow R0) Z H (ow R)) {i : Nat} {ds : List D} {n : Nat} (e : eg E i = some (.lst ds, n + 1)) {k : Nat} {d : D} (hk : ds[k]? = some d) :
    ∃ a vs v, σ[i]? = some (some (.ref a)) ∧ H a = some (.lst vs) ∧ vs.length = ds.length ∧ vs[k]? = some v ∧ ∃ rv rs', S K Z (upd H a (.lst (vs.eraseIdx k))) σ (E.set i (some (.lst (ds.eraseIdx k), n + 1))) (put R i rs') ∧
      Step Z0 H0 (ow R0) Z (upd H a (.lst (vs.eraseIdx k))) (ow (put R i rs')) ∧ Own K Z (upd H a (.lst (vs.eraseIdx k))) n v d rv ∧ Fr R0 H0 (put R i rs') rv := by
  obtain ⟨w, e1, o1⟩ := s.slot i _ _ e
  obtain ⟨a, vs, rss, rfl, ha, nz, al, er⟩ := o1.lstE
  obtain ⟨v, rv, h1, h2, ov⟩ := al.get hk
  refine ⟨a, vs, v, e1, ha, al.len.1, h1, rv, a :: (rss.eraseIdx k).flatten, ?_⟩
  have nd := s.nd i
  rw [er] at nd
  obtain ⟨nd1, nd2⟩ := List.nodup_cons.mp nd
  obtain ⟨f1, f2⟩ := flat_erase k nd2
  have aRi : a ∈ R i := by rw [er]; exact List.mem_cons_self
  have mem : rv ∈ rss := List.mem_of_getElem? h2
  have p : Pers Z H Z (upd H a (.lst (vs.eraseIdx k))) := ⟨fun _ h => h, fun b o z e => by
    have ne : b ≠ a := fun e2 => nz (by rw [← e2]; exact z)
    rw [upd_ne ne]; exact e, fun b o e n => by
    have ne : b ≠ a := fun e2 => n (by rw [e2, ha] at e; cases e; trivial)
    rw [upd_ne ne]; exact e⟩
  have ne : ∀ b ∈ rss.flatten, b ≠ a := fun b m e => nd1 (e ▸ m)
  have new : Own K Z (upd H a (.lst (vs.eraseIdx k))) (n + 1) (.ref a) (.lst (ds.eraseIdx k)) (a :: (rss.eraseIdx k).flatten) :=
    ⟨a, _, _, rfl, upd_same, nz, (al.erase k).imp fun v d rs mm o => o.keep p fun b hb => ⟨upd_ne (ne b (f2 b (mem_flatten_of mm hb))), (o.mut b hb).2⟩, rfl⟩
  have rvR : ∀ b ∈ rv, b ∈ R i := fun b m => by rw [er]; exact List.mem_cons_of_mem _ (mem_flatten_of mem m)
  have q := s.write t0 (ts := []) (eg_lt e) e1 aRi new (fun _ h => h) (fun b z => .inl z) (fun b m => .inl (by
      rw [er]
      rcases List.mem_cons.mp m with rfl | m
      · exact List.mem_cons_self
      · exact List.mem_cons_of_mem _ (f2 b m))) (List.nodup_cons.mpr ⟨fun z => nd1 (f2 a z), f1⟩) (fun b m => by simp at m) (fun b m => by simp at m) fun b m => by simp at m
  refine ⟨q.1, q.2, ov.keep p fun b hb => ⟨upd_ne (ne b (mem_flatten_of mem hb)), (ov.mut b hb).2⟩, ⟨?_, fun b m ⟨j, hj⟩ => ?_, fun b m => t0.on b ⟨i, rvR b m⟩⟩⟩
  · exact nd2.sublist (List.sublist_flatten_of_mem mem)
  · by_cases c : j = i
    · subst c
      rw [put_same] at hj
      rcases List.mem_cons.mp hj with rfl | hj
      · exact ne _ (mem_flatten_of mem m) rfl
      · exact (apart k nd2 h2 b m) hj
    · rw [put_ne c] at hj
      exact c (s.dj j i b hj (rvR b m))
where
  apart : ∀ {rss : List (List Addr)} {rv : List Addr} (k : Nat), rss.flatten.Nodup → rss[k]? = some rv → ∀ a ∈ rv, a ∉ (rss.eraseIdx k).flatten
    | [], _, k, _, h => by simp at h
    | r :: rss, rv, 0, nd, h => by
      simp at h
      subst h
      rw [List.flatten_cons, List.nodup_append] at nd
      intro a m z
      exact nd.2.2 a m a z rfl
    | r :: rss, rv, k + 1, nd, h => by
      rw [List.flatten_cons, List.nodup_append] at nd
      intro a m z
      rw [List.eraseIdx_cons_succ, List.flatten_cons, List.mem_append] at z
      have h' : rss[k]? = some rv := by simpa using h
      rcases z with z | z
      · exact nd.2.2 a z a (mem_flatten_of (List.mem_of_getElem? h') m) rfl
      · exact apart k nd.2.1 h' a m z
/-- xs.pop() -/
def mPop (i : Nat) : Fe := fun E => (lstAt E i).bind fun l => (l.1[l.1.length - 1]?).map fun d => (.val d (l.2 - 1), E.set i (some (.lst l.1.dropLast, l.2)))
theorem pop_of {i : Nat} {H : Hp} {Q : VK} (q : eOf K (mPop i) σ H Q) : ∃ x, σ[i]? = some (some x) ∧ tyV K "list" x H ∧ rPop x [] H Q := by
  obtain ⟨Z, E, R, s, o, E', e, q⟩ := q
  unfold mPop at e
  cases e0 : lstAt E i with
  | none => rw [e0] at e; cases e
  | some l =>
    obtain ⟨ds, n⟩ := l
    rw [e0] at e
    simp only [Option.bind_some] at e
    cases e1 : ds[ds.length - 1]? with
    | none => rw [e1] at e; cases e
    | some d =>
      rw [e1] at e
      cases e
      obtain ⟨m, rfl, g⟩ := lstAt_eg e0
      obtain ⟨a, vs, v, h1, h2, h3, h4, rv, rs', s', t', o', f'⟩ := s.out .refl g e1
      rw [← h3] at h4
      refine ⟨_, h1, .inl ⟨rfl, _, .inl (.inl h2)⟩, a, vs, v, rfl, rfl, h2, h4, ?_⟩
      rw [← h3, List.eraseIdx_length_sub_one] at s' t' o'
      rw [h3, List.eraseIdx_length_sub_one] at s'
      exact q v Z _ _ rv s' t' o' f'
/-- xs.reverse() -/
def mRev (i : Nat) : Fe := fun E => (lstAt E i).map fun l => (.val .non 9, E.set i (some (.lst l.1.reverse, l.2)))
theorem rev_of {i : Nat} {H : Hp} {Q : VK} (q : eOf K (mRev i) σ H Q) : ∃ x, σ[i]? = some (some x) ∧ tyV K "list" x H ∧ rReverse x [] H Q := by
  obtain ⟨Z, E, R, s, o, E', e, q⟩ := q
  unfold mRev at e
  cases e0 : lstAt E i with
  | none => rw [e0] at e; cases e
  | some l =>
    obtain ⟨ds, n⟩ := l
    rw [e0] at e
    cases e
    obtain ⟨m, rfl, g⟩ := lstAt_eg e0
    obtain ⟨a, vs, h1, h2, h3, Zf, rs', s', t'⟩ := s.edit .refl g (v := .non) (dv := .non) (nv := 0) (rv := []) ⟨rfl, .non⟩ .nil (fun vs => vs.reverse) (fun ds => ds.reverse) (fun rss _ => rss.reverse) (fun Z H m vs rss rv al _ => al.rev) (fun rss rv h _ _ => by
      refine ⟨?_, fun a m => .inl ?_⟩
      · exact (List.reverse_perm rss).flatten.nodup_iff.mpr h
      · exact (List.reverse_perm rss).flatten.mem_iff.mp m)
    refine ⟨_, h1, .inl ⟨rfl, _, .inl (.inl h2)⟩, a, vs, rfl, rfl, h2, ?_⟩
    have e1 : upl (m + 1) (.lst ds) .non 0 = m + 1 := by simp [upl]
    rw [e1] at s'
    exact q _ Zf _ _ [] s' t' (Own.ofImm .non (by simp)) .nil
end
section
variable {X : Cx} {e : Expr} {fe : Fe} {pos apos cpos : PySem.Pos} {i : Nat} {x : Str}
theorem ae_app (i : Nat) {x : Str} (he : AE X e fe) (hN : X.N[i]? = some x := by rfl) (hv : Vis X.env.scope x := by first | exact Or.inl rfl | exact Or.inr (Or.inl rfl) | exact Or.inr (Or.inr rfl)) (hd : (x == ("__debug__" : Str)) = false := by decide)
    (hcd : (x == ("__classdict__" : Str)) = false := by decide)
    (hbase : attributeBase (.Name x pos) "append" X.env (eval (.Name x pos) X.env) = eval (.Name x pos) X.env := by rfl)
    (hfew : ((backTo cpos (starEach [e] X.env)).all (fun x => !x.1) && (backToKw cpos (keywordEach [] X.env)).all (fun x => x.1.isSome)
      && decide (([e] : List Expr).length + ([] : List Keyword).length + (if ([] : List Keyword).isEmpty then 0 else 1) < 30)) = true := by rfl)
    (hline : (apos.endLine == cpos.line) = true := by rfl) (hs : starEach [e] X.env = (false, eval e X.env) :: starEach [] X.env := by rfl) :
    AE X (.Call (.Attribute (.Name x pos) "append" apos) [e] [] cpos) (mApp i fe) :=
  PE.mono (pe_bm PySem.F.plainAttrs_list PySem.F.slot_list_append PySem.F.type_list_append mt_append (pe_var hN hv hd hcd) (pa_cons he pa_nil hs) hbase hfew hline hs rfl) fun σ H Q q => by
    obtain ⟨y, e1, ty, q⟩ := app_of q
    exact ⟨y, e1, ty, eOf_imp (fun z H1 q => q) q⟩
theorem ae_pop (i : Nat) {x : Str} (hN : X.N[i]? = some x := by rfl) (hv : Vis X.env.scope x := by first | exact Or.inl rfl | exact Or.inr (Or.inl rfl) | exact Or.inr (Or.inr rfl)) (hd : (x == ("__debug__" : Str)) = false := by decide)
    (hcd : (x == ("__classdict__" : Str)) = false := by decide)
    (hbase : attributeBase (.Name x pos) "pop" X.env (eval (.Name x pos) X.env) = eval (.Name x pos) X.env := by rfl) (hline : (apos.endLine == cpos.line) = true := by rfl) :
    AE X (.Call (.Attribute (.Name x pos) "pop" apos) [] [] cpos) (mPop i) :=
  PE.mono (pe_bm0 PySem.F.plainAttrs_list PySem.F.slot_list_pop PySem.F.type_list_pop mt_pop (pe_var hN hv hd hcd) hbase hline) fun σ H Q q => pop_of q
theorem ae_rev (i : Nat) {x : Str} (hN : X.N[i]? = some x := by rfl) (hv : Vis X.env.scope x := by first | exact Or.inl rfl | exact Or.inr (Or.inl rfl) | exact Or.inr (Or.inr rfl)) (hd : (x == ("__debug__" : Str)) = false := by decide)
    (hcd : (x == ("__classdict__" : Str)) = false := by decide)
    (hbase : attributeBase (.Name x pos) "reverse" X.env (eval (.Name x pos) X.env) = eval (.Name x pos) X.env := by rfl) (hline : (apos.endLine == cpos.line) = true := by rfl) :
    AE X (.Call (.Attribute (.Name x pos) "reverse" apos) [] [] cpos) (mRev i) :=
  PE.mono (pe_bm0 PySem.F.plainAttrs_list PySem.F.slot_list_reverse PySem.F.type_list_reverse mt_reverse (pe_var hN hv hd hcd) hbase hline) fun σ H Q q => rev_of q
end
end Zk
namespace Zk
open PySem PySem.Spec PyProof.Rows L2

section
variable {K : PySem.W.Frag} {Z Z' Zf Z0 : Addr → Prop} {H H' H0 : Hp} {σ : L2.St} {E E' : Ev} {R R' R0 : Rs}
/-- name = e -/
def mSet (i : Nat) (f : Fe) : Fs := fun E => (f E).bind fun p => (tk p.2 p.1).bind fun q => if i < q.2.2.length then some (.nx, q.2.2.set i (some (q.1, q.2.1))) else none
theorem set_of {i : Nat} {f : Fe} {D : Ends} (q : sOf K [i] (mSet i f) D σ H) : eOf K f σ H fun v H1 => D.nx (σ.set i (some v)) H1 := by
  obtain ⟨Z, E, R, s, fl, E', e, q⟩ := q
  unfold mSet at e
  cases e1 : f E with
  | none => rw [e1] at e; cases e
  | some p =>
    obtain ⟨o, E1⟩ := p
    rw [e1] at e
    simp only [Option.bind_some] at e
    cases e2 : tk E1 o with
    | none => rw [e2] at e; cases e
    | some p2 =>
      obtain ⟨d, n, E2⟩ := p2
      rw [e2] at e
      simp only [Option.bind_some] at e
      split at e
      · rename_i hi
        cases e
        refine ⟨Z, E, R, s, o, E1, e1, fun v Z1 H1 R1 rs s1 t1 ov f1 => ?_⟩
        obtain ⟨Z2, R2, s2, t2, o2, n2, sub2⟩ := s1.take ov f1.no e2
        refine q _ Z2 H1 _ (s2.setSlot hi o2 f1.nd n2) ((t1.trans t2).fin (fun _ h => h) (fun a z => .inl z) (.refl _) fun a z => ?_) fun j hj => ?_
        · rcases ow_put z with z | z
          · rcases f1.of a z with z | z
            · exact .inr (.inl z)
            · exact .inr (.inr z)
          · exact .inl z
        · rw [List.getElem?_set_ne (fun c => hj (by simp [c]))]
      · cases e
/-- return e -/
def mRet (f : Fe) : Fs := fun E => (f E).bind fun p => (mv p.2 p.1).map fun q => (.rt q.1 q.2.1, q.2.2)
theorem ret_of {w : List Nat} {f : Fe} {D : Ends} (q : sOf K w (mRet f) D σ H) : eOf K f σ H D.rt := by
  obtain ⟨Z, E, R, s, fl, E', e, q⟩ := q
  unfold mRet at e
  cases e1 : f E with
  | none => rw [e1] at e; cases e
  | some p =>
    obtain ⟨o, E1⟩ := p
    rw [e1] at e
    simp only [Option.bind_some] at e
    cases e2 : mv E1 o with
    | none => rw [e2] at e; cases e
    | some p2 =>
      obtain ⟨d, n, E2⟩ := p2
      rw [e2] at e
      cases e
      refine ⟨Z, E, R, s, o, E1, e1, fun v Z1 H1 R1 rs s1 t1 ov f1 => ?_⟩
      obtain ⟨R2, rs2, s2, t2, o2, nd2, n2, in2, sub2⟩ := s1.move ov f1.nd f1.no e2
      refine q σ Z1 H1 R2 s2 (t1.trans t2) (fun _ _ => rfl) v rs2 o2 ⟨nd2, n2, fun a m => ?_⟩
      rcases in2 a m with m | m
      · exact f1.of a m
      · exact t1.on a m
/-- an expression whose value is dropped -/
def mEx (f : Fe) : Fs := fun E => (f E).map fun p => (.nx, p.2)
theorem ex_of {w : List Nat} {f : Fe} {D : Ends} (q : sOf K w (mEx f) D σ H) : eOf K f σ H fun _ H1 => D.nx σ H1 := by
  obtain ⟨Z, E, R, s, fl, E', e, q⟩ := q
  unfold mEx at e
  cases e1 : f E with
  | none => rw [e1] at e; cases e
  | some p =>
    rw [e1] at e
    cases e
    exact ⟨Z, E, R, s, p.1, p.2, e1, fun v Z1 H1 R1 rs s1 t1 ov f1 => q σ Z1 H1 R1 s1 t1 fun _ _ => rfl⟩
def mSeq (a b : Fs) : Fs := fun E => (a E).bind fun p => match p.1 with
  | .nx => b p.2
  | fl => some (fl, p.2)
def mNx : Fs := fun E => some (.nx, E)
def mBk : Fs := fun E => some (.bk, E)
/-- behind a first part -/
theorem seq_of {w w1 w2 : List Nat} {a b : Fs} {D : Ends} (h1 : ∀ i ∈ w1, i ∈ w) (h2 : ∀ i ∈ w2, i ∈ w) (q : sOf K w (mSeq a b) D σ H) : sOf K w1 a { D with nx := fun σ' H' => sOf K w2 b D σ' H' } σ H := by
  obtain ⟨Z, E, R, s, fl, E', e, q⟩ := q
  unfold mSeq at e
  cases e1 : a E with
  | none => rw [e1] at e; cases e
  | some p =>
    obtain ⟨f1, E1⟩ := p
    rw [e1] at e
    simp only [Option.bind_some] at e
    refine ⟨Z, E, R, s, f1, E1, e1, fun σ' Z' H' R' s' t' k => ?_⟩
    cases f1 with
    | nx =>
      refine ⟨Z', E1, R', s', fl, E', e, fun σ2 Z2 H2 R2 s2 t2 k2 => ?_⟩
      have := q σ2 Z2 H2 R2 s2 (t'.trans t2) fun i hi => (k2 i fun m => hi (h2 i m)).trans (k i fun m => hi (h1 i m))
      cases fl with
      | rt d n => exact fun v rs ov fr => this v rs ov (fr.trans t'.on t'.dm)
      | nx => exact this
      | bk => exact this
      | ct => exact this
    | bk => cases e; exact q σ' Z' H' R' s' t' fun i hi => k i fun m => hi (h1 i m)
    | ct => cases e; exact q σ' Z' H' R' s' t' fun i hi => k i fun m => hi (h1 i m)
    | rt d n => cases e; exact q σ' Z' H' R' s' t' fun i hi => k i fun m => hi (h1 i m)
def mIfS (c : Ft) (a b : Fs) : Fs := fun E => (c E).bind fun p => if p.1 = true then a p.2 else b p.2
theorem if_of {w w1 w2 : List Nat} {c : Ft} {a b : Fs} {D : Ends} (h1 : ∀ i ∈ w1, i ∈ w) (h2 : ∀ i ∈ w2, i ∈ w) (q : sOf K w (mIfS c a b) D σ H) : cOf K c σ H fun k H1 => if k = true then sOf K w1 a D σ H1 else sOf K w2 b D σ H1 := by
  obtain ⟨Z, E, R, s, fl, E', e, q⟩ := q
  unfold mIfS at e
  cases e1 : c E with
  | none => rw [e1] at e; cases e
  | some p =>
    obtain ⟨k, E1⟩ := p
    rw [e1] at e
    simp only [Option.bind_some] at e
    refine ⟨Z, E, R, s, k, E1, e1, fun Z' H' R' s' t' => ?_⟩
    have go : ∀ (f : Fs) (w3 : List Nat), (∀ i ∈ w3, i ∈ w) → f E1 = some (fl, E') → sOf K w3 f D σ H' := fun f w3 h3 e => by
      refine ⟨Z', E1, R', s', fl, E', e, fun σ2 Z2 H2 R2 s2 t2 k2 => ?_⟩
      have := q σ2 Z2 H2 R2 s2 (t'.trans t2) fun i hi => k2 i fun m => hi (h3 i m)
      cases fl with
      | rt d n => exact fun v rs ov fr => this v rs ov (fr.trans t'.on t'.dm)
      | nx => exact this
      | bk => exact this
      | ct => exact this
    cases k with
    | true => rw [if_pos rfl] at e; exact iteT (go a w1 h1 e)
    | false => rw [if_neg Bool.false_ne_true] at e; exact iteF (go b w2 h2 e)
open Classical in
/-- a target that takes a frozen thing -/
abbrev Fg := D → Ev → Option Ev
def gOf (K : PySem.W.Frag) (w : List Nat) (f : Fg) : TG := fun v σ H Q => ∃ Z E R d, S K Z H σ E R ∧ Rp K Z H v d ∧ ∃ E', f d E = some E' ∧
  ∀ σ' R', S K Z H σ' E' R' → Step Z H (ow R) Z H (ow R') → (∀ i, i ∉ w → σ'[i]? = σ[i]?) → Q σ' H
def gsOf (K : PySem.W.Frag) (w : List Nat) (f : List D → Ev → Option Ev) : TGs := fun vs σ H Q => ∃ Z E R ds, S K Z H σ E R ∧ Rps K Z H vs ds ∧ ∃ E', f ds E = some E' ∧
  ∀ σ' R', S K Z H σ' E' R' → Step Z H (ow R) Z H (ow R') → (∀ i, i ∉ w → σ'[i]? = σ[i]?) → Q σ' H
def tgV (i : Nat) : Fg := fun d E => if i < E.length then some (E.set i (some (d, 0))) else none
theorem gn_of {i : Nat} {v : V} {Q : L2.St → Hp → Prop} (q : gOf K [i] (tgV i) v σ H Q) : gName i v σ H Q := by
  obtain ⟨Z, E, R, d, s, r, E', e, q⟩ := q
  unfold tgV at e
  split at e
  · rename_i hi
    cases e
    refine q _ _ (s.setSlot (rs := []) hi ⟨rfl, r⟩ List.nodup_nil fun a m => by simp at m) ⟨fun _ h => h, fun _ h => .inl h, fun _ _ h _ => h, fun a h => ?_, fun _ h => h⟩ fun j hj => ?_
    · rcases ow_put h with h | h
      · simp at h
      · exact .inl h
    · rw [List.getElem?_set_ne (fun c => hj (by simp [c]))]
  · cases e
def tgN : List D → Ev → Option Ev := fun ds E => match ds with
  | [] => some E
  | _ => none
def tgC (f : Fg) (g : List D → Ev → Option Ev) : List D → Ev → Option Ev := fun ds E => match ds with
  | d :: ds => (f d E).bind fun E1 => g ds E1
  | [] => none
theorem gnil_of {vs : List V} {Q : L2.St → Hp → Prop} {w : List Nat} (q : gsOf K w tgN vs σ H Q) : gNil vs σ H Q := by
  obtain ⟨Z, E, R, ds, s, r, E', e, q⟩ := q
  cases r with
  | nil => cases e; exact ⟨rfl, q σ R s .refl fun _ _ => rfl⟩
  | cons h t => cases e
theorem gcons_of {f : Fg} {g : List D → Ev → Option Ev} {vs : List V} {Q : L2.St → Hp → Prop} {w w1 w2 : List Nat} (h1 : ∀ i ∈ w1, i ∈ w) (h2 : ∀ i ∈ w2, i ∈ w) (q : gsOf K w (tgC f g) vs σ H Q) : gCons (gOf K w1 f) (gsOf K w2 g) vs σ H Q := by
  obtain ⟨Z, E, R, ds, s, r, E', e, q⟩ := q
  cases r with
  | nil => cases e
  | cons h t =>
    rename_i v d vs ds
    unfold tgC at e
    simp only at e
    cases e1 : f d E with
    | none => rw [e1] at e; cases e
    | some E1 =>
      rw [e1] at e
      refine ⟨v, vs, rfl, Z, E, R, d, s, h, E1, e1, fun σ1 R1 s1 t1 k1 => ?_⟩
      exact ⟨Z, E1, R1, ds, s1, t, E', e, fun σ2 R2 s2 t2 k2 => q σ2 R2 s2 (t1.trans t2) fun i hi => (k2 i fun m => hi (h2 i m)).trans (k1 i fun m => hi (h1 i m))⟩
/-- (a, b, ..) -/
def tgT (n : Nat) (g : List D → Ev → Option Ev) : Fg := fun d E => match d with
  | .tup ds => if ds.length = n then g ds E else none
  | .con ds => if ds.length = n then g ds E else none
  | .lst ds => if ds.length = n then g ds E else none
  | _ => none
theorem gt_of {n : Nat} {g : List D → Ev → Option Ev} {v : V} {Q : L2.St → Hp → Prop} {w : List Nat} (q : gOf K w (tgT n g) v σ H Q) : gTup K n (gsOf K w g) v σ H Q ∨ gUnl K n (gsOf K w g) v σ H Q := by
  obtain ⟨Z, E, R, d, s, r, E', e, q⟩ := q
  cases r with
  | tup h t =>
    unfold tgT at e
    simp only at e
    split at e
    · rename_i hl
      exact .inl ⟨_, _, rfl, .of h, by rw [t.len]; exact hl, Z, E, R, _, s, t, E', e, q⟩
    · cases e
  | con h t =>
    unfold tgT at e
    simp only at e
    split at e
    · rename_i hl
      exact .inl ⟨_, _, rfl, h.sq, by rw [t.len]; exact hl, Z, E, R, _, s, t, E', e, q⟩
    · cases e
  | lst z h t =>
    unfold tgT at e
    simp only at e
    split at e
    · rename_i hl
      exact .inr ⟨_, _, rfl, .inl (.inl h), by rw [t.len]; exact hl, Z, E, R, _, s, t, E', e, q⟩
    · cases e
  | _ => cases e
/-- target = e -/
def mAsg (g : Fg) (f : Fe) : Fs := fun E => (f E).bind fun p => (tk p.2 p.1).bind fun q => (g q.1 q.2.2).map fun E' => (.nx, E')
theorem asg_of {g : Fg} {f : Fe} {D : Ends} {w : List Nat} (q : sOf K w (mAsg g f) D σ H) : eOf K f σ H fun v H1 => gOf K w g v σ H1 D.nx := by
  obtain ⟨Z, E, R, s, fl, E', e, q⟩ := q
  unfold mAsg at e
  cases e1 : f E with
  | none => rw [e1] at e; cases e
  | some p =>
    obtain ⟨o, E1⟩ := p
    rw [e1] at e
    simp only [Option.bind_some] at e
    cases e2 : tk E1 o with
    | none => rw [e2] at e; cases e
    | some p2 =>
      obtain ⟨d, n, E2⟩ := p2
      rw [e2] at e
      simp only [Option.bind_some] at e
      cases e3 : g d E2 with
      | none => rw [e3] at e; cases e
      | some E3 =>
        rw [e3] at e
        cases e
        refine ⟨Z, E, R, s, o, E1, e1, fun v Z1 H1 R1 rs s1 t1 ov f1 => ?_⟩
        obtain ⟨Z2, R2, s2, t2, o2, n2, sub2⟩ := s1.take ov f1.no e2
        have s3 := s2.chill n2 o2.there
        have r : Rp K (fun a => Z2 a ∨ a ∈ rs) H1 v d := o2.freeze ⟨fun _ h => .inl h, fun _ _ _ h => h, fun _ _ h _ => h⟩ fun a m => ⟨rfl, .inr m⟩
        have t3 : Step Z H (ow R) (fun a => Z2 a ∨ a ∈ rs) H1 (ow R2) := (t1.trans t2).fin (fun _ h => .inl h) (fun a z => by
          rcases z with z | z
          · exact .inl z
          · rcases f1.of a z with z | z
            · exact .inr (.inr (.inl z))
            · exact .inr (.inr (.inr z))) (.refl _) fun a h => .inl h
        exact ⟨_, E2, R2, d, s3, r, E', e3, fun σ' R' s' t' k' => q σ' _ H1 R' s' (t3.trans t') k'⟩

/-- what a loop walks: its things, all frozen -/
structure IOk (K : PySem.W.Frag) (J : It) (its : List D) (Z0 : Addr → Prop) (H0 : Hp) : Prop where
  go : ∀ Z H i, Pers Z0 H0 Z H → i < its.length → J.go i H
  stop : ∀ Z H, Pers Z0 H0 Z H → J.stop its.length H
  yld : ∀ Z H i x H', Pers Z0 H0 Z H → i < its.length → J.yld i H x H' → More H H' ∧ ∃ d, its[i]? = some d ∧ Rp K Z H' x d
abbrev Fi := Ev → Option (List D × Ev)
def iOf (K : PySem.W.Frag) (f : Fi) : TI := fun σ H Rk => ∃ Z E R, S K Z H σ E R ∧ ∃ its E', f E = some (its, E') ∧
  ∀ J Z' H' R', S K Z' H' σ E' R' → Step Z H (ow R) Z' H' (ow R') → IOk K J its Z' H' → Rk J H'
abbrev AI (X : Cx) (tg iter : Expr) (f : Fi) : Prop := PI X tg iter (iOf X.K f)
theorem PI.mono {X : Cx} {tg iter : Expr} {t t' : TI} (h : PI X tg iter t) (m : ∀ σ H R, t' σ H R → t σ H R) : PI X tg iter t' := ⟨fun pins s σ H R I q => h.run pins s σ H R I (m σ H R q)⟩
def forM (g : Fg) (body : Fs) : List D → Fs
  | [] => fun E => some (.nx, E)
  | d :: ds => fun E => (g d E).bind fun E1 => (body E1).bind fun q => match q.1 with
    | .nx => forM g body ds q.2
    | .ct => forM g body ds q.2
    | .bk => some (.nx, q.2)
    | .rt d k => some (.rt d k, q.2)
def mFor (it : Fi) (g : Fg) (body : Fs) : Fs := fun E => (it E).bind fun p => forM g body p.1 p.2
theorem for_of {w w1 w2 : List Nat} {it : Fi} {g : Fg} {body : Fs} {D : Ends} (h1 : ∀ i ∈ w1, i ∈ w) (h2 : ∀ i ∈ w2, i ∈ w) (q : sOf K w (mFor it g body) D σ H) : tFor (iOf K it) (gOf K w1 g) (sOf K w2 body) D σ H := by
  obtain ⟨Z, E, R, s, fl, E', e, q⟩ := q
  unfold mFor at e
  cases e1 : it E with
  | none => rw [e1] at e; cases e
  | some p =>
    obtain ⟨its, E1⟩ := p
    rw [e1] at e
    simp only [Option.bind_some] at e
    refine ⟨Z, E, R, s, its, E1, e1, fun J Z1 H1 R1 s1 t1 ok => ?_⟩
    refine ⟨fun i m σ2 H2 => ∃ Z2 E2 R2, S K Z2 H2 σ2 E2 R2 ∧ Step Z1 H1 (ow R1) Z2 H2 (ow R2) ∧ (∀ j, j ∉ w → σ2[j]? = σ[j]?) ∧ m = its.length - i ∧ i ≤ its.length ∧ forM g body (its.drop i) E2 = some (fl, E'),
      ⟨its.length, Z1, E1, R1, s1, .refl, fun _ _ => rfl, by simp, Nat.zero_le _, e⟩, ?_⟩
    rintro i m σ2 H2 ⟨Z2, E2, R2, s2, t2, k2, rfl, hi, e2⟩
    have p2 : Pers Z1 H1 Z2 H2 := s1.pers t2
    by_cases hlt : i < its.length
    · right
      refine ⟨ok.go Z2 H2 i p2 hlt, ?_⟩
      rw [List.drop_eq_getElem_cons hlt] at e2
      simp only [forM] at e2
      cases e3 : g its[i] E2 with
      | none => rw [e3] at e2; cases e2
      | some E3 =>
        rw [e3] at e2
        simp only [Option.bind_some] at e2
        cases e4 : body E3 with
        | none => rw [e4] at e2; cases e2
        | some p4 =>
          obtain ⟨f4, E4⟩ := p4
          rw [e4] at e2
          simp only [Option.bind_some] at e2
          refine ⟨fun σ5 H5 => ∃ Z5 R5, S K Z5 H5 σ5 E4 R5 ∧ Step Z1 H1 (ow R1) Z5 H5 (ow R5) ∧ (∀ j, j ∉ w → σ5[j]? = σ[j]?) ∧ forM g body (its.drop (i + 1)) E4 = some (fl, E'),
            fun σ5 H5 ⟨Z5, R5, a, b, c, d⟩ => ⟨its.length - (i + 1), by omega, Z5, E4, R5, a, b, c, rfl, hlt, d⟩, fun x H3 y => ?_⟩
          obtain ⟨m3, d, hd, rx⟩ := ok.yld Z2 H2 i x H3 p2 hlt y
          have ed : its[i] = d := by rw [List.getElem?_eq_getElem hlt] at hd; exact Option.some.inj hd
          refine ⟨Z2, E2, R2, d, s2.more m3, rx, E3, by rw [← ed]; exact e3, fun σ4 R4 s4 t4 k4 => ?_⟩
          have t24 := (t2.trans (m3.step _)).trans t4
          refine ⟨Z2, E3, R4, s4, f4, E4, e4, fun σ5 Z5 H5 R5 s5 t5 k5 => ?_⟩
          have k6 : ∀ j, j ∉ w → σ5[j]? = σ[j]? := fun j hj => ((k5 j fun m => hj (h2 j m)).trans (k4 j fun m => hj (h1 j m))).trans (k2 j hj)
          cases f4 with
          | nx => exact ⟨Z5, R5, s5, t24.trans t5, k6, e2⟩
          | ct => exact ⟨Z5, R5, s5, t24.trans t5, k6, e2⟩
          | bk => cases e2; exact q σ5 Z5 H5 R5 s5 (t1.trans (t24.trans t5)) k6
          | rt d n =>
            cases e2
            exact fun v rs ov fr => q σ5 Z5 H5 R5 s5 (t1.trans (t24.trans t5)) k6 v rs ov (fr.trans (t1.trans t24).on (t1.trans t24).dm)
    · left
      have ei : i = its.length := by omega
      subst ei
      rw [List.drop_length] at e2
      cases e2
      exact ⟨ok.stop Z2 H2 p2, q σ2 Z2 H2 R2 s2 (t1.trans t2) k2⟩
end
end Zk
namespace Zk
open PySem PySem.Spec PyProof.Rows L2

section
variable {K : PySem.W.Frag} {Z Z' Zf Z0 : Addr → Prop} {H H' H0 : Hp} {σ : L2.St} {E E' : Ev} {R R' R0 : Rs}
def seqD : D → Option (List D)
  | .lst ds => some ds
  | .tup ds => some ds
  | .con ds => some ds
  | .scr ns => some (ns.map D.int)
  | _ => none
def mSq (f : Fe) : Fi := fun E => (f E).bind fun p => (tk p.2 p.1).bind fun q => (seqD q.1).map fun ds => (ds, q.2.2)
theorem iok_list {a : Addr} {vs : List V} {ds : List D} (z : Z a) (h : H a = some (.lst vs)) (r : Rps K Z H vs ds) : IOk K (Itl K a) ds Z H where
  go := fun Z2 H2 i p hi => by
    obtain ⟨v, hv, _⟩ := r.getD (List.getElem?_eq_getElem hi)
    exact ⟨vs, v, .inl (.inl (p.hz a _ z h)), hv⟩
  stop := fun Z2 H2 p => ⟨vs, .inl (.inl (p.hz a _ z h)), by rw [r.len]; exact Nat.le_refl _⟩
  yld := fun Z2 H2 i x H3 p hi y => by
    obtain ⟨e, y⟩ := y
    subst e
    have hx := y vs (.inl (.inl (p.hz a _ z h)))
    obtain ⟨d, hd, rd⟩ := (r.pers p).get hx
    exact ⟨.refl _, d, hd, rd⟩
theorem iok_scr {a : Addr} {vs : List V} {ds : List D} (h : SqF K H a vs) (r : Rps K Z H vs ds) : IOk K (Itl K a) ds Z H where
  go := fun Z2 H2 i p hi => by
    obtain ⟨v, hv, _⟩ := r.getD (List.getElem?_eq_getElem hi)
    exact ⟨vs, v, (p.sqF h).sq, hv⟩
  stop := fun Z2 H2 p => ⟨vs, (p.sqF h).sq, by rw [r.len]; exact Nat.le_refl _⟩
  yld := fun Z2 H2 i x H3 p hi y => by
    obtain ⟨e, y⟩ := y
    subst e
    have hx := y vs (p.sqF h).sq
    obtain ⟨d, hd, rd⟩ := (r.pers p).get hx
    exact ⟨.refl _, d, hd, rd⟩
theorem iok_tup {a : Addr} {vs : List V} {ds : List D} (h : ∀ Z2 H2, Pers Z H Z2 H2 → SqT K H2 a vs) (r : Rps K Z H vs ds) : IOk K (Itt K a) ds Z H where
  go := fun Z2 H2 i p hi => by
    obtain ⟨v, hv, _⟩ := r.getD (List.getElem?_eq_getElem hi)
    exact ⟨vs, v, h _ _ p, hv⟩
  stop := fun Z2 H2 p => ⟨vs, h _ _ p, by rw [r.len]; exact Nat.le_refl _⟩
  yld := fun Z2 H2 i x H3 p hi y => by
    obtain ⟨e, y⟩ := y
    subst e
    have hx := y vs (h _ _ p)
    obtain ⟨d, hd, rd⟩ := (r.pers p).get hx
    exact ⟨.refl _, d, hd, rd⟩
/-- an end, taken and frozen -/
theorem S.takeFrz (s : S K Z H σ E R) (t0 : Step Z0 H0 (ow R0) Z H (ow R)) {v : V} {o : Op} {d : D} {n : Nat} {rs : List Addr} (h : OV K Z H σ v o rs) (f : Fr R0 H0 R rs) (e : tk E o = some (d, n, E')) :
    ∃ Z' R', S K Z' H σ E' R' ∧ Step Z0 H0 (ow R0) Z' H (ow R') ∧ Rp K Z' H v d := by
  obtain ⟨Z2, R2, s2, t2, o2, n2, sub2⟩ := s.take h f.no e
  refine ⟨_, R2, s2.chill n2 o2.there, (t0.trans t2).fin (fun _ h => .inl h) (fun a z => ?_) (.refl _) fun a h => .inl h, o2.freeze ⟨fun _ h => .inl h, fun _ _ _ h => h, fun _ _ h _ => h⟩ fun a m => ⟨rfl, .inr m⟩⟩
  rcases z with z | z
  · exact .inl z
  · rcases f.of a z with z | z
    · exact .inr (.inr (.inl z))
    · exact .inr (.inr (.inr z))
theorem sq_of {f : Fe} {Rk : It → Hp → Prop} (q : iOf K (mSq f) σ H Rk) : iList K (eOf K f) σ H Rk ∨ iTup K (eOf K f) σ H Rk := by
  obtain ⟨Z, E, R, s, its, E', e, q⟩ := q
  unfold mSq at e
  cases e1 : f E with
  | none => rw [e1] at e; cases e
  | some p =>
    obtain ⟨o, E1⟩ := p
    rw [e1] at e
    simp only [Option.bind_some] at e
    cases e2 : tk E1 o with
    | none => rw [e2] at e; cases e
    | some p2 =>
      obtain ⟨d, n, E2⟩ := p2
      rw [e2] at e
      simp only [Option.bind_some] at e
      cases d with
      | lst ds =>
        cases e
        refine .inl ⟨Z, E, R, s, o, E1, e1, fun v Z1 H1 R1 rs s1 t1 ov f1 => ?_⟩
        obtain ⟨Z2, R2, s2, t2, r⟩ := s1.takeFrz t1 ov f1 e2
        cases r with
        | lst z h r => exact ⟨_, rfl, ⟨_, .inl (.inl h)⟩, q _ Z2 H1 R2 s2 t2 (iok_list z h r)⟩
      | scr ns =>
        cases e
        refine .inl ⟨Z, E, R, s, o, E1, e1, fun v Z1 H1 R1 rs s1 t1 ov f1 => ?_⟩
        obtain ⟨Z2, R2, s2, t2, r⟩ := s1.takeFrz t1 ov f1 e2
        cases r with
        | scr h => exact ⟨_, rfl, ⟨_, h.sq⟩, q _ Z2 H1 R2 s2 t2 (iok_scr h (Rps.ofInts ns))⟩
      | tup ds =>
        cases e
        refine .inr ⟨Z, E, R, s, o, E1, e1, fun v Z1 H1 R1 rs s1 t1 ov f1 => ?_⟩
        obtain ⟨Z2, R2, s2, t2, r⟩ := s1.takeFrz t1 ov f1 e2
        cases r with
        | tup h r => exact ⟨_, rfl, ⟨_, .of h⟩, q _ Z2 H1 R2 s2 t2 (iok_tup (fun Z3 H3 p => .of (p.tp _ _ h fun z => z)) r)⟩
      | con ds =>
        cases e
        refine .inr ⟨Z, E, R, s, o, E1, e1, fun v Z1 H1 R1 rs s1 t1 ov f1 => ?_⟩
        obtain ⟨Z2, R2, s2, t2, r⟩ := s1.takeFrz t1 ov f1 e2
        cases r with
        | con h r => exact ⟨_, rfl, ⟨_, h.sq⟩, q _ Z2 H1 R2 s2 t2 (iok_tup (fun Z3 H3 p => h.sq) r)⟩
      | _ => cases e
def rng (lo : Int) (n : Nat) : List D := (List.range n).map fun k => D.int (lo + (k : Nat))
@[simp] theorem rng_len (lo : Int) (n : Nat) : (rng lo n).length = n := by simp [rng]
def rgOk (j : Int) : Prop := -(2 ^ 62) ≤ j ∧ j < 2 ^ 62
instance (j : Int) : Decidable (rgOk j) := inferInstanceAs (Decidable (_ ∧ _))
def mRg1 (a : Fe) : Fi := fun E => (a E).bind fun p => (rd p.2 p.1).bind fun d => match d with
  | .int j => if rgOk j then some (rng 0 j.toNat, p.2) else none
  | _ => none
def mRg2 (a b : Fe) : Fi := fun E => (a E).bind fun p => (b p.2).bind fun p2 => (rd p2.2 p.1).bind fun d => (rd p2.2 p2.1).bind fun d2 => match d, d2 with
  | .int i, .int j => if rgOk i ∧ rgOk j then some (rng i (j - i).toNat, p2.2) else none
  | _, _ => none
theorem iok_rng (lo : Int) (n : Nat) : IOk K (Itr lo n) (rng lo n) Z H where
  go := fun Z2 H2 i p hi => by
    have h : i < n := by simpa using hi
    exact h
  stop := fun Z2 H2 p => by simp [Itr]
  yld := fun Z2 H2 i x H3 p hi y => by
    obtain ⟨e, y⟩ := y
    subst e y
    have hi : i < n := by simpa using hi
    exact ⟨.refl _, .int (lo + i), by simp [rng, hi], .int _⟩
theorem rg1_of {a : Fe} {Rk : It → Hp → Prop} (q : iOf K (mRg1 a) σ H Rk) : eOf K a σ H fun v H1 => ∃ j : Int, v = .int j ∧ -(2 ^ 62) ≤ j ∧ j < 2 ^ 62 ∧ Rk (Itr 0 j.toNat) H1 := by
  obtain ⟨Z, E, R, s, its, E', e, q⟩ := q
  unfold mRg1 at e
  cases e1 : a E with
  | none => rw [e1] at e; cases e
  | some p =>
    obtain ⟨o, E1⟩ := p
    rw [e1] at e
    simp only [Option.bind_some] at e
    cases e2 : rd E1 o with
    | none => rw [e2] at e; cases e
    | some d =>
      rw [e2] at e
      simp only [Option.bind_some] at e
      split at e
      · split at e
        · rename_i hj
          cases e
          refine ⟨Z, E, R, s, o, _, e1, fun v Z1 H1 R1 rs s1 t1 ov f1 => ⟨_, (s1.read ov e2).intE, hj.1, hj.2, q _ Z1 H1 R1 s1 t1 (iok_rng _ _)⟩⟩
        · cases e
      · cases e
theorem rg2_of {a b : Fe} {Rk : It → Hp → Prop} (q : iOf K (mRg2 a b) σ H Rk) : eOf K a σ H fun v H1 => eOf K b σ H1 fun u H2 => ∃ i j : Int, v = .int i ∧ u = .int j ∧ (-(2 ^ 62) ≤ i ∧ i < 2 ^ 62 ∧ -(2 ^ 62) ≤ j ∧ j < 2 ^ 62) ∧ Rk (Itr i (j - i).toNat) H2 := by
  obtain ⟨Z, E, R, s, its, E', e, q⟩ := q
  unfold mRg2 at e
  cases e1 : a E with
  | none => rw [e1] at e; cases e
  | some p =>
    obtain ⟨o, E1⟩ := p
    rw [e1] at e
    simp only [Option.bind_some] at e
    cases e2 : b E1 with
    | none => rw [e2] at e; cases e
    | some p2 =>
      obtain ⟨o2, E2⟩ := p2
      rw [e2] at e
      simp only [Option.bind_some] at e
      cases e3 : rd E2 o with
      | none => rw [e3] at e; cases e
      | some d =>
        cases e4 : rd E2 o2 with
        | none => rw [e3, e4] at e; cases e
        | some d2 =>
          rw [e3, e4] at e
          simp only [Option.bind_some] at e
          split at e
          · split at e
            · rename_i hj
              cases e
              refine ⟨Z, E, R, s, o, E1, e1, fun v Z1 H1 R1 rs s1 t1 ov f1 => ?_⟩
              refine ⟨Z1, E1, R1, s1, o2, _, e2, fun u Z2 H2 R2 rs2 s2 t2 ov2 f2 => ?_⟩
              exact ⟨_, _, (s2.read (s1.pendO t2 ov f1.no).1 e3).intE, (s2.read ov2 e4).intE, ⟨hj.1.1, hj.1.2, hj.2.1, hj.2.2⟩, q _ Z2 H2 R2 s2 (t1.trans t2) (iok_rng _ _)⟩
            · cases e
          · cases e

theorem Own.dE {n : Nat} {v : V} {d : D} {rs : List Addr} (h : Own K Z H (n + 1) v d rs) (nd : rs.Nodup) : (∀ kds, d = .dK kds → ∃ a kvs, v = .ref a ∧ H a = some (.dK kvs) ∧ ¬ Z a ∧ a ∈ rs ∧ KR K (fun b => Z b ∨ (b ∈ rs ∧ b ≠ a)) H kvs kds ∧ (imms (kds.map (·.2)) = true → KR K Z H kvs kds)) ∧
    (∀ kds, d = .dT kds → ∃ a kvs, v = .ref a ∧ H a = some (.dT kvs) ∧ ¬ Z a ∧ a ∈ rs ∧ KR K (fun b => Z b ∨ (b ∈ rs ∧ b ≠ a)) H kvs kds ∧ (imms (kds.map (·.2)) = true → KR K Z H kvs kds)) := by
  have go : ∀ (a : Addr) (rss : List (List Addr)) (vs : List V) (ds : List D), rs = a :: rss.flatten → All3 (Own K Z H n) vs ds rss → Rps K (fun b => Z b ∨ (b ∈ rs ∧ b ≠ a)) H vs ds := fun a rss vs ds er al => by
    have p : Pers Z H (fun b => Z b ∨ (b ∈ rs ∧ b ≠ a)) H := ⟨fun _ h => .inl h, fun _ _ _ h => h, fun _ _ h _ => h⟩
    rw [er] at nd
    have n1 := (List.nodup_cons.mp nd).1
    exact All3.rps (R := fun _ _ => True) (P := fun v d _ => Rp K (fun b => Z b ∨ (b ∈ rs ∧ b ≠ a)) H v d) (fun _ _ _ h => h) (al.imp fun v d rs' m o => o.freeze p fun b hb => ⟨rfl, .inr ⟨by rw [er]; exact List.mem_cons_of_mem _ (mem_flatten_of m hb), fun e => n1 (by rw [← e]; exact mem_flatten_of m hb)⟩⟩)
  constructor
  · rintro kds rfl
    obtain ⟨a, kvs, rss, e, ha, z, e2, al, er⟩ := h
    exact ⟨a, kvs, e, ha, z, by rw [er]; exact List.mem_cons_self, ⟨e2, go a rss _ _ er al⟩, fun i => ⟨e2, (al.immRps i).1⟩⟩
  · rintro kds rfl
    obtain ⟨a, kvs, rss, e, ha, z, e2, al, er⟩ := h
    exact ⟨a, kvs, e, ha, z, by rw [er]; exact List.mem_cons_self, ⟨e2, go a rss _ _ er al⟩, fun i => ⟨e2, (al.immRps i).1⟩⟩
/-- the depth of a dict behind a store -/
def updl {κ : Type} (n : Nat) (kds : List (κ × D)) (dv : D) : Nat := if imms (kds.map (·.2)) = true ∧ imm dv = true then n else 1
theorem imms_put {κ : Type} [DecidableEq κ] {kds : List (κ × D)} {k : κ} {dv : D} (h : imms (kds.map (·.2)) = true) (i : imm dv = true) : imms ((putD kds k dv).map (·.2)) = true := by
  rw [imms_all, List.all_eq_true] at h ⊢
  intro x hx
  unfold putD at hx
  split at hx
  · rw [List.map_map] at hx
    obtain ⟨p, hp, e⟩ := List.mem_map.mp hx
    simp only [Function.comp_apply] at e
    split at e
    · subst e; exact i
    · subst e; exact h _ (List.mem_map.mpr ⟨p, hp, rfl⟩)
  · rw [List.map_append, List.mem_append] at hx
    rcases hx with hx | hx
    · exact h x hx
    · have : x = dv := by simpa using hx
      rw [this]; exact i
/-- a store into the owned dict of slot i: con tells the kind of dict -/
theorem S.dput {κ : Type} [DecidableEq κ] (conD : List (κ × D) → D) (conH : List (κ × V) → HO) (s : S K Z H σ E R) (t0 : Step Z0 H0 (ow R0) Z H (ow R)) {i : Nat} {kds : List (κ × D)} {n : Nat} (e : eg E i = some (conD kds, n + 1))
    (dE : ∀ {v : V} {rs : List Addr}, Own K Z H (n + 1) v (conD kds) rs → rs.Nodup → ∃ a kvs, v = .ref a ∧ H a = some (conH kvs) ∧ ¬ Z a ∧ a ∈ rs ∧ KR K (fun b => Z b ∨ (b ∈ rs ∧ b ≠ a)) H kvs kds ∧ (imms (kds.map (·.2)) = true → KR K Z H kvs kds))
    (mk : ∀ {Z : Addr → Prop} {H : Hp} {a : Addr} {kvs : List (κ × V)} {kds : List (κ × D)} {m : Nat}, H a = some (conH kvs) → ¬ Z a → kvs.map (·.1) = kds.map (·.1) → All3 (Own K Z H m) (kvs.map (·.2)) (kds.map (·.2)) ((kds.map (·.2)).map fun _ => []) → Own K Z H (m + 1) (.ref a) (conD kds) [a])
    {v : V} {dv : D} {nv : Nat} {rv : List Addr} (hv : Own K Z H nv v dv rv) (fr : Fr R0 H0 R rv) (k : κ) (mutH : ∀ kvs, Mut (some (conH kvs))) :
    ∃ a kvs, σ[i]? = some (some (.ref a)) ∧ H a = some (conH kvs) ∧ kvs.length = kds.length ∧ ∃ Zf rs', S K Zf (upd H a (conH (putK kvs k v))) σ (E.set i (some (conD (putD kds k dv), updl (n + 1) kds dv))) (put R i rs') ∧
      Step Z0 H0 (ow R0) Zf (upd H a (conH (putK kvs k v))) (ow (put R i rs')) := by
  obtain ⟨w, e1, o1⟩ := s.slot i _ _ e
  obtain ⟨a, kvs, rfl, ha, nz, aR, kr, kri⟩ := dE o1 (s.nd i)
  refine ⟨a, kvs, e1, ha, kr.len, ?_⟩
  have aow : ow R a := ⟨i, aR⟩
  have pz : ∀ {Z1 : Addr → Prop}, ¬ Z1 a → Pers Z1 H Z1 (upd H a (conH (putK kvs k v))) := fun nz1 => ⟨fun _ h => h, fun b o z e => by
    have ne : b ≠ a := fun e2 => nz1 (by rw [← e2]; exact z)
    rw [upd_ne ne]; exact e, fun b o e n => by
    have ne : b ≠ a := fun e2 => n (by rw [e2, ha] at e; cases e; exact mutH _)
    rw [upd_ne ne]; exact e⟩
  unfold updl
  split
  · rename_i hc
    obtain ⟨rfl, rvp⟩ := hv.imm hc.2
    have kr2 := ((kri hc.1).put k rvp)
    have kr3 : KR K Z (upd H a (conH (putK kvs k v))) (putK kvs k v) (putD kds k dv) := ⟨kr2.1, kr2.2.pers (pz nz)⟩
    have new := mk (Z := Z) (m := n) (upd_same (H := H) (a := a)) nz kr3.1 (All3.ofRpsI kr3.2 (imms_put hc.1 hc.2))
    have inR : ∀ b ∈ [a], b ∈ R i ∨ b ∈ ([] : List Addr) := fun b m => by
      have e : b = a := by simpa using m
      exact .inl (by rw [e]; exact aR)
    exact ⟨Z, [a], s.write t0 (ts := []) (eg_lt e) e1 aR new (fun _ h => h) (fun b z => .inl z) inR (by simp) (fun b m => by simp at m) (fun b m => by simp at m) fun b m => by simp at m⟩
  · have p : Pers Z H (fun b => Z b ∨ (b ∈ R i ∧ b ≠ a) ∨ b ∈ rv) H := ⟨fun _ h => .inl h, fun _ _ _ h => h, fun _ _ h _ => h⟩
    have nzf : ¬ (Z a ∨ (a ∈ R i ∧ a ≠ a) ∨ a ∈ rv) := fun z => by
      rcases z with z | z | z
      · exact nz z
      · exact z.2 rfl
      · exact fr.no a z aow
    have rvp : Rp K (fun b => Z b ∨ (b ∈ R i ∧ b ≠ a) ∨ b ∈ rv) H v dv := hv.freeze p fun b hb => ⟨rfl, .inr (.inr hb)⟩
    have kr1 : KR K (fun b => Z b ∨ (b ∈ R i ∧ b ≠ a) ∨ b ∈ rv) H kvs kds := ⟨kr.1, kr.2.pers ⟨fun b z => z.elim .inl fun z => .inr (.inl z), fun _ _ _ h => h, fun _ _ h _ => h⟩⟩
    have kr2 := kr1.put k rvp
    have kr3 : KR K (fun b => Z b ∨ (b ∈ R i ∧ b ≠ a) ∨ b ∈ rv) (upd H a (conH (putK kvs k v))) (putK kvs k v) (putD kds k dv) := ⟨kr2.1, kr2.2.pers (pz nzf)⟩
    have new := mk (m := 0) (upd_same (H := H) (a := a)) nzf kr3.1 (All3.ofRps0 kr3.2)
    refine ⟨_, [a], s.write t0 (ts := rv) (eg_lt e) e1 aR new (fun _ h => .inl h) (fun b z => ?_) (fun b m => .inl ?_) (by simp) fr.no hv.there fr.of⟩
    · rcases z with z | z | z
      · exact .inl z
      · exact .inr (.inl z.1)
      · exact .inr (.inr z)
    · have e : b = a := by simpa using m
      rw [e]; exact aR
/-- slot x [k] = v, by data -/
def putAt (E : Ev) (x : Nat) (k dv : D) (nv : Nat) : Option Ev := match eg E x with
  | some (.lst ds, n + 1) => match k with
    | .int i => (ixN ds.length i).map fun j => E.set x (some (.lst (ds.set j dv), upl (n + 1) (.lst ds) dv nv))
    | _ => none
  | some (.dK kds, n + 1) => (keyOf k).bind fun k => if kds.length < sizeLine then some (E.set x (some (.dK (putD kds k dv), updl (n + 1) kds dv))) else none
  | some (.dT kds, n + 1) => match k with
    | .tup ks => (keysOf ks).bind fun k => if kds.length < sizeLine then some (E.set x (some (.dT (putD kds k dv), updl (n + 1) kds dv))) else none
    | _ => none
  | _ => none
theorem S.putAt (s : S K Z H σ E R) (t0 : Step Z0 H0 (ow R0) Z H (ow R)) {x : Nat} {k dv : D} {nv : Nat} (e : Zk.putAt E x k dv nv = some E') {v kv : V} {rv : List Addr} (hv : Own K Z H nv v dv rv) (fr : Fr R0 H0 R rv) (hk : Rp K (fun _ => True) H kv k) :
    ∃ w, σ[x]? = some (some w) ∧ ∀ Q : Hp → Prop, (∀ Zf H' R', S K Zf H' σ E' R' → Step Z0 H0 (ow R0) Zf H' (ow R') → Q H') → rSetL w kv v H Q ∨ rSetD w kv v H Q := by
  unfold Zk.putAt at e
  split at e
  · rename_i ds n g
    split at e
    · rename_i i
      cases e1 : ixN ds.length i with
      | none => rw [e1] at e; cases e
      | some j =>
        rw [e1] at e
        cases e
        obtain ⟨a, vs, h1, h2, h3, Zf, rs', s', t'⟩ := s.edit t0 g hv fr (fun vs => vs.set j v) (fun ds => ds.set j dv) (fun rss rv => rss.set j rv) (fun Z H m vs rss rv al ho => al.set ho j) (fun rss rv h1 h2 h3 =>
          ⟨nodup_set_flat j h1 h2 h3, fun a m => nodup_set_flat.mem_set_flat j m⟩)
        cases hk.intE
        exact ⟨_, h1, fun Q q => .inl ⟨a, vs, i, j, rfl, rfl, h2, by rw [h3]; exact e1, q _ _ _ s' t'⟩⟩
    · cases e
  · rename_i kds n g
    cases e1 : keyOf k with
    | none => rw [e1] at e; cases e
    | some k' =>
      rw [e1] at e
      simp only [Option.bind_some] at e
      split at e
      · rename_i hl
        cases e
        obtain ⟨a, kvs, h1, h2, h3, Zf, rs', s', t'⟩ := s.dput D.dK HO.dK t0 g (fun o nd => (o.dE nd).1 kds rfl) (fun {Z H a kvs kds m} h z e al => ⟨a, kvs, _, rfl, h, z, e, al, by rw [flat_nils]⟩) hv fr k' (fun _ => trivial)
        cases key_kV hk e1
        exact ⟨_, h1, fun Q q => .inr ⟨a, _, rfl, .k h2 (by rw [h3]; exact hl), q _ _ _ s' t'⟩⟩
      · cases e
  · rename_i kds n g
    split at e
    · rename_i ks
      cases e1 : keysOf ks with
      | none => rw [e1] at e; cases e
      | some k' =>
        rw [e1] at e
        simp only [Option.bind_some] at e
        split at e
        · rename_i hl
          cases e
          obtain ⟨a, kvs, h1, h2, h3, Zf, rs', s', t'⟩ := s.dput D.dT HO.dT t0 g (fun o nd => (o.dE nd).2 kds rfl) (fun {Z H a kvs kds m} h z e al => ⟨a, kvs, _, rfl, h, z, e, al, by rw [flat_nils]⟩) hv fr k' (fun _ => trivial)
          cases hk with
          | tup hb rb =>
            cases keys_kV rb e1
            exact ⟨_, h1, fun Q q => .inr ⟨a, _, rfl, .t h2 hb (by rw [h3]; exact hl), q _ _ _ s' t'⟩⟩
        · cases e
    · cases e
  · cases e
/-- x[k] = v -/
def mPut (x : Nat) (fk fv : Fe) : Fs := fun E => (fv E).bind fun pv => if (eg pv.2 x).isSome = true then (fk pv.2).bind fun pk => (rd pk.2 pk.1).bind fun k => (tk pk.2 pv.1).bind fun q => (putAt q.2.2 x k q.1 q.2.1).map fun E' => (.nx, E') else none
theorem put_of {x : Nat} {fk fv : Fe} {w : List Nat} {D : Ends} (q : sOf K w (mPut x fk fv) D σ H) : eOf K fv σ H fun v H1 => ∃ y, σ[x]? = some (some y) ∧ eOf K fk σ H1 fun kv H2 => rSetL y kv v H2 (fun H3 => D.nx σ H3) ∨ rSetD y kv v H2 fun H3 => D.nx σ H3 := by
  obtain ⟨Z, E, R, s, fl, E', e, q⟩ := q
  unfold mPut at e
  cases e1 : fv E with
  | none => rw [e1] at e; cases e
  | some p =>
    obtain ⟨o, E1⟩ := p
    rw [e1] at e
    simp only [Option.bind_some] at e
    split at e
    · rename_i hs
      cases e2 : fk E1 with
      | none => rw [e2] at e; cases e
      | some p2 =>
        obtain ⟨o2, E2⟩ := p2
        rw [e2] at e
        simp only [Option.bind_some] at e
        cases e3 : rd E2 o2 with
        | none => rw [e3] at e; cases e
        | some k =>
          rw [e3] at e
          simp only [Option.bind_some] at e
          cases e4 : tk E2 o with
          | none => rw [e4] at e; cases e
          | some p4 =>
            obtain ⟨dv, nv, E3⟩ := p4
            rw [e4] at e
            simp only [Option.bind_some] at e
            cases e5 : Zk.putAt E3 x k dv nv with
            | none => rw [e5] at e; cases e
            | some E5 =>
              rw [e5] at e
              cases e
              refine ⟨Z, E, R, s, o, E1, e1, fun v Z1 H1 R1 rs s1 t1 ov f1 => ?_⟩
              cases g : eg E1 x with
              | none => rw [g] at hs; simp at hs
              | some dn =>
                obtain ⟨y, ey, _⟩ := s1.slot x dn.1 dn.2 g
                refine ⟨y, ey, Z1, E1, R1, s1, o2, E2, e2, fun kv Z2 H2 R2 rs2 s2 t2 ov2 f2 => ?_⟩
                obtain ⟨pe, pn⟩ := s1.pendO t2 ov f1.no
                have rk := s2.read ov2 e3
                obtain ⟨Z3, R3, s3, t3, o3, n3, sub3⟩ := s2.take pe pn e4
                obtain ⟨w, ew, c⟩ := s3.putAt ((t1.trans t2).trans t3) e5 o3 ⟨f1.nd, n3, f1.of⟩ rk
                rw [ey] at ew
                cases ew
                exact c _ fun Zf H' R' s' t' => q σ Zf H' R' s' t' fun _ _ => rfl
    · cases e
end
section
variable {X : Cx}
theorem PSet.or {t u : TSet} (h : PSet X t) (h' : PSet X u) : PSet X fun o i v H Q => t o i v H Q ∨ u o i v H Q := fun pins s σ H o i v ov iv w Q I r1 r2 r3 q =>
  q.elim (h pins s σ H o i v ov iv w Q I r1 r2 r3) (h' pins s σ H o i v ov iv w Q I r1 r2 r3)
theorem PG.or {tg : Expr} {t u : TG} (h : PG X tg t) (h' : PG X tg u) : PG X tg fun v σ H Q => t v σ H Q ∨ u v σ H Q := ⟨fun pins s σ H v x Q I r q => q.elim (h.run pins s σ H v x Q I r) (h'.run pins s σ H v x Q I r)⟩
theorem PI.or {tg iter : Expr} {t u : TI} (h : PI X tg iter t) (h' : PI X tg iter u) : PI X tg iter fun σ H R => t σ H R ∨ u σ H R := ⟨fun pins s σ H R I q => q.elim (h.run pins s σ H R I) (h'.run pins s σ H R I)⟩
variable {e e2 c : Expr} {es : List Expr} {fe fk fv : Fe} {ft : Ft} {fi : Fi} {g : Fg} {gs : List D → Ev → Option Ev} {pos pos' : PySem.Pos} {st : Stmt} {rest body : List Stmt} {w w1 w2 : List Nat} {f f1 f2 : Fs} {x : Str}
theorem as_set (i : Nat) {x : Str} (he : AE X e fe) (hN : X.N.Nodup) (hi : X.N[i]? = some x := by rfl) (hx : Loc X.env.scope x := by first | exact Or.inl rfl | exact Or.inr rfl) (hs : swapsWith e (some (.Name x pos')) pos.line X.env = pure false := by rfl)
    (hf : X.fn x = true ∨ X.env.scope.names.lookup x = some .local := by first | exact .inl rfl | exact .inr rfl) : AS X (.Assign [.Name x pos'] e pos) [i] (mSet i fe) := PS.mono (ps_set hN hi hx he hs hf) fun D σ H q => set_of q
theorem as_ret (he : AE X e fe) : AS X (.Return (some e) pos) w (mRet fe) := PS.mono (ps_ret he) fun D σ H q => ret_of q
theorem as_ex (he : AE X e fe) (hs : swapsWith e none pos.line X.env = pure false := by rfl) : AS X (.Expr e pos) w (mEx fe) := PS.mono (ps_expr he hs) fun D σ H q => ex_of q
theorem as_bk : AS X (.Break pos) w mBk := PS.mono ps_break fun D σ H q => by
  obtain ⟨Z, E, R, s, fl, E', e, q⟩ := q
  cases e
  exact q σ Z H R s .refl fun _ _ => rfl
theorem ass_nil : ASs X [] w mNx := PSs.mono pss_nil fun D σ H q => by
  obtain ⟨Z, E, R, s, fl, E', e, q⟩ := q
  cases e
  exact q σ Z H R s .refl fun _ _ => rfl
theorem ass_cons (h1 : AS X st w1 f1) (h2 : ASs X rest w2 f2) : ASs X (st :: rest) (w1 ++ w2) (mSeq f1 f2) := PSs.mono (pss_cons h1 h2) fun D σ H q => seq_of (fun i m => List.mem_append.mpr (.inl m)) (fun i m => List.mem_append.mpr (.inr m)) q
theorem ass_one (h1 : AS X st w f) : ASs X [st] w f := pss_one h1
theorem as_if (hc : AT X c ft) (ha : ASs X body w1 f1) (hb : ASs X rest w2 f2) : AS X (.If c body rest pos) (w1 ++ w2) (mIfS ft f1 f2) := PS.mono (ps_if hc ha hb) fun D σ H q => if_of (fun i m => List.mem_append.mpr (.inl m)) (fun i m => List.mem_append.mpr (.inr m)) q
abbrev AG (X : Cx) (target : Expr) (w : List Nat) (g : Fg) : Prop := PG X target (gOf X.K w g)
abbrev AGs (X : Cx) (ts : List Expr) (w : List Nat) (gs : List D → Ev → Option Ev) : Prop := PGs X ts (gsOf X.K w gs)
theorem PG.mono {t : Expr} {g g' : TG} (h : PG X t g) (m : ∀ v σ H Q, g' v σ H Q → g v σ H Q) : PG X t g' := ⟨fun pins s σ H v u Q I r q => h.run pins s σ H v u Q I r (m v σ H Q q)⟩
theorem PGs.mono {t : List Expr} {g g' : TGs} (h : PGs X t g) (m : ∀ v σ H Q, g' v σ H Q → g v σ H Q) : PGs X t g' := ⟨fun pins s σ H v u Q I r q => h.run pins s σ H v u Q I r (m v σ H Q q)⟩
theorem ag_n (i : Nat) {x : Str} (hN : X.N.Nodup) (hi : X.N[i]? = some x := by rfl) (hx : Loc X.env.scope x := by first | exact Or.inl rfl | exact Or.inr rfl) (hf : X.fn x = true ∨ X.env.scope.names.lookup x = some .local := by first | exact .inl rfl | exact .inr rfl) :
    AG X (.Name x pos) [i] (tgV i) := PG.mono (pg_name hN hi hx hf) fun v σ H Q q => gn_of q
theorem ags_nil : AGs X [] [] tgN := PGs.mono pgs_nil fun v σ H Q q => gnil_of q
theorem ags_cons (h1 : AG X e w1 g) (h2 : AGs X es w2 gs) (hs : (assignEach (e :: es) X.env).map (·.2) = assign e X.env :: (assignEach es X.env).map (·.2) := by rfl) : AGs X (e :: es) (w1 ++ w2) (tgC g gs) :=
  PGs.mono (pgs_cons h1 h2 hs) fun v σ H Q q => gcons_of (fun i m => List.mem_append.mpr (.inl m)) (fun i m => List.mem_append.mpr (.inr m)) q
theorem ag_t {k n : Nat} (h : AGs X es w gs) (hc : X.calm = true := by rfl) (hn : (assignEach es X.env).length = n := by rfl) (hst : (assignEach es X.env).findIdx? (·.1) = none := by rfl) : AG X (.Tuple es k pos) w (tgT n gs) :=
  PG.mono (PG.or (pg_tup hc h hn hst) (pg_unl hc h hn hst)) fun v σ H Q q => gt_of q
theorem as_asg {tg : Expr} (he : AE X e fe) (hg : AG X tg w g) (hs : swapsWithSole [tg] e pos.line X.env = pure false := by rfl) (hw : swappedStores [tg] e X.env = pure none := by rfl)
    (h1 : (assignEach [tg] X.env).map (·.2) = [assign tg X.env] := by rfl) : AS X (.Assign [tg] e pos) w (mAsg g fe) := PS.mono (ps_asg he hg hs hw h1) fun D σ H q => asg_of q
theorem as_for {tg iter : Expr} (hp : PassesOwn (model X.prog X.w) X.A X.env X.xe) (hi : AI X tg iter fi) (hg : AG X tg w1 g) (hb : ASs X body w2 f) (hc : X.calm = true := by rfl) (hs : ∀ x, foldedSetIterable iter X.env x = pure x := by intro _; rfl) :
    AS X (.For tg iter body [] pos) (w1 ++ w2) (mFor fi g f) := PS.mono (ps_for hp hc hi hg hb hs) fun D σ H q => for_of (fun i m => List.mem_append.mpr (.inl m)) (fun i m => List.mem_append.mpr (.inr m)) q
theorem ai_seq {tg : Expr} (he : AE X e fe) : AI X tg e (mSq fe) := PI.mono (PI.or (pi_list he) (pi_tup he)) fun σ H R q => sq_of q
theorem ai_rg1 {tg : Expr} {p : PySem.Pos} (ha : AE X e fe) (hg : Gl X "range") (hm : X.mg "range" = none) (hs : starEach [e] X.env = [(false, eval e X.env)] := by rfl) : AI X tg (.Call (.Name "range" p) [e] [] pos) (mRg1 fe) :=
  PI.mono (pi_range1 hg hm (pa_cons ha pa_nil hs) hs) fun σ H R q => eOf_imp (fun v H1 ⟨j, e, a, b, c⟩ => ⟨j, by rw [e], a, b, c⟩) (rg1_of q)
theorem ai_rg2 {tg : Expr} {p : PySem.Pos} (ha : AE X e fe) (hb : AE X e2 fk) (hg : Gl X "range") (hm : X.mg "range" = none) (hs : starEach [e, e2] X.env = [(false, eval e X.env), (false, eval e2 X.env)] := by rfl) (hs2 : starEach [e2] X.env = [(false, eval e2 X.env)] := by rfl) :
    AI X tg (.Call (.Name "range" p) [e, e2] [] pos) (mRg2 fe fk) :=
  PI.mono (pi_range2 hg hm (pa_cons ha (pa_cons hb pa_nil hs2) (by rw [hs, hs2])) hs hs2) fun σ H R q => eOf_imp (fun v H1 q => eOf_imp (fun u H2 ⟨i, j, e1, e2, a, b⟩ => ⟨i, j, by rw [e1, e2], a, b⟩) q) (rg2_of q)
theorem as_put (j : Nat) {x : Str} {px pt : PySem.Pos} (hu : X.A.units + 1 < cLine) (hk : AE X e fk) (hv : AE X e2 fv) (hN : X.N[j]? = some x := by rfl) (hvis : Vis X.env.scope x := by first | exact Or.inl rfl | exact Or.inr (Or.inl rfl) | exact Or.inr (Or.inr rfl))
    (hd : (x == ("__debug__" : Str)) = false := by decide) (hcd : (x == ("__classdict__" : Str)) = false := by decide)
    (ha : ∀ v, assign (.Subscript (.Name x px) e pt) X.env v = (do
      let ov ← holding [v] (eval (.Name x px) X.env)
      let iv ← holding [v, ov] (eval e X.env)
      standAt pt
      holding [v, ov, iv] (setItem ov iv v)
      release [v, ov, iv] []) := by intro _; rfl)
    (hs : swapsWithSole [.Subscript (.Name x px) e pt] e2 pos.line X.env = pure false := by rfl) (hw : swappedStores [.Subscript (.Name x px) e pt] e2 X.env = pure none := by rfl)
    (h1 : (assignEach [.Subscript (.Name x px) e pt] X.env).map (·.2) = [assign (.Subscript (.Name x px) e pt) X.env] := by rfl) : AS X (.Assign [.Subscript (.Name x px) e pt] e2 pos) w (mPut j fk fv) :=
  PS.mono (ps_asg hv (pg_sub (pe_var hN hvis hd hcd) hk (PSet.or set_list (set_dict hu)) ha) hs hw h1) fun D σ H q => put_of q
end
end Zk
namespace Zk
open PySem PySem.Spec PyProof.Rows L2

/-- a def by data: from the arguments its end, how deep it is new, and the changed argument behind it -/
abbrev Mir := List D → Option (D × Nat × D)
section
variable {K : PySem.W.Frag} {Z Z' Zf Z0 : Addr → Prop} {H H' H0 : Hp} {σ : L2.St} {E E' : Ev} {R R' R0 : Rs}
/-- the promise: the argument at io may be changed (it is flat, and ours), the others are frozen -/
def spM (K : PySem.W.Frag) (io : Option Nat) (np : Nat) (M : Mir) : Sp := fun vs H Q _ => ∃ (Z : Addr → Prop) (ds : List D) (rs : Rs), vs.length = np ∧ ds.length = np ∧ (∀ a, Z a → H a ≠ none) ∧
  (∀ i v d, vs[i]? = some v → ds[i]? = some d → if io = some i then flat d = true ∧ Own K Z H 1 v d (rs i) else Rp K Z H v d) ∧ (∀ i, (io = some i → np ≤ i) → rs i = []) ∧ (∀ i, (rs i).Nodup) ∧
  ∃ d n out, M ds = some (d, n, out) ∧ ∀ v Z' H' rs' rr, Step Z H (ow rs) Z' H' (ow rs') → (∀ a, Z' a → H' a ≠ none) →
    (∀ i w, io = some i → vs[i]? = some w → flat out = true ∧ Own K Z' H' 1 w out (rs' i)) → (∀ i, io ≠ some i → rs' i = []) → (∀ i, (rs' i).Nodup) → Own K Z' H' n v d rr → Fr rs H rs' rr → Q v H'
/-- the slots at the entry -/
def ent (io : Option Nat) : Nat → List D → Ev
  | _, [] => []
  | i, d :: ds => some (d, if io = some i then 1 else 0) :: ent io (i + 1) ds
theorem ent_len (io : Option Nat) : ∀ (i : Nat) (ds : List D), (ent io i ds).length = ds.length
  | _, [] => rfl
  | i, d :: ds => by simp [ent, ent_len io (i + 1) ds]
theorem ent_get (io : Option Nat) : ∀ (i : Nat) (ds : List D) (j : Nat), (ent io i ds)[j]? = (ds[j]?).map fun d => some (d, if io = some (i + j) then 1 else 0)
  | _, [], j => by simp [ent]
  | i, d :: ds, 0 => by simp [ent]
  | i, d :: ds, j + 1 => by
    simp only [ent, List.getElem?_cons_succ]
    rw [ent_get io (i + 1) ds j]
    have e : i + 1 + j = i + (j + 1) := by omega
    rw [e]
def ent0 (io : Option Nat) (N : Nat) (ds : List D) : Ev := ent io 0 ds ++ List.replicate (N - ds.length) none
/-- what stands at the changed slot -/
def outAt (io : Option Nat) (E : Ev) : Option D := match io with
  | none => some .non
  | some i => match eg E i with
    | some (d, n + 1) => if flat d = true then some d else none
    | _ => none
def mDef (io : Option Nat) (N : Nat) (f : Fs) : Mir := fun ds => (f (ent0 io N ds)).bind fun p => match p.1 with
  | .nx => (outAt io p.2).map fun o => (.non, 9, o)
  | .rt d n => (outAt io p.2).map fun o => (d, n, o)
  | _ => none
theorem Own.flatTo {n m : Nat} {v : V} {d : D} {rs : List Addr} (f : flat d = true) (h : Own K Z H (n + 1) v d rs) (nz : ∀ a ∈ rs, ¬ Z' a) : Own K Z' H (m + 1) v d rs := by
  have tp : ∀ a o, H a = some o → ¬ Mut (some o) → H a = some o := fun _ _ h _ => h
  cases d with
  | lst ds =>
    have i : imms ds = true := by simpa [flat] using f
    obtain ⟨a, vs, rss, e, ha, z, al, er⟩ := h
    obtain ⟨r, e2⟩ := al.immRps i
    subst er
    exact ⟨a, vs, _, e, ha, nz a List.mem_cons_self, All3.ofRpsI (r.immz tp i) i, by rw [e2, flat_nils]⟩
  | dK ds =>
    have i : imms (ds.map (·.2)) = true := by simpa [flat] using f
    obtain ⟨a, vs, rss, e, ha, z, e1, al, er⟩ := h
    obtain ⟨r, e2⟩ := al.immRps i
    subst er
    exact ⟨a, vs, _, e, ha, nz a List.mem_cons_self, e1, All3.ofRpsI (r.immz tp i) i, by rw [e2, flat_nils]⟩
  | dT ds =>
    have i : imms (ds.map (·.2)) = true := by simpa [flat] using f
    obtain ⟨a, vs, rss, e, ha, z, e1, al, er⟩ := h
    obtain ⟨r, e2⟩ := al.immRps i
    subst er
    exact ⟨a, vs, _, e, ha, nz a List.mem_cons_self, e1, All3.ofRpsI (r.immz tp i) i, by rw [e2, flat_nils]⟩
  | set xs =>
    obtain ⟨a, T, k, e, ha, z, e1, e2, e3, er⟩ := h
    subst er
    exact ⟨a, T, k, e, ha, nz a (by simp), e1, e2, e3, rfl⟩
  | _ => simp [flat] at f
/-- a def's body: its promise -/
theorem body_of {io : Option Nat} {N : List Str} {w : List Nat} {f : Fs} {vs : List V} {np : Nat} {Q : VK} {X : XK} (hN : np ≤ N.length) (hio : ∀ i, io = some i → i ∉ w) (q : spM K io np (mDef io N.length f) vs H Q X) :
    sOf K w f { nx := fun _ H' => Q .non H', rt := Q } (L2.start N vs) H := by
  obtain ⟨Z, ds, rs, lv, ld, hz, args, rn, rnd, d, n, out, e, q⟩ := q
  have st : ∀ i, (L2.start N vs)[i]? = if i < np then (vs[i]?).map some else if i < N.length then some none else none := fun i => by
    unfold L2.start
    by_cases h : i < np
    · rw [if_pos h, List.getElem?_append_left (by simp; omega), List.getElem?_map]
    · rw [if_neg h, List.getElem?_append_right (by simp; omega), List.getElem?_replicate]
      simp only [List.length_map]
      split <;> split <;> first | rfl | omega
  have se : ∀ i, eg (ent0 io N.length ds) i = (ds[i]?).map fun d => (d, if io = some i then 1 else 0) := fun i => by
    unfold eg ent0
    by_cases h : i < ds.length
    · rw [List.getElem?_append_left (by rw [ent_len]; exact h), ent_get]
      cases ds[i]? <;> simp
    · rw [List.getElem?_append_right (by rw [ent_len]; omega), List.getElem?_replicate, List.getElem?_eq_none (by omega)]
      split <;> rfl
  have s : S K Z H (L2.start N vs) (ent0 io N.length ds) rs := by
    refine ⟨?_, fun i d n e => ?_, fun i e => ?_, rnd, fun i j a h1 h2 => ?_, hz⟩
    · unfold L2.start ent0
      simp [ent_len, lv, ld]
    · rw [se] at e
      cases g : ds[i]? with
      | none => rw [g] at e; cases e
      | some d' =>
        rw [g] at e
        cases e
        have hi : i < np := by have := (List.getElem?_eq_some_iff.mp g).1; omega
        have hv : i < vs.length := by omega
        refine ⟨vs[i], by rw [st, if_pos hi, List.getElem?_eq_getElem hv]; rfl, ?_⟩
        have a := args i vs[i] _ (List.getElem?_eq_getElem hv) g
        by_cases c : io = some i
        · rw [if_pos c] at a ⊢; exact a.2
        · rw [if_neg c] at a ⊢; exact ⟨rn i (fun z => absurd z c), a⟩
    · by_cases c : io = some i
      · rw [se] at e
        cases g : ds[i]? with
        | some d' => rw [g] at e; cases e
        | none =>
          have hi : ¬ i < np := by
            intro h
            rw [List.getElem?_eq_getElem (by omega)] at g; cases g
          exact rn i fun _ => by omega
      · exact rn i fun z => absurd z c
    · by_cases c1 : io = some i
      · by_cases c2 : io = some j
        · rw [c1] at c2; exact Option.some.inj c2
        · rw [rn j (fun z => absurd z c2)] at h2; simp at h2
      · rw [rn i (fun z => absurd z c1)] at h1; simp at h1
  unfold mDef at e
  cases e1 : f (ent0 io N.length ds) with
  | none => rw [e1] at e; cases e
  | some p =>
    obtain ⟨fl, E'⟩ := p
    rw [e1] at e
    simp only [Option.bind_some] at e
    refine ⟨Z, _, rs, s, fl, E', e1, fun σ' Z' H' R' s' t' k' => ?_⟩
    have fin : ∀ (d0 : D) (n0 : Nat), (outAt io E').map (fun o => (d0, n0, o)) = some (d, n, out) → ∀ v rr, Own K Z' H' n0 v d0 rr → Fr rs H R' rr → Q v H' := fun d0 n0 e v rr o fr => by
      cases g : outAt io E' with
      | none => rw [g] at e; cases e
      | some o' =>
        rw [g] at e
        cases e
        refine q v Z' H' (fun i => if io = some i then R' i else []) rr ⟨t'.zz, t'.zn, t'.hh, fun a ⟨i, h⟩ => ?_, t'.dm⟩ s'.zd (fun i w hio' hw => ?_) (fun i hi => if_neg hi) (fun i => ?_) o ⟨fr.nd, fun a m ⟨i, h⟩ => ?_, fr.of⟩
        · simp only at h
          split at h
          · exact t'.on a ⟨i, h⟩
          · simp at h
        · subst hio'
          simp only [outAt] at g
          cases g2 : eg E' i with
          | none => rw [g2] at g; cases g
          | some dn =>
            obtain ⟨d1, n1⟩ := dn
            cases n1 with
            | zero => rw [g2] at g; cases g
            | succ n1 =>
              rw [g2] at g
              simp only at g
              split at g
              · rename_i hf
                cases g
                obtain ⟨u, hu, ou⟩ := s'.slot i _ _ g2
                have hi : i < vs.length := (List.getElem?_eq_some_iff.mp hw).1
                rw [k' i (hio i rfl), st, if_pos (by omega), hw] at hu
                cases hu
                rw [if_pos rfl]
                exact ⟨hf, ou.flatTo hf fun a m => (ou.mut a m).2⟩
              · cases g
        · split
          · exact s'.nd i
          · exact List.nodup_nil
        · simp only at h
          split at h
          · exact fr.no a m ⟨i, h⟩
          · simp at h
    cases fl with
    | nx => exact fin _ _ e .non [] (Own.ofImm .non (by simp)) .nil
    | rt d0 n0 => exact fin _ _ e
    | bk => cases e
    | ct => cases e
end
end Zk
namespace Zk
open PySem PySem.Spec PyProof.Rows L2

def isSlot (j : Nat) : Op → Bool
  | .slot i => i == j
  | _ => false
def dem1 (E : Ev) : Op → Ev
  | .slot j => match eg E j with
    | some (d, _) => if imm d = true then E else E.set j (some (d, 0))
    | none => E
  | _ => E
def dem (E : Ev) (os : List Op) : Ev := os.foldl dem1 E
def flAt (E : Ev) (j : Nat) : Option Nat := match eg E j with
  | some (d, n + 1) => if flat d = true then some (n + 1) else none
  | _ => none
def mCall (io : Option Nat) (M : Mir) (fa : Fa) : Fe := fun E => (fa E).bind fun p => (rdL p.2 p.1).bind fun ds => (M ds).bind fun r => match io with
  | none => if imm r.1 = true then some (.val r.1 9, p.2) else some (.val r.1 r.2.1, dem p.2 p.1)
  | some i => match p.1[i]? with
    | some (.slot j) => (flAt p.2 j).bind fun n => if (p.1.eraseIdx i).all (fun o => !isSlot j o) = true then
        (if imm r.1 = true then some (.val r.1 9, p.2.set j (some (r.2.2, n))) else some (.val r.1 r.2.1, (dem p.2 (p.1.eraseIdx i)).set j (some (r.2.2, n)))) else none
    | _ => none
section
variable {K : PySem.W.Frag} {Z Z' Zf Z0 Z1 : Addr → Prop} {H H' H0 H1 : Hp} {σ : L2.St} {E E' E1 : Ev} {R R' R0 R1 : Rs}
theorem rdL_get : ∀ {os : List Op} {ds : List D}, rdL E os = some ds → ds.length = os.length ∧ ∀ {i : Nat} {o : Op}, os[i]? = some o → ∃ d, ds[i]? = some d ∧ rd E o = some d
  | [], ds, h => by
    cases h
    exact ⟨rfl, fun h => by simp at h⟩
  | o :: os, ds, h => by
    simp only [rdL] at h
    cases q : rd E o with
    | none => rw [q] at h; cases h
    | some d =>
      rw [q] at h
      cases q2 : rdL E os with
      | none => rw [q2] at h; cases h
      | some es =>
        rw [q2] at h
        cases h
        obtain ⟨l, g⟩ := rdL_get q2
        refine ⟨by simp [l], fun {i o'} h => ?_⟩
        cases i with
        | zero => simp at h; subst h; exact ⟨d, rfl, q⟩
        | succ i => obtain ⟨d', h1, h2⟩ := g (i := i) (o := o') (by simpa using h); exact ⟨d', by simpa using h1, h2⟩
/-- the call, where the end is unchangeable or no slot that is given owns anything -/
theorem S.call (s : S K Z1 H1 σ E1 R1) (t1 : Step Z H (ow R) Z1 H1 (ow R1)) {vs : List V} {os : List Op} {rss : List (List Addr)} {ds : List D} (args : All3 (OV K Z1 H1 σ) vs os rss) (fr : Fr R H R1 rss.flatten) (hd : rdL E1 os = some ds)
    {io : Option Nat} {j n0 : Nat} (hio : ∀ i, io = some i → os[i]? = some (.slot j) ∧ flAt E1 j = some n0 ∧ ∀ p o, p ≠ i → os[p]? = some o → o ≠ .slot j) {M : Mir} {d : D} {n : Nat} {out : D} (hM : M ds = some (d, n, out))
    (hc : imm d = true ∨ ∀ p k, io ≠ some p → os[p]? = some (.slot k) → R1 k = []) {Q : VK} {X : XK}
    (q : ∀ v Z' H' R' rs, S K Z' H' σ (if io = none then E1 else E1.set j (some (out, n0))) R' → Step Z H (ow R) Z' H' (ow R') → Own K Z' H' n v d rs → Fr R H R' rs → Q v H') : spM K io os.length M vs H1 Q X := by
  have lens := args.len
  obtain ⟨ld, gd⟩ := rdL_get hd
  -- what is lent
  let bo : Addr → Prop := fun a => ∃ p k, io ≠ some p ∧ os[p]? = some (.slot k) ∧ a ∈ R1 k
  have boow : ∀ a, bo a → ow R1 a := fun a ⟨p, k, _, _, m⟩ => ⟨k, m⟩
  let Zp : Addr → Prop := fun a => Z1 a ∨ bo a ∨ a ∈ rss.flatten
  have pp : Pers Z1 H1 Zp H1 := ⟨fun _ h => .inl h, fun _ _ _ h => h, fun _ _ h _ => h⟩
  have rth : ∀ a ∈ rss.flatten, H1 a ≠ none := by
    clear hd gd ld hio hc lens fr
    revert bo Zp
    intro bo boow Zp pp
    clear boow pp
    induction args with
    | nil => intro a m; simp at m
    | cons h t ih =>
      intro a m
      rw [List.flatten_cons, List.mem_append] at m
      rcases m with m | m
      · exact OV.there h a m
      · exact ih a m
  let rs0 : Rs := fun k => if io = some k ∧ k < os.length then R1 j else []
  have rs0ow : ∀ a, ow rs0 a → io ≠ none ∧ a ∈ R1 j := fun a ⟨k, m⟩ => by
    simp only [rs0] at m
    split at m
    · rename_i h
      exact ⟨by rw [h.1]; simp, m⟩
    · simp at m
  refine ⟨Zp, ds, rs0, by rw [lens.1], ld, fun a z => ?_, fun i v dd hv hdd => ?_, fun i hi => ?_, fun i => ?_, d, n, out, hM, fun v Z' H' rs' rr t2 zd' hout rs'n rs'nd o f2 => ?_⟩
  · rcases z with z | z | z
    · exact s.zd a z
    · exact s.there (boow a z)
    · exact rth a z
  · have hio' : i < os.length := by rw [← ld]; exact (List.getElem?_eq_some_iff.mp hdd).1
    obtain ⟨v', rsi, h1, h2, ovi⟩ := args.get (List.getElem?_eq_getElem hio')
    rw [hv] at h1
    cases h1
    obtain ⟨d', h3, h4⟩ := gd (List.getElem?_eq_getElem hio')
    rw [hdd] at h3
    cases h3
    by_cases c : io = some i
    · rw [if_pos c]
      obtain ⟨g1, g2, g3⟩ := hio i c
      rw [List.getElem?_eq_getElem hio'] at g1
      have eo := Option.some.inj g1
      rw [eo] at ovi h4
      unfold flAt at g2
      cases g : eg E1 j with
      | none => rw [g] at g2; cases g2
      | some dn =>
        obtain ⟨d1, n1⟩ := dn
        cases n1 with
        | zero => rw [g] at g2; cases g2
        | succ n1 =>
          rw [g] at g2
          simp only at g2
          split at g2
          · rename_i hf
            simp only [Zk.rd, g, Option.map_some, Option.some.injEq] at h4
            subst h4
            obtain ⟨u, hu, ou⟩ := s.slot j _ _ g
            rw [ovi.1] at hu
            cases hu
            refine ⟨hf, ?_⟩
            have e0 : rs0 i = R1 j := if_pos ⟨c, hio'⟩
            rw [e0]
            refine ou.flatTo hf fun a m z => ?_
            rcases z with z | ⟨p, k, hp, hk, mk⟩ | z
            · exact (ou.mut a m).2 z
            · have ek := s.dj j k a m mk
              subst ek
              exact g3 p _ (fun e => hp (by rw [c, e])) hk rfl
            · exact fr.no a z ⟨j, m⟩
          · cases g2
    · rw [if_neg c]
      cases ho : os[i] with
      | slot k =>
        rw [ho] at ovi h4
        simp only [Zk.rd] at h4
        cases g : eg E1 k with
        | none => rw [g] at h4; cases h4
        | some dn =>
          rw [g] at h4
          cases h4
          obtain ⟨u, hu, ou⟩ := s.slot k _ _ g
          rw [ovi.1] at hu
          cases hu
          exact ou.freeze pp fun a m => ⟨rfl, .inr (.inl ⟨i, k, c, by rw [List.getElem?_eq_getElem hio', ho], m⟩)⟩
      | val d2 n2 =>
        rw [ho] at ovi h4
        cases h4
        exact Own.freeze pp (fun a m => ⟨rfl, .inr (.inr (mem_flatten_of (List.mem_of_getElem? h2) m))⟩) ovi
  · exact if_neg fun h => by
      have := hi h.1
      omega
  · simp only [rs0]
    split
    · exact s.nd j
    · exact List.nodup_nil
  -- behind the call
  have bo0 : (imm d = true) ∨ ∀ a, ¬ bo a := hc.imp id fun h a ⟨p, k, h1, h2, m⟩ => by
    rw [h p k h1 h2] at m; simp at m
  let Z2 : Addr → Prop := fun a => Z' a ∧ ¬ bo a
  have rs0R : ∀ a, ow rs0 a → ow R1 a := fun a h => ⟨j, (rs0ow a h).2⟩
  have same : ∀ a, (∃ o, H1 a = some o) → ¬ ow rs0 a → H' a = H1 a := fun a ⟨o, ho⟩ h => by rw [ho]; exact t2.hh a o ho h
  have tp : ∀ a o, H1 a = some o → ¬ Mut (some o) → H' a = some o := fun a o ho hm => t2.hh a o ho fun h => hm (by have := (s.owns (rs0R a h)).1; rw [ho] at this; exact this)
  have p2 : Pers Z1 H1 Z2 H' := ⟨fun a z => ⟨t2.zz a (.inl z), fun b => (s.owns (boow a b)).2 z⟩, fun a o z ho => t2.hh a o ho fun h => (s.owns (rs0R a h)).2 z, tp⟩
  have z2no : ∀ a, ow R1 a → ¬ ow rs0 a → ¬ Z2 a := fun a h h0 z => by
    rcases t2.zn a z.1 with (y | y | y) | y | y
    · exact (s.owns h).2 y
    · exact z.2 y
    · exact fr.no a y h
    · exact s.there h y
    · exact h0 y
  let R2 : Rs := fun k => if io ≠ none ∧ k = j then rs' (io.getD 0) else R1 k
  have ow2 : ∀ a, ow R2 a → ow R1 a ∨ ow rs' a := fun a ⟨k, m⟩ => by
    simp only [R2] at m
    split at m
    · exact .inr ⟨_, m⟩
    · exact .inl ⟨k, m⟩
  have rs'on : ∀ a, ow rs' a → ow rs0 a ∨ H1 a = none := t2.on
  have j0 : ∀ i, io = some i → j < E1.length ∧ ∃ w, σ[j]? = some (some w) ∧ vs[i]? = some w := fun i c => by
    obtain ⟨g1, g2, g3⟩ := hio i c
    unfold flAt at g2
    cases g : eg E1 j with
    | none => rw [g] at g2; cases g2
    | some dn =>
      refine ⟨eg_lt g, ?_⟩
      have hi := (List.getElem?_eq_some_iff.mp g1).1
      obtain ⟨v', rsi, h1, h2, ovi⟩ := args.get g1
      exact ⟨v', ovi.1, h1⟩
  have s2 : S K Z2 H' σ (if io = none then E1 else E1.set j (some (out, n0))) R2 := by
    have old : ∀ k d n, eg E1 k = some (d, n) → (∀ i, io = some i → k ≠ j) → ∃ v, σ[k]? = some (some v) ∧ Own K Z2 H' n v d (R1 k) := fun k d n g hk => by
      obtain ⟨u, hu, ou⟩ := s.slot k d n g
      have nrs : ∀ a ∈ R1 k, ¬ ow rs0 a := fun a m h => by
        obtain ⟨h1, h2⟩ := rs0ow a h
        cases hio2 : io with
        | none => exact h1 hio2
        | some i => exact hk i hio2 (s.dj k j a m h2)
      refine ⟨u, hu, ou.keep p2 fun a m => ⟨same a ?_ (nrs a m), z2no a ⟨k, m⟩ (nrs a m)⟩⟩
      cases hh : H1 a with
      | none => exact absurd hh (s.there ⟨k, m⟩)
      | some o => exact ⟨o, rfl⟩
    cases hio2 : io with
    | none =>
      rw [if_pos rfl]
      have eR : R2 = R1 := by funext k; exact if_neg fun h => h.1 hio2
      rw [eR]
      exact ⟨s.len, fun k d n g => old k d n g (fun i e => by rw [hio2] at e; cases e), s.emp, s.nd, s.dj, fun a z => zd' a z.1⟩
    | some i =>
      rw [if_neg (by simp)]
      obtain ⟨hj, w, hw, hvw⟩ := j0 i hio2
      obtain ⟨fo, oo⟩ := hout i w hio2 hvw
      have eR : R2 = put R1 j (rs' i) := by
        funext k
        simp only [R2, hio2, put, Option.getD_some]
        by_cases c : k = j <;> simp [c]
      have nR : ∀ a ∈ rs' i, ∀ k, k ≠ j → a ∉ R1 k := fun a m k hk mk => by
        rcases rs'on a ⟨i, m⟩ with h | h
        · exact hk (s.dj k j a mk (rs0ow a h).2)
        · exact s.there ⟨k, mk⟩ h
      rw [eR]
      refine ⟨by simp [s.len], fun k d n g => ?_, fun k g => ?_, fun k => ?_, fun k l a h1 h2 => ?_, fun a z => zd' a z.1⟩
      · by_cases c : k = j
        · subst c
          rw [eg_set_same hj] at g
          cases g
          refine ⟨w, hw, ?_⟩
          rw [put_same]
          obtain ⟨_, g2, _⟩ := hio i hio2
          have e0 : ∃ n1, n0 = n1 + 1 := by
            unfold flAt at g2
            split at g2
            · split at g2
              · cases g2; exact ⟨_, rfl⟩
              · cases g2
            · cases g2
          obtain ⟨n1, e0⟩ := e0
          rw [e0]
          exact oo.flatTo fo fun a m z => (oo.mut a m).2 z.1
        · rw [eg_set_ne c] at g
          rw [put_ne c]
          exact old k d n g fun _ _ => c
      · by_cases c : k = j
        · subst c; rw [eg_set_same hj] at g; cases g
        · rw [eg_set_ne c] at g; rw [put_ne c]; exact s.emp k g
      · by_cases c : k = j
        · subst c; rw [put_same]; exact rs'nd i
        · rw [put_ne c]; exact s.nd k
      · by_cases c : k = j
        · subst c
          rw [put_same] at h1
          by_cases c2 : l = k
          · exact c2.symm
          · rw [put_ne c2] at h2; exact absurd h2 (nR a h1 l c2)
        · rw [put_ne c] at h1
          by_cases c2 : l = j
          · subst c2; rw [put_same] at h2; exact absurd h1 (nR a h2 k c)
          · rw [put_ne c2] at h2; exact s.dj k l a h1 h2
  have back : ∀ a, H1 a = none → H a = none := fun a h => by
    cases c : H a with
    | none => rfl
    | some o => exact absurd h (t1.dm a (by rw [c]; simp))
  have t3 : Step Z H (ow R) Z2 H' (ow R2) := by
    refine ⟨fun a z => p2.zz a (t1.zz a z), fun a z => ?_, fun a o ho h => ?_, fun a h => ?_, fun a h => t2.dm a (t1.dm a h)⟩
    · rcases t2.zn a z.1 with (y | y | y) | y | y
      · exact t1.zn a y
      · exact absurd y z.2
      · rcases fr.of a y with y | y
        · exact .inr (.inr y)
        · exact .inr (.inl y)
      · exact .inr (.inl (back a y))
      · rcases t1.on a (rs0R a y) with y | y
        · exact .inr (.inr y)
        · exact .inr (.inl y)
    · refine t2.hh a o (t1.hh a o ho h) fun h0 => ?_
      rcases t1.on a (rs0R a h0) with y | y
      · exact h y
      · rw [ho] at y; cases y
    · rcases ow2 a h with y | y
      · exact t1.on a y
      · rcases rs'on a y with y | y
        · exact t1.on a (rs0R a y)
        · exact .inr (back a y)
  have fro : ∀ a ∈ rr, ¬ ow R2 a := fun a m h => by
    rcases ow2 a h with y | y
    · rcases f2.of a m with z | z
      · -- the slot j alone
        obtain ⟨k, mk⟩ := h
        obtain ⟨h1, h2⟩ := rs0ow a z
        simp only [R2] at mk
        split at mk
        · exact f2.no a m ⟨_, mk⟩
        · rename_i hk
          exact hk ⟨h1, s.dj k j a mk h2⟩
      · exact s.there y z
    · exact f2.no a m y
  have frf : ∀ a ∈ rr, ow R a ∨ H a = none := fun a m => by
    rcases f2.of a m with z | z
    · exact t1.on a (rs0R a z)
    · exact .inr (back a z)
  rcases bo0 with hi | hb
  · obtain ⟨rfl, rp⟩ := o.imm hi
    exact q v Z2 H' R2 [] s2 t3 (Own.ofImm (rp.immz (fun _ _ h _ => h) hi) hi) ⟨List.nodup_nil, fun a m => by simp at m, fun a m => by simp at m⟩
  · have eZ : Z2 = Z' := by
      funext a
      simp only [Z2, eq_iff_iff]
      exact ⟨fun h => h.1, fun h => ⟨h, hb a⟩⟩
    rw [eZ] at s2 t3
    exact q v Z' H' R2 rr s2 t3 o ⟨f2.nd, fro, frf⟩

/-- slots that are given are frozen -/
theorem S.demL : ∀ (os : List Op) {Z1 : Addr → Prop} {E1 : Ev} {R1 : Rs}, S K Z1 H1 σ E1 R1 → ∃ Z2 R2, S K Z2 H1 σ (dem E1 os) R2 ∧ Step Z1 H1 (ow R1) Z2 H1 (ow R2) ∧ (∀ k, Op.slot k ∈ os → R2 k = []) ∧ (∀ k, R1 k = [] → R2 k = []) ∧
    (∀ j, Op.slot j ∉ os → eg (dem E1 os) j = eg E1 j) ∧ (∀ o d, rd E1 o = some d → rd (dem E1 os) o = some d)
  | [], Z1, E1, R1, s => ⟨Z1, R1, s, .refl, fun k h => by simp at h, fun _ h => h, fun _ _ => rfl, fun _ _ h => h⟩
  | o :: os, Z1, E1, R1, s => by
    have one : ∃ Z2 R2, S K Z2 H1 σ (dem1 E1 o) R2 ∧ Step Z1 H1 (ow R1) Z2 H1 (ow R2) ∧ (∀ k, o = .slot k → R2 k = []) ∧ (∀ k, R1 k = [] → R2 k = []) ∧ (∀ j, o ≠ .slot j → eg (dem1 E1 o) j = eg E1 j) ∧ (∀ o' d, rd E1 o' = some d → rd (dem1 E1 o) o' = some d) := by
      cases o with
      | val d n => exact ⟨Z1, R1, s, .refl, (fun k h => nomatch h), (fun _ h => h), (fun _ _ => rfl), fun _ _ h => h⟩
      | slot k =>
        cases g : eg E1 k with
        | none =>
          have ed : dem1 E1 (.slot k) = E1 := by simp [dem1, g]
          rw [ed]
          exact ⟨Z1, R1, s, .refl, (fun k' h => by cases h; exact s.emp k g), (fun _ h => h), (fun _ _ => rfl), fun _ _ h => h⟩
        | some dn =>
          obtain ⟨d, n⟩ := dn
          by_cases i : imm d = true
          · have ed : dem1 E1 (.slot k) = E1 := by simp [dem1, g, i]
            rw [ed]
            refine ⟨Z1, R1, s, .refl, (fun k' h => ?_), (fun _ h => h), (fun _ _ => rfl), fun _ _ h => h⟩
            cases h
            obtain ⟨u, _, ou⟩ := s.slot k d n g
            exact (ou.imm i).1
          · have ed : dem1 E1 (.slot k) = E1.set k (some (d, 0)) := by simp [dem1, g, i]
            rw [ed]
            obtain ⟨s1, t1, f1⟩ := s.freeze g
            refine ⟨_, _, s1, t1, (fun k' h => by cases h; exact put_same), (fun k' h => ?_), (fun j hj => eg_set_ne fun e => hj (by rw [e])), fun o' d' h => ?_⟩
            · by_cases c : k' = k
              · subst c; exact put_same
              · rw [put_ne c]; exact h
            · cases o' with
              | val _ _ => exact h
              | slot j =>
                simp only [Zk.rd] at h ⊢
                by_cases c : j = k
                · subst c
                  rw [g] at h
                  rw [eg_set_same (eg_lt g)]
                  exact h
                · rw [eg_set_ne c]; exact h
    obtain ⟨Z2, R2, s2, t2, a2, b2, c2, d2⟩ := one
    obtain ⟨Z3, R3, s3, t3, a3, b3, c3, d3⟩ := S.demL os s2
    refine ⟨Z3, R3, s3, t2.trans t3, fun k h => ?_, fun k h => b3 k (b2 k h), fun j h => ?_, fun o' d h => d3 o' d (d2 o' d h)⟩
    · rcases List.mem_cons.mp h with h | h
      · exact b3 k (a2 k h.symm)
      · exact a3 k h
    · rw [List.mem_cons, not_or] at h
      exact (c3 j h.2).trans (c2 j fun e => h.1 e.symm)
theorem rdL_mono {E E' : Ev} (h : ∀ o d, rd E o = some d → rd E' o = some d) : ∀ {os : List Op} {ds : List D}, rdL E os = some ds → rdL E' os = some ds
  | [], _, e => e
  | o :: os, ds, e => by
    simp only [rdL] at e ⊢
    cases q : rd E o with
    | none => rw [q] at e; cases e
    | some d =>
      rw [q] at e
      cases q2 : rdL E os with
      | none => rw [q2] at e; cases e
      | some es =>
        rw [q2] at e
        rw [h o d q, rdL_mono h q2]
        exact e
theorem call_of {io : Option Nat} {M : Mir} {fa : Fa} {Q : VK} {X : XK} {H : Hp} (q : eOf K (mCall io M fa) σ H Q) : aOf K fa σ H fun vs H1 => spM K io vs.length M vs H1 Q X := by
  obtain ⟨Z, E, R, s, o, E', e, q⟩ := q
  unfold mCall at e
  cases e1 : fa E with
  | none => rw [e1] at e; cases e
  | some p =>
    obtain ⟨os, E1⟩ := p
    rw [e1] at e
    simp only [Option.bind_some] at e
    cases e2 : rdL E1 os with
    | none => rw [e2] at e; cases e
    | some ds =>
      rw [e2] at e
      simp only [Option.bind_some] at e
      cases e3 : M ds with
      | none => rw [e3] at e; cases e
      | some r =>
        obtain ⟨d, n, out⟩ := r
        rw [e3] at e
        simp only [Option.bind_some] at e
        refine ⟨Z, E, R, s, os, E1, e1, fun vs Z1 H1 R1 rss s1 t1 a1 f1 => ?_⟩
        show spM K io vs.length M vs H1 Q X
        rw [a1.len.1]
        -- the arguments behind some are frozen
        have args' : ∀ {Z2 : Addr → Prop} {E2 : Ev} {R2 : Rs}, S K Z2 H1 σ E2 R2 → Step Z1 H1 (ow R1) Z2 H1 (ow R2) → All3 (OV K Z2 H1 σ) vs os rss ∧ Fr R H R2 rss.flatten := fun {Z2 E2 R2} s2 t2 => by
          refine ⟨a1.imp fun v' o' rs' m hh => ?_, ⟨f1.nd, fun a m h => ?_, f1.of⟩⟩
          · cases o' with
            | slot k => exact hh
            | val d' n' => exact (s1.pend t2 hh fun a ma => f1.no a (mem_flatten_of m ma)).1
          · rcases t2.on a h with z | z
            · exact f1.no a m z
            · have : ∀ {vs : List V} {os : List Op} {rss : List (List Addr)}, All3 (OV K Z1 H1 σ) vs os rss → ∀ a ∈ rss.flatten, H1 a ≠ none := by
                intro vs os rss h
                induction h with
                | nil => intro a m; simp at m
                | cons h t ih =>
                  intro a m
                  rw [List.flatten_cons, List.mem_append] at m
                  rcases m with m | m
                  · exact OV.there h a m
                  · exact ih a m
              exact this a1 a m z
        cases io with
        | none =>
          simp only at e
          split at e
          · rename_i hi
            cases e
            refine s1.call (j := 0) (n0 := 0) t1 a1 f1 e2 (fun i h => by cases h) e3 (.inl hi) fun v Z' H' R' rs s' t' o' f' => ?_
            obtain ⟨rfl, rp⟩ := o'.imm hi
            exact q v Z' H' R' [] s' t' (Own.ofImm rp hi) .nil
          · cases e
            obtain ⟨Z2, R2, s2, t2, g2, b2, c2, d2⟩ := s1.demL os
            obtain ⟨a3, f3⟩ := args' s2 t2
            exact s2.call (j := 0) (n0 := 0) (t1.trans t2) a3 f3 (rdL_mono d2 e2) (fun i h => by cases h) e3 (.inr fun p k _ h => g2 k (List.mem_of_getElem? h)) fun v Z' H' R' rs s' t' o' f' => q v Z' H' R' rs s' t' o' f'
        | some i =>
          simp only at e
          split at e
          · rename_i j hj
            cases e4 : flAt E1 j with
            | none => rw [e4] at e; cases e
            | some n0 =>
              rw [e4] at e
              simp only [Option.bind_some] at e
              split at e
              · rename_i hall
                have alone : ∀ p o, p ≠ i → os[p]? = some o → o ≠ .slot j := fun p o hp ho ee => by
                  have m : o ∈ os.eraseIdx i := by
                    rw [List.mem_eraseIdx_iff_getElem?]
                    exact ⟨p, hp, ho⟩
                  have := List.all_eq_true.mp hall o m
                  rw [ee] at this
                  simp [isSlot] at this
                split at e
                · rename_i hi
                  cases e
                  refine s1.call (j := j) (n0 := n0) t1 a1 f1 e2 (fun i' h => by cases h; exact ⟨hj, e4, alone⟩) e3 (.inl hi) fun v Z' H' R' rs s' t' o' f' => ?_
                  obtain ⟨rfl, rp⟩ := o'.imm hi
                  exact q v Z' H' R' [] (by simpa using s') t' (Own.ofImm rp hi) .nil
                · cases e
                  obtain ⟨Z2, R2, s2, t2, g2, b2, c2, d2⟩ := s1.demL (os.eraseIdx i)
                  obtain ⟨a3, f3⟩ := args' s2 t2
                  have nj : Op.slot j ∉ os.eraseIdx i := fun m => by
                    have := List.all_eq_true.mp hall _ m
                    simp [isSlot] at this
                  refine s2.call (j := j) (n0 := n0) (t1.trans t2) a3 f3 (rdL_mono d2 e2) (fun i' h => by
                    cases h
                    refine ⟨hj, ?_, alone⟩
                    unfold flAt at e4 ⊢
                    rw [c2 j nj]; exact e4) e3 (.inr fun p k hp h => g2 k ?_) fun v Z' H' R' rs s' t' o' f' => q v Z' H' R' rs (by simpa using s') t' o' f'
                  rw [List.mem_eraseIdx_iff_getElem?]
                  exact ⟨p, fun e => hp (by rw [e]), h⟩
              · cases e
          · cases e
end
section
variable {P : Program} {w : World} {K : PySem.W.Frag} {mg : Str → Option Value} {base : Heap}
theorem spM_len {io : Option Nat} {np : Nat} {M : Mir} {vs : List V} {H : Hp} {Q : VK} {X : XK} (h : spM K io np M vs H Q X) : vs.length = np := by
  obtain ⟨_, _, _, h, _⟩ := h
  exact h
/-- a def of the text keeps the promise of its mirror -/
theorem _root_.L2.Fun.zk {x qual : Str} {st : Stmt} {f : Addr} {fd : FuncData} {N ps : List Str} {k : Nat} {wr : List Nat} {fs : Fs} (F : Fun K x qual st f fd) (Sc : FnScope N ps (defScope st)) (io : Option Nat) (hN : ps.length ≤ N.length) (hio : ∀ i, io = some i → i ∉ wr)
    (hb : ∀ (cdv : Value) (A : Around) (outer : List Env) (s : Shared) (H : Hp) (E : XK), Room k (A.deeper (envOfC qual (defScope st) s.heap.objs.size f cdv)) →
      ASs (cxOf CX0 P w K mg base N qual (defScope st) f cdv A outer s H E).nox (defBody st) wr fs) : FnOk P w K mg base CX0 (k + 1) f fd ps (spM K io ps.length (mDef io N.length fs)) :=
  F.ok Sc (fun vs H Q E h => spM_len h) fun cdv A outer s H vs Q E hr h => ⟨_, hb cdv A outer s H E hr, body_of hN hio h⟩
theorem Room.u65 {k : Nat} {A : Around} (hr : Room k A) : A.units + 65 < cLine := by have := hr.un; omega
variable {X : Cx} {k : Nat} {f : Addr} {fd : FuncData} {ps : List Str} {x : Str} {p pos : PySem.Pos} {e : Expr} {es : List Expr} {fa : Fa} {M : Mir} {io : Option Nat}
theorem PA.len {t : TA} (h : PA X es t) : True := trivial
/-- f(e, ..) -/
theorem ae_call {np : Nat} (F : FnOk X.prog X.w X.K X.mg X.base CX0 k f fd ps (spM X.K io np M)) (hr : Room k X.A) (hg : Gl X x) (hm : X.mg x = some (.ref f)) (hk : PySem.W.keepIn X.K (.ref f) = true) (hb : Binds X.K fd ps []) (ha : AA X (e :: es) fa)
    (hnp : ∀ E os E', fa E = some (os, E') → os.length = np) (hdb : (x == ("__debug__" : Str)) = false := by decide) (he : starEach (e :: es) X.env = (false, eval e X.env) :: starEach es X.env := by rfl) (hpl : (backTo pos (starEach es X.env)).any (·.1) = false := by rfl) :
    AE X (.Call (.Name x p) (e :: es) [] pos) (mCall io M fa) := PE.mono (pe_call F hr hg hm hk hb .nil pass0 ha hdb he hpl) fun σ H Q q => by
  obtain ⟨Z, E, R, s, os, E', e1, q⟩ := call_of (X := E0) q
  refine ⟨Z, E, R, s, os, E', e1, fun vs Z' H' R' rss s' t' a' f' => ?_⟩
  have h : spM X.K io vs.length M vs H' Q E0 := q vs Z' H' R' rss s' t' a' f'
  show spM X.K io np M (vs ++ []) H' Q E0
  rw [List.append_nil]
  rw [a'.len.1, hnp E os E' e1] at h
  exact h
theorem np0 : ∀ E os E', mA0 E = some (os, E') → os.length = 0 := fun E os E' h => by cases h; rfl
theorem npc {a : Fe} {b : Fa} {n : Nat} (h : ∀ E os E', b E = some (os, E') → os.length = n) : ∀ E os E', mAc a b E = some (os, E') → os.length = n + 1 := fun E os E' e => by
  unfold mAc at e
  cases e1 : a E with
  | none => rw [e1] at e; cases e
  | some p =>
    rw [e1] at e
    simp only [Option.bind_some] at e
    cases e2 : b p.2 with
    | none => rw [e2] at e; cases e
    | some q =>
      rw [e2] at e
      cases e
      simp [h p.2 q.1 q.2 e2]
end
end Zk
namespace Zk
open PySem PySem.Spec PyProof.Rows L2

section
variable {K : PySem.W.Frag} {Z Z' Zf Z0 Z1 : Addr → Prop} {H H' H0 H1 : Hp} {σ σ' : L2.St} {E E' E1 : Ev} {R R' R0 R1 : Rs}
def wipeE (E : Ev) : List Nat → Ev
  | [] => E
  | i :: is => wipeE (E.set i none) is
/-- the slots is of E' as they were in E -/
def backE (E : Ev) (E' : Ev) : List Nat → Ev
  | [] => E'
  | i :: is => backE E (E'.set i (eg E i)) is
def lcM (g : Fg) (c : Ft) (f : Fe) (is : List Nat) : List D → Ev → List (D × Nat) → Option (List (D × Nat) × Ev)
  | [], E, acc => some (acc, E)
  | d :: ds, E, acc => (g d E).bind fun E1 => (c E1).bind fun q => if q.1 = true then
      (f q.2).bind fun r => (tk r.2 r.1).bind fun t => if acc.length < sizeLine then lcM g c f is ds (wipeE t.2.2 is) (acc ++ [(t.1, t.2.1)]) else none
    else lcM g c f is ds (wipeE q.2 is) acc
def mLc (it : Fi) (is : List Nat) (g : Fg) (c : Ft) (f : Fe) : Fe := fun E => (it E).bind fun p => (lcM g c f is p.1 (wipeE p.2 is) []).map fun q => (.val (.lst (q.1.map (·.1))) (uni q.1), backE p.2 q.2 is)
def mYes : Ft := fun E => some (true, E)

theorem S.sigma (s : S K Z H σ E R) (hl : σ'.length = σ.length) (h : ∀ i, eg E i ≠ none → σ'[i]? = σ[i]?) : S K Z H σ' E R :=
  ⟨by rw [hl]; exact s.len, fun i d n e => by
    obtain ⟨v, h1, h2⟩ := s.slot i d n e
    exact ⟨v, by rw [h i (by rw [e]; simp)]; exact h1, h2⟩, s.emp, s.nd, s.dj, s.zd⟩
/-- the slots is are forgotten -/
theorem S.wipe : ∀ (is : List Nat) {E : Ev} {R : Rs}, S K Z H σ E R → ∃ R', S K Z H σ (wipeE E is) R' ∧ (∀ k, k ∉ is → R' k = R k) ∧ (∀ k ∈ is, R' k = []) ∧ (∀ k, k ∉ is → eg (wipeE E is) k = eg E k) ∧ (∀ k ∈ is, eg (wipeE E is) k = none)
  | [], E, R, s => ⟨R, s, fun _ _ => rfl, fun _ h => by simp at h, fun _ _ => rfl, fun _ h => by simp at h⟩
  | i :: is, E, R, s => by
    have non : eg (E.set i none) i = none := by
      by_cases hi : i < E.length
      · exact eg_set_same hi
      · unfold eg; rw [List.getElem?_eq_none (by simp; omega)]; rfl
    obtain ⟨R', s', h1, h2, h3, h4⟩ := S.wipe is (s.dropSlot (i := i))
    refine ⟨R', s', fun k hk => ?_, fun k hk => ?_, fun k hk => ?_, fun k hk => ?_⟩
    · rw [List.mem_cons, not_or] at hk
      rw [h1 k hk.2, put_ne hk.1]
    · by_cases c : k ∈ is
      · exact h2 k c
      · have e : k = i := (List.mem_cons.mp hk).resolve_right c
        subst e
        rw [h1 k c, put_same]
    · rw [List.mem_cons, not_or] at hk
      simp only [wipeE]
      rw [h3 k hk.2, eg_set_ne hk.1]
    · by_cases c : k ∈ is
      · exact h4 k c
      · have e : k = i := (List.mem_cons.mp hk).resolve_right c
        subst e
        simp only [wipeE]
        rw [h3 k c, non]
theorem wipeE_len : ∀ (is : List Nat) (E : Ev), (wipeE E is).length = E.length
  | [], _ => rfl
  | i :: is, E => by simp only [wipeE]; rw [wipeE_len is]; simp
theorem backE_get : ∀ (is : List Nat) (E E' : Ev), (backE E E' is).length = E'.length ∧ ∀ k, eg (backE E E' is) k = if k ∈ is ∧ k < E'.length then eg E k else eg E' k
  | [], E, E' => ⟨rfl, fun k => by simp [backE]⟩
  | i :: is, E, E' => by
    obtain ⟨h1, h2⟩ := backE_get is E (E'.set i (eg E i))
    refine ⟨by simp only [backE]; rw [h1]; simp, fun k => ?_⟩
    simp only [backE]
    rw [h2 k]
    simp only [List.length_set, List.mem_cons]
    by_cases c : k ∈ is ∧ k < E'.length
    · rw [if_pos c, if_pos ⟨.inr c.1, c.2⟩]
    · rw [if_neg c]
      by_cases c2 : k = i
      · subst c2
        by_cases c3 : k < E'.length
        · rw [eg_set_same c3, if_pos ⟨.inl rfl, c3⟩]
        · rw [if_neg (fun h => c3 h.2)]
          unfold eg
          rw [List.getElem?_eq_none (by simp; omega), List.getElem?_eq_none (by omega)]
      · rw [eg_set_ne c2, if_neg]
        rintro ⟨h | h, hl⟩
        · exact c2 h
        · exact c ⟨h, hl⟩
/-- a changeable thing that is no slot's is changed -/
theorem S.free (s : S K Z H σ E R) {p : Addr} {o o' : HO} (hp : H p = some o) (mu : Mut (some o)) (no : ¬ ow R p) (nz : ¬ Z p) : S K Z (upd H p o') σ E R ∧ Pers Z H Z (upd H p o') := by
  have pz : Pers Z H Z (upd H p o') := ⟨fun _ h => h, fun b u z e => by
    have ne : b ≠ p := fun e2 => nz (by rw [← e2]; exact z)
    rw [upd_ne ne]; exact e, fun b u e n => by
    have ne : b ≠ p := fun e2 => n (by rw [e2, hp] at e; cases e; exact mu)
    rw [upd_ne ne]; exact e⟩
  refine ⟨⟨s.len, fun i d n e => ?_, s.emp, s.nd, s.dj, fun a z => ?_⟩, pz⟩
  · obtain ⟨v, h1, h2⟩ := s.slot i d n e
    exact ⟨v, h1, h2.keep pz fun a m => ⟨upd_ne fun e => no ⟨i, by rw [← e]; exact m⟩, (h2.mut a m).2⟩⟩
  · by_cases c : a = p
    · rw [c, upd_same]; simp
    · rw [upd_ne c]; exact s.zd a z
/-- a list of taken items that is no slot's, told -/
theorem S.oldList (s : S K Z H σ E R) {vs : List V} {ds : List (D × Nat)} {rss : List (List Addr)} (h : TL K Z H vs ds rss) (nd : rss.flatten.Nodup) (no : ∀ a ∈ rss.flatten, ¬ ow R a) {p : Addr} (hp : H p = some (.lst vs)) (nz : ¬ Z p) (pne : ∀ a ∈ rss.flatten, a ≠ p) :
    ∃ Zf rs, S K Zf H σ E R ∧ Own K Zf H (uni ds) (.ref p) (.lst (ds.map (·.1))) rs ∧ rs.Nodup ∧ (∀ a ∈ rs, a = p ∨ a ∈ rss.flatten) ∧ (∀ a, Z a → Zf a) ∧ (∀ a, Zf a → Z a ∨ a ∈ rss.flatten) := by
  have th := TL.there h
  have froz : ∃ Zf rs, S K Zf H σ E R ∧ Own K Zf H 1 (.ref p) (.lst (ds.map (·.1))) rs ∧ rs.Nodup ∧ (∀ a ∈ rs, a = p ∨ a ∈ rss.flatten) ∧ (∀ a, Z a → Zf a) ∧ (∀ a, Zf a → Z a ∨ a ∈ rss.flatten) := by
    refine ⟨_, [p], s.chill no th, ⟨p, vs, _, rfl, hp, fun z => ?_, All3.ofRps0 (h.froz (Z' := fun a => Z a ∨ a ∈ rss.flatten) ⟨fun _ h => .inl h, fun _ _ _ h => h, fun _ _ h _ => h⟩ fun a ma => ⟨rfl, .inr ma⟩), by rw [flat_nils]⟩, by simp, fun a ma => .inl (by simpa using ma), fun _ h => .inl h, fun _ h => h⟩
    rcases z with z | z
    · exact nz z
    · exact pne p z rfl
  unfold uni
  split
  · rename_i i
    obtain ⟨r, e⟩ := h.immR i
    exact ⟨Z, [p], s, ⟨p, vs, _, rfl, hp, nz, All3.ofRpsI r i, by rw [flat_nils]⟩, by simp, fun a ma => .inl (by simpa using ma), fun _ h => h, fun _ h => .inl h⟩
  · split
    · rename_i d hd
      split
      · rename_i a
        exact ⟨Z, p :: rss.flatten, s, ⟨p, vs, rss, rfl, hp, nz, h.all a, rfl⟩, List.nodup_cons.mpr ⟨fun z => pne p z rfl, nd⟩, fun a ma => List.mem_cons.mp ma, fun _ h => h, fun _ h => .inl h⟩
      · exact froz
    · rename_i hn _ hi
      exact absurd (by
        rw [imms_all, List.all_map, List.all_eq_true]
        intro x hx
        have := List.find?_eq_none.mp hi x hx
        simpa using this) hn
theorem wipe_same {σ σ' : L2.St} : ∀ {is : List Nat}, σ'.length = σ.length → (∀ i, i ∉ is → σ'[i]? = σ[i]?) → L2.wipe σ' is = L2.wipe σ is := fun {is} hl h => by
  apply List.ext_getElem?
  intro i
  by_cases c : i ∈ is
  · have non : ∀ τ : L2.St, i < τ.length → (L2.wipe τ is)[i]? = some none := fun τ hi => by
      have hi2 : i < (L2.wipe τ is).length := by rw [wipe_length]; exact hi
      rw [List.getElem?_eq_getElem hi2]
      cases q : (L2.wipe τ is)[i] with
      | none => rfl
      | some x =>
        have := (wipe_some (σ := τ) (vs := is) (i := i) (x := x) (by rw [List.getElem?_eq_getElem hi2, q])).2
        exact absurd c this
    by_cases hi : i < σ.length
    · rw [non σ hi, non σ' (by omega)]
    · rw [List.getElem?_eq_none (by rw [wipe_length]; omega), List.getElem?_eq_none (by rw [wipe_length]; omega)]
  · rw [wipe_out c, wipe_out c]
    exact h i c
/-- a target leaves the number of slots -/
def GL (g : Fg) : Prop := ∀ d E E', g d E = some E' → E'.length = E.length
theorem lc_of {it : Fi} {is w : List Nat} {g : Fg} {c : Ft} {f : Fe} {Q : VK} (hgl : GL g) (hw : ∀ i ∈ w, i ∈ is) (q : eOf K (mLc it is g c f) σ H Q) : tLc (iOf K it) (gOf K w g) (cOf K c) (eOf K f) is σ H Q := by
  obtain ⟨Z, E, R, s, o, E', e, q⟩ := q
  unfold mLc at e
  cases e1 : it E with
  | none => rw [e1] at e; cases e
  | some p =>
    obtain ⟨its, E1⟩ := p
    rw [e1] at e
    simp only [Option.bind_some] at e
    cases e2 : lcM g c f is its (wipeE E1 is) [] with
    | none => rw [e2] at e; cases e
    | some p2 =>
      obtain ⟨accF, EF⟩ := p2
      rw [e2] at e
      cases e
      refine ⟨Z, E, R, s, its, E1, e1, fun J Z1 H1 R1 s1 t1 ok D hD => ?_⟩
      obtain ⟨Rw, sw, w1, w2, w3, w4⟩ := s1.wipe is
      have sw : S K Z1 H1 (L2.wipe σ is) (wipeE E1 is) Rw := sw.sigma (wipe_length σ is) fun i hi => wipe_out fun m => hi (w4 i m)
      have owR : ∀ a, ow Rw a → ow R1 a := fun a ⟨k, m⟩ => by
        by_cases ck : k ∈ is
        · rw [w2 k ck] at m; simp at m
        · exact ⟨k, by rw [← w1 k ck]; exact m⟩
      have nZ1D : ¬ Z1 D := fun z => s1.zd D z hD
      have mD : More H1 (upd H1 D (.lst [])) := .upd hD
      -- the invariant
      refine ⟨fun i m H2 => ∃ Z2 E2 R2 accV accD rss, S K Z2 H2 (L2.wipe σ is) E2 R2 ∧ Step Z1 H1 (ow Rw) Z2 H2 (ow R2) ∧ (∀ k ∈ is, R2 k = []) ∧ E2.length = E1.length ∧ H2 D = some (.lst accV) ∧ ¬ Z2 D ∧ ¬ ow R2 D ∧ TL K Z2 H2 accV accD rss ∧ rss.flatten.Nodup ∧
          (∀ a ∈ rss.flatten, ¬ ow R2 a ∧ a ≠ D ∧ (ow Rw a ∨ H1 a = none)) ∧ lcM g c f is (its.drop i) E2 accD = some (accF, EF) ∧ m = its.length - i ∧ i ≤ its.length,
        ⟨its.length, Z1, wipeE E1 is, Rw, [], [], [], sw.more mD, mD.step _, w2, wipeE_len is E1, upd_same, nZ1D, fun h => sw.there h hD, .nil, by simp, fun a m => by simp at m, e2, by simp, Nat.zero_le _⟩, ?_⟩
      rintro i m H2 ⟨Z2, E2, R2, accV, accD, rss, s2, t2, r2, l2, h2D, z2D, o2D, tl, tnd, tno, e3, rfl, hi⟩
      have p2 : Pers Z1 H1 Z2 H2 := sw.pers t2
      by_cases hlt : i < its.length
      · right
        refine ⟨ok.go Z2 H2 i p2 hlt, ?_⟩
        rw [List.drop_eq_getElem_cons hlt] at e3
        simp only [lcM] at e3
        cases e4 : g its[i] E2 with
        | none => rw [e4] at e3; cases e3
        | some E3 =>
          rw [e4] at e3
          simp only [Option.bind_some] at e3
          cases e5 : c E3 with
          | none => rw [e5] at e3; cases e3
          | some p5 =>
            obtain ⟨b, E5⟩ := p5
            rw [e5] at e3
            simp only [Option.bind_some] at e3
            -- what stands behind a turn
            refine ⟨fun H6 => ∃ m', m' < its.length - i ∧ ∃ Z2 E2 R2 accV accD rss, S K Z2 H6 (L2.wipe σ is) E2 R2 ∧ Step Z1 H1 (ow Rw) Z2 H6 (ow R2) ∧ (∀ k ∈ is, R2 k = []) ∧ E2.length = E1.length ∧ H6 D = some (.lst accV) ∧ ¬ Z2 D ∧ ¬ ow R2 D ∧ TL K Z2 H6 accV accD rss ∧ rss.flatten.Nodup ∧
                (∀ a ∈ rss.flatten, ¬ ow R2 a ∧ a ≠ D ∧ (ow Rw a ∨ H1 a = none)) ∧ lcM g c f is (its.drop (i + 1)) E2 accD = some (accF, EF) ∧ m' = its.length - (i + 1) ∧ i + 1 ≤ its.length, fun H6 h => h, fun x H3 y => ?_⟩
            obtain ⟨m3, d, hd, rx⟩ := ok.yld Z2 H2 i x H3 p2 hlt y
            have ed : its[i] = d := by rw [List.getElem?_eq_getElem hlt] at hd; exact Option.some.inj hd
            refine ⟨Z2, E2, R2, d, s2.more m3, rx, E3, by rw [← ed]; exact e4, fun σ4 R4 s4 t4 k4 => ⟨?_, ?_⟩⟩
            · have hl : σ4.length = (L2.wipe σ is).length := by rw [s4.len, (s2.more m3).len]; exact hgl _ _ _ e4
              have := wipe_same (σ := L2.wipe σ is) (σ' := σ4) (is := is) hl fun j hj => k4 j fun m => hj (hw j m)
              rw [this]
              exact wipe_same (by rw [wipe_length]) fun j hj => wipe_out hj
            refine ⟨Z2, E3, R4, s4, b, E5, e5, fun Z5 H5 R5 s5 t5 => ?_⟩
            have t35 := (m3.step (ow R2)).trans (t4.trans t5)
            have sig : ∀ j, j ∉ is → σ4[j]? = (L2.wipe σ is)[j]? := fun j hj => k4 j fun m => hj (hw j m)
            -- the new list and its items across a step
            have keepD : ∀ {Z6 : Addr → Prop} {H6 : Hp} {R6 : Rs}, Step Z2 H2 (ow R2) Z6 H6 (ow R6) → H6 D = some (.lst accV) ∧ ¬ Z6 D ∧ ¬ ow R6 D ∧ TL K Z6 H6 accV accD rss ∧ ∀ a ∈ rss.flatten, ¬ ow R6 a ∧ a ≠ D ∧ (ow Rw a ∨ H1 a = none) := fun {Z6 H6 R6} t => by
              refine ⟨t.hh D _ h2D o2D, fun z => ?_, fun z => ?_, All3.imp tl fun v d rs m o => (s2.pend t o fun a ma => (tno a (mem_flatten_of m ma)).1).1, fun a ma => ⟨fun z => ?_, (tno a ma).2⟩⟩
              · rcases t.zn D z with z | z | z
                · exact z2D z
                · rw [h2D] at z; cases z
                · exact o2D z
              · rcases t.on D z with z | z
                · exact o2D z
                · rw [h2D] at z; cases z
              · rcases t.on a z with z | z
                · exact (tno a ma).1 z
                · exact TL.there tl a ma z
            cases b with
            | false =>
              rw [if_neg Bool.false_ne_true] at e3
              refine iteF ?_
              obtain ⟨Rx, sx, x1, x2, x3, x4⟩ := s5.wipe is
              have owx : ∀ a, ow Rx a → ow R5 a := fun a ⟨k, m⟩ => by
                by_cases ck : k ∈ is
                · rw [x2 k ck] at m; simp at m
                · exact ⟨k, by rw [← x1 k ck]; exact m⟩
              have sx : S K Z5 H5 (L2.wipe σ is) (wipeE E5 is) Rx := sx.sigma (by have a1 := s5.len; have a2 := s4.len; have a3 := hgl _ _ _ e4; have a4 := s2.len; have a5 := wipe_length σ is; omega) fun j hj => (sig j fun m => hj (x4 j m)).symm
              have tx : Step Z2 H2 (ow R2) Z5 H5 (ow Rx) := t35.trans ⟨fun _ h => h, fun _ h => .inl h, fun _ _ h _ => h, fun a h => .inl (owx a h), fun _ h => h⟩
              obtain ⟨k1, k2, k3, k4', k5⟩ := keepD tx
              exact ⟨_, by omega, Z5, _, Rx, accV, accD, rss, sx, t2.trans tx, x2, by have a1 := s5.len; have a2 := s4.len; have a3 := hgl _ _ _ e4; rw [wipeE_len]; omega, k1, k2, k3, k4', tnd, k5, e3, rfl, hlt⟩
            | true =>
              rw [if_pos rfl] at e3
              refine iteT ?_
              cases e6 : f E5 with
              | none => rw [e6] at e3; cases e3
              | some p6 =>
                obtain ⟨o6, E6⟩ := p6
                rw [e6] at e3
                simp only [Option.bind_some] at e3
                cases e7 : tk E6 o6 with
                | none => rw [e7] at e3; cases e3
                | some p7 =>
                  obtain ⟨dv, nv, E7⟩ := p7
                  rw [e7] at e3
                  simp only [Option.bind_some] at e3
                  split at e3
                  · rename_i hsz
                    refine ⟨Z5, E5, R5, s5, o6, E6, e6, fun y6 Z6 H6 R6 rs6 s6 t6 ov6 f6 => ?_⟩
                    obtain ⟨Z7, R7, s7, t7, o7, n7, sub7⟩ := s6.take ov6 f6.no e7
                    obtain ⟨Rx, sx, x1, x2, x3, x4⟩ := s7.wipe is
                    have owx : ∀ a, ow Rx a → ow R7 a := fun a ⟨k, m⟩ => by
                      by_cases ck : k ∈ is
                      · rw [x2 k ck] at m; simp at m
                      · exact ⟨k, by rw [← x1 k ck]; exact m⟩
                    have l7 : E7.length = E1.length := by have a1 := s7.len; have a2 := s4.len; have a3 := hgl _ _ _ e4; omega
                    have sx : S K Z7 H6 (L2.wipe σ is) (wipeE E7 is) Rx := sx.sigma (by have a1 := s7.len; have a4 := s2.len; have a5 := wipe_length σ is; omega) fun j hj => (sig j fun m => hj (x4 j m)).symm
                    have tx : Step Z2 H2 (ow R2) Z7 H6 (ow Rx) := (t35.trans (t6.trans t7)).trans ⟨fun _ h => h, fun _ h => .inl h, fun _ _ h _ => h, fun a h => .inl (owx a h), fun _ h => h⟩
                    obtain ⟨k1, k2, k3, k4', k5⟩ := keepD tx
                    refine ⟨accV, k1, by rw [TL.len tl]; exact hsz, ?_⟩
                    -- what the new item has is not the list, not in it
                    have of6 : ∀ a ∈ rs6, ow R2 a ∨ H2 a = none := fun a ma => by
                      rcases f6.of a ma with z | z
                      · exact t35.on a z
                      · cases cc : H2 a with
                        | none => exact .inr rfl
                        | some u => exact absurd z (t35.dm a (by rw [cc]; simp))
                    have neD : ∀ a ∈ rs6, a ≠ D := fun a ma e => by
                      subst e
                      rcases of6 a ma with z | z
                      · exact o2D z
                      · rw [h2D] at z; cases z
                    have apart : ∀ a ∈ rs6, a ∉ rss.flatten := fun a ma z => by
                      rcases of6 a ma with y | y
                      · exact (tno a z).1 y
                      · exact TL.there tl a z y
                    obtain ⟨s8, p8⟩ := sx.free (o' := .lst (accV ++ [y6])) k1 trivial k3 k2
                    have tl8 : TL K Z7 (upd H6 D (.lst (accV ++ [y6]))) (accV ++ [y6]) (accD ++ [(dv, nv)]) (rss ++ [rs6]) :=
                      All3.append (All3.imp k4' fun v d rs m o => o.keep p8 fun a ma => ⟨upd_ne (k5 a (mem_flatten_of m ma)).2.1, (o.mut a ma).2⟩)
                        (.cons (o7.keep p8 fun a ma => ⟨upd_ne (neD a ma), (o7.mut a ma).2⟩) .nil)
                    have t8 : Step Z1 H1 (ow Rw) Z7 (upd H6 D (.lst (accV ++ [y6]))) (ow Rx) := by
                      have tt := t2.trans tx
                      refine ⟨tt.zz, tt.zn, fun a o ho h => ?_, tt.on, fun a h e => ?_⟩
                      · have ne : a ≠ D := fun e => by rw [e, hD] at ho; cases ho
                        rw [upd_ne ne]; exact tt.hh a o ho h
                      · by_cases ca : a = D
                        · rw [ca, upd_same] at e; cases e
                        · rw [upd_ne ca] at e; exact tt.dm a h e
                    refine ⟨_, by omega, Z7, _, Rx, accV ++ [y6], accD ++ [(dv, nv)], rss ++ [rs6], s8, t8, x2, by rw [wipeE_len, l7], upd_same, k2, k3, tl8, ?_, fun a ma => ?_, e3, rfl, hlt⟩
                    · rw [List.flatten_append]
                      simp only [List.flatten_cons, List.flatten_nil, List.append_nil]
                      exact List.nodup_append.mpr ⟨tnd, f6.nd, fun a ma b mb e => apart b mb (e ▸ ma)⟩
                    · rw [List.flatten_append] at ma
                      simp only [List.flatten_cons, List.flatten_nil, List.append_nil, List.mem_append] at ma
                      rcases ma with ma | ma
                      · exact k5 a ma
                      · refine ⟨fun z => n7 a ma (owx a z), neD a ma, ?_⟩
                        rcases of6 a ma with z | z
                        · exact t2.on a z
                        · cases cc : H1 a with
                          | none => exact .inr rfl
                          | some u => exact absurd z (t2.dm a (by rw [cc]; simp))
                  · cases e3
      · left
        have ei : i = its.length := by omega
        subst ei
        rw [List.drop_length] at e3
        cases e3
        refine ⟨ok.stop Z2 H2 p2, ?_⟩
        obtain ⟨Z3, rs3, s3, o3, nd3, in3, zz3, zn3⟩ := s2.oldList tl tnd (fun a m => (tno a m).1) h2D z2D fun a m => (tno a m).2.1
        -- the hidden slots again
        have hidN : ∀ k ∈ is, ∀ a ∈ R1 k, ¬ ow Rw a := fun k hk a ma ⟨l, ml⟩ => by
          by_cases cl : l ∈ is
          · rw [w2 l cl] at ml; simp at ml
          · rw [w1 l cl] at ml
            exact cl ((s1.dj k l a ma ml) ▸ hk)
        have hidH : ∀ k ∈ is, ∀ a ∈ R1 k, H2 a = H1 a ∧ ¬ Z3 a ∧ ¬ ow R2 a ∧ a ≠ D ∧ a ∉ rss.flatten := fun k hk a ma => by
          have th := s1.there ⟨k, ma⟩
          have nf : a ∉ rss.flatten := fun z => by
            rcases (tno a z).2.2 with y | y
            · exact hidN k hk a ma y
            · exact th y
          refine ⟨?_, fun z => ?_, fun z => ?_, fun e => th (by rw [e]; exact hD), nf⟩
          · cases cc : H1 a with
            | none => exact absurd cc th
            | some u => exact t2.hh a u cc (hidN k hk a ma)
          · rcases zn3 a z with z | z
            · rcases t2.zn a z with z | z | z
              · exact (s1.owns ⟨k, ma⟩).2 z
              · exact th z
              · exact hidN k hk a ma z
            · exact nf z
          · rcases t2.on a z with z | z
            · exact hidN k hk a ma z
            · exact th z
        let RF : Rs := fun k => if k ∈ is then R1 k else R2 k
        obtain ⟨bl, bg⟩ := backE_get is E1 EF
        have sF : S K Z3 H2 σ (backE E1 EF is) RF := by
          refine ⟨by rw [bl, l2, ← s1.len], fun k d n ek => ?_, fun k ek => ?_, fun k => ?_, fun k l a m1 m2 => ?_, s3.zd⟩
          · rw [bg k] at ek
            by_cases ck : k ∈ is
            · by_cases cl : k < EF.length
              · rw [if_pos ⟨ck, cl⟩] at ek
                obtain ⟨v, hv, ov⟩ := s1.slot k d n ek
                refine ⟨v, hv, ?_⟩
                have eR : RF k = R1 k := if_pos ck
                rw [eR]
                exact ov.keep ⟨fun a z => zz3 a (p2.zz a z), p2.hz, p2.tp⟩ fun a ma => ⟨(hidH k ck a ma).1, (hidH k ck a ma).2.1⟩
              · rw [if_neg fun h => cl h.2] at ek
                exact absurd (eg_lt ek) cl
            · rw [if_neg fun h => ck h.1] at ek
              obtain ⟨v, hv, ov⟩ := s3.slot k d n ek
              have eR : RF k = R2 k := if_neg ck
              rw [eR]
              exact ⟨v, by rw [← wipe_out ck]; exact hv, ov⟩
          · rw [bg k] at ek
            by_cases ck : k ∈ is
            · have eR : RF k = R1 k := if_pos ck
              rw [eR]
              by_cases cl : k < EF.length
              · rw [if_pos ⟨ck, cl⟩] at ek
                exact s1.emp k ek
              · refine s1.emp k ?_
                unfold eg
                rw [List.getElem?_eq_none (by omega)]; rfl
            · rw [if_neg fun h => ck h.1] at ek
              have eR : RF k = R2 k := if_neg ck
              rw [eR]
              exact s3.emp k ek
          · by_cases ck : k ∈ is
            · have eR : RF k = R1 k := if_pos ck
              rw [eR]; exact s1.nd k
            · have eR : RF k = R2 k := if_neg ck
              rw [eR]; exact s2.nd k
          · by_cases ck : k ∈ is
            · have eR : RF k = R1 k := if_pos ck
              rw [eR] at m1
              by_cases cl : l ∈ is
              · have eR : RF l = R1 l := if_pos cl
                rw [eR] at m2
                exact s1.dj k l a m1 m2
              · have eR : RF l = R2 l := if_neg cl
                rw [eR] at m2
                exact absurd ⟨l, m2⟩ (hidH k ck a m1).2.2.1
            · have eR : RF k = R2 k := if_neg ck
              rw [eR] at m1
              by_cases cl : l ∈ is
              · have eR : RF l = R1 l := if_pos cl
                rw [eR] at m2
                exact absurd ⟨k, m1⟩ (hidH l cl a m2).2.2.1
              · have eR : RF l = R2 l := if_neg cl
                rw [eR] at m2
                exact s2.dj k l a m1 m2
        have back : ∀ a, H1 a = none → H a = none := fun a h => by
          cases cc : H a with
          | none => rfl
          | some u => exact absurd h (t1.dm a (by rw [cc]; simp))
        have owF : ∀ a, ow RF a → ow R1 a ∨ ow R2 a := fun a ⟨k, m⟩ => by
          by_cases ck : k ∈ is
          · have eR : RF k = R1 k := if_pos ck
            rw [eR] at m; exact .inl ⟨k, m⟩
          · have eR : RF k = R2 k := if_neg ck
            rw [eR] at m; exact .inr ⟨k, m⟩
        have R2on : ∀ a, ow R2 a → ow R a ∨ H a = none := fun a h => by
          rcases t2.on a h with z | z
          · exact t1.on a (owR a z)
          · exact .inr (back a z)
        have flon : ∀ a ∈ rss.flatten, ow R a ∨ H a = none := fun a m => by
          rcases (tno a m).2.2 with z | z
          · exact t1.on a (owR a z)
          · exact .inr (back a z)
        have tF : Step Z H (ow R) Z3 H2 (ow RF) := by
          refine ⟨fun a z => zz3 a (p2.zz a (t1.zz a z)), fun a z => ?_, fun a u hu ha => ?_, fun a h => ?_, fun a h => t2.dm a (t1.dm a h)⟩
          · rcases zn3 a z with z | z
            · rcases t2.zn a z with z | z | z
              · exact t1.zn a z
              · exact .inr (.inl (back a z))
              · rcases t1.on a (owR a z) with y | y
                · exact .inr (.inr y)
                · exact .inr (.inl y)
            · rcases flon a z with y | y
              · exact .inr (.inr y)
              · exact .inr (.inl y)
          · refine t2.hh a u (t1.hh a u hu ha) fun z => ?_
            rcases t1.on a (owR a z) with y | y
            · exact ha y
            · rw [hu] at y; cases y
          · rcases owF a h with z | z
            · exact t1.on a z
            · exact R2on a z
        refine q (.ref D) Z3 H2 RF rs3 sF tF o3 ⟨nd3, fun a m z => ?_, fun a m => ?_⟩
        · rcases in3 a m with rfl | mm
          · rcases owF a z with y | y
            · exact s1.there y hD
            · exact o2D y
          · rcases owF a z with y | y
            · obtain ⟨k, mk⟩ := y
              rcases (tno a mm).2.2 with z' | z'
              · by_cases ck : k ∈ is
                · exact hidN k ck a mk z'
                · obtain ⟨l, ml⟩ := z
                  by_cases cl : l ∈ is
                  · have eR : RF l = R1 l := if_pos cl
                    rw [eR] at ml
                    exact hidN l cl a ml z'
                  · have eR : RF l = R2 l := if_neg cl
                    rw [eR] at ml
                    exact (tno a mm).1 ⟨l, ml⟩
              · exact s1.there ⟨k, mk⟩ z'
            · exact (tno a mm).1 y
        · rcases in3 a m with rfl | mm
          · exact .inr (back a hD)
          · exact flon a mm
where
  elen {Z Z' : Addr → Prop} {H H' : Hp} {σ : L2.St} {E E' : Ev} (h : σ.length = E'.length) (h' : σ.length = E.length) : E.length = E'.length := by rw [← h, h']
end
end Zk
namespace Zk
open PySem PySem.Spec PyProof.Rows L2
section
variable {K : PySem.W.Frag} {H : Hp} {σ : L2.St}
theorem gl_v {i : Nat} : GL (tgV i) := fun d E E' h => by
  unfold tgV at h
  split at h
  · cases h; simp
  · cases h
def GLs (g : List D → Ev → Option Ev) : Prop := ∀ ds E E', g ds E = some E' → E'.length = E.length
theorem gl_n : GLs tgN := fun ds E E' h => by
  unfold tgN at h
  split at h
  · cases h; rfl
  · cases h
theorem gl_c {f : Fg} {g : List D → Ev → Option Ev} (hf : GL f) (hg : GLs g) : GLs (tgC f g) := fun ds E E' h => by
  unfold tgC at h
  split at h
  · rename_i d ds
    cases e : f d E with
    | none => rw [e] at h; cases h
    | some E1 =>
      rw [e] at h
      exact (hg _ _ _ h).trans (hf _ _ _ e)
  · cases h
theorem gl_t {n : Nat} {g : List D → Ev → Option Ev} (hg : GLs g) : GL (tgT n g) := fun d E E' h => by
  unfold tgT at h
  repeat' split at h
  all_goals first | exact hg _ _ _ h | cases h
theorem mYes_of {Q : Bool → Hp → Prop} (q : cOf K mYes σ H Q) : tYes σ H Q := by
  obtain ⟨Z, E, R, s, b, E', e, q⟩ := q
  cases e
  exact q Z H R s .refl
theorem PTs.mono {X : Cx} {ifs : List Expr} {t t' : TT} (h : PTs X ifs t) (m : ∀ σ H Q, t' σ H Q → t σ H Q) : PTs X ifs t' := ⟨fun pins s σ H Q I q => h.run pins s σ H Q I (m σ H Q q)⟩
end
section
variable {X : Cx} {e e2 c elt tg iter : Expr} {es ifs : List Expr} {fe fk fv : Fe} {ft : Ft} {fi : Fi} {g : Fg} {scope : Scope} {pos pos' spos py : PySem.Pos} {w : List Nat} {own : List (Str × Nat)}
abbrev ATs (X : Cx) (ifs : List Expr) (c : Ft) : Prop := PTs X ifs (cOf X.K c)
theorem ats_nil : ATs X [] mYes := PTs.mono pts_nil fun _ _ _ q => mYes_of q
/-- [elt for tg in iter if ..] -/
theorem ae_lc (own : List (Str × Nat)) (hN : X.N.Nodup) (ok : BlkOk X.N X.env.scope scope own) (hi : AI X tg iter fi)
    (hg : ∀ (s : Shared) (H : Hp) (C : Addr) (cl : List (Str × Addr)) (fp : List Addr), AG (X.blk s H scope (compEnvC scope cl C X.env) fp) tg w g)
    (ht : ∀ (s : Shared) (H : Hp) (C : Addr) (cl : List (Str × Addr)) (fp : List Addr), ATs (X.blk s H scope (compEnvC scope cl C X.env) fp) ifs ft)
    (he : ∀ (s : Shared) (H : Hp) (C : Addr) (cl : List (Str × Addr)) (fp : List Addr), AE (X.blk s H scope (compEnvC scope cl C X.env) fp) elt fe)
    (hgl : GL g) (hw : ∀ i ∈ w, i ∈ own.map (·.2) := by decide) (hc : X.calm = true := by rfl) (hs : ∀ x, foldedSetIterable iter X.env x = pure x := by intro _; rfl) :
    AE X (.ListComp elt [⟨tg, iter, ifs, 0⟩] scope pos) (mLc fi (own.map (·.2)) g ft fe) :=
  PE.mono (pe_lc hc hN hi ok hg ht he hs) fun σ H Q q => lc_of hgl hw q
/-- y = [elt for tg in iter if ..] on one line -/
theorem as_setLc (i : Nat) {y : Str} (own : List (Str × Nat)) (hN : X.N.Nodup) (ok : BlkOk X.N X.env.scope scope own) (hi : AI X tg iter fi)
    (hg : ∀ (s : Shared) (H : Hp) (C : Addr) (cl : List (Str × Addr)) (fp : List Addr), AG (X.blk s H scope (compEnvC scope cl C X.env) fp) tg w g)
    (ht : ∀ (s : Shared) (H : Hp) (C : Addr) (cl : List (Str × Addr)) (fp : List Addr), ATs (X.blk s H scope (compEnvC scope cl C X.env) fp) ifs ft)
    (he : ∀ (s : Shared) (H : Hp) (C : Addr) (cl : List (Str × Addr)) (fp : List Addr), AE (X.blk s H scope (compEnvC scope cl C X.env) fp) elt fe)
    (hgl : GL g) (ha : (scope.names.any fun (n, k) => n == y && (k == .local || k == .cell)) = false) (hy : X.N[i]? = some y := by rfl) (hyl : X.env.scope.names.lookup y = some .local := by rfl) (hk : X.env.scope.kind = .function := by rfl) (hl : (py.line == pos.line) = true := by rfl)
    (hw : ∀ i ∈ w, i ∈ own.map (·.2) := by decide) (hc : X.calm = true := by rfl) (hs : ∀ x, foldedSetIterable iter X.env x = pure x := by intro _; rfl) :
    AS X (.Assign [.Name y py] (.ListComp elt [⟨tg, iter, ifs, 0⟩] scope pos) spos) [i] (mSet i (mLc fi (own.map (·.2)) g ft fe)) :=
  PS.mono (ps_setLc hc hN hy hyl (sw_true hk hyl hl ha) hi ok hg ht he hs) fun D σ H q => lc_of hgl hw (set_of q)
end
section
variable {K : PySem.W.Frag} {Z Z' Zf Z0 : Addr → Prop} {H H' H0 : Hp} {σ : L2.St} {E E' : Ev} {R R' R0 : Rs}
def srtP (ps : List (Int × Int)) : List (Int × Int) := ps.mergeSort fun a b => !SrtO.lexB b a
def prD (p : Int × Int) : D := .tup [.int p.1, .int p.2]
/-- the two ints behind a pair -/
def kOf (H : Hp) (x : V) : Int × Int := match x with
  | .ref t => match H t with
    | some (.tup [.int i, .int j]) => (i, j)
    | _ => (0, 0)
  | _ => (0, 0)
theorem Rp.pairE {Z : Addr → Prop} {v : V} {p : Int × Int} (h : Rp K Z H v (prD p)) : ∃ t, v = .ref t ∧ H t = some (.tup [.int p.1, .int p.2]) := by
  cases h with
  | tup s r =>
    obtain ⟨x, y, rfl, h1, h2⟩ := r.two
    cases h1.intE
    cases h2.intE
    exact ⟨_, rfl, s⟩
theorem Rps.pairs {Z : Addr → Prop} : ∀ {vs : List V} {ps : List (Int × Int)}, Rps K Z H vs (ps.map prD) → vs.map (kOf H) = ps ∧ ∀ x ∈ vs, ∃ t, x = V.ref t ∧ H t = some (.tup [.int (kOf H x).1, .int (kOf H x).2])
  | _, [], h => by cases h; exact ⟨rfl, fun x m => by simp at m⟩
  | _, p :: ps, h => by
    cases h with
    | cons h t =>
      obtain ⟨u, rfl, hu⟩ := Rp.pairE h
      obtain ⟨e, q⟩ := Rps.pairs t
      have ek : kOf H (.ref u) = p := by simp [kOf, hu]
      refine ⟨by rw [List.map_cons, e, ek], fun x m => ?_⟩
      rcases List.mem_cons.mp m with rfl | m
      · exact ⟨u, rfl, by rw [ek]; exact hu⟩
      · exact q x m
section
variable {prg : Program} {wd : World} {Ar : Around} {EE : Value → Shared → Prop} {sh : Shared}
open PyProof.Rows in
open PyProof.Rows in
end
end
section
variable {X : Cx} {e e2 : Expr} {fe fk : Fe} {pos pos' px pt : PySem.Pos} {w : List Nat} {x : Str} {op : Operator} {f : Int → Int → Int}
end
end Zk
namespace Zk
open PySem PySem.Spec PyProof.Rows L2

section
variable {P : Program} {w : World} {K : PySem.W.Frag} {mg : Str → Option Value} {base : Heap} {X : Cx}
theorem _root_.L2.Room.u1 {k : Nat} {A : Around} (hr : Room k A) : A.units + 1 < cLine := by have := hr.un; omega
theorem _root_.L2.Room.u64 {k : Nat} {A : Around} (hr : Room k A) : A.units + 64 < cLine := by have := hr.un; omega
theorem _root_.L2.Room.u65 {k : Nat} {A : Around} (hr : Room k A) : A.units + 65 < cLine := by have := hr.un; omega
/-- a def under its name, with its promise -/
def Ok (P : Program) (w : World) (K : PySem.W.Frag) (mg : Str → Option Value) (base : Heap) (k : Nat) (x : Str) (ps : List Str) (io : Option Nat) (np : Nat) (M : Mir) : Prop :=
  ∃ (f : Addr) (fd : FuncData), FnOk P w K mg base CX0 k f fd ps (spM K io np M) ∧ mg x = some (.ref f) ∧ PySem.W.keepIn K (.ref f) = true ∧ Binds K fd ps []
theorem Ok.mono {j k : Nat} {x : Str} {ps : List Str} {io : Option Nat} {np : Nat} {M : Mir} (o : Ok P w K mg base j x ps io np M) (h : j ≤ k) : Ok P w K mg base k x ps io np M := by
  obtain ⟨f, fd, F, a, b, c⟩ := o
  exact ⟨f, fd, F.mono h, a, b, c⟩
theorem fn_none {k : Nat} {f : Addr} {fd : FuncData} {ps : List Str} {io : Option Nat} {np : Nat} {M : Mir} (h : ∀ ds, M ds = none) : FnOk P w K mg base CX0 k f fd ps (spM K io np M) :=
  have no : ∀ {vs : List V} {H : Hp} {Q : VK} {E : XK}, spM K io np M vs H Q E → False := fun ⟨_, ds, _, _, _, _, _, _, _, d, n, o, e, _⟩ => by rw [h ds] at e; cases e
  ⟨fun vs H Q E q => (no q).elim, fun A outer s H args us vs Q E _ _ _ _ q => (no q).elim⟩
variable {k np : Nat} {ps : List Str} {x : Str} {p pos : PySem.Pos} {e : Expr} {es : List Expr} {fa : Fa} {M : Mir} {io : Option Nat}
/-- f(e, ..) -/
theorem ae_fn (o : Ok X.prog X.w X.K X.mg X.base k x ps io np M) (hr : Room k X.A) (hg : Gl X x) (ha : AA X (e :: es) fa)
    (hnp : ∀ E os E', fa E = some (os, E') → os.length = np) (hdb : (x == ("__debug__" : Str)) = false := by decide) (he : starEach (e :: es) X.env = (false, eval e X.env) :: starEach es X.env := by rfl) (hpl : (backTo pos (starEach es X.env)).any (·.1) = false := by rfl) :
    AE X (.Call (.Name x p) (e :: es) [] pos) (mCall io M fa) := by
  obtain ⟨f, fd, F, a, b, c⟩ := o
  exact ae_call F hr hg a b c ha hnp hdb he hpl
/-- the law's promise -/
theorem law_sp {M : Mir} {H : Hp} {a : Addr} {ns : List Int} {n : Nat} (h : ∀ ns : List Int, ns.length ≤ n → ∃ m o, M [.scr ns] = some (.bl true, m, o)) (hl : ns.length ≤ n) (hO : Only H) (hS : SqL K H a (ns.map V.int)) :
    spM K none 1 M [.ref a] H (fun v _ => v = .bl true) fun _ _ _ => False := by
  obtain ⟨m, o, e⟩ := h ns hl
  refine ⟨fun _ => False, [.scr ns], fun _ => [], rfl, rfl, fun a h => h.elim, fun i v d hv hd => ?_, fun _ _ => rfl, fun _ => List.nodup_nil, .bl true, m, o, e, fun v Z' H' rs' rr _ _ _ _ _ ow _ => ?_⟩
  · cases i with
    | zero =>
      cases hv
      cases hd
      rw [if_neg (by simp)]
      refine .scr ?_
      unfold SqF
      rcases hS with (h | ⟨o, h⟩) | h
      · rcases hO a with z | ⟨o, xs, z⟩
        · rw [z] at h; cases h
        · rw [z] at h; cases h
      · exact .inl ⟨o, h⟩
      · exact .inr h
    | succ i => simp at hv
  · exact (ow.imm (by simp)).2.blE
end
section
variable {K : PySem.W.Frag} {Z Z' Zf Z0 : Addr → Prop} {H H' H0 : Hp} {σ : L2.St} {E E' : Ev} {R R' R0 : Rs}
instance (a b : Int) : Decidable (RgOk a b) := inferInstanceAs (Decidable (_ ∧ _))
def mPar (i j : Nat) (fa : Fa) : Fs := fun E => (fa E).bind fun p => (tkL p.2 p.1).bind fun q => match q.1 with
  | [(d1, n1), (d2, n2)] => if i < q.2.length ∧ j < q.2.length then some (.nx, (q.2.set i (some (d1, n1))).set j (some (d2, n2))) else none
  | _ => none
theorem par_of {i j : Nat} {fa : Fa} {D : Ends} (q : sOf K [i, j] (mPar i j fa) D σ H) : tPar i j (aOf K fa) D σ H := by
  obtain ⟨Z, E, R, s, fl, E', e, q⟩ := q
  unfold mPar at e
  cases e1 : fa E with
  | none => rw [e1] at e; cases e
  | some p =>
    obtain ⟨os, E1⟩ := p
    rw [e1] at e
    simp only [Option.bind_some] at e
    cases e2 : tkL E1 os with
    | none => rw [e2] at e; cases e
    | some p2 =>
      obtain ⟨ds, E2⟩ := p2
      rw [e2] at e
      simp only [Option.bind_some] at e
      split at e
      · rename_i d1 n1 d2 n2
        split at e
        · rename_i hl
          cases e
          refine ⟨Z, E, R, s, os, E1, e1, fun vs Z1 H1 R1 rss s1 t1 a1 f1 => ?_⟩
          obtain ⟨Zf, R2, s2, t2, tl, no2, sub⟩ := s1.takeL a1 f1.no e2
          cases tl with
          | @cons v _ r1 _ _ _ h1 tl =>
            cases tl with
            | @cons w _ r2 _ _ _ h2 tl =>
              cases tl
              refine ⟨v, w, rfl, ?_⟩
              have nd := f1.nd
              simp only [List.flatten_cons, List.flatten_nil, List.append_nil] at nd no2
              have of := f1.of
              simp only [List.flatten_cons, List.flatten_nil, List.append_nil] at of
              have nd2 := List.nodup_append.mp nd
              have s3 := s2.setSlot (v := v) hl.1 h1 nd2.1 fun a m => no2 a (List.mem_append_left _ m)
              have s4 := s3.setSlot (v := w) (by rw [List.length_set]; exact hl.2) h2 nd2.2.1 fun a m z => by
                rcases ow_put z with z | z
                · exact nd2.2.2 a z a m rfl
                · exact no2 a (List.mem_append_right _ m) z
              refine q _ Zf H1 _ s4 ((t1.trans t2).fin (fun _ h => h) (fun a z => .inl z) (.refl _) fun a z => ?_) fun k hk => ?_
              · rcases ow_put z with z | z
                · exact .inr ((of a (List.mem_append_right _ z)).imp id id)
                · rcases ow_put z with z | z
                  · exact .inr ((of a (List.mem_append_left _ z)).imp id id)
                  · exact .inl z
              · simp only [List.mem_cons, List.not_mem_nil, or_false, not_or] at hk
                rw [List.getElem?_set_ne (Ne.symm hk.2), List.getElem?_set_ne (Ne.symm hk.1)]
        · cases e
      · cases e
end
section
variable {X : Cx} {e e2 a b : Expr} {fe fk : Fe} {fa : Fa} {pos pos' px py pt : PySem.Pos} {x y : Str} {kt k2 : Nat} {pt2 p p2 : PySem.Pos}
theorem as_par (i j : Nat) {x y : Str} {kt k2 pt2} (ha : AA X [a, b] fa) (hN : X.N.Nodup) (hc : X.calm = true := by rfl) (hi : X.N[i]? = some x := by rfl) (hj : X.N[j]? = some y := by rfl) (hij : i ≠ j := by decide)
    (hx : X.env.scope.names.lookup x = some .local := by rfl) (hy : X.env.scope.names.lookup y = some .local := by rfl)
    (hw : swappedStores [.Tuple [.Name x px, .Name y py] kt pt] (.Tuple [a, b] k2 pt2) X.env = pure (some [x, y]) := by rfl)
    (hs : swapsWithSole [.Tuple [.Name x px, .Name y py] kt pt] (.Tuple [a, b] k2 pt2) pos.line X.env = pure false := by rfl) :
    AS X (.Assign [.Tuple [.Name x px, .Name y py] kt pt] (.Tuple [a, b] k2 pt2) pos) [i, j] (mPar i j fa) := PS.mono (ps_par hc hN hi hj hij hx hy ha hw hs) fun D σ H q => par_of q
theorem call_maxA (hc : X.calm = true := by rfl) : CallR X (.builtin "max") (rMaxs X.K) := (cr_max hc).or (call_max2 hc)
theorem call_minA (hc : X.calm = true := by rfl) : CallR X (.builtin "min") (rMins X.K) := (cr_min hc).or (call_min2 hc)
theorem call_sumA (hc : X.calm = true := by rfl) : CallR X (.builtin "sum") (rSum X.K) := cr_sum hc
theorem call_isiA : CallR X (.builtin "isinstance") (fun vs H Q => rIsi X.K vs H Q ∨ rIsiT X.K vs H Q ∨ rIsiK X.K vs H Q) := call_isi.or (call_isiT.or call_isiK)
end
end Zk
namespace Zk
open PySem PySem.Spec PyProof.Rows L2

structure Tg {α : Type} (Q : α → Prop) : Type where
/-- x tells something of which Q holds (the tag keeps simp out of Q until x is reckoned) -/
def W {α : Type} (x : Option α) (Q : α → Prop) (_ : Tg Q := ⟨⟩) : Prop := ∃ a, x = some a ∧ Q a
structure Tg2 (A B : Prop) : Type where
section
variable {α β : Type} {x : Option α} {Q Q' : β → Prop} {P P' : α → Prop}
@[simp ↓] theorem W_some {a : α} : W (some a) P ↔ P a := ⟨fun ⟨_, e, h⟩ => by cases e; exact h, fun h => ⟨_, rfl, h⟩⟩
@[simp ↓] theorem W_none : W (none : Option α) P ↔ False := by
  constructor
  · rintro ⟨_, e, _⟩
    cases e
  · intro h
    exact h.elim
@[simp ↓] theorem W_bind {f : α → Option β} : W (x.bind f) Q ↔ W x fun a => W (f a) Q := by
  cases x with
  | none => simp
  | some a => simp
@[simp ↓] theorem W_map {f : α → β} : W (x.map f) Q ↔ W x fun a => Q (f a) := by
  cases x with
  | none => simp
  | some a => simp
theorem W_ite {c : Prop} [Decidable c] {a b : Option α} : W (if c then a else b) P ↔ (c → W a P) ∧ (¬ c → W b P) := by
  by_cases h : c <;> simp [h]
@[simp ↓] theorem W_if1 {c : Prop} [Decidable c] {a : Option α} : W (if c then a else none) P ↔ c ∧ W a P := by
  by_cases h : c <;> simp [h]
theorem W_ext (h : ∀ a, P a ↔ P' a) : W x P ↔ W x P' := ⟨fun ⟨a, e, p⟩ => ⟨a, e, (h a).mp p⟩, fun ⟨a, e, p⟩ => ⟨a, e, (h a).mpr p⟩⟩
/-- one of two -/
def IfB (b : Bool) (A B : Prop) (_ : Tg2 A B := ⟨⟩) : Prop := (b = true → A) ∧ (b = false → B)
@[simp ↓] theorem IfB_t {A B : Prop} : IfB true A B ↔ A := by simp [IfB]
@[simp ↓] theorem IfB_f {A B : Prop} : IfB false A B ↔ B := by simp [IfB]
@[simp] theorem IfB_not {b : Bool} {A B : Prop} : IfB (!b) A B ↔ IfB b B A := by cases b <;> simp
@[simp 50] theorem IfB_of {b : Bool} {A B : Prop} : IfB b A B ↔ (b = true → A) ∧ (b = false → B) := Iff.rfl
@[simp 60] theorem IfB_d {c : Prop} [Decidable c] {A B : Prop} : IfB (decide c) A B ↔ (c → A) ∧ (¬ c → B) := by simp [IfB]
theorem W_iteB {b : Bool} {u v : Option α} : W (if b = true then u else v) P ↔ IfB b (W u P) (W v P) := by cases b <;> simp [W_ite]
theorem W.mono (h : W x P) (m : ∀ a, P a → P' a) : W x P' := by
  obtain ⟨a, e, p⟩ := h
  exact ⟨a, e, m a p⟩
theorem W.mp (h : W x P) : ∃ a, x = some a ∧ P a := h
theorem W.of {a : α} (h : x = some a) (p : P a) : W x P := ⟨a, h, p⟩
theorem W.eq {a : α} (h : x = some a) : W x P ↔ P a := by rw [h, W_some]
end
section
variable {E : Ev} {i n m : Nat} {d : D} {p : Option (D × Nat)} {l : Ev} {a b c : Fe} {fa : Fa} {ft fu : Ft} {s t : Fs} {it : Fi} {g : Fg} {gs : List D → Ev → Option Ev}
  {G : List D → Option D} {G2 : List D → Option (D × Nat)} {M : Mir} {os : List Op} {o : Op} {Qe : Op × Ev → Prop} {Qa : List Op × Ev → Prop} {Qt : Bool × Ev → Prop} {Qs : Fl × Ev → Prop} {Qi : List D × Ev → Prop} {Qg : Ev → Prop} {Qd : D → Prop} {Ql : List D → Prop} {Qk : D × Nat × Ev → Prop}
@[simp] theorem get_z {α : Type} {a : α} {l : List α} : (a :: l)[0]? = some a := rfl
@[simp] theorem get_s {α : Type} {a : α} {l : List α} : (a :: l)[n + 1]? = l[n]? := rfl
@[simp] theorem eg_0 : eg (p :: l) 0 = p := rfl
@[simp] theorem eg_s : eg (p :: l) (n + 1) = eg l n := rfl
@[simp] theorem eg_nil : eg [] n = none := by simp [eg]
@[simp ↓] theorem W_var : W (mVar i E) Qe ↔ (eg E i).isSome = true ∧ Qe (.slot i, E) := by unfold mVar; (repeat (first | exact Iff.rfl | (refine W_ext fun _ => ?_) | (refine W_bind.trans (W_ext fun _ => ?_)) | exact W_map | exact W_if1.trans Iff.rfl | (simp [W_ite, IfB]; done) | simp))
@[simp ↓] theorem W_c : W (mC d E) Qe ↔ Qe (.val d 9, E) := by unfold mC; (repeat (first | exact Iff.rfl | (refine W_ext fun _ => ?_) | (refine W_bind.trans (W_ext fun _ => ?_)) | exact W_map | exact W_if1.trans Iff.rfl | (simp [W_ite, IfB]; done) | simp))
@[simp ↓] theorem W_ro : W (mRO G fa E) Qe ↔ W (fa E) fun p => W (rdL p.2 p.1) fun ds => W (G ds) fun d => Qe (.val d 9, p.2) := by unfold mRO; (repeat (first | exact Iff.rfl | (refine W_ext fun _ => ?_) | (refine W_bind.trans (W_ext fun _ => ?_)) | exact W_map | exact W_if1.trans Iff.rfl | (simp [W_ite, IfB]; done) | simp))
@[simp ↓] theorem W_al : W (mAL G2 fa E) Qe ↔ W (fa E) fun p => W (akL p.2 p.1) fun q => W (G2 q.1) fun d => Qe (.val d.1 d.2, q.2) := by unfold mAL; (repeat (first | exact Iff.rfl | (refine W_ext fun _ => ?_) | (refine W_bind.trans (W_ext fun _ => ?_)) | exact W_map | exact W_if1.trans Iff.rfl | (simp [W_ite, IfB]; done) | simp))
@[simp ↓] theorem W_op : W (mOp G2 fa E) Qe ↔ W (fa E) fun p => W (rdL p.2 p.1) fun ds => W (G2 ds) fun d => IfB (imm d.1) (Qe (.val d.1 9, p.2)) (W (akL p.2 p.1) fun q => Qe (.val d.1 d.2, q.2)) := by
  unfold mOp
  simp only [W_bind, W_iteB, W_some, W_map]
  try (repeat (first | exact Iff.rfl | (refine W_ext fun _ => ?_) | (refine W_bind.trans (W_ext fun _ => ?_)) | exact W_map | exact W_if1.trans Iff.rfl | (simp [W_ite, IfB]; done) | simp))
@[simp ↓] theorem W_a0 : W (mA0 E) Qa ↔ Qa ([], E) := by unfold mA0; (repeat (first | exact Iff.rfl | (refine W_ext fun _ => ?_) | (refine W_bind.trans (W_ext fun _ => ?_)) | exact W_map | exact W_if1.trans Iff.rfl | (simp [W_ite, IfB]; done) | simp))
@[simp ↓] theorem W_a1 : W (mA1 a E) Qa ↔ W (a E) fun p => Qa ([p.1], p.2) := by unfold mA1; (repeat (first | exact Iff.rfl | (refine W_ext fun _ => ?_) | (refine W_bind.trans (W_ext fun _ => ?_)) | exact W_map | exact W_if1.trans Iff.rfl | (simp [W_ite, IfB]; done) | simp))
@[simp ↓] theorem W_a2 : W (mA2 a b E) Qa ↔ W (a E) fun p => W (b p.2) fun q => Qa ([p.1, q.1], q.2) := by unfold mA2; (repeat (first | exact Iff.rfl | (refine W_ext fun _ => ?_) | (refine W_bind.trans (W_ext fun _ => ?_)) | exact W_map | exact W_if1.trans Iff.rfl | (simp [W_ite, IfB]; done) | simp))
@[simp ↓] theorem W_ac : W (mAc a fa E) Qa ↔ W (a E) fun p => W (fa p.2) fun q => Qa (p.1 :: q.1, q.2) := by unfold mAc; (repeat (first | exact Iff.rfl | (refine W_ext fun _ => ?_) | (refine W_bind.trans (W_ext fun _ => ?_)) | exact W_map | exact W_if1.trans Iff.rfl | (simp [W_ite, IfB]; done) | simp))
@[simp ↓] theorem W_rdL_nil : W (rdL E []) Ql ↔ Ql [] := by simp [rdL]; try (repeat (first | exact Iff.rfl | (refine W_ext fun _ => ?_) | (refine W_bind.trans (W_ext fun _ => ?_)) | exact W_map | exact W_if1.trans Iff.rfl | (simp [W_ite, IfB]; done) | simp))
@[simp ↓] theorem W_rdL_cons : W (rdL E (o :: os)) Ql ↔ W (rd E o) fun d => W (rdL E os) fun ds => Ql (d :: ds) := by simp [rdL]; try (repeat (first | exact Iff.rfl | (refine W_ext fun _ => ?_) | (refine W_bind.trans (W_ext fun _ => ?_)) | exact W_map | exact W_if1.trans Iff.rfl | (simp [W_ite, IfB]; done) | simp))
@[simp ↓] theorem W_rd_val : W (rd E (.val d n)) Qd ↔ Qd d := by simp [rd]; try (repeat (first | exact Iff.rfl | (refine W_ext fun _ => ?_) | (refine W_bind.trans (W_ext fun _ => ?_)) | exact W_map | exact W_if1.trans Iff.rfl | (simp [W_ite, IfB]; done) | simp))
@[simp ↓] theorem W_rd_slot : W (rd E (.slot i)) Qd ↔ W (eg E i) fun p => Qd p.1 := by simp [rd]; try (repeat (first | exact Iff.rfl | (refine W_ext fun _ => ?_) | (refine W_bind.trans (W_ext fun _ => ?_)) | exact W_map | exact W_if1.trans Iff.rfl | (simp [W_ite, IfB]; done) | simp))
@[simp ↓] theorem W_akL_nil {Q : List D × Ev → Prop} : W (akL E []) Q ↔ Q ([], E) := by simp [akL]; try (repeat (first | exact Iff.rfl | (refine W_ext fun _ => ?_) | (refine W_bind.trans (W_ext fun _ => ?_)) | exact W_map | exact W_if1.trans Iff.rfl | (simp [W_ite, IfB]; done) | simp))
@[simp ↓] theorem W_akL_cons {Q : List D × Ev → Prop} : W (akL E (o :: os)) Q ↔ W (ak E o) fun p => W (akL p.2 os) fun q => Q (p.1 :: q.1, q.2) := by simp [akL]; try (repeat (first | exact Iff.rfl | (refine W_ext fun _ => ?_) | (refine W_bind.trans (W_ext fun _ => ?_)) | exact W_map | exact W_if1.trans Iff.rfl | (simp [W_ite, IfB]; done) | simp))
@[simp ↓] theorem W_ak_val {Q : D × Ev → Prop} : W (ak E (.val d n)) Q ↔ Q (d, E) := by simp [ak]; try (repeat (first | exact Iff.rfl | (refine W_ext fun _ => ?_) | (refine W_bind.trans (W_ext fun _ => ?_)) | exact W_map | exact W_if1.trans Iff.rfl | (simp [W_ite, IfB]; done) | simp))
@[simp ↓] theorem W_ak_slot {Q : D × Ev → Prop} : W (ak E (.slot i)) Q ↔ W (eg E i) fun p => IfB (imm p.1 || flat p.1 || decide (p.2 ≤ 1)) (Q (p.1, E)) (Q (p.1, E.set i (some (p.1, 0)))) := by
  unfold ak
  cases h : eg E i with
  | none => simp [h]
  | some p =>
    obtain ⟨d, n⟩ := p
    simp only [h, W_some, W_ite, IfB, Bool.or_eq_true, decide_eq_true_eq, Bool.or_eq_false_iff, decide_eq_false_iff_not, not_or, Bool.not_eq_true, or_assoc, and_assoc]
@[simp ↓] theorem W_tk_val : W (tk E (.val d n)) Qk ↔ Qk (d, n, E) := by simp [tk]; try (repeat (first | exact Iff.rfl | (refine W_ext fun _ => ?_) | (refine W_bind.trans (W_ext fun _ => ?_)) | exact W_map | exact W_if1.trans Iff.rfl | (simp [W_ite, IfB]; done) | simp))
@[simp ↓] theorem W_tk_slot : W (tk E (.slot i)) Qk ↔ W (eg E i) fun p => IfB (imm p.1) (Qk (p.1, 9, E)) (Qk (p.1, 0, E.set i (some (p.1, 0)))) := by
  unfold tk
  cases h : eg E i with
  | none => simp [h]
  | some p =>
    obtain ⟨d, n⟩ := p
    simp only [h, W_some, W_iteB]
    cases imm d <;> simp
@[simp ↓] theorem W_mv_val : W (mv E (.val d n)) Qk ↔ Qk (d, n, E) := by simp [mv]; try (repeat (first | exact Iff.rfl | (refine W_ext fun _ => ?_) | (refine W_bind.trans (W_ext fun _ => ?_)) | exact W_map | exact W_if1.trans Iff.rfl | (simp [W_ite, IfB]; done) | simp))
@[simp ↓] theorem W_mv_slot : W (mv E (.slot i)) Qk ↔ W (eg E i) fun p => IfB (imm p.1) (Qk (p.1, 9, E)) (Qk (p.1, p.2, E.set i none)) := by
  unfold mv
  cases h : eg E i with
  | none => simp [h]
  | some p =>
    obtain ⟨d, n⟩ := p
    simp only [h, W_some, W_iteB]
    cases imm d <;> simp
@[simp ↓] theorem W_tkL_nil {Q : List (D × Nat) × Ev → Prop} : W (tkL E []) Q ↔ Q ([], E) := by simp [tkL]; try (repeat (first | exact Iff.rfl | (refine W_ext fun _ => ?_) | (refine W_bind.trans (W_ext fun _ => ?_)) | exact W_map | exact W_if1.trans Iff.rfl | (simp [W_ite, IfB]; done) | simp))
@[simp ↓] theorem W_tkL_cons {Q : List (D × Nat) × Ev → Prop} : W (tkL E (o :: os)) Q ↔ W (tk E o) fun p => W (tkL p.2.2 os) fun q => Q ((p.1, p.2.1) :: q.1, q.2) := by simp [tkL]; try (repeat (first | exact Iff.rfl | (refine W_ext fun _ => ?_) | (refine W_bind.trans (W_ext fun _ => ?_)) | exact W_map | exact W_if1.trans Iff.rfl | (simp [W_ite, IfB]; done) | simp))
@[simp ↓] theorem W_add : W (mAdd a b E) Qe ↔ W (mAL gAdd (mA2 a b) E) Qe := Iff.rfl
@[simp ↓] theorem W_mul : W (mMul a b E) Qe ↔ W (mAL gMul (mA2 a b) E) Qe := Iff.rfl
@[simp ↓] theorem W_sub : W (mSub a b E) Qe ↔ W (mRO gSub (mA2 a b) E) Qe := Iff.rfl
@[simp ↓] theorem W_div : W (mDiv a b E) Qe ↔ W (mRO gDiv (mA2 a b) E) Qe := Iff.rfl
@[simp ↓] theorem W_mod : W (mMod a b E) Qe ↔ W (mRO gMod (mA2 a b) E) Qe := Iff.rfl
@[simp ↓] theorem W_pow : W (mPow a b E) Qe ↔ W (mRO gPow (mA2 a b) E) Qe := Iff.rfl
@[simp ↓] theorem W_shl : W (mShl a b E) Qe ↔ W (mRO gShl (mA2 a b) E) Qe := Iff.rfl
@[simp ↓] theorem W_lt : W (mLt a b E) Qe ↔ W (mRO (gB2 fun i j => decide (i < j)) (mA2 a b) E) Qe := Iff.rfl
@[simp ↓] theorem W_gt : W (mGt a b E) Qe ↔ W (mRO (gB2 fun i j => decide (j < i)) (mA2 a b) E) Qe := Iff.rfl
@[simp ↓] theorem W_ge : W (mGe a b E) Qe ↔ W (mRO (gB2 fun i j => decide (j ≤ i)) (mA2 a b) E) Qe := Iff.rfl
@[simp ↓] theorem W_neg : W (mNeg a E) Qe ↔ W (mRO gNeg (mA1 a) E) Qe := Iff.rfl
@[simp ↓] theorem W_eq : W (mEq a b E) Qe ↔ W (mRO gEq (mA2 a b) E) Qe := Iff.rfl
@[simp ↓] theorem W_ne : W (mNe a b E) Qe ↔ W (mRO gNe (mA2 a b) E) Qe := Iff.rfl
@[simp ↓] theorem W_isN : W (mIsN a E) Qe ↔ W (mRO gIsN (mA1 a) E) Qe := Iff.rfl
@[simp ↓] theorem W_ixd : W (mIxd a b E) Qe ↔ W (mOp gIxd (mA2 a b) E) Qe := Iff.rfl
@[simp ↓] theorem W_notIn : W (mNotIn a b E) Qe ↔ W (mOp (gInA true) (mA2 a b) E) Qe := Iff.rfl
@[simp ↓] theorem W_sl : W (mSl a b c E) Qe ↔ W (mOp gSl (mAc a (mAc b (mAc c mA0))) E) Qe := Iff.rfl
@[simp ↓] theorem W_int : W (mInt a E) Qe ↔ W (a E) fun p => W (rd p.2 p.1) fun d => (match d with | .int k => Qe (.val (.int k) 9, p.2) | _ => False) := by
  unfold mInt
  simp only [W_bind]
  refine W_ext fun p => ?_; refine W_bind.trans <| W_ext fun d => ?_
  cases d <;> simp
@[simp ↓] theorem W_lst : W (mLst fa E) Qe ↔ W (fa E) fun p => W (tkL p.2 p.1) fun q => q.1.length ≤ sizeLine ∧ Qe (.val (.lst (q.1.map (·.1))) (uni q.1), q.2) := by unfold mLst; (repeat (first | exact Iff.rfl | (refine W_ext fun _ => ?_) | (refine W_bind.trans (W_ext fun _ => ?_)) | exact W_map | exact W_if1.trans Iff.rfl | (simp [W_ite, IfB]; done) | simp))
@[simp ↓] theorem W_tup : W (mTup fa E) Qe ↔ W (fa E) fun p => W (tkL p.2 p.1) fun q => q.1.length ≤ sizeLine ∧ Qe (.val (.tup (q.1.map (·.1))) 0, q.2) := by unfold mTup; (repeat (first | exact Iff.rfl | (refine W_ext fun _ => ?_) | (refine W_bind.trans (W_ext fun _ => ?_)) | exact W_map | exact W_if1.trans Iff.rfl | (simp [W_ite, IfB]; done) | simp))
@[simp ↓] theorem W_andV : W (mAndV a b E) Qe ↔ W (a E) fun p => W (rd p.2 p.1) fun d => W (tru d) fun k => IfB k (W (b p.2) Qe) (Qe p) := by unfold mAndV; simp only [W_bind]; (repeat (first | exact Iff.rfl | (refine W_ext fun _ => ?_) | (refine W_bind.trans (W_ext fun _ => ?_)) | exact W_map | exact W_if1.trans Iff.rfl | (simp [W_ite, IfB]; done) | simp)); try (repeat (first | exact Iff.rfl | (refine W_ext fun _ => ?_) | (refine W_bind.trans (W_ext fun _ => ?_)) | exact W_map | exact W_if1.trans Iff.rfl | (simp [W_ite, IfB]; done) | simp))
@[simp ↓] theorem W_b : W (mB a E) Qt ↔ W (a E) fun p => W (rd p.2 p.1) fun d => (match d with | .bl k => Qt (k, p.2) | _ => False) := by
  unfold mB
  simp only [W_bind]
  refine W_ext fun p => ?_; refine W_bind.trans <| W_ext fun d => ?_
  cases d <;> simp
@[simp ↓] theorem W_tr : W (mTr a E) Qt ↔ W (a E) fun p => W (rd p.2 p.1) fun d => W (tru d) fun k => Qt (k, p.2) := by unfold mTr; (repeat (first | exact Iff.rfl | (refine W_ext fun _ => ?_) | (refine W_bind.trans (W_ext fun _ => ?_)) | exact W_map | exact W_if1.trans Iff.rfl | (simp [W_ite, IfB]; done) | simp))
@[simp ↓] theorem W_andT : W (mAndT ft fu E) Qt ↔ W (ft E) fun p => IfB p.1 (W (fu p.2) Qt) (Qt (false, p.2)) := by unfold mAndT; simp only [W_bind]; (repeat (first | exact Iff.rfl | (refine W_ext fun _ => ?_) | (refine W_bind.trans (W_ext fun _ => ?_)) | exact W_map | exact W_if1.trans Iff.rfl | (simp [W_ite, IfB]; done) | simp)); try (repeat (first | exact Iff.rfl | (refine W_ext fun _ => ?_) | (refine W_bind.trans (W_ext fun _ => ?_)) | exact W_map | exact W_if1.trans Iff.rfl | (simp [W_ite, IfB]; done) | simp))
@[simp ↓] theorem W_orT : W (mOrT ft fu E) Qt ↔ W (ft E) fun p => IfB p.1 (Qt (true, p.2)) (W (fu p.2) Qt) := by unfold mOrT; simp only [W_bind]; (repeat (first | exact Iff.rfl | (refine W_ext fun _ => ?_) | (refine W_bind.trans (W_ext fun _ => ?_)) | exact W_map | exact W_if1.trans Iff.rfl | (simp [W_ite, IfB]; done) | simp)); try (repeat (first | exact Iff.rfl | (refine W_ext fun _ => ?_) | (refine W_bind.trans (W_ext fun _ => ?_)) | exact W_map | exact W_if1.trans Iff.rfl | (simp [W_ite, IfB]; done) | simp))
@[simp ↓] theorem W_notT : W (mNotT ft E) Qt ↔ W (ft E) fun p => Qt (!p.1, p.2) := by unfold mNotT; (repeat (first | exact Iff.rfl | (refine W_ext fun _ => ?_) | (refine W_bind.trans (W_ext fun _ => ?_)) | exact W_map | exact W_if1.trans Iff.rfl | (simp [W_ite, IfB]; done) | simp))
@[simp ↓] theorem W_yes : W (mYes E) Qt ↔ Qt (true, E) := by unfold mYes; (repeat (first | exact Iff.rfl | (refine W_ext fun _ => ?_) | (refine W_bind.trans (W_ext fun _ => ?_)) | exact W_map | exact W_if1.trans Iff.rfl | (simp [W_ite, IfB]; done) | simp))
@[simp ↓] theorem W_seq : W (mSeq s t E) Qs ↔ W (s E) fun p => (match p.1 with | .nx => W (t p.2) Qs | fl => Qs (fl, p.2)) := by
  unfold mSeq
  simp only [W_bind]
  refine W_ext fun p => ?_
  obtain ⟨fl, E1⟩ := p
  cases fl <;> simp
@[simp ↓] theorem W_nx : W (mNx E) Qs ↔ Qs (.nx, E) := by unfold mNx; (repeat (first | exact Iff.rfl | (refine W_ext fun _ => ?_) | (refine W_bind.trans (W_ext fun _ => ?_)) | exact W_map | exact W_if1.trans Iff.rfl | (simp [W_ite, IfB]; done) | simp))
@[simp ↓] theorem W_bk : W (mBk E) Qs ↔ Qs (.bk, E) := by unfold mBk; (repeat (first | exact Iff.rfl | (refine W_ext fun _ => ?_) | (refine W_bind.trans (W_ext fun _ => ?_)) | exact W_map | exact W_if1.trans Iff.rfl | (simp [W_ite, IfB]; done) | simp))
@[simp ↓] theorem W_set : W (mSet i a E) Qs ↔ W (a E) fun p => W (tk p.2 p.1) fun q => i < q.2.2.length ∧ Qs (.nx, q.2.2.set i (some (q.1, q.2.1))) := by unfold mSet; (repeat (first | exact Iff.rfl | (refine W_ext fun _ => ?_) | (refine W_bind.trans (W_ext fun _ => ?_)) | exact W_map | exact W_if1.trans Iff.rfl | (simp [W_ite, IfB]; done) | simp))
@[simp ↓] theorem W_ret : W (mRet a E) Qs ↔ W (a E) fun p => W (mv p.2 p.1) fun q => Qs (.rt q.1 q.2.1, q.2.2) := by unfold mRet; (repeat (first | exact Iff.rfl | (refine W_ext fun _ => ?_) | (refine W_bind.trans (W_ext fun _ => ?_)) | exact W_map | exact W_if1.trans Iff.rfl | (simp [W_ite, IfB]; done) | simp))
@[simp ↓] theorem W_ex : W (mEx a E) Qs ↔ W (a E) fun p => Qs (.nx, p.2) := by unfold mEx; (repeat (first | exact Iff.rfl | (refine W_ext fun _ => ?_) | (refine W_bind.trans (W_ext fun _ => ?_)) | exact W_map | exact W_if1.trans Iff.rfl | (simp [W_ite, IfB]; done) | simp))
@[simp ↓] theorem W_ifS : W (mIfS ft s t E) Qs ↔ W (ft E) fun p => IfB p.1 (W (s p.2) Qs) (W (t p.2) Qs) := by unfold mIfS; simp only [W_bind]; (repeat (first | exact Iff.rfl | (refine W_ext fun _ => ?_) | (refine W_bind.trans (W_ext fun _ => ?_)) | exact W_map | exact W_if1.trans Iff.rfl | (simp [W_ite, IfB]; done) | simp)); try (repeat (first | exact Iff.rfl | (refine W_ext fun _ => ?_) | (refine W_bind.trans (W_ext fun _ => ?_)) | exact W_map | exact W_if1.trans Iff.rfl | (simp [W_ite, IfB]; done) | simp))
@[simp ↓] theorem W_asg : W (mAsg g a E) Qs ↔ W (a E) fun p => W (tk p.2 p.1) fun q => W (g q.1 q.2.2) fun E' => Qs (.nx, E') := by unfold mAsg; (repeat (first | exact Iff.rfl | (refine W_ext fun _ => ?_) | (refine W_bind.trans (W_ext fun _ => ?_)) | exact W_map | exact W_if1.trans Iff.rfl | (simp [W_ite, IfB]; done) | simp))
@[simp ↓] theorem W_tgTl {ds : List D} : W (tgT n gs (.lst ds) E) Qg ↔ ds.length = n ∧ W (gs ds E) Qg := by simp [tgT]; try (repeat (first | exact Iff.rfl | (refine W_ext fun _ => ?_) | (refine W_bind.trans (W_ext fun _ => ?_)) | exact W_map | exact W_if1.trans Iff.rfl | (simp [W_ite, IfB]; done) | simp))
@[simp ↓] theorem W_tgV : W (tgV i d E) Qg ↔ i < E.length ∧ Qg (E.set i (some (d, 0))) := by unfold tgV; (repeat (first | exact Iff.rfl | (refine W_ext fun _ => ?_) | (refine W_bind.trans (W_ext fun _ => ?_)) | exact W_map | exact W_if1.trans Iff.rfl | (simp [W_ite, IfB]; done) | simp))
@[simp ↓] theorem W_tgN : W (tgN [] E) Qg ↔ Qg E := by simp [tgN]; try (repeat (first | exact Iff.rfl | (refine W_ext fun _ => ?_) | (refine W_bind.trans (W_ext fun _ => ?_)) | exact W_map | exact W_if1.trans Iff.rfl | (simp [W_ite, IfB]; done) | simp))
@[simp ↓] theorem W_tgC {ds : List D} : W (tgC g gs (d :: ds) E) Qg ↔ W (g d E) fun E1 => W (gs ds E1) Qg := by simp [tgC]; try (repeat (first | exact Iff.rfl | (refine W_ext fun _ => ?_) | (refine W_bind.trans (W_ext fun _ => ?_)) | exact W_map | exact W_if1.trans Iff.rfl | (simp [W_ite, IfB]; done) | simp))
@[simp ↓] theorem W_tgT {ds : List D} : W (tgT n gs (.tup ds) E) Qg ↔ ds.length = n ∧ W (gs ds E) Qg := by simp [tgT]; try (repeat (first | exact Iff.rfl | (refine W_ext fun _ => ?_) | (refine W_bind.trans (W_ext fun _ => ?_)) | exact W_map | exact W_if1.trans Iff.rfl | (simp [W_ite, IfB]; done) | simp))
@[simp ↓] theorem W_for : W (mFor it g s E) Qs ↔ W (it E) fun p => W (forM g s p.1 p.2) Qs := by unfold mFor; (repeat (first | exact Iff.rfl | (refine W_ext fun _ => ?_) | (refine W_bind.trans (W_ext fun _ => ?_)) | exact W_map | exact W_if1.trans Iff.rfl | (simp [W_ite, IfB]; done) | simp))
@[simp ↓] theorem W_forM_nil : W (forM g s [] E) Qs ↔ Qs (.nx, E) := by simp [forM]; try (repeat (first | exact Iff.rfl | (refine W_ext fun _ => ?_) | (refine W_bind.trans (W_ext fun _ => ?_)) | exact W_map | exact W_if1.trans Iff.rfl | (simp [W_ite, IfB]; done) | simp))
theorem W_forM_cons {ds : List D} : W (forM g s (d :: ds) E) Qs ↔ W (g d E) fun E1 => W (s E1) fun q => (match q.1 with | .nx => W (forM g s ds q.2) Qs | .ct => W (forM g s ds q.2) Qs | .bk => Qs (.nx, q.2) | .rt d k => Qs (.rt d k, q.2)) := by
  simp only [forM, W_bind]
  refine W_ext fun E1 => ?_; refine W_bind.trans <| W_ext fun q => ?_
  obtain ⟨fl, E2⟩ := q
  cases fl <;> simp
@[simp ↓] theorem W_sq : W (mSq a E) Qi ↔ W (a E) fun p => W (tk p.2 p.1) fun q => W (seqD q.1) fun ds => Qi (ds, q.2.2) := by unfold mSq; (repeat (first | exact Iff.rfl | (refine W_ext fun _ => ?_) | (refine W_bind.trans (W_ext fun _ => ?_)) | exact W_map | exact W_if1.trans Iff.rfl | (simp [W_ite, IfB]; done) | simp))
@[simp ↓] theorem W_rg1 : W (mRg1 a E) Qi ↔ W (a E) fun p => W (rd p.2 p.1) fun d => (match d with | .int j => rgOk j ∧ Qi (rng 0 j.toNat, p.2) | _ => False) := by
  unfold mRg1
  simp only [W_bind]
  refine W_ext fun p => ?_; refine W_bind.trans <| W_ext fun d => ?_
  cases d <;> simp
@[simp ↓] theorem W_rg2 : W (mRg2 a b E) Qi ↔ W (a E) fun p => W (b p.2) fun p2 => W (rd p2.2 p.1) fun d => W (rd p2.2 p2.1) fun d2 => (match d, d2 with | .int i, .int j => (rgOk i ∧ rgOk j) ∧ Qi (rng i (j - i).toNat, p2.2) | _, _ => False) := by
  unfold mRg2
  simp only [W_bind]
  refine W_ext fun p => ?_; refine W_bind.trans <| W_ext fun p2 => ?_; refine W_bind.trans <| W_ext fun d => ?_; refine W_bind.trans <| W_ext fun d2 => ?_
  cases d <;> cases d2 <;> simp
@[simp ↓] theorem W_lstAt {Q : List D × Nat → Prop} : W (lstAt E i) Q ↔ W (eg E i) fun p => (match p with | (.lst ds, n + 1) => Q (ds, n + 1) | _ => False) := by
  unfold lstAt
  cases h : eg E i with
  | none => simp
  | some p =>
    obtain ⟨d, n⟩ := p
    cases d <;> cases n <;> simp
@[simp ↓] theorem W_app : W (mApp i a E) Qe ↔ W (lstAt E i) fun _ => W (a E) fun p => W (tk p.2 p.1) fun q => W (lstAt q.2.2 i) fun l => l.1.length < sizeLine ∧ Qe (.val .non 9, q.2.2.set i (some (.lst (l.1 ++ [q.1]), upl l.2 (.lst l.1) q.1 q.2.1))) := by unfold mApp; (repeat (first | exact Iff.rfl | (refine W_ext fun _ => ?_) | (refine W_bind.trans (W_ext fun _ => ?_)) | exact W_map | exact W_if1.trans Iff.rfl | (simp [W_ite, IfB]; done) | simp))
@[simp ↓] theorem W_pop : W (mPop i E) Qe ↔ W (lstAt E i) fun l => W (l.1[l.1.length - 1]?) fun d => Qe (.val d (l.2 - 1), E.set i (some (.lst l.1.dropLast, l.2))) := by unfold mPop; (repeat (first | exact Iff.rfl | (refine W_ext fun _ => ?_) | (refine W_bind.trans (W_ext fun _ => ?_)) | exact W_map | exact W_if1.trans Iff.rfl | (simp [W_ite, IfB]; done) | simp))
@[simp ↓] theorem W_rev : W (mRev i E) Qe ↔ W (lstAt E i) fun l => Qe (.val .non 9, E.set i (some (.lst l.1.reverse, l.2))) := by unfold mRev; (repeat (first | exact Iff.rfl | (refine W_ext fun _ => ?_) | (refine W_bind.trans (W_ext fun _ => ?_)) | exact W_map | exact W_if1.trans Iff.rfl | (simp [W_ite, IfB]; done) | simp))
@[simp ↓] theorem W_put : W (mPut i a b E) Qs ↔ W (b E) fun pv => (eg pv.2 i).isSome = true ∧ W (a pv.2) fun pk => W (rd pk.2 pk.1) fun k => W (tk pk.2 pv.1) fun q => W (putAt q.2.2 i k q.1 q.2.1) fun E' => Qs (.nx, E') := by
  unfold mPut
  refine W_bind.trans (W_ext fun pv => W_if1.trans (and_congr_right fun _ => ?_))
  exact W_bind.trans (W_ext fun pk => W_bind.trans (W_ext fun k => W_bind.trans (W_ext fun q => W_map)))
@[simp ↓] theorem W_par {j : Nat} : W (mPar i j fa E) Qs ↔ W (fa E) fun p => W (tkL p.2 p.1) fun q => (match q.1 with | [(d1, n1), (d2, n2)] => (i < q.2.length ∧ j < q.2.length) ∧ Qs (.nx, (q.2.set i (some (d1, n1))).set j (some (d2, n2))) | _ => False) := by
  unfold mPar
  simp only [W_bind]
  refine W_ext fun p => ?_; refine W_bind.trans <| W_ext fun q => ?_
  obtain ⟨ds, E2⟩ := q
  match ds with
  | [] => simp
  | [_] => simp
  | [(_, _), (_, _)] => simp
  | _ :: _ :: _ :: _ => simp
@[simp ↓] theorem W_call0 : W (mCall none M fa E) Qe ↔ W (fa E) fun p => W (rdL p.2 p.1) fun ds => W (M ds) fun r => IfB (imm r.1) (Qe (.val r.1 9, p.2)) (Qe (.val r.1 r.2.1, dem p.2 p.1)) := by
  unfold mCall
  simp only [W_bind, W_iteB, W_some]
  try (repeat (first | exact Iff.rfl | (refine W_ext fun _ => ?_) | (refine W_bind.trans (W_ext fun _ => ?_)) | exact W_map | exact W_if1.trans Iff.rfl | (simp [W_ite, IfB]; done) | simp))
@[simp ↓] theorem W_call1 : W (mCall (some m) M fa E) Qe ↔ W (fa E) fun p => W (rdL p.2 p.1) fun ds => W (M ds) fun r => W (p.1[m]?) fun o => (match o with
    | .slot j => W (flAt p.2 j) fun n => (p.1.eraseIdx m).all (fun o => !isSlot j o) = true ∧ IfB (imm r.1) (Qe (.val r.1 9, p.2.set j (some (r.2.2, n)))) (Qe (.val r.1 r.2.1, (dem p.2 (p.1.eraseIdx m)).set j (some (r.2.2, n))))
    | _ => False) := by
  unfold mCall
  simp only [W_bind]
  refine W_ext fun p => ?_; refine W_bind.trans <| W_ext fun ds => ?_; refine W_bind.trans <| W_ext fun r => ?_
  cases h : p.1[m]? with
  | none => simp
  | some o =>
    cases o with
    | slot j =>
      rw [W_some]
      refine W_bind.trans (W_ext fun n => W_if1.trans (and_congr_right fun _ => ?_))
      cases imm r.1 <;> simp
    | val d n => simp
@[simp ↓] theorem W_flAt {Q : Nat → Prop} : W (flAt E i) Q ↔ W (eg E i) fun p => (match p with | (d, n + 1) => flat d = true ∧ Q (n + 1) | _ => False) := by
  unfold flAt
  cases h : eg E i with
  | none => simp
  | some p =>
    obtain ⟨d, n⟩ := p
    cases n <;> simp
@[simp] theorem dem_nil : dem E [] = E := rfl
@[simp] theorem dem_val : dem E (.val d n :: os) = dem E os := rfl
@[simp] theorem dem_slot : dem E (.slot i :: os) = dem (dem1 E (.slot i)) os := rfl
@[simp] theorem isSlot_v : isSlot i (.val d n) = false := rfl
@[simp] theorem isSlot_s {j : Nat} : isSlot j (.slot i) = (i == j) := rfl
@[simp ↓] theorem W_mDef {io : Option Nat} {ds : List D} {Q : D × Nat × D → Prop} : W (mDef io n s ds) Q ↔ W (s (ent0 io n ds)) fun p => (match p.1 with
    | .nx => W (outAt io p.2) fun o => Q (.non, 9, o)
    | .rt d k => W (outAt io p.2) fun o => Q (d, k, o)
    | _ => False) := by
  unfold mDef
  simp only [W_bind]
  refine W_ext fun p => ?_
  obtain ⟨fl, E2⟩ := p
  cases fl <;> simp
@[simp ↓] theorem W_out0 {Q : D → Prop} : W (outAt none E) Q ↔ Q .non := by simp [outAt]; try (repeat (first | exact Iff.rfl | (refine W_ext fun _ => ?_) | (refine W_bind.trans (W_ext fun _ => ?_)) | exact W_map | exact W_if1.trans Iff.rfl | (simp [W_ite, IfB]; done) | simp))
@[simp ↓] theorem W_out1 {Q : D → Prop} : W (outAt (some i) E) Q ↔ W (eg E i) fun p => (match p with | (d, n + 1) => flat d = true ∧ Q d | _ => False) := by
  unfold outAt
  simp only
  cases h : eg E i with
  | none => simp
  | some p =>
    obtain ⟨d, n⟩ := p
    cases n <;> simp
@[simp] theorem ent0_0 : ent0 none n [] = List.replicate n none := by simp [ent0, ent]
@[simp] theorem ent_0 {io : Option Nat} : ent io i [] = [] := rfl
@[simp] theorem ent_c {io : Option Nat} {ds : List D} : ent io i (d :: ds) = some (d, if io = some i then 1 else 0) :: ent io (i + 1) ds := rfl
theorem ent0_def {io : Option Nat} {ds : List D} : ent0 io n ds = ent io 0 ds ++ List.replicate (n - ds.length) none := rfl
@[simp] theorem rep_s {α : Type} {x : α} : List.replicate (n + 1) x = x :: List.replicate n x := rfl
end
end Zk
namespace Zk
open PySem PySem.Spec PyProof.Rows L2
@[simp] theorem gAdd_int (i j : Int) : gAdd [.int i, .int j] = some (.int (i + j), 9) := by simp [gAdd]
@[simp] theorem gMul_int (i j : Int) : gMul [.int i, .int j] = if i.natAbs < big ∧ j.natAbs < big then some (.int (i * j), 9) else none := by simp [gMul]
@[simp] theorem gI2_int {c : Int → Int → Prop} [∀ i j, Decidable (c i j)] {f : Int → Int → Int} (i j : Int) : gI2 c f [.int i, .int j] = if c i j then some (.int (f i j)) else none := by simp [gI2]
@[simp] theorem gB2_int {f : Int → Int → Bool} (i j : Int) : gB2 f [.int i, .int j] = some (.bl (f i j)) := by simp [gB2]
@[simp] theorem gNeg_int (i : Int) : gNeg [.int i] = some (.int (-i)) := by simp [gNeg]
@[simp] theorem gEq_int (i j : Int) : gEq [.int i, .int j] = some (.bl (decide (i = j))) := by simp [gEq, dat]
@[simp] theorem gNe_int (i j : Int) : gNe [.int i, .int j] = some (.bl (!decide (i = j))) := by simp [gNe, dat]
@[simp] theorem gLen_lst (ds : List D) : gLen [.lst ds] = some (.int ds.length, 9) := by simp [gLen]
@[simp] theorem gLen_tup (ds : List D) : gLen [.tup ds] = some (.int ds.length, 9) := by simp [gLen]
@[simp] theorem gLen_scr (ds : List Int) : gLen [.scr ds] = some (.int ds.length, 9) := by simp [gLen]
@[simp] theorem gInt_int (i : Int) : gInt [.int i] = some (.int i, 9) := by simp [gInt]
@[simp] theorem gTuple_lst (ds : List D) : gTuple [.lst ds] = some (.tup ds, 0) := by simp [gTuple]
@[simp] theorem gTuple_tup (ds : List D) : gTuple [.tup ds] = some (.tup ds, 0) := by simp [gTuple]
@[simp] theorem gList_lst (ds : List D) : gList [.lst ds] = some (.lst ds, lev ds) := by simp [gList]
@[simp] theorem gList_tup (ds : List D) : gList [.tup ds] = some (.lst ds, lev ds) := by simp [gList]
@[simp] theorem tru_bl (b : Bool) : tru (.bl b) = some b := by simp [tru]
@[simp] theorem tru_int (i : Int) : tru (.int i) = some (i != 0) := by simp [tru]
@[simp] theorem flat_lst (xs : List D) : flat (.lst xs) = imms xs := rfl
@[simp] theorem imms_ints (xs : List Int) : imms (xs.map D.int) = true := imms_map _ (fun _ => by simp) xs
@[simp] theorem imms_app (a b : List D) : imms (a ++ b) = (imms a && imms b) := imms_append a b
section
variable {g : Fg} {body s : Fs} {c : Ft} {f : Fe} {it : Fi} {is : List Nat} {E E0 : Ev} {its : List D} {Qs : Fl × Ev → Prop} {Qe : Op × Ev → Prop}
/-- a loop by an invariant -/
theorem W_forI (I : Nat → Ev → Prop) (h0 : I 0 E) (st : ∀ k d E, its[k]? = some d → I k E → W (g d E) fun E1 => W (body E1) fun q => (match q.1 with
    | .nx => I (k + 1) q.2 | .ct => I (k + 1) q.2 | .bk => Qs (.nx, q.2) | .rt d n => Qs (.rt d n, q.2))) (fin : ∀ E, I its.length E → Qs (.nx, E)) : W (forM g body its E) Qs := by
  have go : ∀ (r : List D) (k : Nat) (E : Ev), its.drop k = r → k ≤ its.length → I k E → W (forM g body r E) Qs := by
    intro r
    induction r with
    | nil =>
      intro k E e hk i
      rw [W_forM_nil]
      have : k = its.length := by
        have := List.drop_eq_nil_iff.mp e
        omega
      exact fin E (this ▸ i)
    | cons d r ih =>
      intro k E e hk i
      have hd : its[k]? = some d := by
        have := congrArg List.head? e
        rw [List.head?_drop] at this
        simpa using this
      have hr : its.drop (k + 1) = r := by
        have := congrArg List.tail e
        rw [List.tail_drop] at this
        simpa using this
      have hk2 : k + 1 ≤ its.length := by
        have := (List.getElem?_eq_some_iff.mp hd).1
        omega
      rw [W_forM_cons]
      refine (st k d E hd i).mono fun E1 h1 => h1.mono fun q h2 => ?_
      obtain ⟨fl, E2⟩ := q
      cases fl with
      | nx => exact ih (k + 1) E2 hr hk2 h2
      | ct => exact ih (k + 1) E2 hr hk2 h2
      | bk => exact h2
      | rt d n => exact h2
  exact go its 0 E rfl (Nat.zero_le _) h0
/-- .. over what stands for xs -/
theorem W_forX {α : Type} {xs : List α} {ι : α → D} (I : List α → Ev → Prop) (h0 : I [] E) (st : ∀ a x b E, xs = a ++ x :: b → I a E → W (g (ι x) E) fun E1 => W (body E1) fun q => (match q.1 with
    | .nx => I (a ++ [x]) q.2 | .ct => I (a ++ [x]) q.2 | .bk => Qs (.nx, q.2) | .rt d n => Qs (.rt d n, q.2))) (fin : ∀ E, I xs E → Qs (.nx, E)) : W (forM g body (xs.map ι) E) Qs := by
  refine W_forI (fun k E => I (xs.take k) E) (by simpa using h0) (fun k d E hd i => ?_) fun E i => fin E (by simpa using i)
  rw [List.getElem?_map] at hd
  cases hx : xs[k]? with
  | none => rw [hx] at hd; cases hd
  | some x =>
    rw [hx] at hd
    cases hd
    have hk := (List.getElem?_eq_some_iff.mp hx).1
    have ex := (List.getElem?_eq_some_iff.mp hx).2
    have e : xs = xs.take k ++ x :: xs.drop (k + 1) := by
      conv => lhs; rw [← List.take_append_drop k xs]
      rw [List.drop_eq_getElem_cons hk, ex]
    have e2 : xs.take (k + 1) = xs.take k ++ [x] := by rw [List.take_add_one, hx]; rfl
    rw [e2]
    exact st _ x _ E e i
@[simp] theorem rng_get (lo : Int) (n k : Nat) : (rng lo n)[k]? = if k < n then some (.int (lo + k)) else none := by
  unfold rng
  rw [List.getElem?_map]
  by_cases h : k < n
  · rw [List.getElem?_range h]; simp [h]
  · rw [List.getElem?_eq_none (by simpa using h)]; simp [h]
/-- .. over a range -/
theorem W_forR {lo : Int} {n : Nat} (I : Nat → Ev → Prop) (h0 : I 0 E) (st : ∀ k E, k < n → I k E → W (g (.int (lo + k)) E) fun E1 => W (body E1) fun q => (match q.1 with
    | .nx => I (k + 1) q.2 | .ct => I (k + 1) q.2 | .bk => Qs (.nx, q.2) | .rt d n => Qs (.rt d n, q.2))) (fin : ∀ E, I n E → Qs (.nx, E)) : W (forM g body (rng lo n) E) Qs :=
  W_forI I h0 (fun k d E hd i => by
    rw [rng_get] at hd
    split at hd
    · rename_i h
      cases hd
      exact st k E h i
    · cases hd) fun E i => fin E (by simpa using i)
/-- a comprehension by an invariant -/
theorem W_lcI {E : Ev} {Q : List (D × Nat) × Ev → Prop} (I : Nat → Ev → List (D × Nat) → Prop) (hl : its.length < sizeLine) (h0 : I 0 E []) (st : ∀ k d E acc, its[k]? = some d → acc.length ≤ k → I k E acc → W (g d E) fun E1 => W (c E1) fun q =>
      IfB q.1 (W (f q.2) fun r => W (tk r.2 r.1) fun t => I (k + 1) (wipeE t.2.2 is) (acc ++ [(t.1, t.2.1)])) (I (k + 1) (wipeE q.2 is) acc)) (fin : ∀ E acc, acc.length ≤ its.length → I its.length E acc → Q (acc, E)) : W (lcM g c f is its E []) Q := by
  have go : ∀ (r : List D) (k : Nat) (E : Ev) (acc : List (D × Nat)), its.drop k = r → k ≤ its.length → acc.length ≤ k → I k E acc → W (lcM g c f is r E acc) Q := by
    intro r
    induction r with
    | nil =>
      intro k E acc e hk ha i
      have : k = its.length := by
        have := List.drop_eq_nil_iff.mp e
        omega
      simp only [lcM, W_some]
      exact fin E acc (by omega) (this ▸ i)
    | cons d r ih =>
      intro k E acc e hk ha i
      have hd : its[k]? = some d := by
        have := congrArg List.head? e
        rw [List.head?_drop] at this
        simpa using this
      have hr : its.drop (k + 1) = r := by
        have := congrArg List.tail e
        rw [List.tail_drop] at this
        simpa using this
      have hk2 : k + 1 ≤ its.length := by
        have := (List.getElem?_eq_some_iff.mp hd).1
        omega
      unfold lcM
      refine W_bind.mpr ((st k d E acc hd ha i).mono fun E1 h1 => W_bind.mpr (h1.mono fun q h2 => W_iteB.mpr ?_))
      obtain ⟨b, E2⟩ := q
      cases b with
      | false =>
        rw [IfB_f] at h2 ⊢
        exact ih (k + 1) _ acc hr hk2 (by omega) h2
      | true =>
        rw [IfB_t] at h2 ⊢
        refine W_bind.mpr (h2.mono fun r1 h3 => W_bind.mpr (h3.mono fun t h4 => W_if1.mpr ?_))
        exact ⟨by omega, ih (k + 1) _ _ hr hk2 (by simp; omega) h4⟩
  exact go its 0 E [] rfl (Nat.zero_le _) (by simp) h0
@[simp ↓] theorem W_lc0 : W (mLc it is g c f E) Qe ↔ W (it E) fun p => W (lcM g c f is p.1 (wipeE p.2 is) []) fun q => Qe (.val (.lst (q.1.map (·.1))) (uni q.1), backE p.2 q.2 is) := by unfold mLc; exact W_bind.trans (W_ext fun p => W_map)
/-- a comprehension that changes nothing, of unchangeable things -/
theorem W_lcX {α : Type} {xs : List α} {ι : α → D} {E0 : Ev} {Q : List (D × Nat) × Ev → Prop} (p : α → Bool) (ρ : α → D) (hρ : ∀ x, imm (ρ x) = true) (hl : xs.length < sizeLine)
    (st : ∀ x ∈ xs, W (g (ι x) E0) fun E1 => W (c E1) fun q => IfB q.1 (p x = true ∧ W (f q.2) fun r => W (tk r.2 r.1) fun t => t.1 = ρ x ∧ wipeE t.2.2 is = E0) (p x = false ∧ wipeE q.2 is = E0))
    (fin : ∀ acc : List (D × Nat), acc.map (·.1) = (xs.filter p).map ρ → uni acc = 9 → Q (acc, E0)) : W (lcM g c f is (xs.map ι) E0 []) Q := by
  refine W_lcI (I := fun k E acc => E = E0 ∧ acc.map (·.1) = ((xs.take k).filter p).map ρ) (by simpa using hl) (by simp) (fun k d E acc hd ha i => ?_) fun E acc ha i => ?_
  · obtain ⟨rfl, i⟩ := i
    rw [List.getElem?_map] at hd
    cases hx : xs[k]? with
    | none => rw [hx] at hd; cases hd
    | some x =>
      rw [hx] at hd
      cases hd
      refine (st x (List.mem_of_getElem? hx)).mono fun E1 h1 => h1.mono fun q h2 => ?_
      obtain ⟨b, E2⟩ := q
      cases b with
      | false =>
        rw [IfB_f] at h2 ⊢
        refine ⟨h2.2, ?_⟩
        rw [List.take_add_one, hx, List.filter_append, i]
        simp [h2.1]
      | true =>
        rw [IfB_t] at h2 ⊢
        refine h2.2.mono fun r1 h3 => h3.mono fun t h4 => ⟨h4.2, ?_⟩
        rw [List.take_add_one, hx, List.filter_append, List.map_append, i]
        simp [h2.1, h4.1]
  · obtain ⟨rfl, i⟩ := i
    simp only [List.length_map, List.take_length] at i
    refine fin acc i ?_
    unfold uni
    rw [if_pos]
    rw [i]
    exact imms_map _ hρ _
@[simp] theorem wipeE_nil : wipeE E [] = E := rfl
@[simp] theorem wipeE_c {i : Nat} : wipeE E (i :: is) = wipeE (E.set i none) is := rfl
@[simp] theorem backE_nil : backE E E0 [] = E0 := rfl
@[simp] theorem backE_c {i : Nat} : backE E E0 (i :: is) = backE E (E0.set i (eg E i)) is := rfl
end
theorem big0 {i : Int} (h : i.natAbs < 2 ^ 64) : i.natAbs < big := big_of h (by decide)
theorem sizeL : sizeLine = 16777216 := sizeLine_eq
theorem ixN_ok {n : Nat} {i : Int} (h0 : 0 ≤ i) (h : i < n) : ixN n i = some i.toNat := by unfold ixN; rw [if_pos h0, if_pos h]
@[simp] theorem seqD_lst (ds : List D) : seqD (.lst ds) = some ds := rfl
@[simp] theorem seqD_tup (ds : List D) : seqD (.tup ds) = some ds := rfl
@[simp] theorem seqD_con (ds : List D) : seqD (.con ds) = some ds := rfl
@[simp] theorem seqD_scr (ns : List Int) : seqD (.scr ns) = some (ns.map D.int) := rfl
@[simp] theorem part_non : part .non = some none := rfl
@[simp] theorem part_int (i : Int) : part (.int i) = some (some i) := rfl
@[simp] theorem gSl_lst (ds : List D) (l h : D) : gSl [.lst ds, l, h] = (part l).bind fun l => (part h).map fun h => (.lst (cutD ds l h), lev (cutD ds l h)) := by simp [gSl]
@[simp] theorem gSl_scr (ds : List Int) (l h : D) : gSl [.scr ds, l, h] = (part l).bind fun l => (part h).map fun h => (.lst (cutD (ds.map D.int) l h), lev (cutD (ds.map D.int) l h)) := by simp [gSl]
@[simp] theorem gSl_tup (ds : List D) (l h : D) : gSl [.tup ds, l, h] = (part l).bind fun l => (part h).map fun h => (.tup (cutD ds l h), 0) := by simp [gSl]
theorem cut_to (xs : List D) (k : Nat) : cutD xs none (some k) = xs.take k := by
  unfold cutD
  rw [HT.sIx_none, show HT.sIx xs.length xs.length (some (k : Int)) = min k xs.length from HT.sIx_nat xs.length xs.length k]
  simp
theorem W_seqJ {s t : Fs} {E : Ev} {Q : Fl × Ev → Prop} (J : Ev → Prop) (h : W (s E) fun p => p.1 = .nx ∧ J p.2) (k : ∀ E1, J E1 → W (t E1) Q) : W (mSeq s t E) Q := by
  rw [W_seq]
  refine h.mono fun p hp => ?_
  obtain ⟨fl, E1⟩ := p
  obtain ⟨rfl, j⟩ := hp
  exact k E1 j
def B72 : Int := 2 ^ 7200
theorem B72_pos : 0 < B72 := by unfold B72; exact Int.pow_pos (by decide)
theorem B72_big {i : Int} (h0 : 0 ≤ i) (h : i < B72 * 100000000000) : i.natAbs < big := by
  refine big_of (k := 7300) ?_ (by decide)
  have e : (B72 * 100000000000 : Int) ≤ 2 ^ 7300 := by
    unfold B72
    have : (2 : Int) ^ 7300 = 2 ^ 7200 * 2 ^ 100 := by rw [← Int.pow_add]
    rw [this]
    exact Int.mul_le_mul_of_nonneg_left (by decide) (Int.le_of_lt (Int.pow_pos (by decide)))
  have e3 : i < ((2 ^ 7300 : Nat) : Int) := by
    rw [Int.natCast_pow]
    exact Int.lt_of_lt_of_le h e
  generalize 2 ^ 7300 = c at e3 ⊢
  omega
@[simp] theorem one_big : 1 < big := by
  have := big0 (i := 1) (by decide)
  simpa using this
@[simp] theorem lev_ints' (ns : List Int) : lev (ns.map D.int) = 9 := lev_ints ns
@[simp] theorem uni_nil : uni [] = 9 := by simp [uni]
@[simp] theorem gIxd_lst (ds : List D) (i : D) : gIxd [.lst ds, i] = gIx [.lst ds, i] := by simp [gIxd]
@[simp] theorem gIxd_tup (ds : List D) (i : D) : gIxd [.tup ds, i] = gIx [.tup ds, i] := by simp [gIxd]
@[simp] theorem gIx_lst (ds : List D) (i : Int) : gIx [.lst ds, .int i] = (atI ds i).map fun d => (d, 0) := by simp [gIx]
@[simp] theorem gIx_tup (ds : List D) (i : Int) : gIx [.tup ds, .int i] = (atI ds i).map fun d => (d, 0) := by simp [gIx]
@[simp] theorem atI_map' {α β : Type} (f : α → β) (xs : List α) (i : Int) : atI (xs.map f) i = (atI xs i).map f := atI_map f xs i
theorem atI_ok {α : Type} {xs : List α} {i : Int} (h0 : 0 ≤ i) (h : i < xs.length) : ∃ x, atI xs i = some x ∧ x ∈ xs ∧ xs[i.toNat]? = some x ∧ ixN xs.length i = some i.toNat := by
  have e := ixN_ok h0 h
  have hl : i.toNat < xs.length := by omega
  refine ⟨xs[i.toNat], ?_, List.getElem_mem _, List.getElem?_eq_getElem hl, e⟩
  unfold atI
  rw [e, Option.bind_some, List.getElem?_eq_getElem hl]
theorem divOk_of {i j : Int} (h : 0 < j) (h2 : j < 2 ^ 64) : divOk i j := ⟨h, Int.lt_of_lt_of_le h2 (by
  have : (2 : Int) ^ 8000 = 2 ^ 64 * 2 ^ 7936 := by rw [← Int.pow_add]
  rw [this]
  have h1 : (1 : Int) ≤ 2 ^ 7936 := Int.pow_pos (by decide)
  have := Int.mul_le_mul_of_nonneg_left h1 (by decide : (0 : Int) ≤ 2 ^ 64)
  rwa [Int.mul_one] at this)⟩
@[simp] theorem divOk_2 {i : Int} : divOk i 2 := divOk_of (by decide) (by decide)
@[simp] theorem divOk_1000 {i : Int} : divOk i 1000 := divOk_of (by decide) (by decide)
@[simp] theorem szl {n : Nat} (h : n ≤ 16777216) : n ≤ sizeLine := by rw [sizeL]; exact h
@[simp] theorem szt {n : Nat} (h : n < 16777216) : n < sizeLine := by rw [sizeL]; exact h
@[simp] theorem nb {n : Nat} (h : n < 2 ^ 64) : n < big := big_of h (by decide)
@[simp] theorem upl_int {n m : Nat} {d : D} {i : Int} : upl n d (.int i) m = n := by simp [upl]
@[simp] theorem upl_bl {n m : Nat} {d : D} {i : Bool} : upl n d (.bl i) m = n := by simp [upl]
theorem upl_imm {n m : Nat} {d e : D} (h : imm e = true) : upl n d e m = n := by simp [upl, h]
@[simp] theorem updl_int {κ : Type} {n : Nat} {kds : List (κ × D)} {i : Int} : updl n kds (.int i) = if imms (kds.map (·.2)) = true then n else 1 := by simp [updl]
def putOf (p : D × Nat) (k dv : D) (nv : Nat) : Option (D × Nat) := match p with
  | (.lst ds, n + 1) => match k with
    | .int i => (ixN ds.length i).map fun j => (.lst (ds.set j dv), upl (n + 1) (.lst ds) dv nv)
    | _ => none
  | (.dK kds, n + 1) => (keyOf k).bind fun k => if kds.length < sizeLine then some (.dK (putD kds k dv), updl (n + 1) kds dv) else none
  | (.dT kds, n + 1) => match k with
    | .tup ks => (keysOf ks).bind fun k => if kds.length < sizeLine then some (.dT (putD kds k dv), updl (n + 1) kds dv) else none
    | _ => none
  | _ => none
theorem putAt_of {E : Ev} {x : Nat} {k dv : D} {nv : Nat} : putAt E x k dv nv = (eg E x).bind fun p => (putOf p k dv nv).map fun r => E.set x (some r) := by
  unfold putAt putOf
  cases eg E x with
  | none => rfl
  | some p =>
    obtain ⟨d, n⟩ := p
    cases n with
    | zero => cases d <;> rfl
    | succ n =>
      cases d with
      | lst ds =>
        cases k with
        | int i => simp [Option.map_map, Function.comp_def]
        | _ => rfl
      | dK ds =>
        simp only [Option.bind_some]
        cases keyOf k with
        | none => rfl
        | some k' =>
          simp only [Option.bind_some]
          split <;> rfl
      | dT ds =>
        cases k with
        | tup ks =>
          simp only [Option.bind_some]
          cases keysOf ks with
          | none => rfl
          | some k' =>
            simp only [Option.bind_some]
            split <;> rfl
        | _ => rfl
      | _ => rfl
@[simp ↓] theorem W_putAt {E : Ev} {x : Nat} {k dv : D} {nv : Nat} {Q : Ev → Prop} : W (putAt E x k dv nv) Q ↔ W (eg E x) fun p => W (putOf p k dv nv) fun r => Q (E.set x (some r)) := by
  rw [putAt_of]
  exact W_bind.trans (W_ext fun p => W_map)
@[simp] theorem putOf_lst {ds : List D} {n nv : Nat} {i : Int} {dv : D} : putOf (.lst ds, n + 1) (.int i) dv nv = (ixN ds.length i).map fun j => (.lst (ds.set j dv), upl (n + 1) (.lst ds) dv nv) := rfl
end Zk
namespace Zk
open PySem PySem.Spec PyProof.Rows L2
open Sem (wp)
open AutoSeq1 (wpAny_loadPart')
theorem enum_newT (a : Addr) (xs : Array Value) (k : Nat) (dc : Option Addr) (ss : Array (Option Value)) :
    Meets (Builtin.«enumerate.__new__» ⟨[.type "enumerate", .ref a], []⟩) fun _ R s => s.heap.get? a = some { cls := .type "tuple", dict := dc, data := .seq xs k, slots := ss } ∧
      R (.ok (.ret (.ref (s.heap.push { cls := .type "tuple_iterator", data := .fields #[.ref a, .int 0 0] }).objs.size)))
        { s with heap := (s.heap.push { cls := .type "tuple_iterator", data := .fields #[.ref a, .int 0 0] }).push { cls := .type "enumerate", data := .fields #[.none, .bool false, .ref s.heap.objs.size, rawInt 0, .none, .none] } } :=
  .of_wp fun P w A R s q => by
    obtain ⟨hp, gs, dr, tk, os⟩ := s
    obtain ⟨ha, q⟩ := q
    have sub := sub_enumerate
    have hT : Heap.IsTuple (Shared.heap ⟨hp, gs, dr, tk, os⟩) a xs := ⟨_, ha, rfl, k, rfl⟩
    wp_walk using wpAny_loadPart' ha
    refine wpAny_stack_any fun st => ?_
    refine wpAny_pure ?_
    split
    · rename_i c _ _ _ _ _
      cases (c == Value.type "enumerate") <;>
      · wp_walk using wpAny_loadPart' ha, wpAny_pyIter_tuple hT
        exact ⟨_, rfl, q⟩
    · wp_walk using wpAny_loadPart' ha, wpAny_pyIter_tuple hT
      exact ⟨_, rfl, q⟩
section
variable {prog : Program} {w : World} {A : Around} {E : Value → Shared → Prop} {s : Shared}
theorem call_enumT {a : Addr} {xs : Array Value} {Q : Value → Shared → Prop} (hT : s.heap.IsTuple a xs)
    (q : ∀ h', IsEnum h' (s.heap.objs.size + 1) s.heap.objs.size 0 .none → h'.IsTupleIter s.heap.objs.size a 0 → h'.objs.size = s.heap.objs.size + 2 →
      (∀ b o, s.heap.get? b = some o → h'.get? b = some o) → Q (.ref (s.heap.objs.size + 1)) { s with heap := h' }) :
    wpAny (model prog w) A (call (.type "enumerate") [.ref a]) Q E s := by
  obtain ⟨⟨c, dc, dt, ss⟩, ha, hc, k, hd⟩ := hT
  simp only at hc hd
  subst hc hd
  refine callType_new F.called_enumerate (by decide) (F.typeCall_enumerate_1 _) (F.newCall_enumerate_1 _) (fun ob => F.args_object_init_2 ob _)
    F.entry_enumerate_new (enum_newT a xs k dc ss) ⟨ha, ?_⟩
  have sz : (s.heap.push { cls := .type "tuple_iterator", data := .fields #[.ref a, .int 0 0] }).objs.size = s.heap.objs.size + 1 := Heap.size_push ..
  show _ ∧ _
  rw [sz]
  have ie : IsEnum ((s.heap.push { cls := .type "tuple_iterator", data := .fields #[.ref a, .int 0 0] }).push { cls := .type "enumerate", data := .fields #[.none, .bool false, .ref s.heap.objs.size, rawInt 0, .none, .none] }) (s.heap.objs.size + 1) s.heap.objs.size 0 .none := by
    have z := Heap.get?_push_size (s.heap.push { cls := .type "tuple_iterator", data := .fields #[.ref a, .int 0 0] }) (o := { cls := .type "enumerate", data := .fields #[.none, .bool false, .ref s.heap.objs.size, rawInt 0, .none, .none] }) rfl
    rw [sz] at z
    exact z
  refine ⟨⟨_, ie, rfl⟩, q _ ie ⟨_, Heap.get?_push_of_some _ (Heap.get?_push_size _ rfl), rfl, rfl⟩ (by rw [Heap.size_push, sz]) ?_⟩
  exact fun b o x => Heap.get?_push_of_some _ (Heap.get?_push_of_some _ x)
end
/-- the tuple at a, its items in new pairs with their places -/
def ItEt (K : PySem.W.Frag) (a : Addr) : It :=
  ⟨fun i H => ∃ xs x, SqT K H a xs ∧ xs[i]? = some x,
    fun i H v H' => ∃ T x, v = .ref T ∧ H T = none ∧ H' = upd H T (.tup [.int (i : Nat), x]) ∧ ∀ xs, SqT K H a xs → xs[i]? = some x,
    fun i H => ∃ xs, SqT K H a xs ∧ xs.length = i⟩
theorem turn_enT {P : Program} {w : World} {K : PySem.W.Frag} {elts : List Expr} {kk : Nat} {tpos : PySem.Pos} (a e it : Addr) (h1 : e ≠ it) (h2 : a ≠ it) (h3 : e ≠ a) :
    Turn P w K (.Tuple elts kk tpos) (ItEt K a) [e, it] e fun i h => (∃ old, IsEnum h e it ((i : Nat) : Int) old) ∧ h.IsTupleIter it a i where
  mem := List.mem_cons_self
  obj := fun i h st b hb => by
    obtain ⟨⟨old, ie⟩, o, ho, hc, hd⟩ := st
    rcases List.mem_cons.mp hb with z | z
    · subst z; exact ⟨_, ie, fun v q => nomatch q⟩
    · obtain rfl : b = it := by simpa using z
      exact ⟨o, ho, fun v q => by rw [hd] at q; cases q⟩
  keep := fun i h h' st k => by
    obtain ⟨⟨old, ie⟩, ii⟩ := st
    exact ⟨⟨old, k e (by simp) _ ie⟩, ii.at fun o q => k it (by simp) o q⟩
  item := by
    intro X hP hw hK hc i pins s σ H E I hf st hg
    subst hP hw hK
    obtain ⟨⟨old, ie⟩, ii⟩ := st
    obtain ⟨xs, x, hq, hx⟩ := hg
    obtain ⟨its, rv, p, hz⟩ := I.tuple hq
    obtain ⟨u, hu, ru⟩ := rv.get hx
    have hlen : i < its.toArray.size := by
      have := (List.getElem?_eq_some_iff.mp hu).1
      simpa using this
    have hel : e < s.heap.objs.size := Heap.lt_size ie
    have hil : it < s.heap.objs.size := by obtain ⟨_, q, _⟩ := ii; exact Heap.lt_size q
    have D := Draws.tuple (prog := X.prog) (w := X.w) (A := X.A.in1) (by have := I.ok.hd hc; exact this) it a h2 its.toArray
    refine wpAny_pyNext_enum_itemD D ie ⟨ii, p⟩ hlen h1 (by simp [h1, h3]) fun y h' tk hy io st' hT hsz hk => ?_
    have ey : y = u := by
      have z : its.toArray[i]? = some u := by simpa using hu
      rw [z] at hy
      exact (Option.some.inj hy).symm
    subst ey
    refine ⟨_, rfl, wpAny_letOwnedTupleGo_enum (s := { s with heap := h', toks := tk + 1 }) io fun h2' ie' sb => ?_⟩
    have hT2 : h2'.get? s.heap.objs.size = some { cls := .type "tuple", data := .seq #[.int i tk, y] } := (sb.2 _ (Nat.ne_of_gt hel)).trans hT
    have new : ObjOk X.prog X.w (upd H s.heap.objs.size (.tup [.int (i : Nat), x])) h2' s.heap.objs.size (.tup [.int (i : Nat), x]) :=
      ⟨by show 2 ≤ sizeLine; decide, [.int i tk, y], .cons ⟨_, rfl⟩ (.cons ru .nil), ⟨_, hT2, rfl, _, rfl⟩⟩
    have I1 : Inv X pins σ (upd H s.heap.objs.size (.tup [.int (i : Nat), x])) { s with heap := h2', toks := tk + 1 } :=
      I.turnedNew (ch := [e, it]) (fun b ob hb q => (sb.2 b fun z => hb (by simp [z])).trans (hk b ob (fun z => hb (by simp [z])) (fun z => hb (by simp [z])) q)) hf (Nat.le_refl _) new
    refine ⟨.ref s.heap.objs.size, _, I1, rfl, ⟨_, x, rfl, I.hok.fresh (Nat.le_refl _), rfl, fun ys hy => by rw [I.tuple_inj hy hq]; exact hx⟩, ⟨⟨y, ?_⟩, st'.1.at fun o q => (sb.2 it (Ne.symm h1)).trans q⟩, fun b hb => ?_⟩
    · have e1 : ((i + 1 : Nat) : Int) = (i : Int) + 1 := by omega
      rw [e1]; exact ie'
    · have hb' : b < s.heap.objs.size := by
        rcases List.mem_cons.mp hb with z | z
        · rw [z]; exact hel
        · obtain rfl : b = it := by simpa using z
          exact hil
      rw [upd_ne (Nat.ne_of_lt hb')]
      exact (hf b hb).1
  done := by
    intro X hP hw hK hc i pins s σ H E I hf st hg
    subst hP hw hK
    obtain ⟨⟨old, ie⟩, ii⟩ := st
    obtain ⟨xs, hq, hx⟩ := hg
    obtain ⟨its, rv, p, hz⟩ := I.tuple hq
    obtain ⟨f0, f1, f2, f3, f4, f5⟩ := hf it (by simp)
    have D := Draws.tuple (prog := X.prog) (w := X.w) (A := X.A.in1) (by have := I.ok.hd hc; exact this) it a h2 its.toArray
    have en : i = its.toArray.size := by
      have := rv.length
      simp
      omega
    subst en
    exact wpAny_pyNext_enum_endD D ie ⟨ii, p⟩ fun h' eb => ⟨rfl, I.turned (t' := s.toks) (fun b o hb q => eb b o hb q) f0 f1 f3 f4 f5⟩
  self := fun A i s Q E st h => by
    obtain ⟨⟨_, ie⟩, _⟩ := st
    exact wpAny_pyIter_enum ie h
/-- enumerate(tuple) -/
def iEnT (K : PySem.W.Frag) (ta : TA) : TI := fun σ H R => ta σ H fun vs H1 => ∃ a xs, vs = [.ref a] ∧ SqT K H1 a xs ∧ R (ItEt K a) H1
theorem pi_enT {X : Cx} {e : Expr} {ta : TA} {p pos tpos : PySem.Pos} {elts : List Expr} {kk : Nat} (hg : Gl X "enumerate") (hm : X.mg "enumerate" = none) (ha : PA X [e] ta) (hs : starEach [e] X.env = [(false, eval e X.env)] := by rfl) :
    PI X (.Tuple elts kk tpos) (.Call (.Name "enumerate" p) [e] [] pos) (iEnT X.K ta) := by
  refine ⟨fun pins s σ H R I h => ?_⟩
  refine Call_ (ld_blt I hg hm boot_enumerate (PyProof.Rows.callWith_type1 (thn (ha.run pos pins s σ H _ I h) fun us s1 ⟨vs, H1, I1, r1, q1⟩ => ?_) hs rfl))
  obtain ⟨a, xs, rfl, hq, q⟩ := q1
  cases r1 with
  | cons r rr =>
    cases rr
    cases r
    obtain ⟨its, rv, p', hz⟩ := I1.tuple hq
    have la : a < s1.heap.objs.size := by obtain ⟨o, ho, _⟩ := p'; exact Heap.lt_size ho
    refine call_enumT p' fun h' ie ii hsz hk => wpAny_pyIter_enum ie ?_
    have I2 : Inv X pins σ H1 { s1 with heap := h' } := I1.kept (t' := s1.toks) hk
    refine ⟨s1.heap.objs.size + 1, [s1.heap.objs.size + 1, s1.heap.objs.size], _, _, H1, rfl, I2, turn_enT a (s1.heap.objs.size + 1) s1.heap.objs.size (Nat.succ_ne_self _) (Nat.ne_of_lt la) (Ne.symm (Nat.ne_of_lt (Nat.lt_succ_of_lt la))), ⟨⟨.none, ie⟩, ii⟩, fun b hb => ?_, q⟩
    have hle : s1.heap.objs.size ≤ b := by
      rcases List.mem_cons.mp hb with z | z
      · rw [z]; exact Nat.le_add_right _ _
      · obtain rfl : b = s1.heap.objs.size := by simpa using z
        exact Nat.le_refl _
    exact I1.fpOk hle (I1.hok.fresh hle)
def enD (k : Nat) : List D → List D
  | [] => []
  | d :: ds => .tup [.int (k : Nat), d] :: enD (k + 1) ds
@[simp] theorem enD_len (ds : List D) : ∀ k, (enD k ds).length = ds.length := by
  induction ds with
  | nil => intro k; rfl
  | cons d ds ih => intro k; simp [enD, ih]
theorem enD_get (ds : List D) : ∀ (k i : Nat), (enD k ds)[i]? = (ds[i]?).map fun d => .tup [.int ((k + i : Nat)), d] := by
  induction ds with
  | nil => intro k i; simp [enD]
  | cons d ds ih =>
    intro k i
    cases i with
    | zero => simp [enD]
    | succ i =>
      simp only [enD, List.getElem?_cons_succ, ih]
      rw [show k + 1 + i = k + (i + 1) by omega]
def mEnu (f : Fe) : Fi := fun E => (f E).bind fun p => (tk p.2 p.1).bind fun q => match q.1 with
  | .lst ds => some (enD 0 ds, q.2.2)
  | .tup ds => some (enD 0 ds, q.2.2)
  | .con ds => some (enD 0 ds, q.2.2)
  | _ => none
section
variable {K : PySem.W.Frag} {Z Z' : Addr → Prop} {H H' : Hp} {σ : L2.St} {E E' : Ev} {R R' : Rs}
theorem iok_enL {a : Addr} {vs : List V} {ds : List D} (z : Z a) (h : H a = some (.lst vs)) (r : Rps K Z H vs ds) : IOk K (Ite K a) (enD 0 ds) Z H where
  go := fun Z2 H2 i p hi => by
    rw [enD_len] at hi
    obtain ⟨v, hv, _⟩ := r.getD (List.getElem?_eq_getElem hi)
    exact ⟨vs, v, .inl (.inl (p.hz a _ z h)), hv⟩
  stop := fun Z2 H2 p => ⟨vs, .inl (.inl (p.hz a _ z h)), by rw [r.len, enD_len]; exact Nat.le_refl _⟩
  yld := fun Z2 H2 i x H3 p hi y => by
    obtain ⟨T, u, rfl, hT, rfl, f⟩ := y
    have hx := f vs (.inl (.inl (p.hz a _ z h)))
    obtain ⟨d, hd, rd⟩ := (r.pers p).get hx
    have m : More H2 (upd H2 T (.tup [.int (i : Nat), u])) := .upd hT
    refine ⟨m, .tup [.int ((0 + i : Nat)), d], by rw [enD_get, hd]; rfl, .tup upd_same (.cons ?_ (.cons (rd.pers (m.pers fun _ h => h)) .nil))⟩
    rw [Nat.zero_add]; exact .int _
theorem iok_enT {a : Addr} {vs : List V} {ds : List D} (h : ∀ Z2 H2, Pers Z H Z2 H2 → SqT K H2 a vs) (r : Rps K Z H vs ds) : IOk K (ItEt K a) (enD 0 ds) Z H where
  go := fun Z2 H2 i p hi => by
    rw [enD_len] at hi
    obtain ⟨v, hv, _⟩ := r.getD (List.getElem?_eq_getElem hi)
    exact ⟨vs, v, h _ _ p, hv⟩
  stop := fun Z2 H2 p => ⟨vs, h _ _ p, by rw [r.len, enD_len]⟩
  yld := fun Z2 H2 i x H3 p hi y => by
    obtain ⟨T, u, rfl, hT, rfl, f⟩ := y
    have hx := f vs (h _ _ p)
    obtain ⟨d, hd, rd⟩ := (r.pers p).get hx
    have m : More H2 (upd H2 T (.tup [.int (i : Nat), u])) := .upd hT
    refine ⟨m, .tup [.int ((0 + i : Nat)), d], by rw [enD_get, hd]; rfl, .tup upd_same (.cons ?_ (.cons (rd.pers (m.pers fun _ h => h)) .nil))⟩
    rw [Nat.zero_add]; exact .int _
theorem enu_of {f : Fe} {Rk : It → Hp → Prop} (q : iOf K (mEnu f) σ H Rk) : iEnum K (aOf K (mAc f mA0)) σ H Rk ∨ iEnT K (aOf K (mAc f mA0)) σ H Rk := by
  obtain ⟨Z, E, R, s, its, E', e, q⟩ := q
  unfold mEnu at e
  cases e1 : f E with
  | none => rw [e1] at e; cases e
  | some p =>
    obtain ⟨o, E1⟩ := p
    rw [e1] at e
    simp only [Option.bind_some] at e
    have ea : mAc f mA0 E = some ([o], E1) := by unfold mAc mA0; rw [e1]; rfl
    cases e2 : tk E1 o with
    | none => rw [e2] at e; cases e
    | some p2 =>
      obtain ⟨d, n, E2⟩ := p2
      rw [e2] at e
      simp only [Option.bind_some] at e
      have one : ∀ {vs : List V} {rss : List (List Addr)} {Z1 : Addr → Prop} {H1 : Hp}, All3 (OV K Z1 H1 σ) vs [o] rss → ∃ v rs, vs = [v] ∧ rss = [rs] ∧ OV K Z1 H1 σ v o rs := fun h => by
        cases h with
        | cons h t => cases t; exact ⟨_, _, rfl, rfl, h⟩
      have fr1 : ∀ {R1 : Rs} {rs : List Addr}, Fr R H R1 ([rs] : List (List Addr)).flatten → Fr R H R1 rs := fun {R1 rs} h => by simpa using h
      cases d with
      | lst ds =>
        cases e
        refine .inl ⟨Z, E, R, s, [o], E1, ea, fun vs Z1 H1 R1 rss s1 t1 a1 f1 => ?_⟩
        obtain ⟨v, rs, rfl, rfl, ov⟩ := one a1
        obtain ⟨Z2, R2, s2, t2, r⟩ := s1.takeFrz t1 ov (fr1 f1) e2
        cases r with
        | lst z h r => exact ⟨_, _, rfl, .inl (.inl h), q _ Z2 H1 R2 s2 t2 (iok_enL z h r)⟩
      | tup ds =>
        cases e
        refine .inr ⟨Z, E, R, s, [o], E1, ea, fun vs Z1 H1 R1 rss s1 t1 a1 f1 => ?_⟩
        obtain ⟨v, rs, rfl, rfl, ov⟩ := one a1
        obtain ⟨Z2, R2, s2, t2, r⟩ := s1.takeFrz t1 ov (fr1 f1) e2
        cases r with
        | tup h r => exact ⟨_, _, rfl, .of h, q _ Z2 H1 R2 s2 t2 (iok_enT (fun Z3 H3 p => .of (p.tp _ _ h fun z => z)) r)⟩
      | con ds =>
        cases e
        refine .inr ⟨Z, E, R, s, [o], E1, ea, fun vs Z1 H1 R1 rss s1 t1 a1 f1 => ?_⟩
        obtain ⟨v, rs, rfl, rfl, ov⟩ := one a1
        obtain ⟨Z2, R2, s2, t2, r⟩ := s1.takeFrz t1 ov (fr1 f1) e2
        cases r with
        | con h r => exact ⟨_, _, rfl, h.sq, q _ Z2 H1 R2 s2 t2 (iok_enT (fun Z3 H3 p => h.sq) r)⟩
      | _ => cases e
end
section
variable {X : Cx} {e : Expr} {fe : Fe} {p pos tpos : PySem.Pos} {elts : List Expr} {kk : Nat}
theorem ai_enu (he : AE X e fe) (hg : Gl X "enumerate") (hm : X.mg "enumerate" = none) (hs : starEach [e] X.env = [(false, eval e X.env)] := by rfl) : AI X (.Tuple elts kk tpos) (.Call (.Name "enumerate" p) [e] [] pos) (mEnu fe) :=
  PI.mono (PI.or (pi_enum hg hm (aa_cons he aa_nil hs) hs) (pi_enT hg hm (aa_cons he aa_nil hs) hs)) fun σ H R q => enu_of q
end
@[simp ↓] theorem W_enu {a : Fe} {E : Ev} {Q : List D × Ev → Prop} : W (mEnu a E) Q ↔ W (a E) fun p => W (tk p.2 p.1) fun q => (match q.1 with | .lst ds => Q (enD 0 ds, q.2.2) | .tup ds => Q (enD 0 ds, q.2.2) | .con ds => Q (enD 0 ds, q.2.2) | _ => False) := by
  unfold mEnu
  refine W_bind.trans (W_ext fun p => W_bind.trans (W_ext fun q => ?_))
  obtain ⟨d, n, E2⟩ := q
  cases d <;> simp
end Zk
namespace Zk
open PySem PySem.Spec PyProof.Rows L2 RZ RT
section
variable {K : PySem.W.Frag} {Z Z' Z0 : Addr → Prop} {H H' H0 : Hp} {σ : L2.St} {E E' : Ev} {R R' R0 : Rs}
end
section
variable {X : Cx} {tg e e2 : Expr} {fe f2 : Fe} {p pos tpos : PySem.Pos} {elts : List Expr} {kk : Nat}
end
end Zk
namespace Zk
open PySem PySem.Spec PyProof.Rows L2
section
variable {K : PySem.W.Frag} {H : Hp} {σ : L2.St}
def gGcd : List D → Option (D × Nat)
  | [.int a, .int b] => some (.int ((Nat.gcd a.natAbs b.natAbs : Nat) : Int), 9)
  | _ => none
@[simp] theorem gGcd_int (a b : Int) : gGcd [.int a, .int b] = some (.int ((Nat.gcd a.natAbs b.natAbs : Nat) : Int), 9) := rfl
theorem al_gcd : AL K rGcd gGcd := by
  intro Z H vs ds d n Q hz k e q
  unfold gGcd at e
  split at e
  · cases e
    obtain ⟨x, y, rfl, h1, h2⟩ := k.two
    cases Rp.intE h1
    cases Rp.intE h2
    exact ⟨_, _, rfl, fin_imm (Z := Z) (.int _) (by simp) q⟩
  · cases e
end
section
variable {X : Cx} {o e : Expr} {es : List Expr} {fe : Fe} {fa : Fa} {p pos apos : PySem.Pos} {x : Str}
theorem ae_gcd (hg : Gl X x) (hm : X.mg x = some (.builtin "math.gcd")) (ha : AA X (e :: es) fa) (hdb : (x == ("__debug__" : Str)) = false := by decide)
    (he : starEach (e :: es) X.env = (false, eval e X.env) :: starEach es X.env := by rfl) (hpl : (backTo pos (starEach es X.env)).any (·.1) = false := by rfl) : AE X (.Call (.Name x p) (e :: es) [] pos) (mOp gGcd fa) :=
  PE.mono (pe_callBfun cr_gcd hg hm ha hdb he hpl) fun _ _ _ q => op_of al_gcd q
end
end Zk
namespace Zk
open PySem PySem.Spec PyProof.Rows L2
end Zk
namespace Zk
open PySem PySem.Spec PyProof.Rows L2
section
variable {E0 : Ev} {g : Fg} {f : Fe} {is : List Nat} {α : Type} {xs : List α} {ι : α → D} {Q : List (D × Nat) × Ev → Prop}
/-- all of them, no filter -/
theorem W_lcY {c : Ft} (ρ : α → D) (hρ : ∀ x, imm (ρ x) = true) (hl : xs.length < sizeLine)
    (st : ∀ x ∈ xs, W (g (ι x) E0) fun E1 => W (c E1) fun q => q.1 = true ∧ W (f q.2) fun r => W (tk r.2 r.1) fun t => t.1 = ρ x ∧ wipeE t.2.2 is = E0)
    (fin : ∀ acc : List (D × Nat), acc.map (·.1) = xs.map ρ → uni acc = 9 → Q (acc, E0)) : W (lcM g c f is (xs.map ι) E0 []) Q :=
  W_lcX (p := fun _ => true) ρ hρ hl (fun x hx => (st x hx).mono fun E1 h => h.mono fun q h => by
    rw [h.1, IfB_t]; exact ⟨rfl, h.2⟩) fun acc ha hu => fin acc (by rw [ha, List.filter_eq_self.mpr (by simp)]) hu
/-- ints -/
theorem W_lcN {c : Ft} (v : α → Int) (hl : xs.length < sizeLine)
    (st : ∀ x ∈ xs, W (g (ι x) E0) fun E1 => W (c E1) fun q => q.1 = true ∧ W (f q.2) fun r => W (tk r.2 r.1) fun t => t.1 = .int (v x) ∧ wipeE t.2.2 is = E0)
    (fin : ∀ acc : List (D × Nat), acc.map (·.1) = (xs.map v).map D.int → uni acc = 9 → Q (acc, E0)) : W (lcM g c f is (xs.map ι) E0 []) Q :=
  W_lcY (fun x => .int (v x)) (fun _ => by simp) hl st fun acc ha hu => fin acc (by rw [ha, List.map_map]; rfl) hu
end
theorem rng0 (n : Nat) : rng 0 n = (List.range n).map fun b : Nat => D.int (b : Int) := by
  unfold rng
  refine List.map_congr_left fun b _ => ?_
  simp
abbrev gDivZ := gI2 (fun _ j => j ≠ 0 ∧ j.natAbs < 2 ^ 8000) fun i j => Int.fdiv i j
def mDivZ (a b : Fe) : Fe := mRO gDivZ (mA2 a b)
section
variable {X : Cx} {a b : Expr} {fa fb : Fe} {pos : PySem.Pos}
theorem log_of {j : Int} (h0 : j ≠ 0) (h : j.natAbs < 2 ^ 8000) : j.natAbs.log2 < 9000 := by
  have := (Nat.log2_lt (n := j.natAbs) (k := 8000) (by omega)).mpr h
  omega
theorem op_divZ : OpR X (binaryOp .FloorDiv) (rI (fun _ j => j ≠ 0 ∧ j.natAbs < 2 ^ 8000) fun i j => .int (Int.fdiv i j)) :=
  opI fun _ _ _ _ _ _ _ hc q => floordiv_int hc.1 q (.inl (PyProof.noPylong_of_log2 (log_of hc.1 hc.2)))
theorem ae_divZ (ha : AE X a fa) (hb : AE X b fb) : AE X (.BinOp a .FloorDiv b pos) (mDivZ fa fb) := PE.mono (pe_op op_divZ ha hb) fun _ _ _ q => tOp_ro (ro_I2 (fun _ _ h => h) fun _ _ _ => rfl) q
@[simp ↓] theorem W_divZ {fa fb : Fe} {E : Ev} {Qe : Op × Ev → Prop} : W (mDivZ fa fb E) Qe ↔ W (mRO gDivZ (mA2 fa fb) E) Qe := Iff.rfl
end
end Zk
namespace Zk
open PySem PySem.Spec PyProof.Rows L2
theorem W_O {α : Type} {x : Option α} {Q : α → Prop} (h : ∀ Q' : α → Prop, (∀ a, Q a → Q' a) → W x Q') : W x Q := h Q fun _ h => h
theorem W_seqO {s t : Fs} {E : Ev} {Q : Fl × Ev → Prop} (J : Ev → Prop) (h : ∀ J' : Ev → Prop, (∀ E, J E → J' E) → W (s E) fun p => p.1 = .nx ∧ J' p.2) (k : ∀ E1, J E1 → W (t E1) Q) : W (mSeq s t E) Q :=
  W_seqJ J (h J fun _ h => h) k
section
variable {g : Fg} {body : Fs} {E : Ev} {Qs : Fl × Ev → Prop}
theorem W_forRO {lo : Int} {n : Nat} (I : Nat → Ev → Prop) (h0 : I 0 E) (st : ∀ k E (I' : Ev → Prop), k < n → I k E → (∀ E, I (k + 1) E → I' E) → W (g (.int (lo + k)) E) fun E1 => W (body E1) fun q => (match q.1 with
    | .nx => I' q.2 | .ct => I' q.2 | .bk => Qs (.nx, q.2) | .rt d n => Qs (.rt d n, q.2))) (fin : ∀ E, I n E → Qs (.nx, E)) : W (forM g body (rng lo n) E) Qs :=
  W_forR I h0 (fun k E hk i => st k E _ hk i fun _ h => h) fin
end
end Zk
namespace Zk
open PySem PySem.Spec PyProof.Rows L2
section
variable {K : PySem.W.Frag}
end
section
variable {X : Cx} {a b c : Expr} {fa fb fc : Fe} {pos : PySem.Pos}
end
section
variable {E : Ev} {a b c : Fe} {Qe : Op × Ev → Prop}
end
end Zk
set_option maxHeartbeats 4000000
namespace Zk
open PySem PySem.Spec PyProof.Rows L2
section
variable {prg : Program} {wd : World} {Ar : Around} {EE : Value → Shared → Prop} {sh : Shared}
end
section
variable {X : Cx} {a : Expr} {ta : TE} {p p2 q pos : PySem.Pos}
end
section
variable {K : PySem.W.Frag}
end
section
variable {X : Cx} {a : Expr} {fa : Fe} {p p2 q pos : PySem.Pos}
end
end Zk
namespace Zk
open PySem PySem.Spec PyProof.Rows L2
section
variable {K : PySem.W.Frag} {Z Z' Zf Z0 Z1 Z2 Z5 Z6 : Addr → Prop} {H H' H0 H1 H2 H5 H6 : Hp} {σ σ' τ : L2.St} {E E' E1 E2 EF : Ev} {R R' R0 R1 R2 R5 R6 Rw : Rs} {D0 : Addr} {accV : List V} {accD accF : List (D × Nat)} {rss : List (List Addr)}
/-- the new list at D0 and its items, told since Z1, H1, Rw -/
structure LS (K : PySem.W.Frag) (Z1 : Addr → Prop) (H1 : Hp) (Rw : Rs) (D0 : Addr) (Z2 : Addr → Prop) (H2 : Hp) (R2 : Rs) (accV : List V) (accD : List (D × Nat)) (rss : List (List Addr)) : Prop where
  h2D : H2 D0 = some (.lst accV)
  z2D : ¬ Z2 D0
  o2D : ¬ ow R2 D0
  tl : TL K Z2 H2 accV accD rss
  tnd : rss.flatten.Nodup
  tno : ∀ a ∈ rss.flatten, ¬ ow R2 a ∧ a ≠ D0 ∧ (ow Rw a ∨ H1 a = none)
  t2 : Step Z1 H1 (ow Rw) Z2 H2 (ow R2)
theorem LS.keep (L : LS K Z1 H1 Rw D0 Z2 H2 R2 accV accD rss) (s2 : S K Z2 H2 σ E2 R2) (t : Step Z2 H2 (ow R2) Z6 H6 (ow R6)) : LS K Z1 H1 Rw D0 Z6 H6 R6 accV accD rss := by
  obtain ⟨h2D, z2D, o2D, tl, tnd, tno, t2⟩ := L
  refine ⟨t.hh D0 _ h2D o2D, fun z => ?_, fun z => ?_, All3.imp tl fun v d rs m o => (s2.pend t o fun a ma => (tno a (mem_flatten_of m ma)).1).1, tnd, fun a ma => ⟨fun z => ?_, (tno a ma).2⟩, t2.trans t⟩
  · rcases t.zn D0 z with z | z | z
    · exact z2D z
    · rw [h2D] at z; cases z
    · exact o2D z
  · rcases t.on D0 z with z | z
    · exact o2D z
    · rw [h2D] at z; cases z
  · rcases t.on a z with z | z
    · exact (tno a ma).1 z
    · exact TL.there tl a ma z
/-- one item more -/
theorem LS.item {f : Fe} {o6 : Op} {E6 E7 : Ev} {dv : D} {nv : Nat} {Nx : Hp → Prop} (s5 : S K Z5 H5 τ E R5) (hD1 : H1 D0 = none) (L : LS K Z1 H1 Rw D0 Z5 H5 R5 accV accD rss) (e6 : f E = some (o6, E6)) (e7 : tk E6 o6 = some (dv, nv, E7)) (hsz : accD.length < sizeLine)
    (k : ∀ (y : V) (Z7 : Addr → Prop) (H7 : Hp) (R7 : Rs) (rs : List Addr), S K Z7 H7 τ E7 R7 → LS K Z1 H1 Rw D0 Z7 H7 R7 (accV ++ [y]) (accD ++ [(dv, nv)]) (rss ++ [rs]) → Pers Z5 H5 Z7 H7 → Nx H7) :
    eOf K f τ H5 fun y H7 => ∃ acc, H7 D0 = some (.lst acc) ∧ acc.length < sizeLine ∧ Nx (upd H7 D0 (.lst (acc ++ [y]))) := by
  refine ⟨Z5, E, R5, s5, o6, E6, e6, fun y6 Z6 H6 R6 rs6 s6 t6 ov6 f6 => ?_⟩
  obtain ⟨Z7, R7, s7, t7, o7, n7, sub7⟩ := s6.take ov6 f6.no e7
  have t57 := t6.trans t7
  have L7 := L.keep s5 t57
  have p57 := s5.pers t57
  refine ⟨accV, L7.h2D, by rw [TL.len L.tl]; exact hsz, ?_⟩
  have neD : ∀ a ∈ rs6, a ≠ D0 := fun a ma e => by
    subst e
    rcases f6.of a ma with z | z
    · exact L.o2D z
    · rw [L.h2D] at z; cases z
  have apart : ∀ a ∈ rs6, a ∉ rss.flatten := fun a ma z => by
    rcases f6.of a ma with y | y
    · exact (L.tno a z).1 y
    · exact TL.there L.tl a z y
  obtain ⟨s8, p8⟩ := s7.free (o' := .lst (accV ++ [y6])) L7.h2D trivial L7.o2D L7.z2D
  have tl8 : TL K Z7 (upd H6 D0 (.lst (accV ++ [y6]))) (accV ++ [y6]) (accD ++ [(dv, nv)]) (rss ++ [rs6]) :=
    All3.append (All3.imp L7.tl fun v d rs m o => o.keep p8 fun a ma => ⟨upd_ne (L7.tno a (mem_flatten_of m ma)).2.1, (o.mut a ma).2⟩)
      (.cons (o7.keep p8 fun a ma => ⟨upd_ne (neD a ma), (o7.mut a ma).2⟩) .nil)
  have t8 : Step Z1 H1 (ow Rw) Z7 (upd H6 D0 (.lst (accV ++ [y6]))) (ow R7) := by
    have tt := L7.t2
    refine ⟨tt.zz, tt.zn, fun a o ho h => ?_, tt.on, fun a h e => ?_⟩
    · have ne : a ≠ D0 := fun e => by rw [e, hD1] at ho; cases ho
      rw [upd_ne ne]; exact tt.hh a o ho h
    · by_cases ca : a = D0
      · rw [ca, upd_same] at e; cases e
      · rw [upd_ne ca] at e; exact tt.dm a h e
  refine k y6 Z7 _ R7 rs6 s8 ⟨upd_same, L7.z2D, L7.o2D, tl8, ?_, fun a ma => ?_, t8⟩ (p57.trans p8)
  · rw [List.flatten_append]
    simp only [List.flatten_cons, List.flatten_nil, List.append_nil]
    exact List.nodup_append.mpr ⟨L.tnd, f6.nd, fun a ma b mb e => apart b mb (e ▸ ma)⟩
  · rw [List.flatten_append] at ma
    simp only [List.flatten_cons, List.flatten_nil, List.append_nil, List.mem_append] at ma
    rcases ma with ma | ma
    · exact L7.tno a ma
    · refine ⟨n7 a ma, neD a ma, ?_⟩
      rcases f6.of a ma with z | z
      · exact L.t2.on a z
      · cases cc : H1 a with
        | none => exact .inr rfl
        | some u => exact absurd z (L.t2.dm a (by rw [cc]; simp))
end
section
variable {X : Cx} {elt tg iter tg1 iter1 : Expr} {ifs ifs1 : List Expr} {fe : Fe} {ft ft1 : Ft} {fi fi1 : Fi} {g g1 : Fg} {scope : Scope} {pos spos py : PySem.Pos} {w w1 : List Nat} {own : List (Str × Nat)} {vs1 : List Nat}
end
section
variable {E E0 : Ev} {it it2 : Fi} {g g2 : Fg} {c c2 : Ft} {f : Fe} {is is2 : List Nat} {Qe : Op × Ev → Prop} {Q : List (D × Nat) × Ev → Prop} {α β : Type}
end
end Zk
namespace Zk
open PySem PySem.Spec PyProof.Rows L2
section
variable {X : Cx} {a b c d : Expr} {pos : PySem.Pos} {ta tb tc td : TE} {fa fb fc fd : Fe}
end
section
variable {E : Ev} {a b c d : Fe} {Qe : Op × Ev → Prop}
end
section
variable {prog : Program} {w : World} {A : Around} {Ex : Value → Shared → Prop} {s : Shared}
end
section
variable {X : Cx}
end
section
variable {K : PySem.W.Frag} {Z Z' : Addr → Prop} {H H' : Hp} {σ : L2.St}
end
section
variable {X : Cx} {a : Expr} {fa : Fe} {pos : PySem.Pos}
end
end Zk
namespace Zk
open PySem PySem.Spec PyProof.Rows L2
section
variable {X : Cx}
end
section
variable {κ : Type} [DecidableEq κ] {K : PySem.W.Frag} {Z Z' Zf Z0 Z1 Z2 : Addr → Prop} {H H' H0 H1 H2 : Hp} {σ σ' : L2.St} {E E' E1 EF : Ev} {R R' R0 R1 R2 Rw : Rs} {D0 : Addr}
end
section
variable {X : Cx} {kx vx tg iter : Expr} {ifs : List Expr} {fk fv : Fe} {ft : Ft} {fi : Fi} {g : Fg} {scope : Scope} {pos : PySem.Pos} {w : List Nat} {own : List (PySem.Str × Nat)}
end
section
variable {κ : Type} [DecidableEq κ] {E E0 : Ev} {it : Fi} {g : Fg} {c : Ft} {fk fv : Fe} {is : List Nat} {Qe : Op × Ev → Prop} {con : List (κ × D) → D} {ko : D → Option κ} {Q : List (κ × D) × Ev → Prop}
end
end Zk
namespace Zk
open PySem PySem.Spec PyProof.Rows L2
section
variable {prog : Program} {w : World} {A : Around} {s : Shared}
/-- the ints of a tuple on the heap -/
def IsTI (h : Heap) (v : Value) (ns : List Int) : Prop := ∃ (a : Addr) (o : Obj) (us : List Value) (n : Nat), v = .ref a ∧ h.get? a = some o ∧ o.cls = .type "tuple" ∧ o.data = .seq us.toArray n ∧ IntsAre us ns
theorem IsTI.keeps {h h' : Heap} {v : Value} {ns : List Int} (x : IsTI h v ns) (kp : ∀ b o, h.get? b = some o → o.cls = .type "tuple" → h'.get? b = some o) : IsTI h' v ns := by
  obtain ⟨a, o, us, n, e, ho, hc, hd, hi⟩ := x
  exact ⟨a, o, us, n, e, kp _ _ ho hc, hc, hd, hi⟩
end
def tof : List D → Option (List (List Int))
  | [] => some []
  | .tup es :: ds => (iof es).bind fun ns => (tof ds).map (ns :: ·)
  | _ => none
section
variable {K : PySem.W.Frag} {H : Hp}
end
section
variable {X : Cx} {a : Expr} {fe : Fe} {pos p : PySem.Pos}
end
end Zk
namespace Zk
noncomputable section
open PySem PySem.Spec PyProof.Rows L2
def S_law_drawsb : Fs := (mSeq (mSet 2 (mLc (mSq (mSl (mVar 0) (mC .non) (mInt (mC (.int 63))))) [3] (tgV 3) mYes (mMod (mOp gInt (mAc (mVar 3) mA0)) (mShl (mC (.int 1)) (mC (.int 7200)))))) (mSeq (mIfS (mB (mEq (mOp gLen (mAc (mVar 2) mA0)) (mC (.int 0)))) (mEx (mApp 2 (mC (.int 0)))) mNx) (mSeq (mSet 4 (mOp gList (mAc (mVar 2) mA0))) (mSeq (mSet 5 (mLst mA0)) (mSeq (mFor (mRg1 (mVar 1)) (tgV 6) (mSeq (mSet 7 (mMod (mOp gInt (mAc (mVar 6) mA0)) (mOp gLen (mAc (mVar 2) mA0)))) (mIfS (mAndT (mB (mGe (mIxd (mVar 2) (mVar 7)) (mPow (mC (.int 10)) (mC (.int 18))))) (mB (mGt (mIxd (mVar 4) (mVar 7)) (mC (.int 0))))) (mSeq (mEx (mApp 5 (mMod (mOp gInt (mAc (mIxd (mVar 4) (mVar 7)) mA0)) (mC (.int 1000))))) (mPut 4 (mVar 7) (mDiv (mIxd (mVar 4) (mVar 7)) (mC (.int 1000))))) (mSeq (mSet 8 (mMod (mOp gInt (mAc (mAdd (mAdd (mMul (mIxd (mVar 2) (mVar 7)) (mC (.int 48271))) (mMul (mVar 6) (mC (.int 69621)))) (mC (.int 11))) mA0)) (mC (.int 2147483647)))) (mEx (mApp 5 (mMod (mOp gInt (mAc (mAdd (mAdd (mMul (mVar 8) (mVar 8)) (mMul (mC (.int 3)) (mVar 8))) (mVar 6)) mA0)) (mC (.int 1000003))))))))) (mSeq (mEx (mRev 5)) (mRet (mVar 5))))))))
def S_law_draws : Mir := mDef none 9 S_law_drawsb
def S_law_takeb : Fs := (mSeq (mIfS (mB (mEq (mOp gLen (mAc (mVar 0) mA0)) (mC (.int 0)))) (mRet (mC (.int 0))) mNx) (mRet (mMod (mOp gInt (mAc (mPop 0) mA0)) (mVar 1))))
def S_law_take : Mir := mDef (some 0) 2 S_law_takeb
def S_law_pickb : Fs := (mRet (mIxd (mVar 1) (mCall (some 0) S_law_take (mAc (mVar 0) (mAc (mOp gLen (mAc (mVar 1) mA0)) mA0)))))
def S_law_pick : Mir := mDef (some 0) 2 S_law_pickb
def S_law_sameb (M : Mir) : Fs := (mSeq (mIfS (mTr (mOp gIsi (mAc (mVar 1) (mAc (mTup (mAc (mC (.ty "tuple")) (mAc (mC (.ty "list")) mA0))) mA0)))) (mSeq (mIfS (mOrT (mB (mNe (mOp gIsi (mAc (mVar 0) (mAc (mC (.ty "tuple")) mA0))) (mOp gIsi (mAc (mVar 1) (mAc (mC (.ty "tuple")) mA0))))) (mB (mNe (mOp gIsi (mAc (mVar 0) (mAc (mC (.ty "list")) mA0))) (mOp gIsi (mAc (mVar 1) (mAc (mC (.ty "list")) mA0)))))) (mRet (mC (.bl false))) mNx) (mSeq (mIfS (mB (mNe (mOp gLen (mAc (mVar 0) mA0)) (mOp gLen (mAc (mVar 1) mA0)))) (mRet (mC (.bl false))) mNx) (mRet (mNotIn (mC (.bl false)) (mLc (mRg1 (mOp gLen (mAc (mVar 1) mA0))) [2] (tgV 2) mYes (mCall none M (mAc (mIxd (mVar 0) (mVar 2)) (mAc (mIxd (mVar 1) (mVar 2)) mA0)))))))) mNx) (mSeq (mIfS (mOrT (mB (mNe (mOp gIsi (mAc (mVar 0) (mAc (mC (.ty "bool")) mA0))) (mOp gIsi (mAc (mVar 1) (mAc (mC (.ty "bool")) mA0))))) (mB (mNe (mOp gIsi (mAc (mVar 0) (mAc (mC (.ty "int")) mA0))) (mOp gIsi (mAc (mVar 1) (mAc (mC (.ty "int")) mA0)))))) (mRet (mC (.bl false))) mNx) (mSeq (mIfS (mOrT (mB (mNe (mOp gIsi (mAc (mVar 0) (mAc (mC (.ty "str")) mA0))) (mOp gIsi (mAc (mVar 1) (mAc (mC (.ty "str")) mA0))))) (mB (mNe (mIsN (mVar 0)) (mIsN (mVar 1))))) (mRet (mC (.bl false))) mNx) (mRet (mEq (mVar 0) (mVar 1))))))
def S_law_same : Nat → Mir
  | 0 => fun _ => none
  | n + 1 => mDef none 3 (S_law_sameb (S_law_same n))
end
end Zk
namespace Zk
noncomputable section
open PySem PySem.Spec PyProof.Rows L2
/-- a list of draws -/
def dr (s : List Int) : D := .lst (s.map D.int)
@[simp] theorem imm_dr (s : List Int) : imm (dr s) = false := by simp [dr]
@[simp] theorem flat_dr (s : List Int) : flat (dr s) = true := by simp [dr]
/-- what is drawn -/
def dv (s : List Int) (n : Int) : Int := s.getLastD 0 % n
theorem dv_nn {s : List Int} {n : Int} (h : 0 < n) : 0 ≤ dv s n := Int.emod_nonneg _ (by omega)
theorem dv_lt {s : List Int} {n : Int} (h : 0 < n) : dv s n < n := Int.emod_lt_of_pos _ h
theorem take_eq (s : List Int) (n : Int) (h : 0 < n) : S_law_take [dr s, .int n] = some (.int (dv s n), 9, dr s.dropLast) := by
  have go : W (S_law_take [dr s, .int n]) fun r => r = (.int (dv s n), 9, dr s.dropLast) := by
    rcases List.eq_nil_or_concat s with e | ⟨xs, x, e⟩
    · subst e
      simp [S_law_take, S_law_takeb, ent0_def, dr, dv]
    · subst e
      simp [S_law_take, S_law_takeb, ent0_def, dr, dv, h]
      omega
  obtain ⟨r, e, rfl⟩ := go
  exact e
@[simp ↓, simp] theorem W_take {s : List Int} {n : Int} {Q : D × Nat × D → Prop} (h : 0 < n) : W (S_law_take [dr s, .int n]) Q ↔ Q (.int (dv s n), 9, dr s.dropLast) := W.eq (take_eq s n h)
/-- a thing picked -/
def pk {α : Type} (s : List Int) (xs : List α) (h : xs ≠ []) : α := xs[(dv s xs.length).toNat]'(by
  have h1 : 0 < xs.length := List.length_pos_iff.mpr h
  have := dv_lt (s := s) (n := xs.length) (by omega)
  have := dv_nn (s := s) (n := xs.length) (by omega)
  omega)
theorem pk_mem {α : Type} {s : List Int} {xs : List α} {h : xs ≠ []} : pk s xs h ∈ xs := List.getElem_mem _
theorem pk_at {α : Type} {s : List Int} {xs : List α} {h : xs ≠ []} : atI xs (dv s xs.length) = some (pk s xs h) := by
  have h1 : 0 < xs.length := List.length_pos_iff.mpr h
  have a := dv_lt (s := s) (n := xs.length) (by omega)
  have b := dv_nn (s := s) (n := xs.length) (by omega)
  unfold atI
  rw [ixN_ok b a]
  unfold pk
  rw [Option.bind_some, List.getElem?_eq_getElem]
theorem pick_eq {d : D} {xs : List D} (hd : d = .lst xs ∨ d = .tup xs) (s : List Int) (h : xs ≠ []) (i : imm (pk s xs h) = true) : S_law_pick [dr s, d] = some (pk s xs h, 9, dr s.dropLast) := by
  have h1 : 0 < (xs.length : Int) := by have := List.length_pos_iff.mpr h; omega
  have go : W (S_law_pick [dr s, d]) fun r => r = (pk s xs h, 9, dr s.dropLast) := by
    rcases hd with rfl | rfl
    · simp (disch := first | assumption | (simp; done) | omega) [S_law_pick, S_law_pickb, ent0_def, gIxd, gIx, dem1, pk_at (h := h), i]
    · simp (disch := first | assumption | (simp; done) | omega) [S_law_pick, S_law_pickb, ent0_def, gIxd, gIx, dem1, pk_at (h := h), i]
  obtain ⟨r, e, rfl⟩ := go
  exact e
theorem pk_map {α β : Type} {s : List Int} {xs : List α} {f : α → β} {h : xs ≠ []} {h' : xs.map f ≠ []} : pk s (xs.map f) h' = f (pk s xs h) := by
  unfold pk
  simp
@[simp ↓, simp] theorem W_pickL {s : List Int} {xs : List D} {Q : D × Nat × D → Prop} (h : xs ≠ []) (hi : imms xs = true) : W (S_law_pick [dr s, .lst xs]) Q ↔ Q (pk s xs h, 9, dr s.dropLast) := W.eq (pick_eq (.inl rfl) s h (by
  rw [imms_all, List.all_eq_true] at hi
  exact hi _ pk_mem))
@[simp ↓, simp] theorem W_pickT {s : List Int} {xs : List D} {Q : D × Nat × D → Prop} (h : xs ≠ []) (hi : imms xs = true) : W (S_law_pick [dr s, .tup xs]) Q ↔ Q (pk s xs h, 9, dr s.dropLast) := W.eq (pick_eq (.inr rfl) s h (by
  rw [imms_all, List.all_eq_true] at hi
  exact hi _ pk_mem))
theorem draws_spec (ns : List Int) (many : Int) (h0 : 0 ≤ many) (h : many ≤ 1000000) : W (S_law_draws [.scr ns, .int many]) fun r => ∃ s, r = (dr s, 9, .non) := by
  have hB : (1 : Int).natAbs < big := big0 (by decide)
  have h2 : cutD (ns.map D.int) none (some 63) = (ns.map D.int).take 63 := cut_to _ 63
  have h7 : (1 : Int) * 2 ^ (7200 : Int).toNat = B72 := by rw [Int.one_mul]; rfl
  have p7 := B72_pos
  unfold S_law_draws S_law_drawsb
  rw [W_mDef]
  -- cells
  refine W_seqJ (J := fun E => ∃ cs : List Int, (∀ c ∈ cs, 0 ≤ c ∧ c < B72) ∧ cs.length ≤ 63 ∧ E = [some (.scr ns, 0), some (.int many, 0), some (.lst (cs.map D.int), 9), none, none, none, none, none, none]) ?_ ?_
  · simp [ent0_def, W_lc0, h2, ← List.map_take]
    refine W_lcX (p := fun _ => true) (ρ := fun x => .int (x % B72)) (fun x => by simp) (by simp [sizeL]; omega) (fun x hx => ?_) fun acc ha hu => ?_
    · have e7 : (2 : Int) ^ 7200 = B72 := rfl
      simp [e7, p7]
    · simp [ha, hu]
      refine ⟨(ns.take 63).map (· % B72), ?_, ?_, ?_⟩
      · intro c hc
        obtain ⟨x, hx, rfl⟩ := List.mem_map.mp hc
        exact ⟨Int.emod_nonneg _ (by omega), Int.emod_lt_of_pos _ p7⟩
      · simp; omega
      · simp [List.filter_eq_self.mpr, Function.comp_def]
  rintro _ ⟨cs, hcs, hl, rfl⟩
  refine W_seqJ (J := fun E => ∃ cs : List Int, cs ≠ [] ∧ (∀ c ∈ cs, 0 ≤ c ∧ c < B72) ∧ cs.length ≤ 63 ∧ E = [some (.scr ns, 0), some (.int many, 0), some (.lst (cs.map D.int), 9), none, none, none, none, none, none]) ?_ ?_
  · simp
    refine ⟨fun e => ⟨by simp [e, sizeL], [0], by simp, by simp [p7], by simp, ?_⟩, fun e => ⟨cs, e, hcs, hl, rfl⟩⟩
    simp [e, upl]
  rintro _ ⟨cs, hne, hcs, hl, rfl⟩
  have hlen : 0 < cs.length := List.length_pos_iff.mpr hne
  simp
  refine ⟨⟨by omega, by omega⟩, ?_⟩
  refine W_forR (I := fun k E => ∃ (ls ds : List Int) (u v w : Option (D × Nat)), (∀ c ∈ ls, 0 ≤ c ∧ c < B72) ∧ ls.length = cs.length ∧ ds.length ≤ k ∧ E = [some (.scr ns, 0), some (.int many, 0), some (.lst (cs.map D.int), 9), none, some (.lst (ls.map D.int), 9), some (.lst (ds.map D.int), 9), u, v, w])
    ⟨cs, [], none, none, none, hcs, rfl, by simp, by simp⟩ (fun k E hk hE => ?_) fun E hE => ?_
  · obtain ⟨ls, ds, u, v, w, hls, hll, hds, rfl⟩ := hE
    have hp0 : 0 ≤ (k : Int) % cs.length := Int.emod_nonneg _ (by omega)
    have hp1 : (k : Int) % cs.length < cs.length := Int.emod_lt_of_pos _ (by omega)
    obtain ⟨c, hc, cm, _, _⟩ := atI_ok hp0 hp1
    obtain ⟨l, hl1, lm, _, lN⟩ := atI_ok (xs := ls) hp0 (by omega)
    have c1 := hcs c cm
    have l1 := hls l lm
    have b1 : c.natAbs < big := B72_big c1.1 (by omega)
    have b2 : (48271 : Int).natAbs < big := big0 (by decide)
    have b3 : (k : Int).natAbs < big := big0 (by omega)
    have b4 : (69621 : Int).natAbs < big := big0 (by decide)
    have sz : ds.length < sizeLine := by rw [sizeL]; omega
    have m1 : ((c * 48271 + (k : Int) * 69621 + 11) % 2147483647).natAbs < big := by
      have := Int.emod_nonneg (c * 48271 + (k : Int) * 69621 + 11) (show (2147483647 : Int) ≠ 0 by decide)
      have := Int.emod_lt_of_pos (c * 48271 + (k : Int) * 69621 + 11) (show (0 : Int) < 2147483647 by decide)
      exact big0 (by omega)
    have b3 : k < big := nb (by omega)
    simp [hlen, hc, hl1, lN, b1, b3, sz, m1]
    refine ⟨fun _ => ⟨fun _ => ⟨ls.set ((k : Int) % cs.length).toNat (l / 1000), ?_, by simpa using hll, ds ++ [l % 1000], by simp; omega, by simp [List.map_set], by simp⟩, fun _ => ⟨ls, hls, hll, ds ++ [_], by simp; omega, rfl, by simp; rfl⟩⟩, fun _ => ⟨ls, hls, hll, ds ++ [_], by simp; omega, rfl, by simp; rfl⟩⟩
    intro x hx
    rcases List.mem_or_eq_of_mem_set hx with hx | rfl
    · exact hls x hx
    · omega
  · obtain ⟨ls, ds, u, v, w, hls, hll, hds, rfl⟩ := hE
    simp
    exact ⟨ds.reverse, by simp [dr]⟩
end
end Zk
namespace Zk
noncomputable section
open PySem PySem.Spec PyProof.Rows L2
/-- what _law_same takes, by its depth -/
def pl : Nat → D → Bool
  | _, .non => true
  | _, .bl _ => true
  | _, .int _ => true
  | _, .str x => PyData.strOk x
  | n + 1, .tup xs => xs.all (pl n) && decide (xs.length < 16777216)
  | n + 1, .lst xs => xs.all (pl n) && decide (xs.length < 16777216)
  | _, _ => false
theorem same_scalar (n : Nat) (a : D) (h : a = .non ∨ (∃ b, a = .bl b) ∨ (∃ i, a = .int i) ∨ ∃ x, a = .str x ∧ PyData.strOk x = true) : W (S_law_same (n + 1) [a, a]) fun r => r = (.bl true, 9, .non) := by
  unfold S_law_same S_law_sameb
  rcases h with rfl | ⟨b, rfl⟩ | ⟨i, rfl⟩ | ⟨x, rfl, hx⟩
  · simp [ent0_def, gIsi, tyOf, isi, gNe, dat, gIsN, isNon, gEq, sizeL]
  · simp [ent0_def, gIsi, tyOf, isi, gNe, dat, gIsN, isNon, gEq, sizeL]
  · simp [ent0_def, gIsi, tyOf, isi, gNe, dat, gIsN, isNon, gEq, sizeL]
  · simp [ent0_def, gIsi, tyOf, isi, gNe, dat, gIsN, isNon, gEq, sizeL, hx, deq, py, PyData.eqv]

theorem same_seq (n : Nat) (a : D) (xs : List D) (ha : a = .tup xs ∨ a = .lst xs) (hl : xs.length < 16777216) (ih : ∀ x ∈ xs, S_law_same n [x, x] = some (.bl true, 9, .non)) : W (S_law_same (n + 1) [a, a]) fun r => r = (.bl true, 9, .non) := by
  unfold S_law_same S_law_sameb
  have dt : ∀ m : Nat, (dat 64 (.lst ((List.replicate m ()).map fun _ => D.bl true))) = true := fun m => by simp [dat]
  have step : ∀ (E0 : Ev) (k : Nat) (b : D), (b = .tup xs ∨ b = .lst xs) → k < xs.length → E0 = [some (b, 0), some (b, 0), none] → W (tgV 2 (.int (0 + (k : Int))) E0) fun E1 => W (mYes E1) fun q =>
      IfB q.1 (True ∧ W (mCall none (S_law_same n) (mAc (mIxd (mVar 0) (mVar 2)) (mAc (mIxd (mVar 1) (mVar 2)) mA0)) q.2) fun r => W (tk r.2 r.1) fun t => t.1 = .bl true ∧ wipeE t.2.2 [2] = E0) (False ∧ wipeE q.2 [2] = E0) := by
    intro E0 k b hb hk e
    subst e
    obtain ⟨x, hx, xm, _, _⟩ := atI_ok (xs := xs) (i := (k : Int)) (by omega) (by omega)
    have e1 := ih x xm
    have w1 : ∀ {Q : D × Nat × D → Prop}, W (S_law_same n [x, x]) Q ↔ Q (.bl true, 9, .non) := fun {Q} => W.eq e1
    rcases hb with rfl | rfl
    · by_cases c1 : imm x = true
      · simp [hx, c1, w1]
      · simp at c1
        simp [hx, c1, w1]
    · by_cases c1 : imm x = true
      · simp [hx, c1, w1]
      · simp at c1
        simp [hx, c1, w1]
  have fin : ∀ (b : D) (Q : List (D × Nat) × Ev → Prop), (b = .tup xs ∨ b = .lst xs) → (∀ acc : List (D × Nat), acc.map (·.1) = List.replicate xs.length (.bl true) → uni acc = 9 → Q (acc, [some (b, 0), some (b, 0), none])) →
      W (lcM (tgV 2) mYes (mCall none (S_law_same n) (mAc (mIxd (mVar 0) (mVar 2)) (mAc (mIxd (mVar 1) (mVar 2)) mA0))) [2] (rng 0 xs.length) [some (b, 0), some (b, 0), none] []) Q := by
    intro b Q hb k
    have e : rng 0 xs.length = (List.range xs.length).map fun k => D.int (0 + (k : Nat)) := rfl
    rw [e]
    refine W_lcX (p := fun _ => true) (ρ := fun _ => .bl true) (fun x => by simp) (by simp [sizeL]; omega) (fun x hx => ?_) fun acc h1 h2 => k acc ?_ h2
    · have := step _ x b hb (by simpa using hx) rfl
      refine this.mono fun E1 h => h.mono fun q h => ?_
      cases hq : q.1
      · rw [hq] at h; rw [IfB_f] at h ⊢; exact h.1.elim
      · rw [hq] at h; rw [IfB_t] at h ⊢; exact ⟨rfl, h.2⟩
    · rw [h1, List.filter_eq_self.mpr (by simp)]
      simp [List.eq_replicate_iff]
  have rk : rgOk (xs.length : Int) := ⟨by omega, by omega⟩
  rcases ha with rfl | rfl
  · simp [ent0_def, gIsi, tyOf, isi, gNe, dat, W_lc0, rk]
    refine fin _ _ (.inl rfl) fun acc h1 h2 => ?_
    simp [h1, h2, gInA, gIn, dat]
  · simp [ent0_def, gIsi, tyOf, isi, gNe, dat, W_lc0, rk]
    refine fin _ _ (.inr rfl) fun acc h1 h2 => ?_
    simp [h1, h2, gInA, gIn, dat]
theorem same_eq : ∀ (n : Nat) (a : D), pl n a = true → S_law_same (n + 1) [a, a] = some (.bl true, 9, .non) := by
  have sc : ∀ (n : Nat) (a : D), (a = .non ∨ (∃ b, a = .bl b) ∨ (∃ i, a = .int i) ∨ ∃ x, a = .str x ∧ PyData.strOk x = true) → S_law_same (n + 1) [a, a] = some (.bl true, 9, .non) := fun n a h => by
    obtain ⟨r, e, rfl⟩ := same_scalar n a h
    exact e
  intro n
  induction n with
  | zero =>
    intro a h
    cases a with
    | non => exact sc 0 _ (.inl rfl)
    | bl b => exact sc 0 _ (.inr (.inl ⟨b, rfl⟩))
    | int b => exact sc 0 _ (.inr (.inr (.inl ⟨b, rfl⟩)))
    | str b => exact sc 0 _ (.inr (.inr (.inr ⟨b, rfl, by simpa [pl] using h⟩)))
    | _ => simp [pl] at h
  | succ n ih =>
    intro a h
    cases a with
    | non => exact sc _ _ (.inl rfl)
    | bl b => exact sc _ _ (.inr (.inl ⟨b, rfl⟩))
    | int b => exact sc _ _ (.inr (.inr (.inl ⟨b, rfl⟩)))
    | str b => exact sc _ _ (.inr (.inr (.inr ⟨b, rfl, by simpa [pl] using h⟩)))
    | tup xs =>
      simp only [pl, Bool.and_eq_true, decide_eq_true_eq, List.all_eq_true] at h
      obtain ⟨r, e, rfl⟩ := same_seq (n + 1) _ xs (.inl rfl) h.2 fun x hx => ih x (h.1 x hx)
      exact e
    | lst xs =>
      simp only [pl, Bool.and_eq_true, decide_eq_true_eq, List.all_eq_true] at h
      obtain ⟨r, e, rfl⟩ := same_seq (n + 1) _ xs (.inr rfl) h.2 fun x hx => ih x (h.1 x hx)
      exact e
    | _ => simp [pl] at h
theorem W_same {a : D} {Q : D × Nat × D → Prop} (h : pl 7 a = true) : W (S_law_same 8 [a, a]) Q ↔ Q (.bl true, 9, .non) := W.eq (same_eq 7 a h)
end
end Zk
namespace Zk
noncomputable section
open PySem PySem.Spec PyProof.Rows L2
theorem imms_map' {α : Type} {f : α → D} (h : ∀ x, imm (f x) = true) (xs : List α) : imms (xs.map f) = true := imms_map f h xs
theorem any_int (fs : List Int) (x : Int) : ((fs.map D.int).any fun z => deq z (.int x)) = decide (x ∈ fs) := by
  induction fs with
  | nil => simp
  | cons a fs ih =>
    simp only [List.map_cons, List.any_cons, ih, deq_int, List.mem_cons]
    by_cases h : a = x
    · simp [h]
    · simp [h, Ne.symm h, eq_comm]
theorem all_dat_int (fs : List Int) (n : Nat) : (fs.map D.int).all (dat n) = true := by
  rw [List.all_map, List.all_eq_true]
  intro x _
  cases n <;> simp [dat]
@[simp] theorem dat_int (n : Nat) (i : Int) : dat n (.int i) = true := by cases n <;> simp [dat]
@[simp] theorem gInA_ints (neg : Bool) (x : Int) (fs : List Int) : gInA neg [.int x, .lst (fs.map D.int)] = some (.bl (decide (x ∈ fs) ^^ neg), 9) := by
  unfold gInA
  simp only [gIn]
  rw [if_pos ⟨dat_int _ _, by simp only [dat]; exact all_dat_int fs 63⟩, any_int]
theorem srt_mem {ns : List Int} {x : Int} : x ∈ srt ns ↔ x ∈ ns := (srt_perm ns).mem_iff
theorem srt_nodup {ns : List Int} : (srt ns).Nodup ↔ ns.Nodup := (srt_perm ns).nodup_iff
/-- the greatest count that is drawn -/
def cMax : Int := 10 ^ 40 + 121
/-- a pair of ints -/
def pr (p : Int × Int) : D := .tup [.int p.1, .int p.2]
@[simp] theorem imm_pr (p : Int × Int) : imm (pr p) = true := by simp [pr]
@[simp] theorem imms_prs (ps : List (Int × Int)) : imms (ps.map pr) = true := imms_map' imm_pr ps
@[simp] theorem upl_pr {n m : Nat} {d : D} {p : Int × Int} : upl n d (pr p) m = n := upl_imm (imm_pr p)
end
end Zk
namespace Zk
noncomputable section
open PySem PySem.Spec PyProof.Rows L2
def getI (m : List (Int × Int)) (k : Int) : Option Int := (m.find? fun p => decide (p.1 = k)).map (·.2)
theorem get_none {m : List (Int × Int)} {k : Int} : getI m k = none ↔ k ∉ m.map (·.1) := by
  unfold getI
  rw [Option.map_eq_none_iff, List.find?_eq_none]
  constructor
  · intro h hm
    obtain ⟨p, hp, e⟩ := List.mem_map.mp hm
    exact h p hp (by simpa using e)
  · intro h p hp e
    exact h (List.mem_map.mpr ⟨p, hp, by simpa using e⟩)
theorem get_some {m : List (Int × Int)} {k : Int} (h : k ∈ m.map (·.1)) : ∃ v, getI m k = some v := by
  cases e : getI m k with
  | none => exact absurd h (get_none.mp e)
  | some v => exact ⟨v, rfl⟩
/-- the sum of the counts of a key -/
def ksum (st : List (Int × Int)) (k : Int) : Int := ((st.filter fun p => decide (p.1 = k)).map (·.2)).sum
@[simp] theorem ksum_nil (k : Int) : ksum [] k = 0 := rfl
theorem ksum_app (a b : List (Int × Int)) (k : Int) : ksum (a ++ b) k = ksum a k + ksum b k := by simp [ksum]
theorem ksum_one (p : Int × Int) (k : Int) : ksum [p] k = if p.1 = k then p.2 else 0 := by
  unfold ksum
  by_cases h : p.1 = k <;> simp [h]
/-- the counts of a stream, ascending, without 0 -/
def cof (st : List (Int × Int)) : List (Int × Int) := ((srt (st.map (·.1)).eraseDups).filter fun k => decide (ksum st k ≠ 0)).map fun k => (k, ksum st k)
def keysI (m : List (Int × Int)) : List Int := m.map (·.1)
theorem nodup_eraseDups (l : List Int) : l.eraseDups.Nodup := by
  generalize hn : l.length = n
  induction n using Nat.strongRecOn generalizing l with
  | ind n ih =>
    cases l with
    | nil => simp
    | cons a l =>
      rw [List.eraseDups_cons, List.nodup_cons]
      have hl : (l.filter fun b => !b == a).length < n := by
        have := List.length_filter_le (fun b => !b == a) l
        simp at hn
        omega
      refine ⟨fun h => ?_, ih _ hl _ rfl⟩
      rw [List.mem_eraseDups] at h
      simp at h
theorem srt_perm_eq {a b : List Int} (h : a.Perm b) : srt a = srt b := srt_uniq ((srt_perm a).trans (h.trans (srt_perm b).symm)) (srt_pair a) (srt_pair b)
theorem gSum_ints (ns : List Int) : gSum [.lst (ns.map D.int)] = some (.int ns.sum, 9) := by simp [gSum]
end
end Zk
namespace Zk
open PySem PySem.Spec PyProof.Rows L2
section
variable {κ : Type} [DecidableEq κ]
@[simp] theorem valD_nil (k : κ) : valD ([] : List (κ × D)) k = none := rfl
end
@[simp] theorem keyOf_int (i : Int) : keyOf (.int i) = some (.inl i) := rfl
@[simp] theorem look_dK (kds : List (Key × D)) (k : Int) : look (.dK kds) (.int k) = some (valD kds (.inl k)) := rfl
@[simp] theorem look_dT (kds : List (List Key × D)) (ks : List D) : look (.dT kds) (.tup ks) = (keysOf ks).map fun k => valD kds k := rfl
@[simp] theorem keysOf_nil : keysOf [] = some [] := rfl
@[simp] theorem keysOf_c (i : Int) (ds : List D) : keysOf (.int i :: ds) = (keysOf ds).map fun ks => .inl i :: ks := rfl
@[simp] theorem gInA_dK (neg : Bool) (x : D) (kds : List (Key × D)) : gInA neg [x, .dK kds] = (look (.dK kds) x).map fun o => (.bl (o.isSome ^^ neg), 9) := rfl
@[simp] theorem gInA_dT (neg : Bool) (x : D) (kds : List (List Key × D)) : gInA neg [x, .dT kds] = (look (.dT kds) x).map fun o => (.bl (o.isSome ^^ neg), 9) := rfl
theorem W_seqE {s t : Fs} {E E1 : Ev} {Q : Fl × Ev → Prop} (h : W (s E) fun p => p.1 = .nx ∧ p.2 = E1) (k : W (t E1) Q) : W (mSeq s t E) Q := W_seqJ (fun E => E = E1) h fun _ e => e ▸ k
end Zk
namespace Zk
open PySem PySem.Spec PyProof.Rows L2
section
variable {K : PySem.W.Frag} {Z Z' Zf Z0 Z1 : Addr → Prop} {H H' H0 H1 : Hp} {σ : L2.St} {E E' E1 : Ev} {R R' R0 R1 : Rs}
theorem set_self {σ : L2.St} {i : Nat} {v : V} (h : σ[i]? = some (some v)) : σ.set i (some v) = σ := by
  apply List.ext_getElem?
  intro j
  by_cases q : j = i
  · subst q
    rw [List.getElem?_set_self (List.getElem?_eq_some_iff.mp h).1, h]
  · rw [List.getElem?_set_ne (Ne.symm q)]
/-- a slot's thing is laid aside .. -/
theorem S.lift (s : S K Z H σ E R) (x : Nat) : S K Z H σ (E.set x none) (put R x []) ∧ Step Z H (ow R) Z H (ow (put R x [])) ∧ ∀ a ∈ R x, ¬ ow (put R x []) a := by
  refine ⟨s.dropSlot, ⟨fun _ h => h, fun _ h => .inl h, fun _ _ h _ => h, fun a h => ?_, fun _ h => h⟩, fun a m z => ?_⟩
  · rcases ow_put h with h | h
    · simp at h
    · exact .inl h
  · obtain ⟨j, mj⟩ := z
    by_cases q : j = x
    · subst q; rw [put_same] at mj; simp at mj
    · rw [put_ne q] at mj; exact q (s.dj j x a mj m)
/-- .. and taken up again -/
theorem S.lower (s : S K Z H σ E R) {x : Nat} {d : D} {n : Nat} {v : V} (hv : σ[x]? = some (some v)) (o : Own K Z H n v d (R x)) (s1 : S K Z1 H1 σ E1 R1) (t1 : Step Z H (ow (put R x [])) Z1 H1 (ow R1)) :
    Own K Z1 H1 n v d (R x) ∧ S K Z1 H1 σ (E1.set x (some (d, n))) (put R1 x (R x)) ∧ Step Z H (ow R) Z1 H1 (ow (put R1 x (R x))) := by
  obtain ⟨s2, t2, f2⟩ := s.lift x
  obtain ⟨o1, n1⟩ := s2.pend t1 o f2
  have hl : x < E1.length := by
    rw [← s1.len]
    exact (List.getElem?_eq_some_iff.mp hv).1
  have s3 := s1.setSlot hl o1 (s.nd x) n1
  rw [set_self hv] at s3
  refine ⟨o1, s3, ⟨fun a z => t1.zz a z, fun a z => ?_, fun a o e n => ?_, fun a h => ?_, fun a h => t1.dm a h⟩⟩
  · rcases t1.zn a z with z | z | z
    · exact .inl z
    · exact .inr (.inl z)
    · rcases ow_put z with z | z
      · simp at z
      · exact .inr (.inr z)
  · exact t1.hh a o e fun z => (ow_put z).elim (fun z => by simp at z) n
  · rcases ow_put h with h | h
    · exact .inl ⟨x, h⟩
    · rcases t1.on a h with h | h
      · exact (ow_put h).elim (fun z => by simp at z) .inl
      · exact .inr h
end
section
variable {X : Cx} {e e1 e2 : Expr} {fi fk fe : Fe} {pos px pt pt2 : PySem.Pos} {op : Operator} {f : Int → Int → Int} {w : List Nat}
end
section
variable {E : Ev} {fi fk fe : Fe} {x : Nat} {f : Int → Int → Int} {Qs : Fl × Ev → Prop} {Qe : Op × Ev → Prop}
end
end Zk
namespace Zk
open PySem PySem.Spec PyProof.Rows L2
section
variable {K : PySem.W.Frag} {Z Z' Zf Z0 Z1 : Addr → Prop} {H H' H0 H1 : Hp} {σ σ1 : L2.St} {E E' E1 : Ev} {R R' R0 R1 : Rs}
/-- x = y, y is given up -/
def mMov (i j : Nat) : Fs := fun E => (eg E j).bind fun p => if i < E.length then some (.nx, (E.set j none).set i (some p)) else none
theorem mov_of {i j : Nat} {De : Ends} (q : sOf K [i] (mMov i j) De σ H) : ∃ v, σ[j]? = some (some v) ∧ De.nx (σ.set i (some v)) H := by
  obtain ⟨Z, E, R, s, fl, E', e, q⟩ := q
  unfold mMov at e
  cases g : eg E j with
  | none => rw [g] at e; cases e
  | some p =>
  obtain ⟨d, n⟩ := p
  rw [g] at e
  simp only [Option.bind_some] at e
  split at e
  case isFalse => cases e
  rename_i hi
  cases e
  obtain ⟨v, ev, ov⟩ := s.slot j d n g
  refine ⟨v, ev, ?_⟩
  obtain ⟨s2, t2, f2⟩ := s.lift j
  have s3 := s2.setSlot (i := i) (by simpa using hi) ov (s.nd j) f2
  refine q _ Z H _ s3 ⟨fun _ h => h, fun _ h => .inl h, fun _ _ h _ => h, fun a h => ?_, fun _ h => h⟩ fun k hk => ?_
  · rcases ow_put h with h | h
    · exact .inl ⟨j, h⟩
    · exact t2.on a h
  · rw [List.getElem?_set_ne (fun c => hk (by simp [c]))]
end
section
variable {X : Cx} {e : Expr} {fi : Fe} {pos pos' px pt : PySem.Pos} {rest : List Stmt} {w : List Nat} {body : Fs}
theorem as_mov (i j : Nat) {x y : Str} (hN : X.N.Nodup) (hi : X.N[i]? = some x := by rfl) (hj : X.N[j]? = some y := by rfl) (hx : Loc X.env.scope x := by first | exact Or.inl rfl | exact Or.inr rfl) (hvis : Vis X.env.scope y := by first | exact Or.inl rfl | exact Or.inr (Or.inl rfl) | exact Or.inr (Or.inr rfl))
    (hd : (y == ("__debug__" : Str)) = false := by decide) (hcd : (y == ("__classdict__" : Str)) = false := by decide)
    (hs : swapsWith (.Name y px) (some (.Name x pos')) pos.line X.env = pure false := by rfl)
    (hf : X.fn x = true ∨ X.env.scope.names.lookup x = some .local := by first | exact .inl rfl | exact .inr rfl) : AS X (.Assign [.Name x pos'] (.Name y px) pos) [i] (mMov i j) :=
  PS.mono (ps_set hN hi hx (pe_var hj hvis hd hcd) hs hf) fun D σ H q => mov_of q
end
section
variable {E : Ev} {fi : Fe} {x c i j : Nat} {body : Fs} {Qs : Fl × Ev → Prop}
@[simp ↓] theorem W_mov : W (mMov i j E) Qs ↔ W (eg E j) fun p => i < E.length ∧ Qs (.nx, (E.set j none).set i (some p)) := by
  unfold mMov
  (repeat (first | exact Iff.rfl | (refine W_if1.trans (and_congr_right fun _ => ?_)) | (refine W_bind.trans (W_ext fun _ => ?_)) | exact W_some | exact W_map | exact W_if1))
end
end Zk
namespace Zk
noncomputable section
open PySem PySem.Spec PyProof.Rows L2
end
end Zk
namespace Zk
noncomputable section
open PySem PySem.Spec PyProof.Rows L2
def tab (n : Nat) (f : Nat → Int) : List Int := (List.range n).map f
@[simp] theorem tab_len (n : Nat) (f : Nat → Int) : (tab n f).length = n := by simp [tab]
theorem tab_get (n : Nat) (f : Nat → Int) (j : Nat) : (tab n f)[j]? = if j < n then some (f j) else none := by
  unfold tab
  rw [List.getElem?_map]
  by_cases h : j < n
  · rw [List.getElem?_range h]; simp [h]
  · rw [List.getElem?_eq_none (by simpa using h)]; simp [h]
theorem tab_ext {n : Nat} {f g : Nat → Int} (h : ∀ j, j < n → f j = g j) : tab n f = tab n g := List.map_congr_left fun j hj => h j (by simpa using hj)
theorem tab_set (n : Nat) (f : Nat → Int) (j : Nat) (v : Int) : (tab n f).set j v = tab n fun b => if b = j then v else f b := by
  apply List.ext_getElem?
  intro i
  rw [List.getElem?_set, tab_get, tab_get]
  by_cases h : j = i
  · subst h; simp
  · simp [h, Ne.symm h]
theorem tab_at {n : Nat} {f : Nat → Int} {i : Int} (h0 : 0 ≤ i) (h : i < n) : atI (tab n f) i = some (f i.toNat) := by
  unfold atI
  rw [ixN_ok h0 (by simpa using h), Option.bind_some, tab_get, if_pos (by omega)]
theorem zeros (n : Nat) : (List.replicate n [D.int 0]).flatten = (tab n fun _ => 0).map D.int := by
  induction n with
  | zero => rfl
  | succ n ih =>
    rw [List.replicate_succ, List.flatten_cons, ih]
    unfold tab
    rw [List.range_succ_eq_map]
    simp [Function.comp_def]
@[simp] theorem gMul_rep (a : List D) (k : Int) : gMul [.lst a, .int k] = if -(2 ^ 63) ≤ k ∧ k < 2 ^ 63 ∧ a.length * k.toNat ≤ sizeLine then some (.lst (List.replicate k.toNat a).flatten, lev (List.replicate k.toNat a).flatten) else none := by simp [gMul]
theorem ksum_out {st : List (Int × Int)} {k : Int} (h : ∀ p ∈ st, p.1 ≠ k) : ksum st k = 0 := by
  unfold ksum
  rw [List.filter_eq_nil_iff.mpr (by simpa using h)]
  rfl
theorem cof_mem {st : List (Int × Int)} {p : Int × Int} : p ∈ cof st ↔ p.2 = ksum st p.1 ∧ p.2 ≠ 0 := by
  unfold cof
  constructor
  · intro h
    obtain ⟨k, hk, rfl⟩ := List.mem_map.mp h
    simp only [List.mem_filter, decide_eq_true_eq] at hk
    exact ⟨rfl, hk.2⟩
  · rintro ⟨h1, h2⟩
    refine List.mem_map.mpr ⟨p.1, ?_, by rw [← h1]⟩
    rw [List.mem_filter, srt_mem, List.mem_eraseDups]
    refine ⟨?_, by rw [← h1]; simpa using h2⟩
    by_cases h : p.1 ∈ st.map (·.1)
    · exact h
    · exfalso
      apply h2
      rw [h1]
      exact ksum_out fun q hq e => h (List.mem_map.mpr ⟨q, hq, e⟩)
theorem cof_keys {st : List (Int × Int)} {p : Int × Int} (h : p ∈ cof st) : ∃ q ∈ st, q.1 = p.1 := by
  obtain ⟨h1, h2⟩ := cof_mem.mp h
  apply Classical.byContradiction
  intro hn
  apply h2
  rw [h1]
  exact ksum_out fun q hq e => hn ⟨q, hq, e⟩
theorem cof_nodup (st : List (Int × Int)) : ((cof st).map (·.1)).Nodup := by
  have e : (cof st).map (·.1) = (srt (st.map (·.1)).eraseDups).filter fun k => decide (ksum st k ≠ 0) := by
    unfold cof
    rw [List.map_map]
    exact List.map_id _
  rw [e]
  exact (srt_nodup.mpr (nodup_eraseDups _)).filter _
end
end Zk
namespace Zk
noncomputable section
open PySem PySem.Spec PyProof.Rows L2
end
end Zk
namespace Zk
noncomputable section
open PySem PySem.Spec PyProof.Rows L2
@[simp] theorem gAdd_lst (a b : List D) : gAdd [.lst a, .lst b] = if a.length + b.length ≤ sizeLine then some (.lst (a ++ b), lev (a ++ b)) else none := by simp [gAdd]
@[simp] theorem gAdd_tup (a b : List D) : gAdd [.tup a, .tup b] = if a.length + b.length ≤ sizeLine then some (.tup (a ++ b), 0) else none := by simp [gAdd]
end
end Zk
namespace Zk
open PySem PySem.Spec PyProof.Rows L2
end Zk
namespace Zk
noncomputable section
open PySem PySem.Spec PyProof.Rows L2
end
end Zk
namespace Zk
noncomputable section
open PySem PySem.Spec PyProof.Rows L2
/-- a field: of p members, or of 2 ** m -/
inductive Fd where
  | prm (q : Nat) | bin (m : Nat)
namespace Fd
def d : Fd → D
  | .prm q => .int q
  | .bin m => .tup [.int 2, .int m]
def n : Fd → Nat
  | .prm q => q
  | .bin m => 2 ^ m
def ok : Fd → Prop
  | .prm q => 1 ≤ q ∧ q ≤ 1000000
  | .bin m => 1 ≤ m ∧ m ≤ 4
end Fd
def poly (m : Nat) : Nat := [0, 3, 7, 11, 19].getD m 0
def pmS (m b : Nat) (s : Nat × Nat) (bit : Nat) : Nat × Nat :=
  (if b / 2 ^ bit % 2 = 1 then s.1 ^^^ s.2 else s.1, if s.2 * 2 / 2 ^ m = 0 then s.2 * 2 else s.2 * 2 ^^^ poly m)
/-- the product of polynomials, as the program finds it -/
def pm (m a b : Nat) : Nat := ((List.range m).foldl (pmS m b) (0, a)).1
def lm1 (a b : Nat) (s bit : Nat) : Nat := if b / 2 ^ bit % 2 = 1 then s ^^^ (a * 2 ^ bit) else s
def lm2 (m : Nat) (s k : Nat) : Nat := if s / 2 ^ (2 * m - 1 - k) % 2 = 1 then s ^^^ (poly m * 2 ^ (2 * m - 1 - k - m)) else s
/-- as the law finds it -/
def lm (m a b : Nat) : Nat := (List.range m).foldl (lm2 m) ((List.range m).foldl (lm1 a b) 0)
namespace Fd
def add : Fd → Nat → Nat → Nat
  | .prm q, a, b => (a + b) % q
  | .bin _, a, b => a ^^^ b
def mul : Fd → Nat → Nat → Nat
  | .prm q, a, b => a * b % q
  | .bin m, a, b => pm m a b
def neg : Fd → Nat → Nat
  | .prm q, a => (q - a) % q
  | .bin _, a => a
theorem add_comm : ∀ (F : Fd) (a b : Nat), F.add a b = F.add b a
  | .prm q, a, b => by simp only [add, Nat.add_comm]
  | .bin m, a, b => Nat.xor_comm a b
theorem add_assoc : ∀ (F : Fd) (a b c : Nat), F.add (F.add a b) c = F.add a (F.add b c)
  | .prm q, a, b, c => by unfold add; simp [Nat.add_assoc]
  | .bin m, a, b, c => Nat.xor_assoc a b c
theorem zero_add : ∀ {F : Fd} {a : Nat}, a < F.n → F.add 0 a = a
  | .prm q, a, h => by simp only [add, Nat.zero_add]; exact Nat.mod_eq_of_lt h
  | .bin m, a, h => Nat.zero_xor a
theorem mul_comm : ∀ {F : Fd} {a b : Nat}, F.ok → a < F.n → b < F.n → F.mul a b = F.mul b a
  | .prm q, a, b, _, _, _ => by simp only [mul, Nat.mul_comm]
  | .bin m, a, b, h, ha, hb => by
    have : ∀ m < 5, ∀ a < 2 ^ m, ∀ b < 2 ^ m, 1 ≤ m → pm m a b = pm m b a := by decide +kernel
    exact this m (by have := h.2; omega) a ha b hb h.1
theorem mul_assoc : ∀ {F : Fd} {a b c : Nat}, F.ok → a < F.n → b < F.n → c < F.n → F.mul (F.mul a b) c = F.mul a (F.mul b c)
  | .prm q, a, b, c, _, _, _, _ => by unfold mul; simp [Nat.mul_assoc]
  | .bin m, a, b, c, h, ha, hb, hc => by
    have : ∀ m < 5, ∀ a < 2 ^ m, ∀ b < 2 ^ m, ∀ c < 2 ^ m, 1 ≤ m → pm m (pm m a b) c = pm m a (pm m b c) := by decide +kernel
    exact this m (by have := h.2; omega) a ha b hb c hc h.1
theorem mul_add : ∀ {F : Fd} {a b c : Nat}, F.ok → a < F.n → b < F.n → c < F.n → F.mul a (F.add b c) = F.add (F.mul a b) (F.mul a c)
  | .prm q, a, b, c, _, _, _, _ => by unfold mul add; simp [Nat.mul_add]
  | .bin m, a, b, c, h, ha, hb, hc => by
    have : ∀ m < 5, ∀ a < 2 ^ m, ∀ b < 2 ^ m, ∀ c < 2 ^ m, 1 ≤ m → pm m a (b ^^^ c) = pm m a b ^^^ pm m a c := by decide +kernel
    exact this m (by have := h.2; omega) a ha b hb c hc h.1
theorem one_mul : ∀ {F : Fd} {a : Nat}, F.ok → a < F.n → F.mul 1 a = a
  | .prm q, a, h, ha => by simp only [mul, Nat.one_mul]; exact Nat.mod_eq_of_lt ha
  | .bin m, a, h, ha => by
    have : ∀ m < 5, ∀ a < 2 ^ m, 1 ≤ m → pm m 1 a = a := by decide +kernel
    exact this m (by have := h.2; omega) a ha h.1
theorem zero_mul : ∀ {F : Fd} {a : Nat}, F.ok → a < F.n → F.mul 0 a = 0
  | .prm q, a, h, ha => by simp only [mul, Nat.zero_mul, Nat.zero_mod]
  | .bin m, a, h, ha => by
    have : ∀ m < 5, ∀ a < 2 ^ m, 1 ≤ m → pm m 0 a = 0 := by decide +kernel
    exact this m (by have := h.2; omega) a ha h.1
/-- a key as a member -/
def mem : Fd → Nat → Nat
  | .prm q, k => k % q
  | .bin _, k => k
/-- the value at x, from the greatest power down -/
def hor (F : Fd) (x : Nat) (cs : List Nat) : Nat := cs.foldr (fun c r => F.add (F.mul r x) c) 0
/-- the value of a draw at a key -/
def val (F : Fd) (cs : List Nat) (k : Nat) : Nat := hor F (F.mem k) cs
end Fd
end
end Zk
namespace Zk
noncomputable section
open PySem PySem.Spec PyProof.Rows L2
def S_raisedb : Fs := (mSeq (mSet 2 (mC (.int 1))) (mSeq (mFor (mRg1 (mVar 1)) (tgV 3) (mSet 2 (mMul (mVar 2) (mVar 0)))) (mRet (mVar 2))))
def S_raised : Mir := mDef none 4 S_raisedb
def S_law_powerb : Fs := (mSeq (mSet 2 (mC (.int 1))) (mSeq (mFor (mRg1 (mVar 1)) (tgV 3) (mSet 2 (mMul (mVar 2) (mVar 0)))) (mRet (mVar 2))))
def S_law_power : Mir := mDef none 4 S_law_powerb
end
end Zk
namespace Zk
noncomputable section
open PySem PySem.Spec PyProof.Rows L2
end
end Zk
namespace Zk
noncomputable section
open PySem PySem.Spec PyProof.Rows L2
/-- 1 for an even number of ones, else -1 -/
def par (n : Nat) : Int := if h : n = 0 then 1 else (if n % 2 = 1 then -1 else 1) * par (n / 2)
def sgn (i k : Nat) : Int := par (i &&& k)
def sumN : Nat → (Nat → Int) → Int
  | 0, _ => 0
  | n + 1, f => sumN n f + f n
theorem sumN_congr {n : Nat} {f g : Nat → Int} (h : ∀ i, i < n → f i = g i) : sumN n f = sumN n g := by
  induction n with
  | zero => rfl
  | succ n ih => simp only [sumN]; rw [ih fun i hi => h i (by omega), h n (by omega)]
theorem sumN_add {n : Nat} {f g : Nat → Int} : sumN n (fun i => f i + g i) = sumN n f + sumN n g := by
  induction n with
  | zero => rfl
  | succ n ih => simp only [sumN, ih]; omega
theorem sumN_mul {n : Nat} {f : Nat → Int} (c : Int) : sumN n (fun i => c * f i) = c * sumN n f := by
  induction n with
  | zero => simp [sumN]
  | succ n ih => simp only [sumN, ih]; grind
theorem sumN_zero {n : Nat} {f : Nat → Int} (h : ∀ i, i < n → f i = 0) : sumN n f = 0 := by
  induction n with
  | zero => rfl
  | succ n ih => simp only [sumN]; rw [ih fun i hi => h i (by omega), h n (by omega)]; rfl
end
end Zk
namespace Zk
noncomputable section
open PySem PySem.Spec PyProof.Rows L2
/-- the transform -/
def wt (m : Nat) (f : Nat → Int) (i : Nat) : Int := sumN (2 ^ m) fun l => sgn i l * f l
theorem sumN_one {n k : Nat} {f : Nat → Int} (hk : k < n) (c : Int) : sumN n (fun l => (if k = l then c else 0) * f l) = c * f k := by
  induction n with
  | zero => omega
  | succ n ih =>
    simp only [sumN]
    by_cases h : k = n
    · subst h
      rw [if_pos rfl, sumN_zero fun i hi => by rw [if_neg (by omega), Int.zero_mul]]
      omega
    · rw [ih (by omega), if_neg h]
      omega
end
end Zk
namespace Zk
noncomputable section
open PySem PySem.Spec PyProof.Rows L2
end
end Zk
namespace Zk
noncomputable section
open PySem PySem.Spec PyProof.Rows L2
end
end Zk
namespace Zk
noncomputable section
open PySem PySem.Spec PyProof.Rows L2
/-- the counts of a stream by its keys -/
def K (st : List (Int × Int)) : Nat → Int := fun b => ksum st (b : Int)
theorem K_cons (p : Int × Int) (st : List (Int × Int)) (b : Nat) : K (p :: st) b = (if p.1 = (b : Int) then p.2 else 0) + K st b := by
  unfold K
  rw [show p :: st = [p] ++ st from rfl, ksum_app, ksum_one]
/-- a sum over a stream, by its keys -/
theorem wsum {N : Nat} {st : List (Int × Int)} (h : ∀ p ∈ st, 0 ≤ p.1 ∧ p.1 < (N : Int)) (g : Nat → Int) : sumN N (fun l => g l * K st l) = (st.map fun p => g p.1.toNat * p.2).sum := by
  induction st with
  | nil =>
    rw [sumN_zero fun i _ => by unfold K; simp]; rfl
  | cons p st ih =>
    have hp := h p List.mem_cons_self
    rw [List.map_cons, List.sum_cons, ← ih fun q hq => h q (List.mem_cons_of_mem _ hq)]
    have e : (fun l => g l * K (p :: st) l) = fun l => (if p.1.toNat = l then p.2 else 0) * g l + g l * K st l := by
      funext l
      rw [K_cons]
      have : p.1 = (l : Int) ↔ p.1.toNat = l := by omega
      simp only [this]
      grind
    rw [e, sumN_add, sumN_one (by omega)]
    grind
end
end Zk
namespace Zk
noncomputable section
open PySem PySem.Spec PyProof.Rows L2
theorem enD_tab (n : Nat) (f : Nat → Int) : enD 0 ((tab n f).map D.int) = (List.range n).map fun k : Nat => pr ((k : Int), f k) := by
  apply List.ext_getElem?
  intro i
  rw [enD_get, List.getElem?_map, tab_get, List.getElem?_map]
  by_cases h : i < n
  · rw [List.getElem?_range h]; simp [h, pr]
  · rw [List.getElem?_eq_none (show (List.range n).length ≤ i by simpa using h)]; simp [h]
end
end Zk
namespace Zk
noncomputable section
open PySem PySem.Spec PyProof.Rows L2
theorem pl_I (n : Nat) (i : Int) : pl n (.int i) = true := by cases n <;> rfl
end
end Zk
namespace Zk
noncomputable section
open PySem PySem.Spec PyProof.Rows L2
theorem raised_eq {b : Int} {k : Nat} (hk : k ≤ 1000000) (h1 : b.natAbs < big) (h : ∀ j, j < k → (b ^ j).natAbs < big) : S_raised [.int b, .int k] = some (.int (b ^ k), 9, .non) := by
  have go : W (S_raised [.int b, .int k]) fun r => r = (.int (b ^ k), 9, .non) := by
    unfold S_raised S_raisedb
    have rk : rgOk (k : Int) := ⟨by omega, by omega⟩
    simp [ent0_def, rk]
    refine W_forR (I := fun j E => ∃ u : Option (D × Nat), E = [some (.int b, 0), some (.int k, 0), some (.int (b ^ j), 9), u]) ⟨none, by simp⟩ (fun j E hj hE => ?_) fun E hE => ?_
    · obtain ⟨u, rfl⟩ := hE
      have h2 := h j hj
      rw [Int.natAbs_pow] at h2
      simp [h2, h1, Int.pow_succ]
    · obtain ⟨u, rfl⟩ := hE
      simp
  obtain ⟨r, e, rfl⟩ := go
  exact e
/-- counts below 2 ** 200 -/
def CB (st : List (Int × Int)) : Prop := ∀ p ∈ st, p.2.natAbs ≤ 2 ^ 200
end
end Zk
namespace Zk
noncomputable section
open PySem PySem.Spec PyProof.Rows L2
end
end Zk
namespace Zk
noncomputable section
open PySem PySem.Spec PyProof.Rows L2
end
end Zk
namespace Zk
noncomputable section
open PySem PySem.Spec PyProof.Rows L2
@[simp] theorem gMin_ints (i j : Int) : gMin [.int i, .int j] = some (.int (min i j), 9) := rfl
@[simp] theorem gMax_ints (i j : Int) : gMax [.int i, .int j] = some (.int (max i j), 9) := rfl
end
end Zk
namespace Zk
noncomputable section
open PySem PySem.Spec PyProof.Rows L2
theorem at1 {α : Type} (x y : α) (l : List α) : atI (x :: y :: l) 1 = some y := by
  have : ixN (x :: y :: l).length 1 = some 1 := ixN_ok (by decide) (by simp; omega)
  unfold atI; rw [this]; rfl
end
end Zk
namespace Zk
noncomputable section
open PySem PySem.Spec PyProof.Rows L2
def S_fractionb : Fs := (mSeq (mIfS (mB (mLt (mVar 1) (mC (.int 0)))) (mPar 0 1 (mAc (mNeg (mVar 0)) (mAc (mNeg (mVar 1)) mA0))) mNx) (mSeq (mSet 2 (mOp gGcd (mAc (mVar 0) (mAc (mVar 1) mA0)))) (mRet (mTup (mAc (mDiv (mVar 0) (mVar 2)) (mAc (mDiv (mVar 1) (mVar 2)) mA0))))))
def S_fraction : Mir := mDef none 3 S_fractionb
def S_law_gcdb : Fs := (mSeq (mSet 2 (mOp gAbs (mAc (mVar 0) mA0))) (mSeq (mSet 3 (mOp gAbs (mAc (mVar 1) mA0))) (mSeq (mFor (mRg1 (mC (.int 20000))) (tgV 4) (mSeq (mIfS (mB (mEq (mVar 3) (mC (.int 0)))) mBk mNx) (mSeq (mSet 5 (mMod (mOp gInt (mAc (mVar 2) mA0)) (mVar 3))) (mSeq (mSet 2 (mVar 3)) (mSet 3 (mVar 5)))))) (mRet (mVar 2)))))
def S_law_gcd : Mir := mDef none 6 S_law_gcdb
def S_law_fracb : Fs := (mSeq (mSet 2 (mOp gMax (mAc (mC (.int 1)) (mAc (mCall none S_law_gcd (mAc (mVar 0) (mAc (mVar 1) mA0))) mA0)))) (mSeq (mIfS (mB (mLt (mVar 1) (mC (.int 0)))) (mSet 2 (mSub (mC (.int 0)) (mVar 2))) mNx) (mRet (mTup (mAc (mDivZ (mVar 0) (mVar 2)) (mAc (mDivZ (mVar 1) (mVar 2)) mA0))))))
def S_law_frac : Mir := mDef none 3 S_law_fracb
def S_law_plusb : Fs := (mRet (mCall none S_law_frac (mAc (mAdd (mMul (mIxd (mVar 0) (mC (.int 0))) (mIxd (mVar 1) (mC (.int 1)))) (mMul (mIxd (mVar 1) (mC (.int 0))) (mIxd (mVar 0) (mC (.int 1))))) (mAc (mMul (mIxd (mVar 0) (mC (.int 1))) (mIxd (mVar 1) (mC (.int 1)))) mA0))))
def S_law_plus : Mir := mDef none 2 S_law_plusb
def S_law_productb : Fs := (mRet (mCall none S_law_frac (mAc (mMul (mIxd (mVar 0) (mC (.int 0))) (mIxd (mVar 1) (mC (.int 0)))) (mAc (mMul (mIxd (mVar 0) (mC (.int 1))) (mIxd (mVar 1) (mC (.int 1)))) mA0))))
def S_law_product : Mir := mDef none 2 S_law_productb
end
end Zk
namespace Zk
noncomputable section
open PySem PySem.Spec PyProof.Rows L2
/-- a fraction in lowest terms -/
def fr (q : Rat) : D := .tup [.int q.num, .int q.den]
@[simp] theorem imm_fr (q : Rat) : imm (fr q) = true := by simp [fr]
@[simp] theorem imms_fr (qs : List Rat) : imms (qs.map fr) = true := imms_map' imm_fr qs
@[simp] theorem upl_fr {n m : Nat} {d : D} {p : Rat} : upl n d (fr p) m = n := upl_imm (imm_fr p)
theorem pl_fr (n : Nat) (q : Rat) : pl (n + 1) (fr q) = true := by simp [pl, fr, pl_I]
theorem big_8000 {i : Int} (h : i.natAbs ≤ 2 ^ 8000) : i.natAbs < big := by
  have : (2 : Nat) ^ 8000 < 2 ^ 8001 := Nat.pow_lt_pow_right (by decide) (by decide)
  exact big_of (k := 8001) (by omega) (by decide)
theorem gAbs_nat (i : Int) : gAbs [.int i] = some (.int (i.natAbs : Nat), 9) := by
  have : (if i < 0 then -i else i) = (i.natAbs : Int) := by split <;> omega
  simp [gAbs, this]
theorem law_gcd_eq {x y : Int} (hx : x.natAbs < 2 ^ 8000) (hy : y.natAbs < 2 ^ 8000) : S_law_gcd [.int x, .int y] = some (.int ((Nat.gcd x.natAbs y.natAbs : Nat) : Int), 9, .non) := by
  have go : W (S_law_gcd [.int x, .int y]) fun r => r = (.int ((Nat.gcd x.natAbs y.natAbs : Nat) : Int), 9, .non) := by
    unfold S_law_gcd S_law_gcdb
    rw [W_mDef]
    refine W_seqJ (J := fun E => E = [some (.int x, 0), some (.int y, 0), some (.int (x.natAbs : Nat), 9), none, none, none]) (by simp [ent0_def, gAbs_nat]) ?_
    rintro _ rfl
    refine W_seqJ (J := fun E => E = [some (.int x, 0), some (.int y, 0), some (.int (x.natAbs : Nat), 9), some (.int (y.natAbs : Nat), 9), none, none]) (by simp [gAbs_nat]) ?_
    rintro _ rfl
    refine W_seqO (J := fun E => ∃ u3 u4 u5 : Option (D × Nat), E = [some (.int x, 0), some (.int y, 0), some (.int ((Nat.gcd x.natAbs y.natAbs : Nat) : Int), 9), u3, u4, u5]) ?_ ?_
    · intro J' hJ
      simp (disch := first | assumption | (simp; done) | omega) []
      refine ⟨⟨by decide, by decide⟩, ?_⟩
      refine W_forRO (I := fun k E => ∃ (a b : Nat) (u4 u5 : Option (D × Nat)), Nat.gcd a b = Nat.gcd x.natAbs y.natAbs ∧ (k = 0 → a < 2 ^ 8000 ∧ b < 2 ^ 8000) ∧ (0 < k → b < a ∧ a * b * 2 ^ (k - 1) ≤ 2 ^ 16000) ∧
        E = [some (.int x, 0), some (.int y, 0), some (.int (a : Nat), 9), some (.int (b : Nat), 9), u4, u5]) ⟨x.natAbs, y.natAbs, none, none, rfl, fun _ => ⟨hx, hy⟩, fun h => absurd h (by decide), by simp⟩ (fun k E I' hk hE hI => ?_) fun E hE => ?_
      · obtain ⟨a, b, u4, u5, g1, g2, g3, rfl⟩ := hE
        by_cases h0 : b = 0
        · subst h0
          simp (disch := first | assumption | (simp; done) | omega) []
          rw [Nat.gcd_zero_right] at g1
          rw [g1]
          exact hJ _ ⟨_, _, _, rfl⟩
        · have hb : (0 : Int) < b := by omega
          have hb2 : 0 < b := by omega
          simp (disch := first | assumption | (simp; done) | omega) [h0, hb, hb2]
          refine hI _ ⟨b, a % b, _, _, ?_, fun h => absurd h (by omega), fun _ => ⟨Nat.mod_lt _ hb2, ?_⟩, rfl⟩
          · rw [← g1, Nat.gcd_comm a b, Nat.gcd_rec b a, Nat.gcd_comm]
          · rw [Nat.add_sub_cancel]
            rcases Nat.eq_zero_or_pos k with e | e
            · subst e
              obtain ⟨a1, b1⟩ := g2 rfl
              have : a % b ≤ 2 ^ 8000 := Nat.le_of_lt (Nat.lt_trans (Nat.mod_lt _ hb2) b1)
              have h := Nat.mul_le_mul (Nat.le_of_lt b1) this
              rw [← Nat.pow_add] at h
              simpa using h
            · obtain ⟨l1, l2⟩ := g3 e
              have m2 : 2 * (a % b) ≤ a := by
                have h1 := Nat.div_add_mod a b
                have h2 := Nat.mod_lt a hb2
                have h3 : 1 ≤ a / b := (Nat.one_le_div_iff hb2).mpr (by omega)
                have h4 : b * 1 ≤ b * (a / b) := Nat.mul_le_mul_left b h3
                omega
              have e2 : b * (a % b) * 2 ^ k = b * (2 * (a % b)) * 2 ^ (k - 1) := by
                conv => lhs; rw [show k = (k - 1) + 1 by omega, Nat.pow_succ]
                grind
              rw [e2]
              refine Nat.le_trans (Nat.mul_le_mul_right _ (Nat.mul_le_mul_left b m2)) ?_
              rw [Nat.mul_comm b a]; exact l2
      · obtain ⟨a, b, u4, u5, g1, g2, g3, rfl⟩ := hE
        have b0 : b = 0 := by
          apply Classical.byContradiction
          intro hb
          obtain ⟨l1, l2⟩ := g3 (by decide)
          have h1 : 1 ≤ a * b := Nat.mul_pos (by omega) (by omega)
          have h2 : 1 * 2 ^ (20000 - 1) ≤ a * b * 2 ^ (20000 - 1) := Nat.mul_le_mul_right _ h1
          have h3 : (2 : Nat) ^ 16000 < 2 ^ (20000 - 1) := Nat.pow_lt_pow_right (by decide) (by decide)
          rw [Nat.one_mul] at h2
          exact absurd (Nat.lt_of_lt_of_le h3 (Nat.le_trans h2 l2)) (Nat.lt_irrefl _)
        subst b0
        rw [Nat.gcd_zero_right] at g1
        rw [g1]
        exact ⟨rfl, hJ _ ⟨_, _, _, rfl⟩⟩
    · rintro _ ⟨u3, u4, u5, rfl⟩
      simp
  obtain ⟨r, e, rfl⟩ := go
  exact e
theorem num_of {n d : Int} (hd : d ≠ 0) : (Rat.divInt n d).num = (if d < 0 then -n else n) / ((Nat.gcd n.natAbs d.natAbs : Nat) : Int) := by
  rw [Rat.num_divInt, Int.gcd_eq_natAbs_gcd_natAbs, Nat.gcd_comm]
  by_cases h : d < 0
  · rw [if_pos h, Int.sign_eq_neg_one_of_neg h]; congr 1; omega
  · rw [if_neg h, Int.sign_eq_one_of_pos (by omega), Int.one_mul]
theorem den_of {n d : Int} (hd : d ≠ 0) : (((Rat.divInt n d).den : Nat) : Int) = (if d < 0 then -d else d) / ((Nat.gcd n.natAbs d.natAbs : Nat) : Int) := by
  rw [Rat.den_divInt, if_neg hd, Int.gcd_eq_natAbs_gcd_natAbs, Nat.gcd_comm, Int.natCast_ediv]
  by_cases h : d < 0
  · rw [if_pos h]; congr 1; omega
  · rw [if_neg h]; congr 1; omega
theorem gcd_pos {n d : Int} (hd : d ≠ 0) : 0 < Nat.gcd n.natAbs d.natAbs := Nat.gcd_pos_of_pos_right _ (by omega)
theorem gcd_le {n d : Int} (hd : d ≠ 0) : Nat.gcd n.natAbs d.natAbs ≤ d.natAbs := Nat.gcd_le_right _ (by omega)
theorem fraction_eq {n d : Int} (hd : d ≠ 0) (hs : d.natAbs < 2 ^ 8000) : S_fraction [.int n, .int d] = some (fr (Rat.divInt n d), 0, .non) := by
  have g0 := gcd_pos (n := n) hd
  have g1 := gcd_le (n := n) hd
  have go : W (S_fraction [.int n, .int d]) fun r => r = (fr (Rat.divInt n d), 0, .non) := by
    refine W_O fun Q' hQ => ?_
    have key : Q' (.tup [.int ((if d < 0 then -n else n) / ((Nat.gcd n.natAbs d.natAbs : Nat) : Int)), .int ((if d < 0 then -d else d) / ((Nat.gcd n.natAbs d.natAbs : Nat) : Int))], 0, .non) := by
      refine hQ _ ?_
      unfold fr
      rw [num_of hd, den_of hd]
    have dv : ∀ t : Int, divOk t ((Nat.gcd n.natAbs d.natAbs : Nat) : Int) := fun t => ⟨by omega, by
      have h1 : Nat.gcd n.natAbs d.natAbs < 2 ^ 8000 := Nat.lt_of_le_of_lt g1 hs
      have := Int.ofNat_lt.mpr h1
      rwa [Int.natCast_pow] at this⟩
    unfold S_fraction S_fractionb
    by_cases h : d < 0
    · simp only [if_pos h] at key
      simp (disch := first | assumption | (simp; done) | omega) [ent0_def, h, dv]
      exact key
    · simp only [if_neg h] at key
      simp (disch := first | assumption | (simp; done) | omega) [ent0_def, h, dv]
      exact key
  obtain ⟨r, e, rfl⟩ := go
  exact e
theorem frac_eq {n d : Int} (hd : d ≠ 0) (hn : n.natAbs < 2 ^ 8000) (hs : d.natAbs < 2 ^ 8000) : S_law_frac [.int n, .int d] = some (fr (Rat.divInt n d), 0, .non) := by
  have g0 := gcd_pos (n := n) hd
  have g1 := gcd_le (n := n) hd
  have ge := law_gcd_eq hn hs
  have go : W (S_law_frac [.int n, .int d]) fun r => r = (fr (Rat.divInt n d), 0, .non) := by
    refine W_O fun Q' hQ => ?_
    have key : Q' (.tup [.int ((if d < 0 then -n else n) / ((Nat.gcd n.natAbs d.natAbs : Nat) : Int)), .int ((if d < 0 then -d else d) / ((Nat.gcd n.natAbs d.natAbs : Nat) : Int))], 0, .non) := by
      refine hQ _ ?_
      unfold fr
      rw [num_of hd, den_of hd]
    have dn : ((Nat.gcd n.natAbs d.natAbs : Nat) : Int) ∣ n := Int.ofNat_dvd_left.mpr (Nat.gcd_dvd_left _ _)
    have dd : ((Nat.gcd n.natAbs d.natAbs : Nat) : Int) ∣ d := Int.ofNat_dvd_left.mpr (Nat.gcd_dvd_right _ _)
    generalize Nat.gcd n.natAbs d.natAbs = g at *
    have mx : max 1 (g : Int) = g := by omega
    have gb : ((g : Nat) : Int) ≠ 0 := by omega
    have gb1 : g ≠ 0 := by omega
    have gs : g < 2 ^ 8000 := Nat.lt_of_le_of_lt g1 hs
    unfold S_law_frac S_law_fracb
    by_cases h : d < 0
    · simp only [if_pos h] at key
      have e1 : Int.fdiv n (-(g : Int)) = -n / g := by
        obtain ⟨k, rfl⟩ := dn
        rw [show (g : Int) * k = (-(g : Int)) * (-k) by grind, Int.mul_fdiv_cancel_left _ (by omega), show -(-(g : Int) * -k) = (g : Int) * (-k) by grind, Int.mul_ediv_cancel_left _ gb]
      have e2 : Int.fdiv d (-(g : Int)) = -d / g := by
        obtain ⟨k, e⟩ := dd
        rw [e, show (g : Int) * k = (-(g : Int)) * (-k) by grind, Int.mul_fdiv_cancel_left _ (by omega), show -(-(g : Int) * -k) = (g : Int) * (-k) by grind, Int.mul_ediv_cancel_left _ gb]
      simp (disch := first | assumption | (simp; done) | omega) [ent0_def, h, dem1, ge, mx, gb1]
      rw [e1, e2]; exact ⟨gs, key⟩
    · simp only [if_neg h] at key
      have e1 : Int.fdiv n (g : Int) = n / g := Int.fdiv_eq_ediv_of_nonneg _ (by omega)
      have e2 : Int.fdiv d (g : Int) = d / g := Int.fdiv_eq_ediv_of_nonneg _ (by omega)
      simp (disch := first | assumption | (simp; done) | omega) [ent0_def, h, dem1, ge, mx, gb1]
      rw [e1, e2]; exact ⟨gs, key⟩
  obtain ⟨r, e, rfl⟩ := go
  exact e
end
end Zk
namespace Zk
noncomputable section
open PySem PySem.Spec PyProof.Rows L2
/-- how great a fraction's parts are, in bits -/
def szR (a b : Nat) (q : Rat) : Prop := q.num.natAbs ≤ 2 ^ a ∧ q.den ≤ 2 ^ b
theorem szR.mono {a b a' b' : Nat} {q : Rat} (h : szR a b q) (ha : a ≤ a') (hb : b ≤ b') : szR a' b' q :=
  ⟨Nat.le_trans h.1 (Nat.pow_le_pow_right (by decide) ha), Nat.le_trans h.2 (Nat.pow_le_pow_right (by decide) hb)⟩
theorem div_le_abs (i : Int) (g : Nat) : (i / (g : Int)).natAbs ≤ i.natAbs := by
  rcases Nat.eq_zero_or_pos g with rfl | h
  · simp
  · exact Int.natAbs_ediv_le_natAbs i g
theorem szR_divInt {a b : Nat} {n d : Int} (hn : n.natAbs ≤ 2 ^ a) (hd0 : d ≠ 0) (hd : d.natAbs ≤ 2 ^ b) : szR a b (Rat.divInt n d) := by
  constructor
  · rw [num_of hd0]
    refine Nat.le_trans (div_le_abs _ _) ?_
    split <;> simpa using hn
  · have := den_of (n := n) hd0
    have h2 := div_le_abs (if d < 0 then -d else d) (Nat.gcd n.natAbs d.natAbs)
    rw [← this] at h2
    have h3 : (if d < 0 then -d else d).natAbs = d.natAbs := by split <;> simp
    rw [h3] at h2
    simp at h2
    omega
theorem den_ne (q : Rat) : ((q.den : Nat) : Int) ≠ 0 := by have := q.den_nz; omega
theorem abs_lt_8000 {i : Int} {k : Nat} (h : i.natAbs ≤ 2 ^ k) (hk : k ≤ 7999) : i.natAbs < 2 ^ 8000 :=
  Nat.lt_of_le_of_lt h (Nat.pow_lt_pow_right (by decide) (by omega))
theorem abs_big {i : Int} {k : Nat} (h : i.natAbs ≤ 2 ^ k) (hk : k ≤ 8000) : i.natAbs < big := big_8000 (Nat.le_trans h (Nat.pow_le_pow_right (by decide) hk))
theorem mul_abs {x y : Int} {a b : Nat} (hx : x.natAbs ≤ 2 ^ a) (hy : y.natAbs ≤ 2 ^ b) : (x * y).natAbs ≤ 2 ^ (a + b) := by
  rw [Int.natAbs_mul, Nat.pow_add]; exact Nat.mul_le_mul hx hy
theorem add_abs {x y : Int} {a b : Nat} (hx : x.natAbs ≤ 2 ^ a) (hy : y.natAbs ≤ 2 ^ b) : (x + y).natAbs ≤ 2 ^ (max a b + 1) := by
  have h1 : x.natAbs ≤ 2 ^ max a b := Nat.le_trans hx (Nat.pow_le_pow_right (by decide) (Nat.le_max_left a b))
  have h2 : y.natAbs ≤ 2 ^ max a b := Nat.le_trans hy (Nat.pow_le_pow_right (by decide) (Nat.le_max_right a b))
  have := Int.natAbs_add_le x y
  rw [Nat.pow_succ]; omega
theorem sub_abs {x y : Int} {a b : Nat} (hx : x.natAbs ≤ 2 ^ a) (hy : y.natAbs ≤ 2 ^ b) : (x - y).natAbs ≤ 2 ^ (max a b + 1) := by
  rw [Int.sub_eq_add_neg]
  exact add_abs hx (by simpa using hy)
section
variable {f g : Rat} {a b c e : Nat}
theorem at_fr0 (q : Rat) : atI [D.int q.num, D.int q.den] 0 = some (.int q.num) := rfl
theorem at_fr1 (q : Rat) : atI [D.int q.num, D.int q.den] 1 = some (.int q.den) := rfl
theorem add_div (f g : Rat) : Rat.divInt (f.num * g.den + g.num * f.den) ((f.den : Int) * g.den) = f + g := by
  have := Rat.divInt_add_divInt f.num g.num (den_ne f) (den_ne g)
  rw [Rat.num_divInt_den, Rat.num_divInt_den] at this
  exact this.symm
theorem sub_div (f g : Rat) : Rat.divInt (f.num * g.den - g.num * f.den) ((f.den : Int) * g.den) = f - g := by
  have := Rat.divInt_sub_divInt f.num g.num (den_ne f) (den_ne g)
  rw [Rat.num_divInt_den, Rat.num_divInt_den] at this
  exact this.symm
theorem mul_div (f g : Rat) : Rat.divInt (f.num * g.num) ((f.den : Int) * g.den) = f * g := by
  have := Rat.divInt_mul_divInt f.num g.num (d₁ := f.den) (d₂ := g.den)
  rw [Rat.num_divInt_den, Rat.num_divInt_den] at this
  exact this.symm
theorem den_mul_ne (f g : Rat) : (f.den : Int) * g.den ≠ 0 := Int.mul_ne_zero (den_ne f) (den_ne g)
theorem law_plus_eq (hf : szR a b f) (hg : szR c e g) (h1 : a + e ≤ 7990) (h2 : c + b ≤ 7990) (h3 : b + e ≤ 7990) :
    S_law_plus [fr f, fr g] = some (fr (f + g), 9, .non) ∧ szR (max (a + e) (c + b) + 1) (b + e) (f + g) := by
  have d1 : ((f.den : Nat) : Int).natAbs ≤ 2 ^ b := hf.2
  have d2 : ((g.den : Nat) : Int).natAbs ≤ 2 ^ e := hg.2
  have n1 := mul_abs hf.1 d2
  have n2 := mul_abs hg.1 d1
  have n3 := add_abs n1 n2
  have n4 := mul_abs d1 d2
  have fe := frac_eq (den_mul_ne f g) (abs_lt_8000 n3 (by omega)) (abs_lt_8000 n4 (by omega))
  rw [add_div] at fe
  refine ⟨?_, by rw [← add_div]; exact szR_divInt n3 (den_mul_ne f g) n4⟩
  have b1 := abs_big hf.1 (by omega)
  have b2 := abs_big hg.1 (by omega)
  have b3 := abs_big d1 (by omega)
  have b4 := abs_big d2 (by omega)
  have go : W (S_law_plus [fr f, fr g]) fun r => r = (fr (f + g), 9, .non) := by
    unfold S_law_plus S_law_plusb
    simp only [Int.natAbs_natCast] at b3 b4
    simp (disch := first | assumption | (simp; done) | omega) [ent0_def, fr, at_fr0, at_fr1, b1, b2, b3, b4, dem1, fe]
  obtain ⟨r, e, rfl⟩ := go
  exact e
theorem law_product_eq (hf : szR a b f) (hg : szR c e g) (h1 : a + c ≤ 7990) (h3 : b + e ≤ 7990) :
    S_law_product [fr f, fr g] = some (fr (f * g), 9, .non) ∧ szR (a + c) (b + e) (f * g) := by
  have d1 : ((f.den : Nat) : Int).natAbs ≤ 2 ^ b := hf.2
  have d2 : ((g.den : Nat) : Int).natAbs ≤ 2 ^ e := hg.2
  have n3 := mul_abs hf.1 hg.1
  have n4 := mul_abs d1 d2
  have fe := frac_eq (den_mul_ne f g) (abs_lt_8000 n3 (by omega)) (abs_lt_8000 n4 (by omega))
  rw [mul_div] at fe
  refine ⟨?_, by rw [← mul_div]; exact szR_divInt n3 (den_mul_ne f g) n4⟩
  have b1 := abs_big hf.1 (by omega)
  have b2 := abs_big hg.1 (by omega)
  have b3 := abs_big d1 (by omega)
  have b4 := abs_big d2 (by omega)
  have go : W (S_law_product [fr f, fr g]) fun r => r = (fr (f * g), 9, .non) := by
    unfold S_law_product S_law_productb
    simp only [Int.natAbs_natCast] at b3 b4
    simp (disch := first | assumption | (simp; done) | omega) [ent0_def, fr, at_fr0, at_fr1, b1, b2, b3, b4, dem1, fe]
  obtain ⟨r, e, rfl⟩ := go
  exact e
end
end
end Zk
namespace Zk
noncomputable section
open PySem PySem.Spec PyProof.Rows L2
/-- pairs of some indexes with their numbers -/
def Sel (N : Nat) (w : Nat → Int) (kp : List (Int × Int)) : Prop := (∀ p ∈ kp, ∃ a : Nat, a < N ∧ p = ((a : Int), w a)) ∧ (kp.map (·.1)).Nodup
theorem ksum_nodup {st : List (Int × Int)} (nd : (st.map (·.1)).Nodup) {p : Int × Int} (hp : p ∈ st) : ksum st p.1 = p.2 := by
  obtain ⟨a, b, e⟩ := List.append_of_mem hp
  rw [e] at nd ⊢
  have e2 : p :: b = [p] ++ b := rfl
  rw [e2, ksum_app, ksum_app, ksum_one, if_pos rfl]
  rw [List.map_append, List.map_cons] at nd
  have n2 := List.nodup_append.mp nd
  have ka : ksum a p.1 = 0 := ksum_out fun q hq e => n2.2.2 q.1 (List.mem_map.mpr ⟨q, hq, rfl⟩) p.1 (by simp) e
  have kb : ksum b p.1 = 0 := ksum_out fun q hq e => (List.nodup_cons.mp n2.2.1).1 (List.mem_map.mpr ⟨q, hq, e⟩)
  rw [ka, kb]; omega
theorem Sel.two {N : Nat} {w : Nat → Int} {kp : List (Int × Int)} (h : Sel N w kp) (a : Nat) : K kp a = 0 ∨ K kp a = w a := by
  by_cases c : ∃ p ∈ kp, p.1 = (a : Int)
  · obtain ⟨p, hp, e⟩ := c
    right
    obtain ⟨b, hb, rfl⟩ := h.1 p hp
    have := ksum_nodup h.2 hp
    unfold K
    rw [← e, this]
    simp only at e ⊢
    rw [show a = b by omega]
  · left
    exact ksum_out fun q hq e => c ⟨q, hq, e⟩
theorem Sel.rng {N : Nat} {w : Nat → Int} {kp : List (Int × Int)} (h : Sel N w kp) : ∀ p ∈ kp, 0 ≤ p.1 ∧ p.1 < (N : Int) := fun p hp => by
  obtain ⟨b, hb, rfl⟩ := h.1 p hp
  exact ⟨by simp, by simp only; omega⟩
/-- the squares of the kept ones -/
def sq2 (kp : List (Int × Int)) : Int := (kp.map fun p => p.2 * p.2).sum
theorem Sel.sq {N : Nat} {w : Nat → Int} {kp : List (Int × Int)} (h : Sel N w kp) : sumN N (fun a => K kp a * K kp a) = sq2 kp := by
  rw [wsum h.rng (K kp)]
  unfold sq2
  congr 1
  refine List.map_congr_left fun p hp => ?_
  have e := ksum_nodup h.2 hp
  have := (h.rng p hp).1
  unfold K
  rw [show ((p.1.toNat : Nat) : Int) = p.1 by omega, e]
end
end Zk
namespace Zk
noncomputable section
open PySem PySem.Spec PyProof.Rows L2
def nzp (N : Nat) (w : Nat → Int) : List (Int × Int) := ((List.range N).filter fun a => decide (w a ≠ 0)).map fun (a : Nat) => (-((w a).natAbs : Int), (a : Int))
def top (N : Nat) (w : Nat → Int) (k : Nat) : List (Int × Int) := (srtP (nzp N w)).take k
end
end Zk
namespace Zk
noncomputable section
open PySem PySem.Spec PyProof.Rows L2
theorem fr_int (x : Int) : fr (x : Rat) = .tup [.int x, .int 1] := rfl
theorem szR_int {x : Int} {a : Nat} (h : x.natAbs ≤ 2 ^ a) : szR a 0 (x : Rat) := ⟨h, Nat.le_refl _⟩
end
end Zk
namespace Zk
noncomputable section
open PySem PySem.Spec PyProof.Rows L2
@[simp] theorem imm_Fd (F : Fd) : imm F.d = true := by cases F <;> simp [Fd.d]
section
variable {F : Fd} {a b : Nat}
/-- the sign of a draw at a key -/
def Fd.sgn (F : Fd) (cs : List Nat) (k : Nat) : Int := if F.val cs k % 2 = 0 then 1 else -1
end
end
end Zk
namespace Zk
noncomputable section
open PySem PySem.Spec PyProof.Rows L2
end
end Zk
namespace Zk
noncomputable section
open PySem PySem.Spec PyProof.Rows L2
end
end Zk
namespace Zk
noncomputable section
open PySem PySem.Spec PyProof.Rows L2
end
end Zk
namespace Zk
noncomputable section
open PySem PySem.Spec PyProof.Rows L2
/-- the block b of a level lies within the span -/
def wi (low high : Int) (j : Nat) (b : Int) : Prop := low ≤ b * 2 ^ j ∧ (b + 1) * 2 ^ j ≤ high + 1
theorem p2 (j : Nat) : (0 : Int) < 2 ^ j := Int.pow_pos (by decide)
theorem wi_s {low high : Int} {j : Nat} {b : Int} : wi low high (j + 1) b ↔ wi low high j (2 * b) ∧ wi low high j (2 * b + 1) := by
  unfold wi
  have h := p2 j
  rw [Int.pow_succ]
  generalize (2 : Int) ^ j = q at *
  have e1 : b * (q * 2) = 2 * (b * q) := by grind
  have e2 : (b + 1) * (q * 2) = 2 * (b * q) + 2 * q := by grind
  have e3 : 2 * b * q = 2 * (b * q) := by grind
  have e4 : (2 * b + 1) * q = 2 * (b * q) + q := by grind
  have e5 : (2 * b + 1 + 1) * q = 2 * (b * q) + 2 * q := by grind
  rw [e1, e2, e3, e4, e5]
  omega
theorem div_s (x : Int) (i : Nat) : x / 2 ^ (i + 1) = x / 2 ^ i / 2 := by
  rw [Int.pow_succ, ← Int.ediv_ediv_of_nonneg (Int.le_of_lt (p2 i))]
/-- the blocks below, around a place -/
theorem wi_down {low high x : Int} {i : Nat} : ∀ {d : Nat}, wi low high (i + d) (x / 2 ^ (i + d)) → wi low high i (x / 2 ^ i)
  | 0, h => h
  | d + 1, h => by
    refine wi_down (d := d) ?_
    rw [show i + (d + 1) = (i + d) + 1 by omega, div_s, wi_s] at h
    generalize x / 2 ^ (i + d) = q at *
    have : q = 2 * (q / 2) ∨ q = 2 * (q / 2) + 1 := by omega
    rcases this with e | e
    · rw [e]; exact h.1
    · rw [e]; exact h.2
theorem wi_le {low high x : Int} {i j : Nat} (hij : i ≤ j) (h : wi low high j (x / 2 ^ j)) : wi low high i (x / 2 ^ i) := by
  obtain ⟨d, rfl⟩ := Nat.exists_eq_add_of_le hij
  exact wi_down h
/-- a block of the fewest -/
def Cov (m : Nat) (low high : Int) (p : Int × Int) : Prop := ∃ j : Nat, j ≤ m ∧ p.1 = j ∧ wi low high j p.2 ∧ (j < m → ¬ wi low high (j + 1) (p.2 / 2))
theorem mul_at {b : Int} (j : Nat) : b * 2 ^ j / 2 ^ j = b := Int.mul_ediv_cancel b (Int.ne_of_gt (p2 j))
end
end Zk
namespace Zk
noncomputable section
open PySem PySem.Spec PyProof.Rows L2
@[simp] theorem prD_pr : prD = pr := rfl
/-- the list of the fewest blocks, ascending -/
def IsCvr (m : Nat) (low high : Int) (L : List (Int × Int)) : Prop := SrtO.Srtd SrtO.lexB L ∧ L.Nodup ∧ ∀ p, p ∈ L ↔ Cov m low high p
theorem lex_snoc {L : List (Int × Int)} {p : Int × Int} (h : L.Pairwise fun a b => SrtO.lexB a b = true) (hp : ∀ q ∈ L, SrtO.lexB q p = true) : (L ++ [p]).Pairwise fun a b => SrtO.lexB a b = true := by
  rw [List.pairwise_append]
  exact ⟨h, by simp, fun a ha b hb => by simp at hb; subst hb; exact hp a ha⟩
/-- what the program keeps before a level -/
structure PC (m : Nat) (low high : Int) (k : Nat) (f l : Int) (L : List (Int × Int)) : Prop where
  srt : L.Pairwise fun a b => SrtO.lexB a b = true
  mem : ∀ p, p ∈ L ↔ Cov m low high p ∧ p.1 < k
  blk : k ≤ m → ∀ b, Zk.wi low high k b ↔ f ≤ b ∧ b ≤ l
  len : L.length ≤ 2 * k
  len2 : m < k → L.length ≤ max 1 (2 * m)
theorem PC.done {m k : Nat} {low high f l : Int} {L : List (Int × Int)} (h : PC m low high k f l L) (he : k ≤ m → l < f) : IsCvr m low high L := by
  refine ⟨h.srt.imp fun {a b} q => ?_, h.srt.imp fun {a b} q e => ?_, fun p => ⟨fun hp => ((h.mem p).mp hp).1, fun hp => (h.mem p).mpr ⟨hp, ?_⟩⟩⟩
  · have := SrtO.lexB_iff.mp q
    exact SrtO.lexB_no.mpr (by omega)
  · have := SrtO.lexB_iff.mp q
    rw [e] at this
    omega
  · obtain ⟨j, hj, e, w1, w2⟩ := hp
    rw [e]
    apply Classical.byContradiction
    intro hc
    have hk : k ≤ j := by omega
    have w := wi_le (x := p.2 * 2 ^ j) hk (by rw [mul_at]; exact w1)
    have := (h.blk (by omega) _).mp w
    have := he (by omega)
    omega
theorem cov_lvl {m k : Nat} {low high : Int} (hk : k ≤ m) {b : Int} : Cov m low high ((k : Int), b) ↔ wi low high k b ∧ (k < m → ¬ wi low high (k + 1) (b / 2)) := by
  constructor
  · rintro ⟨j, hj, e, w1, w2⟩
    have e : (k : Int) = j := e
    have : k = j := by omega
    subst this
    exact ⟨w1, w2⟩
  · rintro ⟨w1, w2⟩
    exact ⟨k, hk, rfl, w1, w2⟩
/-- at the last level there is one block at most -/
theorem wi_top {m : Nat} {low high b : Int} (h0 : 0 ≤ low) (h2 : high < 2 ^ m) (w : wi low high m b) : b = 0 := by
  unfold wi at w
  have q := p2 m
  have a : 0 ≤ b := by
    apply Classical.byContradiction
    intro hc
    have : b * 2 ^ m < 0 := Int.mul_neg_of_neg_of_pos (by omega) q
    omega
  have c : b + 1 ≤ 1 := by
    apply Classical.byContradiction
    intro hc
    have h3 : 2 * (2 : Int) ^ m ≤ (b + 1) * 2 ^ m := Int.mul_le_mul_of_nonneg_right (by omega) (Int.le_of_lt q)
    omega
  omega
/-- one level of the program -/
theorem PC.step {m k : Nat} {low high f l : Int} {L : List (Int × Int)} (h0 : 0 ≤ low) (h2 : high < 2 ^ m) (h : PC m low high k f l L) (hk : k ≤ m) (hf : f ≤ l) :
    let c1 := f % 2 = 1 ∨ k = m
    let f1 := if c1 then f + 1 else f
    let c2 := f1 ≤ l ∧ l % 2 = 0
    PC m low high (k + 1) (f1 / 2) ((if c2 then l - 1 else l) / 2) ((L ++ if c1 then [((k : Int), f)] else []) ++ if c2 then [((k : Int), l)] else []) := by
  intro c1 f1 c2
  have lt1 : ∀ q ∈ L, ∀ b : Int, SrtO.lexB q ((k : Int), b) = true := fun q hq b => SrtO.lexB_iff.mpr (.inl ((h.mem q).mp hq).2)
  have wk := h.blk hk
  have top : k = m → f = 0 ∧ l = 0 := fun e => by
    subst e
    exact ⟨wi_top h0 h2 ((wk f).mpr ⟨Int.le_refl _, hf⟩), wi_top h0 h2 ((wk l).mpr ⟨hf, Int.le_refl _⟩)⟩
  have up : ∀ b, wi low high (k + 1) b ↔ f ≤ 2 * b ∧ 2 * b + 1 ≤ l := fun b => by
    rw [wi_s, wk, wk]; omega
  -- which blocks of this level are of the fewest
  have cl : ∀ b, Cov m low high ((k : Int), b) ↔ (c1 ∧ b = f) ∨ (c2 ∧ b = l) := fun b => by
    rw [cov_lvl hk, wk, up]
    by_cases hm : k = m
    · obtain ⟨e1, e2⟩ := top hm
      have t1 : c1 := .inr hm
      have t2 : ¬ c2 := by show ¬ ((if c1 then f + 1 else f) ≤ l ∧ l % 2 = 0); rw [if_pos t1]; omega
      simp only [t1, t2, true_and, false_and, or_false]
      omega
    · have hm2 : k < m := by omega
      by_cases o : f % 2 = 1
      · have t1 : c1 := .inl o
        have e3 : f1 = f + 1 := if_pos t1
        show _ ↔ (c1 ∧ b = f) ∨ ((f1 ≤ l ∧ l % 2 = 0) ∧ b = l)
        rw [e3]
        simp only [t1, true_and]
        omega
      · have t1 : ¬ c1 := fun z => z.elim o hm
        have e3 : f1 = f := if_neg t1
        show _ ↔ (c1 ∧ b = f) ∨ ((f1 ≤ l ∧ l % 2 = 0) ∧ b = l)
        rw [e3]
        simp only [t1, false_and, false_or]
        omega
  have emp : k = m → L = [] := fun e => by
    obtain ⟨e1, e2⟩ := top e
    subst e
    apply List.eq_nil_iff_forall_not_mem.mpr
    rintro ⟨x, b⟩ hp
    obtain ⟨⟨j, hj, ej, w1, w2⟩, lt⟩ := (h.mem _).mp hp
    simp only at ej w1 w2 lt
    refine w2 (by omega) ?_
    have q := p2 j
    have w1' := w1
    unfold Zk.wi at w1'
    have e3 : (b + 1) * 2 ^ j = b * 2 ^ j + 2 ^ j := by grind
    have ex : b * 2 ^ j / 2 ^ k = 0 := Int.ediv_eq_zero_of_lt (by omega) (by omega)
    have wt : Zk.wi low high k (b * 2 ^ j / 2 ^ k) := by
      rw [ex]; exact (wk 0).mpr (by omega)
    have := wi_le (i := j + 1) (by omega) wt
    rw [div_s, mul_at] at this
    exact this
  refine ⟨?_, fun p => ?_, fun hk1 b => ?_, ?_, fun hmk => ?_⟩
  · have s1 : (L ++ if c1 then [((k : Int), f)] else []).Pairwise fun a b => SrtO.lexB a b = true := by
      split
      · exact lex_snoc h.srt fun q hq => lt1 q hq f
      · rw [List.append_nil]; exact h.srt
    by_cases hc2 : c2
    · rw [if_pos hc2]
      refine lex_snoc s1 fun q hq => ?_
      rcases List.mem_append.mp hq with hq | hq
      · exact lt1 q hq l
      · split at hq
        · rename_i hc1
          simp at hq
          subst hq
          have : f1 = f + 1 := if_pos hc1
          have := hc2.1
          exact SrtO.lexB_iff.mpr (.inr ⟨rfl, by simp only; omega⟩)
        · simp at hq
    · rw [if_neg hc2, List.append_nil]; exact s1
  · obtain ⟨x, b⟩ := p
    have hsplit : ((x, b) ∈ (L ++ if c1 then [((k : Int), f)] else []) ++ if c2 then [((k : Int), l)] else []) ↔ (x, b) ∈ L ∨ (x = k ∧ ((c1 ∧ b = f) ∨ (c2 ∧ b = l))) := by
      rw [List.mem_append, List.mem_append]
      by_cases a1 : c1 <;> by_cases a2 : c2 <;> simp [a1, a2]
      · constructor
        · rintro ((h | ⟨rfl, rfl⟩) | ⟨rfl, rfl⟩)
          · exact .inl h
          · exact .inr ⟨rfl, .inl rfl⟩
          · exact .inr ⟨rfl, .inr rfl⟩
        · rintro (h | ⟨rfl, rfl | rfl⟩)
          · exact .inl (.inl h)
          · exact .inl (.inr ⟨rfl, rfl⟩)
          · exact .inr ⟨rfl, rfl⟩
    rw [hsplit, h.mem]
    constructor
    · rintro (⟨c, lt⟩ | ⟨rfl, hb⟩)
      · exact ⟨c, by simp only at lt ⊢; omega⟩
      · exact ⟨(cl b).mpr hb, by simp only; omega⟩
    · rintro ⟨c, lt⟩
      by_cases e : x = k
      · subst e
        exact .inr ⟨rfl, (cl b).mp c⟩
      · exact .inl ⟨c, by simp only at lt ⊢; omega⟩
  · rw [up]
    have hm : ¬ k = m := by omega
    by_cases o : f % 2 = 1
    · have t1 : c1 := .inl o
      have e3 : f1 = f + 1 := if_pos t1
      by_cases a2 : c2
      · have a3 : f1 ≤ l ∧ l % 2 = 0 := a2
        rw [e3] at a3
        rw [if_pos a2, e3]
        omega
      · have a3 : ¬ (f1 ≤ l ∧ l % 2 = 0) := a2
        rw [e3] at a3
        rw [if_neg a2, e3]
        omega
    · have t1 : ¬ c1 := fun z => z.elim o hm
      have e3 : f1 = f := if_neg t1
      by_cases a2 : c2
      · have a3 : f1 ≤ l ∧ l % 2 = 0 := a2
        rw [e3] at a3
        rw [if_pos a2, e3]
        omega
      · have a3 : ¬ (f1 ≤ l ∧ l % 2 = 0) := a2
        rw [e3] at a3
        rw [if_neg a2, e3]
        omega
  · have := h.len
    split <;> split <;> simp <;> omega
  · have e : k = m := by omega
    obtain ⟨e1, e2⟩ := top e
    have t1 : c1 := .inr e
    have t2 : ¬ c2 := by show ¬ ((if c1 then f + 1 else f) ≤ l ∧ l % 2 = 0); rw [if_pos t1]; omega
    rw [if_pos t1, if_neg t2, emp e]
    simp
    omega

end
end Zk
namespace Zk
noncomputable section
open PySem PySem.Spec PyProof.Rows L2
end
end Zk
namespace Zk
noncomputable section
open PySem PySem.Spec PyProof.Rows L2
end
end Zk
namespace Zk
noncomputable section
open PySem PySem.Spec PyProof.Rows L2
end
end Zk
namespace Zk
noncomputable section
open PySem PySem.Spec PyProof.Rows L2
end
end Zk
namespace Zk
noncomputable section
open PySem PySem.Spec PyProof.Rows L2
end
end Zk
namespace Zk
noncomputable section
open PySem PySem.Spec PyProof.Rows L2
def cnt (ns : List Int) (x : Int) : Nat := (ns.filter fun k => decide (k = x)).length
def gd (ns : List Int) (j : Nat) : Int := ns.getD j 0
end
end Zk
namespace Zk
noncomputable section
open PySem PySem.Spec PyProof.Rows L2
end
end Zk
namespace Zk
noncomputable section
open PySem PySem.Spec PyProof.Rows L2
end
end Zk
namespace Zk
noncomputable section
open PySem PySem.Spec PyProof.Rows L2
end
end Zk
namespace Zk
noncomputable section
open PySem PySem.Spec PyProof.Rows L2
def inr (n : Nat) (p : Int × Int) : Prop := 0 ≤ p.1 ∧ p.1 < p.2 ∧ p.2 < n
inductive At where | i (j : Int) | t (ys : List Int)
inductive El where | i (j : Int) | t (xs : List At)
def aD : At → D
  | .i j => .int j
  | .t ys => .tup (ys.map D.int)
def eD : El → D
  | .i j => .int j
  | .t xs => .tup (xs.map aD)
def el (p : Int × Int) : El := .t [.i p.1, .i p.2]
@[simp] theorem aD_i (j : Int) : aD (.i j) = .int j := rfl
@[simp] theorem aD_t (ys : List Int) : aD (.t ys) = .tup (ys.map D.int) := rfl
@[simp] theorem eD_i (j : Int) : eD (.i j) = .int j := rfl
@[simp] theorem eD_t (xs : List At) : eD (.t xs) = .tup (xs.map aD) := rfl
@[simp] theorem eD_el (p : Int × Int) : eD (el p) = pr p := rfl
@[simp] theorem imm_aD (a : At) : imm (aD a) = true := by cases a <;> simp
theorem imms_map'' {α : Type} {f : α → D} (h : ∀ x, imm (f x) = true) (xs : List α) : imms (xs.map f) = true := imms_map f h xs
@[simp] theorem imm_eD (a : El) : imm (eD a) = true := by cases a <;> simp [imms_map'' imm_aD]
end
end Zk
namespace Zk
noncomputable section
open PySem PySem.Spec PyProof.Rows L2
instance (n : Nat) (p : Int × Int) : Decidable (inr n p) := by unfold inr; infer_instance
end
end Zk
namespace Zk
noncomputable section
open PySem PySem.Spec PyProof.Rows L2
@[simp] theorem imms_eD (es : List El) : imms (es.map eD) = true := imms_map'' imm_eD es
@[simp] theorem imms_aD (es : List At) : imms (es.map aD) = true := imms_map'' imm_aD es
end
end Zk
namespace Zk
noncomputable section
open PySem PySem.Spec PyProof.Rows L2
end
end Zk
namespace Zk
noncomputable section
open PySem PySem.Spec PyProof.Rows L2
end
end Zk
namespace Zk
noncomputable section
open PySem PySem.Spec PyProof.Rows L2
def tE (es : List El) : D := .tup (es.map eD)
@[simp] theorem imm_tE (es : List El) : imm (tE es) = true := by simp [tE]
@[simp] theorem imms_tE (T : List (List El)) : imms (T.map tE) = true := imms_map'' imm_tE T
def Few (T : List (List El)) : Prop := (∀ es ∈ T, es.length ≤ 502) ∧ T.length ≤ 100
theorem Few.more {T : List (List El)} {n : Nat} (h : (∀ es ∈ T, es.length ≤ 502) ∧ T.length = n) {U : List (List El)} (hu : ∀ es ∈ U, es.length ≤ 502) : (∀ es ∈ T ++ U, es.length ≤ 502) ∧ (T ++ U).length = n + U.length :=
  ⟨fun es he => (List.mem_append.mp he).elim (h.1 es) (hu es), by rw [List.length_append, h.2]⟩
def ev (ns : List Int) (P : List (Int × Int)) (s : List Int) (T : List (List El)) (k a b q u8 u9 u10 u11 u12 : Option (D × Nat)) : Ev := [some (dr s, 1), some (.tup (ns.map D.int), 0), some (tE (P.map el), 0), some (.lst (T.map tE), 9), k, a, b, q, u8, u9, u10, u11, u12]
end
end Zk
namespace Zk
noncomputable section
open PySem PySem.Spec PyProof.Rows L2
end
end Zk
namespace Zk
noncomputable section
open PySem PySem.Spec PyProof.Rows L2
def S_plusb : Fs := (mRet (mCall none S_fraction (mAc (mAdd (mMul (mIxd (mVar 0) (mC (.int 0))) (mIxd (mVar 1) (mC (.int 1)))) (mMul (mIxd (mVar 1) (mC (.int 0))) (mIxd (mVar 0) (mC (.int 1))))) (mAc (mMul (mIxd (mVar 0) (mC (.int 1))) (mIxd (mVar 1) (mC (.int 1)))) mA0))))
def S_plus : Mir := mDef none 2 S_plusb
end
end Zk
namespace Zk
noncomputable section
open PySem PySem.Spec PyProof.Rows L2
def sg (x i : Nat) : Int := if x / 2 ^ i % 2 = 0 then 1 else -1
def con (m : Nat) (c : Nat → Nat → Int) (p : Nat × Nat) (x : Nat) : Int := if x / 2 ^ (p.1 + 1) = p.2 then sg x p.1 * c p.1 p.2 * 2 ^ (m - 1 - p.1) else 0
/-- places of the rows, each once -/
def Pos (m : Nat) (ps : List (Nat × Nat)) : Prop := (∀ p ∈ ps, p.1 < m ∧ p.2 < 2 ^ (m - 1 - p.1)) ∧ ps.Nodup
end
end Zk
namespace Zk
noncomputable section
open PySem PySem.Spec PyProof.Rows L2
section
variable (m : Nat) (ln : Nat → Nat) (c : Nat → Nat → Int)
end
section
variable {m : Nat} {ln : Nat → Nat} {c : Nat → Nat → Int} {k : Nat}
end
end
end Zk
namespace Zk
noncomputable section
open PySem PySem.Spec PyProof.Rows L2
end
end Zk
namespace Zk
noncomputable section
open PySem PySem.Spec PyProof.Rows L2
theorem zrow {w : Nat} (hw : w ≤ 1000000) : gMul [.lst [.int 0], .int (w : Int)] = some (.lst ((tab w fun _ => 0).map D.int), 9) := by
  have tn : (w : Int).toNat = w := by omega
  rw [gMul_rep, if_pos ⟨by omega, by omega, by rw [sizeL, tn]; simp; omega⟩, tn, zeros]
  congr 2
  exact lev_ints _
end
end Zk
namespace Zk
noncomputable section
open PySem PySem.Spec PyProof.Rows L2
def Td (T : List (List Nat)) (r : Nat) : List Nat := T.getD r []
def Vt (F : Fd) (T : List (List Nat)) (r k : Nat) : Nat := F.val (Td T r) k
def ind (F : Fd) (T : List (List Nat)) (r b : Nat) (k : Int) : Int := if Vt F T r k.toNat = b then 1 else 0
/-- rows of draws over the field -/
def Tok (F : Fd) (T : List (List Nat)) : Prop := ∀ cs ∈ T, ∀ c ∈ cs, c < F.n
section
variable {p : Nat} {T : List (List Nat)}
theorem range_split {n : Nat} {c d : List Nat} {j : Nat} (e : List.range n = c ++ j :: d) : c = List.range j ∧ j < n := by
  have hl : c.length < n := by have := congrArg List.length e; simp at this; omega
  have h1 : (List.range n)[c.length]? = some j := by rw [e, List.getElem?_append_right (Nat.le_refl _), Nat.sub_self]; rfl
  rw [List.getElem?_range hl] at h1
  cases h1
  refine ⟨?_, hl⟩
  have h2 := congrArg (List.take c.length) e
  rw [List.take_range, List.take_left, Nat.min_eq_left (by omega)] at h2
  exact h2.symm
theorem nat_of {k : Int} (h : 0 ≤ k) : ∃ n : Nat, k = (n : Int) := Int.eq_ofNat_of_zero_le h
end
end
end Zk
namespace Zk
noncomputable section
open PySem PySem.Spec PyProof.Rows L2
section
variable {p : Nat} {T : List (List Nat)}
end
end
end Zk
namespace Zk
noncomputable section
open PySem PySem.Spec PyProof.Rows L2
section
variable {p : Nat} {T : List (List Nat)}
end
end
end Zk
namespace Zk
noncomputable section
open PySem PySem.Spec PyProof.Rows L2
end
end Zk
namespace Zk
noncomputable section
open PySem PySem.Spec PyProof.Rows L2
def tkv (g : Nat → Int) : Nat → Nat
  | 0 => 0
  | n + 1 => tkv g n + if g 0 < 2 * g (n + 1) then 2 ^ n else 0
section
variable {n : Nat} {g : Nat → Int}
end
end
end Zk
namespace Zk
noncomputable section
open PySem PySem.Spec PyProof.Rows L2
/-- what a key adds to the part x of the cell c of row r -/
def hb (F : Fd) (T : List (List Nat)) (w r c x : Nat) (k : Int) : Int := if Vt F T r k.toNat % w = c then (if x = 0 then 1 else ((k.toNat / 2 ^ (x - 1) % 2 : Nat) : Int)) else 0
/-- a cell behind a member, j bits done -/
def cA (f : Nat → Int) (k : Nat) (cnt : Int) (j x : Nat) : Int := f x + if x = 0 then cnt else if x ≤ j then ((k / 2 ^ (x - 1) % 2 : Nat) : Int) * cnt else 0
section
variable {p n w : Nat} {T : List (List Nat)}
end
end
end Zk
namespace Zk
noncomputable section
open PySem PySem.Spec PyProof.Rows L2
section
variable {F : Fd} {T : List (List Nat)} {w n r : Nat} {st : List (Int × Int)}
end
end
end Zk
namespace Zk
noncomputable section
open PySem PySem.Spec PyProof.Rows L2
section
variable {p n w : Nat} {T : List (List Nat)}
end
end
end Zk
namespace Zk
noncomputable section
open PySem PySem.Spec PyProof.Rows L2
section
variable {p n w : Nat} {T : List (List Nat)}
/-- the cell of a key in row r -/
def ccl (F : Fd) (T : List (List Nat)) (w : Nat) (G : Nat → Nat → Nat → Int) (r k : Nat) : Nat → Int := G r (Vt F T r k % w)
/-- a row's own cell tells the key -/
def tells (F : Fd) (T : List (List Nat)) (w n : Nat) (G : Nat → Nat → Nat → Int) (r k : Nat) : Bool := decide (ccl F T w G r k 0 ≠ 0 ∧ tkv (ccl F T w G r k) n = k)
theorem enD_rows (w : Nat) (f : Nat → D) : enD 0 ((List.range w).map f) = (List.range w).map fun c : Nat => D.tup [.int (c : Int), f c] := by
  apply List.ext_getElem?
  intro i
  rw [enD_get, List.getElem?_map, List.getElem?_map]
  by_cases h : i < w
  · rw [List.getElem?_range h]; simp
  · rw [List.getElem?_eq_none (show (List.range w).length ≤ i by simpa using h)]; simp
end
end
end Zk
namespace Zk
noncomputable section
open PySem PySem.Spec PyProof.Rows L2
end
end Zk
namespace Zk
noncomputable section
open PySem PySem.Spec PyProof.Rows L2
abbrev Sg := List (List Nat × List Nat)
section
variable {m w : Nat} {T : Sg}
end
end
end Zk
namespace Zk
noncomputable section
open PySem PySem.Spec PyProof.Rows L2
theorem W_tg2 {a b : D} {i j : Nat} {E : Ev} {Q : Ev → Prop} (hi : i < E.length) (hj : j < E.length) (h : Q ((E.set i (some (a, 0))).set j (some (b, 0)))) : W (tgT 2 (tgC (tgV i) (tgC (tgV j) tgN)) (.tup [a, b]) E) Q :=
  W_tgT.mpr ⟨rfl, W_tgC.mpr (W_tgV.mpr ⟨hi, W_tgC.mpr (W_tgV.mpr ⟨by rw [List.length_set]; exact hj, W_tgN.mpr h⟩)⟩)⟩
theorem tab_succ (n : Nat) (f : Nat → Int) : tab (n + 1) f = tab n f ++ [f n] := by unfold tab; rw [List.range_succ, List.map_append]; rfl
section
variable {m w : Nat} {T : Sg}
end
end
end Zk
namespace Zk
noncomputable section
open PySem PySem.Spec PyProof.Rows L2
end
end Zk
namespace Zk
noncomputable section
open PySem PySem.Spec PyProof.Rows L2
/-- streams of drawn counts with keys below 2 ** m -/
def Sst (m : Nat) (st : List (Int × Int)) : Prop := st.length ≤ 1000 ∧ ∀ q ∈ st, (0 ≤ q.1 ∧ q.1 < 2 ^ m) ∧ q.2.natAbs ≤ 2 ^ 134
section
variable {m w : Nat} {T : Sg} {st : List (Int × Int)}
theorem Sst.b (h : Sst m st) : ∀ q ∈ st, q.2.natAbs < big := fun q hq => abs_big (h.2 q hq).2 (by decide)
theorem Sst.keys (h : Sst m st) : ∀ q ∈ st, 0 ≤ q.1 ∧ q.1 < 2 ^ m := fun q hq => (h.2 q hq).1
theorem Sst.of {ks : List Int} (hl : st.length ≤ 1000) (hk : ∀ k ∈ ks, 0 ≤ k ∧ k < 2 ^ m) (h : ∀ p ∈ st, p.1 ∈ ks ∧ -cMax ≤ p.2 ∧ p.2 ≤ cMax ∧ p.2 ≠ 0) : Sst m st := ⟨hl, fun q hq => ⟨hk _ (h q hq).1, by
  have e3 : cMax = 10000000000000000000000000000000000000121 := rfl
  obtain ⟨_, a, b, _⟩ := h q hq
  rw [e3] at a b
  have : 10000000000000000000000000000000000000121 ≤ 2 ^ 134 := by decide
  omega⟩⟩
theorem Sst.sub (h : Sst m st) {a : List (Int × Int)} (hl : a.length ≤ st.length) (hs : ∀ q ∈ a, q ∈ st) : Sst m a := ⟨by have := h.1; omega, fun q hq => h.2 q (hs q hq)⟩
end
end
end Zk
namespace Zk
noncomputable section
open PySem PySem.Spec PyProof.Rows L2
end
end Zk
namespace Zk
noncomputable section
def lsum {α : Type} (l : List α) (f : α → Int) : Int := (l.map f).sum
section
variable {α β : Type}
@[simp] theorem lsum_nil (f : α → Int) : lsum [] f = 0 := rfl
@[simp] theorem lsum_cons (a : α) (l : List α) (f : α → Int) : lsum (a :: l) f = f a + lsum l f := by simp [lsum]
theorem lsum_app (a b : List α) (f : α → Int) : lsum (a ++ b) f = lsum a f + lsum b f := by simp [lsum]
theorem lsum_ext {l : List α} {f g : α → Int} (h : ∀ x ∈ l, f x = g x) : lsum l f = lsum l g := by unfold lsum; rw [List.map_congr_left h]
theorem lsum_add (l : List α) (f g : α → Int) : lsum l (fun x => f x + g x) = lsum l f + lsum l g := by
  induction l with
  | nil => rfl
  | cons a l ih => simp only [lsum_cons, ih]; omega
theorem lsum_sub (l : List α) (f g : α → Int) : lsum l (fun x => f x - g x) = lsum l f - lsum l g := by
  induction l with
  | nil => rfl
  | cons a l ih => simp only [lsum_cons, ih]; omega
theorem lsum_mul (l : List α) (c : Int) (f : α → Int) : lsum l (fun x => c * f x) = c * lsum l f := by
  induction l with
  | nil => simp
  | cons a l ih => simp only [lsum_cons, ih, Int.mul_add]
theorem lsum_zero (l : List α) : lsum l (fun _ => 0) = 0 := by
  induction l with
  | nil => rfl
  | cons a l ih => simp [ih]
theorem lsum_map (l : List β) (h : β → α) (f : α → Int) : lsum (l.map h) f = lsum l fun x => f (h x) := by simp [lsum, List.map_map, Function.comp_def]
end
section
variable {m : Nat}
def dl (i j : Nat) : Int := if i = j then 1 else 0
def d4 (a b c d : Nat) : Int := dl a b * dl c d + dl a c * dl b d + dl a d * dl b c - 2 * (dl a b * dl a c * dl a d)
end
end
end Zk
namespace Zk
noncomputable section
abbrev Nl := List (Nat × Int)
def Kb (m : Nat) (l : Nl) : Prop := ∀ p ∈ l, p.1 < 2 ^ m
def Nd (l : Nl) : Prop := (l.map (·.1)).Nodup
theorem dl_ne {a b : Nat} (h : a ≠ b) : dl a b = 0 := if_neg h
theorem dl_self (a : Nat) : dl a a = 1 := if_pos rfl
theorem lsum_off {l : Nl} {k : Nat} (h : k ∉ l.map (·.1)) (g : Nat × Int → Int) : lsum l (fun q => dl k q.1 * g q) = 0 := by
  rw [← lsum_zero l]
  exact lsum_ext fun q hq => by rw [dl_ne (fun e => h (by rw [e]; exact List.mem_map_of_mem hq)), Int.zero_mul]
theorem lsum_pick {l : Nl} (nd : Nd l) {p : Nat × Int} (hp : p ∈ l) (g : Nat × Int → Int) : lsum l (fun q => dl p.1 q.1 * g q) = g p := by
  induction l with
  | nil => exact absurd hp (by simp)
  | cons a l ih =>
    obtain ⟨n1, n2⟩ := List.nodup_cons.mp nd
    rw [lsum_cons]
    rcases List.mem_cons.mp hp with rfl | h
    · rw [dl_self, lsum_off n1]; omega
    · rw [ih n2 h, dl_ne (fun e => n1 (by have t : p.1 ∈ l.map (·.1) := List.mem_map_of_mem h; rw [e] at t; exact t))]; omega
section
variable {m : Nat}
def F2 (l : Nl) : Int := lsum l fun p => p.2 * p.2
def F4 (l : Nl) : Int := lsum l fun p => p.2 * p.2 * (p.2 * p.2)
theorem in4 {l : Nl} (nd : Nd l) {p q r : Nat × Int} (hp : p ∈ l) (hq : q ∈ l) (hr : r ∈ l) : lsum l (fun s => d4 p.1 q.1 r.1 s.1 * s.2) = dl p.1 q.1 * r.2 + dl p.1 r.1 * q.2 + dl q.1 r.1 * p.2 - 2 * (dl p.1 q.1 * dl p.1 r.1 * p.2) := by
  have e : ∀ s : Nat × Int, d4 p.1 q.1 r.1 s.1 * s.2 = dl p.1 q.1 * (dl r.1 s.1 * s.2) + dl p.1 r.1 * (dl q.1 s.1 * s.2) + dl q.1 r.1 * (dl p.1 s.1 * s.2) - 2 * (dl p.1 q.1 * dl p.1 r.1) * (dl p.1 s.1 * s.2) := fun s => by
    unfold d4
    rw [Int.sub_mul, Int.add_mul, Int.add_mul]
    simp only [Int.mul_assoc, Int.mul_comm, Int.mul_left_comm]
  rw [lsum_ext fun s _ => e s, lsum_sub, lsum_add, lsum_add, lsum_mul, lsum_mul, lsum_mul, lsum_mul, lsum_pick nd hr (·.2), lsum_pick nd hq (·.2), lsum_pick nd hp (·.2)]
  simp only [Int.mul_assoc]
theorem in3 {l : Nl} (nd : Nd l) {p q : Nat × Int} (hp : p ∈ l) (hq : q ∈ l) : lsum l (fun r => r.2 * lsum l fun s => d4 p.1 q.1 r.1 s.1 * s.2) = dl p.1 q.1 * F2 l + 2 * (p.2 * q.2) - 2 * (dl p.1 q.1 * (p.2 * p.2)) := by
  have e : ∀ r ∈ l, (r.2 * lsum l fun s => d4 p.1 q.1 r.1 s.1 * s.2) = dl p.1 q.1 * (r.2 * r.2) + q.2 * (dl p.1 r.1 * r.2) + p.2 * (dl q.1 r.1 * r.2) - 2 * (dl p.1 q.1 * p.2) * (dl p.1 r.1 * r.2) := fun r hr => by
    rw [in4 nd hp hq hr]
    simp only [Int.mul_sub, Int.mul_add, Int.mul_assoc, Int.mul_comm, Int.mul_left_comm]
  rw [lsum_ext e, lsum_sub, lsum_add, lsum_add, lsum_mul, lsum_mul, lsum_mul, lsum_mul, lsum_pick nd hp (·.2), lsum_pick nd hq (·.2)]
  show dl p.1 q.1 * F2 l + q.2 * p.2 + p.2 * q.2 - 2 * (dl p.1 q.1 * p.2) * p.2 = _
  rw [Int.mul_comm q.2 p.2, Int.mul_assoc 2, Int.mul_assoc (dl p.1 q.1)]
  omega
theorem in2 {l : Nl} (nd : Nd l) {p : Nat × Int} (hp : p ∈ l) : lsum l (fun q => q.2 * lsum l fun r => r.2 * lsum l fun s => d4 p.1 q.1 r.1 s.1 * s.2) = 3 * (p.2 * F2 l) - 2 * (p.2 * (p.2 * p.2)) := by
  have e : ∀ q ∈ l, (q.2 * lsum l fun r => r.2 * lsum l fun s => d4 p.1 q.1 r.1 s.1 * s.2) = F2 l * (dl p.1 q.1 * q.2) + 2 * p.2 * (q.2 * q.2) - 2 * (p.2 * p.2) * (dl p.1 q.1 * q.2) := fun q hq => by
    rw [in3 nd hp hq]
    simp only [Int.mul_sub, Int.mul_add, Int.mul_assoc, Int.mul_comm, Int.mul_left_comm]
  rw [lsum_ext e, lsum_sub, lsum_add, lsum_mul, lsum_mul, lsum_mul, lsum_pick nd hp (·.2)]
  show F2 l * p.2 + 2 * p.2 * F2 l - 2 * (p.2 * p.2) * p.2 = _
  rw [Int.mul_comm (F2 l), Int.mul_assoc 2, Int.mul_assoc 2, Int.mul_assoc p.2]
  omega
theorem in1 {l : Nl} (nd : Nd l) : lsum l (fun p => p.2 * lsum l fun q => q.2 * lsum l fun r => r.2 * lsum l fun s => d4 p.1 q.1 r.1 s.1 * s.2) = 3 * (F2 l * F2 l) - 2 * F4 l := by
  have e : ∀ p ∈ l, (p.2 * lsum l fun q => q.2 * lsum l fun r => r.2 * lsum l fun s => d4 p.1 q.1 r.1 s.1 * s.2) = 3 * F2 l * (p.2 * p.2) - 2 * (p.2 * p.2 * (p.2 * p.2)) := fun p hp => by
    rw [in2 nd hp]
    simp only [Int.mul_sub, Int.mul_assoc, Int.mul_comm, Int.mul_left_comm]
  rw [lsum_ext e, lsum_sub, lsum_mul, lsum_mul]
  show 3 * F2 l * F2 l - 2 * F4 l = _
  rw [Int.mul_assoc]
end
end
end Zk
namespace Zk
noncomputable section
open PySem PySem.Spec PyProof.Rows L2
section
variable {m : Nat} {st : List (Int × Int)}
theorem Sst.nat (h : Sst m st) {q : Int × Int} (hq : q ∈ st) : ∃ k : Nat, q.1 = (k : Int) ∧ k < 2 ^ m := by
  obtain ⟨k, hk⟩ := nat_of (h.keys q hq).1
  refine ⟨k, hk, ?_⟩
  have := (h.keys q hq).2
  rw [hk] at this
  exact Int.ofNat_lt.mp (by rw [Int.natCast_pow]; exact this)
theorem Sst.natc (h : Sst m st) {q : Int × Int} (hq : q ∈ cof st) : ∃ k : Nat, q.1 = (k : Int) ∧ k < 2 ^ m := by
  obtain ⟨q', hq', e⟩ := cof_keys hq
  rw [← e]
  exact h.nat hq'
end
end
end Zk
namespace Zk
noncomputable section
open PySem PySem.Spec PyProof.Rows L2
section
variable {E E0 E0' : Ev} {it it2 : Fi} {g g2 : Fg} {c c2 : Ft} {f : Fe} {is is2 : List Nat} {Qe : Op × Ev → Prop} {Q : List (D × Nat) × Ev → Prop} {α β : Type}
end
section
variable {m : Nat} {st : List (Int × Int)}
def nl (st : List (Int × Int)) : Nl := (cof st).map fun q => (q.1.toNat, q.2)
theorem Sst.kb (h : Sst m st) : Kb m (nl st) := fun p hp => by
  obtain ⟨q, hq, rfl⟩ := List.mem_map.mp hp
  obtain ⟨k, hk, kl⟩ := h.natc hq
  show q.1.toNat < 2 ^ m
  rw [hk, Int.toNat_natCast]; exact kl
theorem Sst.nd (h : Sst m st) : Nd (nl st) := by
  have n1 := cof_nodup st
  unfold Nd nl
  rw [List.map_map]
  refine List.pairwise_map.mpr ?_
  have n2 := List.pairwise_map.mp n1
  refine n2.imp_of_mem fun {a b} ha hb hab => ?_
  obtain ⟨k, hk, kl⟩ := h.natc ha
  obtain ⟨k', hk', kl'⟩ := h.natc hb
  show a.1.toNat ≠ b.1.toNat
  omega
end
end
end Zk
namespace Zk
noncomputable section
open PySem PySem.Spec PyProof.Rows L2
section
variable {m : Nat} {st ot : List (Int × Int)}
theorem Sst.cb (hs : Sst m st) : CB st := fun q hq => Nat.le_trans (hs.2 q hq).2 (Nat.pow_le_pow_right (by decide) (by decide))
end
end
end Zk
namespace Zk
noncomputable section
open PySem PySem.Spec PyProof.Rows L2
section
variable {m : Nat} {st ot : List (Int × Int)}
end
end
end Zk
namespace Zk
noncomputable section
open PySem PySem.Spec PyProof.Rows L2
end
end Zk
namespace Zk
noncomputable section
open PySem PySem.Spec PyProof.Rows L2
/-- a dict m tells the sums of the pairs -/
def TabOf (m st : List (Int × Int)) : Prop := (keysI m).Nodup ∧ (∀ k, k ∈ keysI m ↔ k ∈ keysI st) ∧ (∀ k, (getI m k).getD 0 = ksum st k) ∧ m.length ≤ st.length
theorem TabOf.nil : TabOf [] [] := ⟨by simp [keysI], by simp, fun k => rfl, by simp⟩
def hkeys (st : List (Int × Int)) : List Int := srt (st.map (·.1)).eraseDups
theorem TabOf.srt {m st : List (Int × Int)} (h : TabOf m st) : Zk.srt (m.map (·.1)) = hkeys st := by
  have pm : (keysI m).Perm (st.map (·.1)).eraseDups := (List.perm_ext_iff_of_nodup h.1 (nodup_eraseDups _)).mpr fun k => by rw [List.mem_eraseDups]; exact h.2.1 k
  exact srt_perm_eq pm
theorem hkeys_mem {st : List (Int × Int)} {k : Int} : k ∈ hkeys st ↔ k ∈ st.map (·.1) := by unfold hkeys; rw [srt_mem, List.mem_eraseDups]
theorem TabOf.get {m st : List (Int × Int)} (h : TabOf m st) {k : Int} (hk : k ∈ hkeys st) : getI m k = some (ksum st k) := by
  have hk2 : k ∈ keysI m := (h.2.1 k).mpr (hkeys_mem.mp hk)
  obtain ⟨v, hv⟩ := get_some (m := m) hk2
  have := h.2.2.1 k
  rw [hv] at this ⊢
  simpa using this
/-- the same things as often -/
def Leq (a b : List Nat) : Prop := ∀ g : Nat → Int, lsum a g = lsum b g
theorem Leq.refl (a : List Nat) : Leq a a := fun _ => rfl
theorem Leq.trans {a b c : List Nat} (h : Leq a b) (h2 : Leq b c) : Leq a c := fun g => (h g).trans (h2 g)
def dbl (l : List Nat) (q : Nat) : List Nat := l ++ l.map fun r => r ^^^ q
theorem dbl_sum (l : List Nat) (q : Nat) (g : Nat → Int) : lsum (dbl l q) g = lsum l g + lsum l fun r => g (r ^^^ q) := by rw [dbl, lsum_app, lsum_map]
theorem Leq.dbl {a b : List Nat} (h : Leq a b) (q : Nat) : Leq (dbl a q) (dbl b q) := fun g => by rw [dbl_sum, dbl_sum, h, h]
theorem Leq.foldl {a b : List Nat} (h : Leq a b) (qs : List Nat) : Leq (qs.foldl Zk.dbl a) (qs.foldl Zk.dbl b) := by
  induction qs generalizing a b with
  | nil => exact h
  | cons q qs ih => exact ih (h.dbl q)
/-- a list of numbers that holds 0 and all xors, each once -/
def Sub (s : List Nat) : Prop := s.Nodup ∧ 0 ∈ s ∧ ∀ a ∈ s, ∀ b ∈ s, a ^^^ b ∈ s
theorem xor_cancel (a b : Nat) : a ^^^ b ^^^ b = a := by rw [Nat.xor_assoc, Nat.xor_self, Nat.xor_zero]
theorem xor_inj {a b q : Nat} (h : a ^^^ q = b ^^^ q) : a = b := by rw [← xor_cancel a q, h, xor_cancel]
theorem nodup_mapx {s : List Nat} (h : s.Nodup) (q : Nat) : (s.map fun r => r ^^^ q).Nodup := List.pairwise_map.mpr (h.imp fun {a b} hab e => hab (xor_inj e))
def spnS (s : List Nat) (q : Nat) : List Nat := if q ∈ s then s else dbl s q
theorem Sub.step {s : List Nat} (h : Sub s) (q : Nat) : Sub (spnS s q) := by
  unfold spnS
  split
  · exact h
  · rename_i hq
    refine ⟨?_, ?_, ?_⟩
    · unfold dbl
      rw [List.nodup_append]
      refine ⟨h.1, nodup_mapx h.1 q, fun a ha b hb e => ?_⟩
      obtain ⟨r, hr, rfl⟩ := List.mem_map.mp hb
      subst e
      have := h.2.2 _ ha _ hr
      rw [Nat.xor_comm r q, Nat.xor_assoc, Nat.xor_self, Nat.xor_zero] at this
      exact hq this
    · exact List.mem_append.mpr (.inl h.2.1)
    · intro a ha b hb
      unfold dbl at ha hb ⊢
      have key : ∀ x y, x ^^^ q ^^^ (y ^^^ q) = x ^^^ y := fun x y => by rw [Nat.xor_comm y q, ← Nat.xor_assoc, xor_cancel]
      rcases List.mem_append.mp ha with ha | ha <;> rcases List.mem_append.mp hb with hb | hb
      · exact List.mem_append.mpr (.inl (h.2.2 a ha b hb))
      · obtain ⟨r, hr, rfl⟩ := List.mem_map.mp hb
        exact List.mem_append.mpr (.inr (List.mem_map.mpr ⟨a ^^^ r, h.2.2 a ha r hr, Nat.xor_assoc a r q⟩))
      · obtain ⟨r, hr, rfl⟩ := List.mem_map.mp ha
        exact List.mem_append.mpr (.inr (List.mem_map.mpr ⟨r ^^^ b, h.2.2 r hr b hb, by show r ^^^ b ^^^ q = r ^^^ q ^^^ b; rw [Nat.xor_assoc, Nat.xor_comm b q, Nat.xor_assoc]⟩))
      · obtain ⟨r, hr, rfl⟩ := List.mem_map.mp ha
        obtain ⟨t, ht, rfl⟩ := List.mem_map.mp hb
        show r ^^^ q ^^^ (t ^^^ q) ∈ _
        rw [key]
        exact List.mem_append.mpr (.inl (h.2.2 r hr t ht))
theorem sub_zero : Sub [0] := ⟨by simp, by simp, by simp⟩
end
end Zk
namespace Zk
noncomputable section
open PySem PySem.Spec PyProof.Rows L2
section
variable {m : Nat} {st ot : List (Int × Int)}
end
end
end Zk
namespace Zk
noncomputable section
open PySem PySem.Spec PyProof.Rows L2
end
end Zk
namespace Zk
noncomputable section
open PySem PySem.Spec PyProof.Rows L2
theorem sums_abs {α : Type} {f : α → Int} {B : Nat} : ∀ {a : List α}, (∀ p ∈ a, (f p).natAbs ≤ B) → ((a.map f).sum).natAbs ≤ a.length * B
  | [], _ => by simp
  | p :: a, h => by
    have i1 := sums_abs fun q hq => h q (List.mem_cons_of_mem _ hq)
    have i2 := h p List.mem_cons_self
    rw [List.map_cons, List.sum_cons, List.length_cons, Nat.add_mul, Nat.one_mul]
    omega
end
end Zk
namespace Zk
noncomputable section
open PySem PySem.Spec PyProof.Rows L2
theorem plus_W {f g : Rat} {a b c e : Nat} (hf : szR a b f) (hg : szR c e g) (ha : a ≤ 8000) (hb : b ≤ 3900) (hc : c ≤ 8000) (he : e ≤ 3900) : S_plus [fr f, fr g] = some (fr (f + g), 9, .non) := by
  have go : W (S_plus [fr f, fr g]) fun r => r = (fr (f + g), 9, .non) := by
    refine W_O fun Q' hQ => ?_
    unfold S_plus S_plusb
    have n1 := abs_big hf.1 ha
    have n2 := abs_big hg.1 hc
    have d1 : f.den < big := abs_big (i := (f.den : Int)) (k := b) hf.2 (by omega)
    have d2 : g.den < big := abs_big (i := (g.den : Int)) (k := e) hg.2 (by omega)
    have dd : ((f.den : Int) * g.den).natAbs < 2 ^ 8000 := by
      have := mul_abs (x := (f.den : Int)) (y := (g.den : Int)) hf.2 hg.2
      exact Nat.lt_of_le_of_lt this (Nat.pow_lt_pow_right (by decide) (by omega))
    have fe := fraction_eq (n := f.num * g.den + g.num * f.den) (den_mul_ne f g) dd
    rw [add_div] at fe
    have x0 : ∀ q : Rat, gIxd [fr q, .int 0] = some (.int q.num, 0) := fun q => rfl
    have x1 : ∀ q : Rat, gIxd [fr q, .int 1] = some (.int q.den, 0) := fun q => rfl
    simp (disch := first | assumption | (simp; done) | omega) [ent0_def, dem1, n1, n2, d1, d2, fe, x0, x1]
    exact hQ _ rfl
  obtain ⟨r, e, rfl⟩ := go
  exact e
theorem sum_range {n : Nat} (f : Nat → Int) : ((List.range n).map f).sum = sumN n f := by
  induction n with
  | zero => rfl
  | succ n ih => rw [List.range_succ, List.map_append, List.sum_append_int, ih, sumN]; simp
end
end Zk
namespace Zk
noncomputable section
open PySem PySem.Spec PyProof.Rows L2
section
variable {size : Int} {m : Nat} {c : Nat → Nat → Int} {ps : List (Nat × Nat)}
end
end
end Zk
namespace Zk
noncomputable section
open PySem PySem.Spec PyProof.Rows L2
section
variable {m : Nat} {st ot : List (Int × Int)}
end
end
end Zk
namespace Zk
noncomputable section
open PySem PySem.Spec PyProof.Rows L2
section
variable {m : Nat} {st ot : List (Int × Int)}
end
end
end Zk
namespace Zk
noncomputable section
open PySem PySem.Spec PyProof.Rows L2
end
end Zk
namespace Zk
noncomputable section
open PySem PySem.Spec PyProof.Rows L2
section
variable {p m w : Nat} {st : List (Int × Int)} {Tb : Nat → List (List Nat)}
end
end
end Zk
namespace Zk
open PySem PySem.Spec PyProof.Rows L2
/-- slots that may hold anything -/
def AllU : List Nat → (Ev → Prop) → Ev → Prop
  | [], P, E => P E
  | i :: is, P, E => ∀ v : Option (D × Nat), AllU is P (E.set i v)
def sets : List (Nat × Option (D × Nat)) → Ev → Ev
  | [], E => E
  | p :: r, E => sets r (E.set p.1 p.2)
def ExU : List Nat → (Ev → Prop) → Ev → Prop
  | [], P, E => P E
  | i :: is, P, E => ∃ v : Option (D × Nat), ExU is P (E.set i v)
theorem ex_all {P R : Ev → Prop} : ∀ {ws : List Nat} {E : Ev}, AllU ws P E → ExU ws R E → ∃ E1, P E1 ∧ R E1
  | [], E, h, r => ⟨E, h, r⟩
  | _ :: _, _, h, ⟨v, r⟩ => ex_all (h v) r
theorem all_of {P : Ev → Prop} : ∀ {ws : List Nat} {E : Ev}, (∀ E1, ExU ws (fun E => E = E1) E → P E1) → AllU ws P E
  | [], E, h => h E rfl
  | _ :: _, _, h => fun v => all_of fun E1 x => h E1 ⟨v, x⟩
theorem set_ex {E : Ev} {i : Nat} : ∃ v, E.set i v = E := by
  by_cases h : i < E.length
  · exact ⟨E[i], by simp⟩
  · exact ⟨none, List.set_eq_of_length_le (by omega)⟩
theorem ex_refl : ∀ (ws : List Nat) (E : Ev), ExU ws (fun E' => E' = E) E
  | [], E => rfl
  | i :: ws, E => by
    obtain ⟨v, e⟩ := set_ex (E := E) (i := i)
    refine ⟨v, ?_⟩
    rw [e]
    exact ex_refl ws E
theorem W_seqK {s t : Fs} {E : Ev} {Q : Fl × Ev → Prop} (h : ∀ K : Ev → Prop, (∀ E1, W (t E1) Q → K E1) → W (s E) fun p => p.1 = .nx ∧ K p.2) : W (mSeq s t E) Q :=
  W_seqJ (fun E => W (t E) Q) (h _ fun _ h => h) fun _ h => h
theorem W_end {s : Fs} {E : Ev} {Q : Fl × Ev → Prop} (h : W (mSeq s mNx E) Q) : W (s E) Q := by
  rw [W_seq] at h
  refine h.mono fun p hp => ?_
  obtain ⟨fl, E1⟩ := p
  cases fl with
  | nx => exact W_nx.mp hp
  | _ => exact hp
@[simp] theorem imms_mapS {α : Type} {f : α → D} {xs : List α} (h : ∀ x, imm (f x) = true) : imms (xs.map f) = true := imms_map' h xs
@[simp] theorem upl_immS {n m : Nat} {d e : D} (h : imm e = true) : upl n d e m = n := upl_imm h
@[simp] theorem atI_z {α : Type} {x : α} {l : List α} : atI (x :: l) 0 = some x := by
  unfold atI
  rw [ixN_ok (by decide) (by simp)]; rfl
theorem atI_s {α : Type} {x : α} {l : List α} {i : Int} (h : 0 < i) : atI (x :: l) i = if i ≤ l.length then l[(i - 1).toNat]? else atI (x :: l) i := by
  split
  · unfold atI
    rw [ixN_ok (by omega) (by simp; omega), Option.bind_some]
    obtain ⟨j, rfl⟩ : ∃ j : Nat, i = ((j + 1 : Nat) : Int) := ⟨(i - 1).toNat, by omega⟩
    rw [Int.toNat_natCast, List.getElem?_cons_succ]
    congr 1
    omega
  · rfl
@[simp] theorem atI_1 {α : Type} {x y : α} {l : List α} : atI (x :: y :: l) 1 = some y := by
  rw [atI_s (by decide), if_pos (by simp; omega)]; rfl
@[simp] theorem atI_2 {α : Type} {x y z : α} {l : List α} : atI (x :: y :: z :: l) 2 = some z := by
  rw [atI_s (by decide), if_pos (by simp; omega)]; rfl
@[simp] theorem atI_3 {α : Type} {x y z w : α} {l : List α} : atI (x :: y :: z :: w :: l) 3 = some w := by
  rw [atI_s (by decide), if_pos (by simp; omega)]; rfl
theorem dvN (s : List Int) (n : Int) (h : 0 < n) : ∃ v : Nat, dv s n = (v : Int) ∧ (v : Int) < n := by
  refine ⟨(dv s n).toNat, ?_, ?_⟩
  · have := dv_nn (s := s) h; omega
  · have := dv_lt (s := s) h; have := dv_nn (s := s) h; omega
def StpG (I' : Ev → Prop) (X : Fl × Ev → Prop) (q : Fl × Ev) : Prop := match q.1 with
  | .nx => I' q.2 | .ct => I' q.2 | .bk => X (.nx, q.2) | .rt d n => X (.rt d n, q.2)
section
variable {I' : Ev → Prop} {X : Fl × Ev → Prop} {E : Ev} {d : D} {n : Nat}
@[simp ↓] theorem StpG_nx : StpG I' X (.nx, E) ↔ I' E := Iff.rfl
@[simp ↓] theorem StpG_ct : StpG I' X (.ct, E) ↔ I' E := Iff.rfl
@[simp ↓] theorem StpG_bk : StpG I' X (.bk, E) ↔ X (.nx, E) := Iff.rfl
@[simp ↓] theorem StpG_rt : StpG I' X (.rt d n, E) ↔ X (.rt d n, E) := Iff.rfl
end
section
variable {it : Fi} {g : Fg} {body rest : Fs} {E : Ev} {Q : Fl × Ev → Prop}
theorem W_forSx {α γ : Type} (E1 : Ev) (xs : List α) (ι : α → D) (ws : List Nat) (S : γ → List α → List (Nat × Option (D × Nat))) (P : γ → List α → Prop) (c0 : γ)
    (hi : W (it E) fun p => p.1 = xs.map ι ∧ p.2 = E1) (hE : sets (S c0 []) E1 = E1) (h0 : P c0 [])
    (st : ∀ (X : Fl × Ev → Prop), (∀ E, W (rest E) Q → X (.nx, E)) → (∀ d n E, Q (.rt d n, E) → X (.rt d n, E)) → ∀ (c : γ) (a : List α) (x : α) (b : List α) (I' : Ev → Prop), xs = a ++ x :: b → P c a → (∀ c', P c' (a ++ [x]) → AllU ws I' (sets (S c' (a ++ [x])) E1)) →
      AllU ws (fun E => W (g (ι x) E) fun E2 => W (body E2) (StpG I' X)) (sets (S c a) E1))
    (fin : ∀ c, P c xs → AllU ws (fun E => W (rest E) Q) (sets (S c xs) E1)) : W (mSeq (mFor it g body) rest E) Q := by
  let X : Fl × Ev → Prop := fun q => (match q.1 with | .nx => W (rest q.2) Q | fl => Q (fl, q.2))
  have go : W (mFor it g body E) X := by
    rw [W_for]
    refine hi.mono fun p hp => ?_
    obtain ⟨its, E'⟩ := p
    obtain ⟨e1, e2⟩ := hp
    simp only at e1 e2
    subst e1 e2
    refine W_forX (I := fun a E => ∃ c, P c a ∧ ExU ws (fun E2 => E2 = E) (sets (S c a) E')) ⟨c0, h0, ?_⟩ (fun a x b E' e hI => ?_) fun E hI => ?_
    · rw [hE]; exact ex_refl ws _
    · obtain ⟨c, hc, hx⟩ := hI
      obtain ⟨E3, w, rfl⟩ := ex_all (st X (fun _ h => h) (fun _ _ _ h => h) c a x b (fun E => ∃ c', P c' (a ++ [x]) ∧ ExU ws (fun E2 => E2 = E) (sets (S c' (a ++ [x])) _)) e hc fun c' h' => all_of fun E1 h => ⟨c', h', h⟩) hx
      exact w
    · obtain ⟨c, hc, hx⟩ := hI
      obtain ⟨E3, w, rfl⟩ := ex_all (fin c hc) hx
      exact w
  rw [W_seq]
  refine go.mono fun p hp => ?_
  obtain ⟨fl, E2⟩ := p
  exact hp
/-- without break or return -/
theorem W_forS {α γ : Type} (E1 : Ev) (xs : List α) (ι : α → D) (ws : List Nat) (S : γ → List α → List (Nat × Option (D × Nat))) (P : γ → List α → Prop) (c0 : γ)
    (hi : W (it E) fun p => p.1 = xs.map ι ∧ p.2 = E1) (hE : sets (S c0 []) E1 = E1) (h0 : P c0 [])
    (st : ∀ (c : γ) (a : List α) (x : α) (b : List α) (I' : Ev → Prop), xs = a ++ x :: b → P c a → (∀ c', P c' (a ++ [x]) → AllU ws I' (sets (S c' (a ++ [x])) E1)) →
      AllU ws (fun E => W (g (ι x) E) fun E2 => W (body E2) (StpG I' fun _ => False)) (sets (S c a) E1))
    (fin : ∀ c, P c xs → AllU ws (fun E => W (rest E) Q) (sets (S c xs) E1)) : W (mSeq (mFor it g body) rest E) Q := by
  refine W_forSx E1 xs ι ws S P c0 hi hE h0 (fun X h1 h2 c a x b I' e hc hI => ?_) fin
  refine all_of fun E3 hx => ?_
  obtain ⟨E4, w, rfl⟩ := ex_all (st c a x b I' e hc hI) hx
  refine w.mono fun E2 w2 => w2.mono fun q hq => ?_
  obtain ⟨fl, E5⟩ := q
  cases fl <;> first | exact hq | exact hq.elim
/-- over a range from 0 -/
theorem W_forNx {γ : Type} (E1 : Ev) (n : Nat) (ws : List Nat) (S : γ → Nat → List (Nat × Option (D × Nat))) (P : γ → Nat → Prop) (c0 : γ)
    (hi : W (it E) fun p => p.1 = rng 0 n ∧ p.2 = E1) (hE : sets (S c0 0) E1 = E1) (h0 : P c0 0)
    (st : ∀ (X : Fl × Ev → Prop), (∀ E, W (rest E) Q → X (.nx, E)) → (∀ d n E, Q (.rt d n, E) → X (.rt d n, E)) → ∀ (c : γ) (k : Nat) (I' : Ev → Prop), k < n → P c k → (∀ c', P c' (k + 1) → AllU ws I' (sets (S c' (k + 1)) E1)) →
      AllU ws (fun E => W (g (.int (k : Int)) E) fun E2 => W (body E2) (StpG I' X)) (sets (S c k) E1))
    (fin : ∀ c, P c n → AllU ws (fun E => W (rest E) Q) (sets (S c n) E1)) : W (mSeq (mFor it g body) rest E) Q := by
  refine W_forSx E1 (List.range n) (fun k : Nat => D.int (k : Int)) ws (fun c a => S c a.length) (fun c a => P c a.length) c0 (by rw [← rng0]; exact hi) hE h0 (fun X h1 h2 c a x b I' e hc hI => ?_) (by simpa using fin)
  have hx : x = a.length := by
    have h := congrArg (fun l => l[a.length]?) e
    simp only [List.getElem?_append_right (Nat.le_refl _), Nat.sub_self, List.getElem?_cons_zero] at h
    have hl : a.length < n := by
      have := congrArg List.length e
      simp at this
      omega
    rw [List.getElem?_range hl] at h
    simpa using h.symm
  have hl : a.length < n := by
    have := congrArg List.length e
    simp at this
    omega
  subst hx
  simp only [List.length_append, List.length_singleton] at hI
  exact st X h1 h2 c a.length I' hl hc hI
theorem W_forN {γ : Type} (E1 : Ev) (n : Nat) (ws : List Nat) (S : γ → Nat → List (Nat × Option (D × Nat))) (P : γ → Nat → Prop) (c0 : γ)
    (hi : W (it E) fun p => p.1 = rng 0 n ∧ p.2 = E1) (hE : sets (S c0 0) E1 = E1) (h0 : P c0 0)
    (st : ∀ (c : γ) (k : Nat) (I' : Ev → Prop), k < n → P c k → (∀ c', P c' (k + 1) → AllU ws I' (sets (S c' (k + 1)) E1)) →
      AllU ws (fun E => W (g (.int (k : Int)) E) fun E2 => W (body E2) (StpG I' fun _ => False)) (sets (S c k) E1))
    (fin : ∀ c, P c n → AllU ws (fun E => W (rest E) Q) (sets (S c n) E1)) : W (mSeq (mFor it g body) rest E) Q := by
  refine W_forNx E1 n ws S P c0 hi hE h0 (fun X h1 h2 c k I' e hc hI => ?_) fin
  refine all_of fun E3 hx => ?_
  obtain ⟨E4, w, rfl⟩ := ex_all (st c k I' e hc hI) hx
  refine w.mono fun E2 w2 => w2.mono fun q hq => ?_
  obtain ⟨fl, E5⟩ := q
  cases fl <;> first | exact hq | exact hq.elim
/-- over a range from lo -/
theorem W_forLx {γ : Type} (E1 : Ev) (lo : Int) (n : Nat) (ws : List Nat) (S : γ → Nat → List (Nat × Option (D × Nat))) (P : γ → Nat → Prop) (c0 : γ)
    (hi : W (it E) fun p => p.1 = rng lo n ∧ p.2 = E1) (hE : sets (S c0 0) E1 = E1) (h0 : P c0 0)
    (st : ∀ (X : Fl × Ev → Prop), (∀ E, W (rest E) Q → X (.nx, E)) → (∀ d n E, Q (.rt d n, E) → X (.rt d n, E)) → ∀ (c : γ) (k : Nat) (I' : Ev → Prop), k < n → P c k → (∀ c', P c' (k + 1) → AllU ws I' (sets (S c' (k + 1)) E1)) →
      AllU ws (fun E => W (g (.int (lo + k)) E) fun E2 => W (body E2) (StpG I' X)) (sets (S c k) E1))
    (fin : ∀ c, P c n → AllU ws (fun E => W (rest E) Q) (sets (S c n) E1)) : W (mSeq (mFor it g body) rest E) Q := by
  refine W_forSx E1 (List.range n) (fun k : Nat => D.int (lo + k)) ws (fun c a => S c a.length) (fun c a => P c a.length) c0 hi hE h0 (fun X h1 h2 c a x b I' e hc hI => ?_) (by simpa using fin)
  have hl : a.length < n := by
    have := congrArg List.length e
    simp at this
    omega
  have hx : x = a.length := by
    have h := congrArg (fun l => l[a.length]?) e
    simp only [List.getElem?_append_right (Nat.le_refl _), Nat.sub_self, List.getElem?_cons_zero] at h
    rw [List.getElem?_range hl] at h
    simpa using h.symm
  subst hx
  simp only [List.length_append, List.length_singleton] at hI
  exact st X h1 h2 c a.length I' hl hc hI
theorem W_forL {γ : Type} (E1 : Ev) (lo : Int) (n : Nat) (ws : List Nat) (S : γ → Nat → List (Nat × Option (D × Nat))) (P : γ → Nat → Prop) (c0 : γ)
    (hi : W (it E) fun p => p.1 = rng lo n ∧ p.2 = E1) (hE : sets (S c0 0) E1 = E1) (h0 : P c0 0)
    (st : ∀ (c : γ) (k : Nat) (I' : Ev → Prop), k < n → P c k → (∀ c', P c' (k + 1) → AllU ws I' (sets (S c' (k + 1)) E1)) →
      AllU ws (fun E => W (g (.int (lo + k)) E) fun E2 => W (body E2) (StpG I' fun _ => False)) (sets (S c k) E1))
    (fin : ∀ c, P c n → AllU ws (fun E => W (rest E) Q) (sets (S c n) E1)) : W (mSeq (mFor it g body) rest E) Q := by
  refine W_forLx E1 lo n ws S P c0 hi hE h0 (fun X h1 h2 c k I' e hc hI => ?_) fin
  refine all_of fun E3 hx => ?_
  obtain ⟨E4, w, rfl⟩ := ex_all (st c k I' e hc hI) hx
  refine w.mono fun E2 w2 => w2.mono fun q hq => ?_
  obtain ⟨fl, E5⟩ := q
  cases fl <;> first | exact hq | exact hq.elim
end
end Zk
namespace Zk
open PySem PySem.Spec PyProof.Rows L2
section
variable {K : PySem.W.Frag}
variable {X : Cx} {a : Expr} {fe : Fe} {p pos kpos q1 : PySem.Pos} {j : Nat}
end
end Zk
namespace Zk
open PySem PySem.Spec PyProof.Rows L2
variable {X : Cx}
section
variable {K : PySem.W.Frag} {Z Z' Zf Z0 Z1 Z2 : Addr → Prop} {H H' H0 H1 H2 : Hp} {σ σ' : L2.St} {E E' E1 EF : Ev} {R R' R0 R1 R2 Rw : Rs} {D0 : Addr}
/-- what is known of the growing set -/
structure SetG (wd : World) (Z1 : Addr → Prop) (H1 : Hp) (Rw : Rs) (D0 : Addr) (Z2 : Addr → Prop) (H2 : Hp) (R2 : Rs) (acc : List (D × Nat)) : Prop where
  t : Step Z1 H1 (ow Rw) Z2 H2 (ow R2)
  z : ¬ Z2 D0
  o : ¬ ow R2 D0
  h : ∃ S n, H2 D0 = some (SetO wd D0 S n) ∧ n ≤ acc.length ∧ ∀ j, S j = true ↔ D.int j ∈ acc.map (·.1)
theorem SetG.keep {wd : World} {Z6 : Addr → Prop} {H6 : Hp} {R6 : Rs} {acc : List (D × Nat)} (G : SetG wd Z1 H1 Rw D0 Z2 H2 R2 acc) (t : Step Z2 H2 (ow R2) Z6 H6 (ow R6)) : SetG wd Z1 H1 Rw D0 Z6 H6 R6 acc := by
  obtain ⟨S, n, e, hn, hs⟩ := G.h
  refine ⟨G.t.trans t, fun z => ?_, fun z => ?_, S, n, t.hh D0 _ e G.o, hn, hs⟩
  · rcases t.zn D0 z with z | z | z
    · exact G.z z
    · rw [e] at z; cases z
    · exact G.o z
  · rcases t.on D0 z with z | z
    · exact G.o z
    · rw [e] at z; cases z
theorem SetG.add {wd : World} {acc : List (D × Nat)} {k : Int} {m : Nat} (hD : H1 D0 = none) (G : SetG wd Z1 H1 Rw D0 Z2 H2 R2 acc) (s2 : S K Z2 H2 σ E R2) {S : Int → Bool} {n : Nat} (e : H2 D0 = some (SetO wd D0 S n)) (hn : n ≤ acc.length) (hs : ∀ j, S j = true ↔ D.int j ∈ acc.map (·.1)) :
    Zk.S K Z2 (upd H2 D0 (SetO wd D0 (fun j => S j || decide (j = k)) (if S k = true then n else n + 1))) σ E R2 ∧ SetG wd Z1 H1 Rw D0 Z2 (upd H2 D0 (SetO wd D0 (fun j => S j || decide (j = k)) (if S k = true then n else n + 1))) R2 (acc ++ [(.int k, m)]) := by
  obtain ⟨s8, p8⟩ := s2.free (o' := SetO wd D0 (fun j => S j || decide (j = k)) (if S k = true then n else n + 1)) e trivial G.o G.z
  refine ⟨s8, ⟨G.t.zz, G.t.zn, fun a o ho h => ?_, G.t.on, fun a h e2 => ?_⟩, G.z, G.o, _, _, upd_same, ?_, fun j => ?_⟩
  · have ne : a ≠ D0 := fun e => by rw [e, hD] at ho; cases ho
    rw [upd_ne ne]; exact G.t.hh a o ho h
  · by_cases ca : a = D0
    · rw [ca, upd_same] at e2; cases e2
    · rw [upd_ne ca] at e2; exact G.t.dm a h e2
  · rw [List.length_append, List.length_singleton]
    split <;> omega
  · rw [Bool.or_eq_true, hs, List.map_append, List.mem_append]
    simp
end
section
variable {X : Cx} {elt tg iter : Expr} {ifs : List Expr} {fe : Fe} {ft : Ft} {fi : Fi} {g : Fg} {scope : Scope} {pos pos1 p : PySem.Pos} {w : List Nat} {own : List (PySem.Str × Nat)}
end
end Zk
namespace Zk
open PySem PySem.Spec PyProof.Rows L2
section
variable {g : Fg} {c : Ft} {f : Fe} {is : List Nat} {Q : List (D × Nat) × Ev → Prop}
end
end Zk
namespace Zk
open PySem PySem.Spec PyProof.Rows L2
section
variable {K : PySem.W.Frag} {X : Cx}
end
end Zk
namespace Zk
open PySem PySem.Spec PyProof.Rows L2
section
variable {it : Fi} {g : Fg} {body rest : Fs} {E : Ev} {Q : Fl × Ev → Prop}
theorem W_forQx {γ : Type} (E1 : Ev) (n : Nat) (ι : Nat → D) (ws : List Nat) (S : γ → Nat → List (Nat × Option (D × Nat))) (P : γ → Nat → Prop) (c0 : γ)
    (hi : W (it E) fun p => p.1 = (List.range n).map ι ∧ p.2 = E1) (hE : sets (S c0 0) E1 = E1) (h0 : P c0 0)
    (st : ∀ (X : Fl × Ev → Prop), (∀ E, W (rest E) Q → X (.nx, E)) → (∀ d n E, Q (.rt d n, E) → X (.rt d n, E)) → ∀ (c : γ) (k : Nat) (I' : Ev → Prop), k < n → P c k → (∀ c', P c' (k + 1) → AllU ws I' (sets (S c' (k + 1)) E1)) →
      AllU ws (fun E => W (g (ι k) E) fun E2 => W (body E2) (StpG I' X)) (sets (S c k) E1))
    (fin : ∀ c, P c n → AllU ws (fun E => W (rest E) Q) (sets (S c n) E1)) : W (mSeq (mFor it g body) rest E) Q := by
  refine W_forSx E1 (List.range n) ι ws (fun c a => S c a.length) (fun c a => P c a.length) c0 hi hE h0 (fun X h1 h2 c a x b I' e hc hI => ?_) (by simpa using fin)
  have hl : a.length < n := by
    have := congrArg List.length e
    simp at this
    omega
  have hx : x = a.length := by
    have h := congrArg (fun l => l[a.length]?) e
    simp only [List.getElem?_append_right (Nat.le_refl _), Nat.sub_self, List.getElem?_cons_zero] at h
    rw [List.getElem?_range hl] at h
    simpa using h.symm
  subst hx
  simp only [List.length_append, List.length_singleton] at hI
  exact st X h1 h2 c a.length I' hl hc hI
theorem W_forQ {γ : Type} (E1 : Ev) (n : Nat) (ι : Nat → D) (ws : List Nat) (S : γ → Nat → List (Nat × Option (D × Nat))) (P : γ → Nat → Prop) (c0 : γ)
    (hi : W (it E) fun p => p.1 = (List.range n).map ι ∧ p.2 = E1) (hE : sets (S c0 0) E1 = E1) (h0 : P c0 0)
    (st : ∀ (c : γ) (k : Nat) (I' : Ev → Prop), k < n → P c k → (∀ c', P c' (k + 1) → AllU ws I' (sets (S c' (k + 1)) E1)) →
      AllU ws (fun E => W (g (ι k) E) fun E2 => W (body E2) (StpG I' fun _ => False)) (sets (S c k) E1))
    (fin : ∀ c, P c n → AllU ws (fun E => W (rest E) Q) (sets (S c n) E1)) : W (mSeq (mFor it g body) rest E) Q := by
  refine W_forQx E1 n ι ws S P c0 hi hE h0 (fun X h1 h2 c k I' e hc hI => ?_) fin
  refine all_of fun E3 hx => ?_
  obtain ⟨E4, w, rfl⟩ := ex_all (st c k I' e hc hI) hx
  refine w.mono fun E2 w2 => w2.mono fun q hq => ?_
  obtain ⟨fl, E5⟩ := q
  cases fl <;> first | exact hq | exact hq.elim
end
theorem W_ifT {ft : Ft} {s t : Fs} {E E1 : Ev} {Q : Fl × Ev → Prop} (h : W (ft E) fun p => p.1 = true ∧ p.2 = E1) (k : W (s E1) Q) : W (mIfS ft s t E) Q := by
  rw [W_ifS]
  refine h.mono fun p hp => ?_
  obtain ⟨b, E2⟩ := p
  obtain ⟨rfl, rfl⟩ := hp
  exact IfB_t.mpr k
theorem W_ifF {ft : Ft} {s t : Fs} {E E1 : Ev} {Q : Fl × Ev → Prop} (h : W (ft E) fun p => p.1 = false ∧ p.2 = E1) (k : W (t E1) Q) : W (mIfS ft s t E) Q := by
  rw [W_ifS]
  refine h.mono fun p hp => ?_
  obtain ⟨b, E2⟩ := p
  obtain ⟨rfl, rfl⟩ := hp
  exact IfB_f.mpr k
end Zk
namespace Zk
open PySem PySem.Spec PyProof.Rows L2
section
variable {K : PySem.W.Frag} {X : Cx} {a b : Expr} {fa fb : Fe} {pos : PySem.Pos}
end
end Zk
namespace Zk
open PySem PySem.Spec PyProof.Rows L2
section
variable {prg : Program} {wd : World} {Ar : Around} {EE : Value → Shared → Prop} {sh : Shared}
end
section
variable {X : Cx} {a : Expr} {ta : TE} {p p2 q pos : PySem.Pos}
end
section
variable {K : PySem.W.Frag}
variable {X : Cx} {a : Expr} {fa : Fe} {p p2 q pos : PySem.Pos}
end
end Zk
namespace Zk
open PySem PySem.Spec PyProof.Rows L2
section
variable {X : Cx} {e : Expr} {te : TE} {p apos cpos pos : PySem.Pos}
end
section
variable {K : PySem.W.Frag}
variable {X : Cx} {e : Expr} {fe : Fe} {p apos cpos pos : PySem.Pos}
end
end Zk
namespace Zk
open PySem PySem.Spec PyProof.Rows L2
section
variable {K : PySem.W.Frag} {Z : Addr → Prop} {H : Hp} {a : Addr} {kvs : List (Key × V)} {od : Obj}
variable {σ : L2.St} {E : Ev} {R : Rs}
theorem Rp.key (k : Key) : Rp K Z H (kV k) (kD k) := by
  cases k with
  | inl i => exact .int i
  | inr x => exact .str x
theorem KR.at {κ : Type} {kvs : List (κ × V)} {kds : List (κ × D)} {H : Hp} {Z : Addr → Prop} (e : kvs.map (·.1) = kds.map (·.1)) (r : Rps K Z H (kvs.map (·.2)) (kds.map (·.2))) {i : Nat} {k : κ} {v : V} (h : kvs[i]? = some (k, v)) : ∃ d, kds[i]? = some (k, d) ∧ Rp K Z H v d := by
  have h1 : (kvs.map (·.2))[i]? = some v := by rw [List.getElem?_map, h]; rfl
  have h2 : (kvs.map (·.1))[i]? = some k := by rw [List.getElem?_map, h]; rfl
  obtain ⟨d, h3, h4⟩ := r.get h1
  rw [e, List.getElem?_map] at h2
  rw [List.getElem?_map] at h3
  cases hq : kds[i]? with
  | none => rw [hq] at h2; cases h2
  | some p =>
    rw [hq] at h2 h3
    cases h2
    cases h3
    exact ⟨p.2, rfl, h4⟩
end
end Zk
namespace Zk
open PySem PySem.Spec PyProof.Rows L2
section
variable {X : Cx} {kx vx elt : Expr} {elts : List Expr} {kk : Nat} {tpos px apos cpos : PySem.Pos} {x : PySem.Str} {ifs : List Expr} {fk fv fe : Fe} {ft : Ft} {g : Fg} {scope : Scope} {pos : PySem.Pos} {w w1 w2 : List Nat} {own : List (PySem.Str × Nat)} {body : List Stmt} {f : Fs}
end
section
variable {E : Ev} {j : Nat} {Qe : Op × Ev → Prop} {Qs : Fl × Ev → Prop} {Qi : List D × Ev → Prop} {its : List D}
end
end Zk
namespace Zk
open PySem PySem.Spec PyProof.Rows L2
section
variable {K : PySem.W.Frag} {Z : Addr → Prop} {H H2 : Hp} {a : Addr} {kvs : List (Key × V)} {od : Obj}
variable {σ : L2.St} {E : Ev} {R : Rs}
end
end Zk
namespace Zk
open PySem PySem.Spec PyProof.Rows L2
section
variable {X : Cx} {tg iter kx vx elt : Expr} {elts : List Expr} {kk : Nat} {tpos px apos cpos : PySem.Pos} {x : PySem.Str} {ifs : List Expr} {fk fv fe : Fe} {ft : Ft} {g : Fg} {scope : Scope} {pos : PySem.Pos} {w w1 w2 : List Nat} {own : List (PySem.Str × Nat)} {body : List Stmt} {f : Fs} {wi : TE → TI} {its : List (Key × D) → List D}
end
section
variable {E : Ev} {j : Nat} {Qe : Op × Ev → Prop} {Qs : Fl × Ev → Prop} {Qi : List D × Ev → Prop} {its : List (Key × D) → List D}
end
end Zk
namespace Zk
open PySem PySem.Spec PyProof.Rows L2
section
variable {K : PySem.W.Frag} {X : Cx}
end
end Zk
namespace Zk
open PySem PySem.Spec PyProof.Rows L2
section
variable {X : Cx}
end
section
variable {K : PySem.W.Frag}
variable {X : Cx} {a b : Expr} {fa fb : Fe} {apos cpos : PySem.Pos}
end
end Zk
namespace Zk
open PySem PySem.Spec PyProof.Rows L2
def dropD {κ : Type} [DecidableEq κ] (kvs : List (κ × D)) (k : κ) : List (κ × D) := kvs.filter fun kv => decide (kv.1 ≠ k)
section
variable {K : PySem.W.Frag} {Z Z' Z0 : Addr → Prop} {H H' H0 : Hp} {σ : L2.St} {E E' : Ev} {R R0 : Nat → List Addr}
theorem KR.drop {κ : Type} [DecidableEq κ] (k : κ) : ∀ {kvs : List (κ × V)} {kds : List (κ × D)}, KR K Z H kvs kds → KR K Z H (dropK kvs k) (dropD kds k) := by
  intro kvs
  induction kvs with
  | nil =>
    intro kds h
    rcases h.cases with ⟨_, rfl⟩ | ⟨_, _, _, _, _, e, _⟩
    · exact .nil
    · cases e
  | cons p r ih =>
    intro kds h
    rcases h.cases with ⟨e, _⟩ | ⟨k', v', d', r', s, e, rfl, h1, h2⟩
    · cases e
    · cases e
      have := ih h2
      unfold dropK dropD at this ⊢
      rw [List.filter_cons, List.filter_cons]
      by_cases c : k' = k
      · rw [if_neg (by simp [c]), if_neg (by simp [c])]; exact this
      · rw [if_pos (by simp [c]), if_pos (by simp [c])]; exact .cons h1 this
end
section
variable {X : Cx} {e : Expr} {fk : Fe} {pos : PySem.Pos}
end
section
variable {E : Ev} {fk : Fe} {j : Nat} {Qs : Fl × Ev → Prop}
end
end Zk
namespace Zk
open PySem PySem.Spec PyProof.Rows L2
section
variable {X : Cx} {K : PySem.W.Frag}
end
end Zk
namespace Zk
open PySem PySem.Spec PyProof.Rows L2
section
variable {β : Type} {f : β → D}
end
end Zk
namespace Zk
open PySem PySem.Spec PyProof.Rows L2
section
variable {prog : Program} {w : World} {A : Around} {R : Result → Shared → Prop} {s : Shared} {elt t0 i0 t1 i1 : Expr} {ifs0 ifs1 : List Expr} {scope : Scope} {pos : PySem.Pos} {it acc : Value} {env : Env}
end

section
variable {K : PySem.W.Frag} {Z Z' Zf Z0 Z1 Z2 : Addr → Prop} {H H' H0 H1 H2 : Hp} {σ σ' : L2.St} {E E' E1 EF : Ev} {R R' R0 R1 R2 Rw : Rs} {D0 : Addr}
end
section
variable {X : Cx} {elt tg iter tg1 iter1 : Expr} {ifs ifs1 : List Expr} {fe : Fe} {ft ft1 : Ft} {fi fi1 : Fi} {g g1 : Fg} {scope : Scope} {pos pos1 p : PySem.Pos} {w w1 : List Nat} {own : List (PySem.Str × Nat)} {vs1 : List Nat}
end
end Zk
namespace Zk
noncomputable section
open PySem PySem.Spec PyProof.Rows L2
end
end Zk
namespace Zk
noncomputable section
open PySem PySem.Spec PyProof.Rows L2
def v2 (p : Nat) (q : Nat × Nat) (k : Nat) : Nat := (q.1 + q.2 * k) % p
section
variable {p w : Nat} {R : List (Nat × Nat)}
end
end
end Zk
namespace Zk
noncomputable section
open PySem PySem.Spec PyProof.Rows L2
section
variable {p w : Nat} {R : List (Nat × Nat)}
end
end
end Zk
namespace Zk
noncomputable section
open PySem PySem.Spec PyProof.Rows L2
end
end Zk
namespace Zk
noncomputable section
open PySem PySem.Spec PyProof.Rows L2
section
variable {p w : Nat} {R : List (Nat × Nat)}
end
end
end Zk
namespace Zk
noncomputable section
open PySem PySem.Spec PyProof.Rows L2
end
end Zk
namespace Zk
noncomputable section
open PySem PySem.Spec PyProof.Rows L2
section
variable {p w : Nat} {R : List (Nat × Nat)}
end
end
end Zk
namespace Zk
noncomputable section
open PySem PySem.Spec PyProof.Rows L2
section
variable {p w : Nat}
/-- how many keys are told though they are not there, by a draw -/
def fcL (p w : Nat) (ks : List Nat) (q : Nat × Nat) (n : Nat) : List Nat := (List.range n).filter fun k => decide (k ∉ ks) && decide (∃ j ∈ ks, v2 p q j % w = v2 p q k % w)
def fc (p w : Nat) (ks : List Nat) (q : Nat × Nat) : Int := ((fcL p w ks q p).length : Nat)
end
end
end Zk
namespace Zk
noncomputable section
open PySem PySem.Spec PyProof.Rows L2
section
variable {p w : Nat}
end
end
end Zk
namespace Zk
noncomputable section
open PySem PySem.Spec PyProof.Rows L2
def S_minusb : Fs := (mRet (mCall none S_fraction (mAc (mSub (mMul (mIxd (mVar 0) (mC (.int 0))) (mIxd (mVar 1) (mC (.int 1)))) (mMul (mIxd (mVar 1) (mC (.int 0))) (mIxd (mVar 0) (mC (.int 1))))) (mAc (mMul (mIxd (mVar 0) (mC (.int 1))) (mIxd (mVar 1) (mC (.int 1)))) mA0))))
def S_minus : Mir := mDef none 2 S_minusb
def S_overb : Fs := (mRet (mCall none S_fraction (mAc (mMul (mIxd (mVar 0) (mC (.int 0))) (mIxd (mVar 1) (mC (.int 1)))) (mAc (mMul (mIxd (mVar 0) (mC (.int 1))) (mIxd (mVar 1) (mC (.int 0)))) mA0))))
def S_over : Mir := mDef none 2 S_overb
def S_powers_tob : Fs := (mSeq (mSet 2 (mLst (mAc (mC (.int 1)) mA0))) (mSeq (mFor (mRg1 (mVar 1)) (tgV 3) (mEx (mApp 2 (mMul (mIxd (mVar 2) (mNeg (mC (.int 1)))) (mVar 0))))) (mRet (mVar 2))))
def S_powers_to : Mir := mDef none 4 S_powers_tob
def S_parts_behindb : Fs := (mSeq (mSet 2 (mCall none S_powers_to (mAc (mIxd (mVar 1) (mC (.int 0))) (mAc (mVar 0) mA0)))) (mSeq (mSet 3 (mCall none S_powers_to (mAc (mIxd (mVar 1) (mC (.int 1))) (mAc (mVar 0) mA0)))) (mSeq (mSet 4 (mLst (mAc (mC (.int 1)) mA0))) (mSeq (mSet 5 (mC (.int 1))) (mSeq (mFor (mRg1 (mVar 0)) (tgV 6) (mSeq (mSet 7 (mLc (mRg1 (mAdd (mVar 6) (mC (.int 2)))) [8] (tgV 8) mYes (mC (.int 0)))) (mSeq (mFor (mEnu (mVar 4)) (tgT 2 (tgC (tgV 9) (tgC (tgV 10) tgN))) (mSeq (mSet 11 (mMul (mIxd (mVar 3) (mVar 9)) (mIxd (mVar 2) (mSub (mVar 6) (mVar 9))))) (mSeq (mPut 7 (mVar 9) (mAdd (mIxd (mVar 7) (mVar 9)) (mMul (mVar 10) (mSub (mIxd (mVar 2) (mVar 6)) (mVar 11))))) (mPut 7 (mAdd (mVar 9) (mC (.int 1))) (mAdd (mIxd (mVar 7) (mAdd (mVar 9) (mC (.int 1)))) (mMul (mVar 10) (mVar 11))))))) (mSeq (mMov 4 7) (mSet 5 (mMul (mVar 5) (mIxd (mVar 2) (mVar 6)))))))) (mRet (mTup (mAc (mVar 4) (mAc (mVar 5) mA0)))))))))
def S_parts_behind : Mir := mDef none 12 S_parts_behindb
def S_chances_byb : Fs := (mSeq (mAsg (tgT 2 (tgC (tgV 2) (tgC (tgV 3) tgN))) (mCall none S_parts_behind (mAc (mVar 0) (mAc (mVar 1) mA0)))) (mRet (mOp gTuple (mAc (mLc (mSq (mVar 2)) [4] (tgV 4) mYes (mCall none S_fraction (mAc (mVar 4) (mAc (mVar 3) mA0)))) mA0))))
def S_chances_by : Mir := mDef none 5 S_chances_byb
def S_chancesb : Fs := (mRet (mCall none S_chances_by (mAc (mVar 0) (mAc (mTup (mAc (mC (.int 2)) (mAc (mC (.int 1)) mA0))) mA0))))
def S_chances : Mir := mDef none 1 S_chancesb
def S_mean_told_byb : Fs := (mSeq (mAsg (tgT 2 (tgC (tgV 2) (tgC (tgV 3) tgN))) (mCall none S_parts_behind (mAc (mVar 0) (mAc (mVar 1) mA0)))) (mSeq (mSet 4 (mCall none S_powers_to (mAc (mIxd (mVar 1) (mC (.int 0))) (mAc (mVar 0) mA0)))) (mSeq (mSet 5 (mCall none S_powers_to (mAc (mIxd (mVar 1) (mC (.int 1))) (mAc (mVar 0) mA0)))) (mSeq (mSet 6 (mOp gSum (mAc (mLc (mEnu (mVar 2)) [7, 8] (tgT 2 (tgC (tgV 7) (tgC (tgV 8) tgN))) mYes (mMul (mMul (mVar 8) (mIxd (mVar 4) (mVar 7))) (mIxd (mVar 5) (mSub (mVar 0) (mVar 7))))) mA0))) (mSeq (mSet 9 (mCall none S_fraction (mAc (mVar 6) (mAc (mMul (mVar 3) (mIxd (mVar 5) (mVar 0))) mA0)))) (mRet (mCall none S_over (mAc (mCall none S_minus (mAc (mVar 9) (mAc (mTup (mAc (mC (.int 1)) (mAc (mC (.int 1)) mA0))) mA0))) (mAc (mCall none S_minus (mAc (mVar 1) (mAc (mTup (mAc (mC (.int 1)) (mAc (mC (.int 1)) mA0))) mA0))) mA0)))))))))
def S_mean_told_by : Mir := mDef none 10 S_mean_told_byb
def S_law_chancesb : Fs := (mSeq (mSet 3 (mLst (mAc (mC (.int 1)) mA0))) (mSeq (mSet 4 (mC (.int 0))) (mSeq (mFor (mRg1 (mVar 0)) (tgV 5) (mSeq (mSet 6 (mMul (mLst (mAc (mC (.int 0)) mA0)) (mAdd (mOp gLen (mAc (mVar 3) mA0)) (mC (.int 1))))) (mSeq (mFor (mRg1 (mOp gLen (mAc (mVar 3) mA0))) (tgV 7) (mSeq (mSet 8 (mMul (mCall none S_law_power (mAc (mVar 2) (mAc (mVar 7) mA0))) (mCall none S_law_power (mAc (mVar 1) (mAc (mSub (mVar 5) (mVar 7)) mA0))))) (mSeq (mPut 6 (mVar 7) (mAdd (mIxd (mVar 6) (mVar 7)) (mMul (mIxd (mVar 3) (mVar 7)) (mSub (mCall none S_law_power (mAc (mVar 1) (mAc (mVar 5) mA0))) (mVar 8))))) (mPut 6 (mAdd (mVar 7) (mC (.int 1))) (mAdd (mIxd (mVar 6) (mAdd (mVar 7) (mC (.int 1)))) (mMul (mIxd (mVar 3) (mVar 7)) (mVar 8))))))) (mSeq (mMov 3 6) (mSet 4 (mAdd (mVar 4) (mVar 5))))))) (mSeq (mSet 9 (mCall none S_law_power (mAc (mVar 1) (mAc (mVar 4) mA0)))) (mRet (mOp gTuple (mAc (mLc (mSq (mVar 3)) [10] (tgV 10) mYes (mCall none S_law_frac (mAc (mVar 10) (mAc (mVar 9) mA0)))) mA0)))))))
def S_law_chances : Mir := mDef none 11 S_law_chancesb
end
end Zk
namespace Zk
noncomputable section
open PySem PySem.Spec PyProof.Rows L2
/-- 0 + 1 + .. + (n - 1) -/
def tri2 : Nat → Nat
  | 0 => 0
  | n + 1 => tri2 n + n
/-- the part of place x behind n goes, by bases c and d -/
def PB (c d : Int) : Nat → Nat → Int
  | 0, x => if x = 0 then 1 else 0
  | n + 1, 0 => PB c d n 0 * (c ^ n - d ^ 0 * c ^ n)
  | n + 1, x + 1 => (if x + 1 ≤ n then PB c d n (x + 1) * (c ^ n - d ^ (x + 1) * c ^ (n - (x + 1))) else 0) + (if x ≤ n then PB c d n x * (d ^ x * c ^ (n - x)) else 0)
/-- half a turn: those up to j are told -/
def PBh (c d : Int) (n j x : Nat) : Int := (if x < j then PB c d n x * (c ^ n - d ^ x * c ^ (n - x)) else 0) + (if 1 ≤ x ∧ x ≤ j then PB c d n (x - 1) * (d ^ (x - 1) * c ^ (n - (x - 1))) else 0)
theorem PBh_0 (c d : Int) (n x : Nat) : PBh c d n 0 x = 0 := by
  unfold PBh
  rw [if_neg (by omega), if_neg (by omega)]; rfl
theorem PBh_last (c d : Int) (n x : Nat) : x < n + 2 → PBh c d n (n + 1) x = PB c d (n + 1) x := fun hx => by
  unfold PBh
  cases x with
  | zero => rw [if_pos (by omega), if_neg (by omega)]; simp [PB]
  | succ x =>
    rw [Nat.add_sub_cancel]
    show _ = (if x + 1 ≤ n then PB c d n (x + 1) * (c ^ n - d ^ (x + 1) * c ^ (n - (x + 1))) else 0) + (if x ≤ n then PB c d n x * (d ^ x * c ^ (n - x)) else 0)
    congr 1
    · by_cases h : x + 1 ≤ n
      · rw [if_pos (by omega), if_pos h]
      · rw [if_neg (by omega), if_neg h]
    · rw [if_pos ⟨by omega, by omega⟩, if_pos (by omega)]
/-- a step of the inner loop -/
theorem PBh_s (c d : Int) (n j : Nat) : (fun x => if x = j + 1 then (if j + 1 = j then PBh c d n j (j + 1) + PB c d n j * (c ^ n - d ^ j * c ^ (n - j)) else PBh c d n j (j + 1)) + PB c d n j * (d ^ j * c ^ (n - j)) else if x = j then PBh c d n j j + PB c d n j * (c ^ n - d ^ j * c ^ (n - j)) else PBh c d n j x) = PBh c d n (j + 1) := by
  funext x
  have nj : ¬ j + 1 = j := by omega
  rw [if_neg nj]
  unfold PBh
  by_cases h1 : x = j + 1
  · subst h1
    rw [if_pos rfl, if_neg (by omega), if_neg (by omega), if_neg (by omega), if_pos ⟨by omega, by omega⟩, Nat.add_sub_cancel]; omega
  · rw [if_neg h1]
    by_cases h2 : x = j
    · subst h2
      rw [if_pos rfl, if_neg (show ¬ x < x by omega), if_pos (show x < x + 1 by omega)]
      by_cases h3 : 1 ≤ x
      · rw [if_pos (show 1 ≤ x ∧ x ≤ x from ⟨h3, Nat.le_refl _⟩), if_pos (show 1 ≤ x ∧ x ≤ x + 1 from ⟨h3, Nat.le_succ _⟩)]; omega
      · rw [if_neg (show ¬ (1 ≤ x ∧ x ≤ x) from fun h => h3 h.1), if_neg (show ¬ (1 ≤ x ∧ x ≤ x + 1) from fun h => h3 h.1)]; omega
    · rw [if_neg h2]
      congr 1
      · by_cases h3 : x < j
        · rw [if_pos h3, if_pos (by omega)]
        · rw [if_neg h3, if_neg (by omega)]
      · by_cases h3 : 1 ≤ x ∧ x ≤ j
        · rw [if_pos h3, if_pos (by omega)]
        · rw [if_neg h3, if_neg (by omega)]
theorem sumN_at {n k : Nat} (h : k < n) {C : Int} : sumN n (fun x => if x = k then C else 0) = C := by
  have := sumN_one (n := n) (k := k) (f := fun _ => 1) h C
  rw [Int.mul_one] at this
  refine Eq.trans (sumN_congr fun x _ => ?_) this
  by_cases c : x = k
  · rw [if_pos c, if_pos c.symm, Int.mul_one]
  · rw [if_neg c, if_neg (Ne.symm c), Int.zero_mul]
/-- a sum over the parts of the next go -/
theorem PB_sum (c d : Int) (g : Nat → Int) (n : Nat) : sumN (n + 2) (fun x => PB c d (n + 1) x * g x) = sumN (n + 1) fun x => PB c d n x * ((c ^ n - d ^ x * c ^ (n - x)) * g x + d ^ x * c ^ (n - x) * g (x + 1)) := by
  have h : ∀ j, j ≤ n + 1 → sumN (n + 2) (fun x => PBh c d n j x * g x) = sumN j fun x => PB c d n x * ((c ^ n - d ^ x * c ^ (n - x)) * g x + d ^ x * c ^ (n - x) * g (x + 1)) := fun j => by
    induction j with
    | zero =>
      intro _
      rw [sumN_congr (g := fun _ => 0) fun x _ => by rw [PBh_0, Int.zero_mul]]
      exact sumN_zero fun _ _ => rfl
    | succ j ih =>
      intro hj
      have i := ih (by omega)
      have es : ∀ F : Nat → Int, sumN (j + 1) F = sumN j F + F j := fun F => rfl
      rw [es, ← i, ← PBh_s]
      have e : ∀ x, (if x = j + 1 then (if j + 1 = j then PBh c d n j (j + 1) + PB c d n j * (c ^ n - d ^ j * c ^ (n - j)) else PBh c d n j (j + 1)) + PB c d n j * (d ^ j * c ^ (n - j)) else if x = j then PBh c d n j j + PB c d n j * (c ^ n - d ^ j * c ^ (n - j)) else PBh c d n j x) * g x
          = PBh c d n j x * g x + ((if x = j then PB c d n j * (c ^ n - d ^ j * c ^ (n - j)) * g j else 0) + (if x = j + 1 then PB c d n j * (d ^ j * c ^ (n - j)) * g (j + 1) else 0)) := fun x => by
        rw [if_neg (show ¬ j + 1 = j by omega)]
        by_cases h1 : x = j + 1
        · subst h1
          rw [if_pos rfl, if_neg (by omega), if_pos rfl]; grind
        · by_cases h2 : x = j
          · subst h2
            rw [if_neg h1, if_pos rfl, if_pos rfl, if_neg h1]; grind
          · rw [if_neg h1, if_neg h2, if_neg h2, if_neg h1]; omega
      simp only [e]
      rw [sumN_add, sumN_add, sumN_at (by omega), sumN_at (by omega)]
      grind
  have := h (n + 1) (Nat.le_refl _)
  rw [← this]
  exact sumN_congr fun x hx => by rw [PBh_last c d n x hx]
theorem PB_one (c d : Int) : ∀ n, sumN (n + 1) (PB c d n) = c ^ tri2 n
  | 0 => by simp [sumN, PB, tri2]
  | n + 1 => by
    have h := PB_sum c d (fun _ => 1) n
    have e : ∀ x, PB c d n x * ((c ^ n - d ^ x * c ^ (n - x)) * 1 + d ^ x * c ^ (n - x) * 1) = c ^ n * PB c d n x := fun x => by grind
    simp only [e] at h
    rw [sumN_mul, PB_one c d n] at h
    simp only [Int.mul_one] at h
    rw [h, tri2, Int.pow_add]; grind
/-- the mean of the c / d to the place -/
theorem PB_mean (c d : Int) : ∀ n, sumN (n + 1) (fun x => PB c d n x * (c ^ x * d ^ (n - x))) * d = c ^ tri2 n * d ^ n * (d + n * (c - d))
  | 0 => by simp [sumN, PB, tri2]
  | n + 1 => by
    have i := PB_mean c d n
    have h1 := PB_one c d n
    have h := PB_sum c d (fun x => c ^ x * d ^ (n + 1 - x)) n
    have e : sumN (n + 1) (fun x => PB c d n x * ((c ^ n - d ^ x * c ^ (n - x)) * (c ^ x * d ^ (n + 1 - x)) + d ^ x * c ^ (n - x) * (c ^ (x + 1) * d ^ (n + 1 - (x + 1))))) = sumN (n + 1) fun x => (c ^ n * d) * (PB c d n x * (c ^ x * d ^ (n - x))) + (c ^ n * d ^ n * (c - d)) * PB c d n x := sumN_congr fun x hx => by
      have a1 : c ^ n = c ^ (n - x) * c ^ x := by rw [← Int.pow_add]; congr 1; omega
      have a2 : d ^ (n + 1 - x) = d ^ (n - x) * d := by rw [show n + 1 - x = (n - x) + 1 by omega, Int.pow_succ]
      have a3 : d ^ n = d ^ (n - x) * d ^ x := by rw [← Int.pow_add]; congr 1; omega
      rw [show n + 1 - (x + 1) = n - x by omega, a2, Int.pow_succ, a3, a1]
      grind
    rw [e, sumN_add, sumN_mul, sumN_mul, h1] at h
    rw [h, tri2, Int.pow_add, Int.pow_succ d n, Int.natCast_add]
    have : (c ^ n * d * sumN (n + 1) (fun x => PB c d n x * (c ^ x * d ^ (n - x))) + c ^ n * d ^ n * (c - d) * c ^ tri2 n) * d = c ^ n * d * (sumN (n + 1) (fun x => PB c d n x * (c ^ x * d ^ (n - x))) * d) + c ^ n * d ^ n * (c - d) * c ^ tri2 n * d := by grind
    rw [this, i]
    grind
end
end Zk
namespace Zk
noncomputable section
open PySem PySem.Spec PyProof.Rows L2
theorem atI_last {n : Nat} {f : Nat → Int} : atI (tab (n + 1) f) (-1) = some (f n) := by
  unfold atI ixN
  rw [tab_len, if_neg (by decide), if_pos (by omega), Option.bind_some, tab_get]
  have : ((-1 : Int) + ((n + 1 : Nat) : Int)).toNat = n := by omega
  first
    | rw [this, if_pos (by omega)]
    | (rw [show (((n + 1 : Nat) : Int) + (-1)).toNat = n by omega, if_pos (by omega)])
theorem powers_to_W {b : Int} {n : Nat} (hn : n ≤ 1000) (hb : b.natAbs < big) (h : ∀ j, j ≤ n → (b ^ j).natAbs < big) : S_powers_to [.int b, .int (n : Int)] = some (.lst ((tab (n + 1) fun j => b ^ j).map D.int), 9, .non) := by
  have go : W (S_powers_to [.int b, .int (n : Int)]) fun r => r = (.lst ((tab (n + 1) fun j => b ^ j).map D.int), 9, .non) := by
    refine W_O fun Q' hQ => ?_
    unfold S_powers_to S_powers_tob
    rw [W_mDef]
    have rk : rgOk (n : Int) := ⟨by omega, by omega⟩
    (refine Zk.W_seqE (E1 := ?wE113) ?wa113 ?wb113; (case wa113 => (simp (disch := first | assumption | (simp; done) | omega) [ent0_def, uni]; exact rfl)))
    have e0 : [D.int 1] = (tab (0 + 1) fun j => b ^ j).map D.int := by simp [tab, List.range_succ]
    rw [e0]
    (refine Zk.W_forN ?wE238 n [3] (fun (_ : Unit) j => [(2, some (.lst ((tab (j + 1) fun j => b ^ j).map D.int), 9))]) (fun _ _ => True) () ?wa238 ?wb238 ?_ ?_ ?_; (case wa238 => (simp (disch := first | assumption | (simp; done) | omega) [rk]; exact rfl)); (case wb238 => (simp (disch := first | assumption | (simp; done) | omega) [Zk.sets, rk])))
    · trivial
    · intro _ j I' hj _ hI
      simp only [Zk.AllU, Zk.sets, List.set_cons_succ, List.set_cons_zero, List.set_nil] at *
      intro u3
      refine W_tgV.mpr ⟨by simp, ?_⟩
      have al := atI_last (n := j) (f := fun j => b ^ j)
      have bj := h j (by omega)
      have im : imms ((tab (j + 1) fun j => b ^ j).map D.int) = true := imms_ints _
      have sz : j + 1 < 16777216 := by omega
      have tl := tab_len (j + 1) fun j => b ^ j
      have e1 : (tab (j + 1) fun j => b ^ j).map D.int ++ [D.int (b ^ j * b)] = (tab (j + 1 + 1) fun j => b ^ j).map D.int := by
        rw [tab_succ (j + 1), List.map_append, Int.pow_succ]; rfl
      simp (disch := first | assumption | (simp; done) | omega) [al, bj, hb, im, sz, tl, e1, -Int.natAbs_pow]
      apply hI () trivial
    intro _ _
    simp only [Zk.AllU, Zk.sets, List.set_cons_succ, List.set_cons_zero, List.set_nil] at *
    intro u3
    simp (disch := first | assumption | (simp; done) | omega) []
    exact hQ _ rfl
  obtain ⟨r, e, rfl⟩ := go
  exact e
theorem pow_le_l {a b : Int} (ha : 0 ≤ a) (h : a ≤ b) : ∀ n : Nat, a ^ n ≤ b ^ n
  | 0 => by simp
  | n + 1 => by
    rw [Int.pow_succ, Int.pow_succ]
    have h1 := pow_le_l ha h n
    have h2 : 0 ≤ a ^ n := Int.pow_nonneg ha
    exact Int.le_trans (Int.mul_le_mul_of_nonneg_right h1 ha) (Int.mul_le_mul_of_nonneg_left h (Int.le_trans h2 h1))
structure CD (c d : Int) : Prop where
  d1 : 1 ≤ d
  dc : d ≤ c
  c20 : c ≤ 2 ^ 20
section
variable {c d : Int}
theorem CD.c0 (h : CD c d) : 0 ≤ c := by have := h.d1; have := h.dc; omega
theorem CD.cp (h : CD c d) (n : Nat) : 1 ≤ c ^ n := by
  have : 0 < c ^ n := Int.pow_pos (by have := h.d1; have := h.dc; omega)
  omega
theorem CD.dp (h : CD c d) (n : Nat) : 1 ≤ d ^ n := by
  have : 0 < d ^ n := Int.pow_pos (by have := h.d1; omega)
  omega
theorem CD.dle (h : CD c d) (n : Nat) : d ^ n ≤ c ^ n := pow_le_l (by have := h.d1; omega) h.dc n
theorem CD.on (h : CD c d) {n x : Nat} (hx : x ≤ n) : 0 ≤ d ^ x * c ^ (n - x) ∧ d ^ x * c ^ (n - x) ≤ c ^ n := by
  have a1 : c ^ n = c ^ x * c ^ (n - x) := by rw [← Int.pow_add]; congr 1; omega
  have := h.cp (n - x)
  have := h.dp x
  refine ⟨Int.mul_nonneg (by omega) (by omega), ?_⟩
  rw [a1]
  exact Int.mul_le_mul_of_nonneg_right (h.dle x) (by omega)
theorem CD.cb (h : CD c d) {n : Nat} (hn : n ≤ 1000) : (c ^ n).natAbs ≤ 2 ^ 20000 := by
  have h1 : c ^ n ≤ (2 ^ 20) ^ n := pow_le_l h.c0 h.c20 n
  have h2 : ((2 : Int) ^ 20) ^ n = ((2 ^ (20 * n) : Nat) : Int) := by rw [← Int.pow_mul, Int.natCast_pow]; rfl
  have h3 : 2 ^ (20 * n) ≤ 2 ^ 20000 := Nat.pow_le_pow_right (by decide) (by omega)
  have := h.cp n
  generalize (2 : Nat) ^ 20000 = G at *
  omega
theorem big_20000 {i : Int} (h : i.natAbs ≤ 2 ^ 20000) : i.natAbs < big := big_of (k := 20001) (Nat.lt_of_le_of_lt h (Nat.pow_lt_pow_right (by decide) (by decide))) (by decide)
theorem PB_nn (h : CD c d) : ∀ n x, x ≤ n → 0 ≤ PB c d n x
  | 0, x, _ => by
    unfold PB
    split <;> omega
  | n + 1, 0, _ => by
    show 0 ≤ PB c d n 0 * (c ^ n - d ^ 0 * c ^ n)
    exact Int.mul_nonneg (PB_nn h n 0 (by omega)) (by rw [Int.pow_zero, Int.one_mul]; omega)
  | n + 1, x + 1, _ => by
    show 0 ≤ (if x + 1 ≤ n then PB c d n (x + 1) * (c ^ n - d ^ (x + 1) * c ^ (n - (x + 1))) else 0) + (if x ≤ n then PB c d n x * (d ^ x * c ^ (n - x)) else 0)
    refine Int.add_nonneg ?_ ?_
    · split
      · rename_i hx
        exact Int.mul_nonneg (PB_nn h n (x + 1) hx) (by have := (h.on hx).2; omega)
      · exact Int.le_refl _
    · split
      · rename_i hx
        exact Int.mul_nonneg (PB_nn h n x hx) (h.on hx).1
      · exact Int.le_refl _
theorem sumN_ge {f : Nat → Int} : ∀ {n : Nat}, (∀ i, i < n → 0 ≤ f i) → 0 ≤ sumN n f ∧ ∀ i, i < n → f i ≤ sumN n f
  | 0, _ => ⟨Int.le_refl _, fun i hi => absurd hi (Nat.not_lt_zero _)⟩
  | n + 1, h => by
    obtain ⟨h1, h2⟩ := sumN_ge (f := f) (n := n) fun i hi => h i (by omega)
    have h3 := h n (by omega)
    have e : sumN (n + 1) f = sumN n f + f n := rfl
    refine ⟨by omega, fun i hi => ?_⟩
    by_cases c : i = n
    · subst c; omega
    · have := h2 i (by omega); omega
theorem PB_le (h : CD c d) {n x : Nat} (hx : x ≤ n) : 0 ≤ PB c d n x ∧ PB c d n x ≤ c ^ tri2 n := by
  have := (sumN_ge (f := PB c d n) (n := n + 1) fun i hi => PB_nn h n i (by omega)).2 x (by omega)
  rw [PB_one] at this
  exact ⟨PB_nn h n x hx, this⟩
theorem tri2_le : ∀ n, n ≤ 40 → tri2 n ≤ 1000 := by decide
theorem PB_big (h : CD c d) {n x : Nat} (hn : n ≤ 40) (hx : x ≤ n) : (PB c d n x).natAbs < big := by
  have h1 := PB_le h hx
  have h2 := h.cb (tri2_le n hn)
  refine big_20000 (Nat.le_trans ?_ h2)
  omega
theorem parts_behind_W (h : CD c d) {n : Nat} (hn : n ≤ 40) : S_parts_behind [.int (n : Int), .tup [.int c, .int d]] = some (.tup [.lst ((tab (n + 1) (PB c d n)).map D.int), .int (c ^ tri2 n)], 0, .non) := by
  have go : W (S_parts_behind [.int (n : Int), .tup [.int c, .int d]]) fun r => r = (.tup [.lst ((tab (n + 1) (PB c d n)).map D.int), .int (c ^ tri2 n)], 0, .non) := by
    refine W_O fun Q' hQ => ?_
    unfold S_parts_behind S_parts_behindb
    rw [W_mDef]
    have rk : rgOk (n : Int) := ⟨by omega, by omega⟩
    have cb : ∀ j, j ≤ 1000 → (c ^ j).natAbs < big := fun j hj => big_20000 (h.cb hj)
    have db : ∀ j, j ≤ 1000 → (d ^ j).natAbs < big := fun j hj => by
      have := h.cb hj
      have := h.dle j
      have := h.dp j
      refine big_20000 ?_
      generalize (2 : Nat) ^ 20000 = G at *
      omega
    have c1 := cb 1 (by decide)
    have d1 := db 1 (by decide)
    rw [Int.pow_one] at c1 d1
    have pc := powers_to_W (b := c) (n := n) (by omega) c1 fun j hj => cb j (by omega)
    have pd := powers_to_W (b := d) (n := n) (by omega) d1 fun j hj => db j (by omega)
    (refine Zk.W_seqE (E1 := ?wE114) ?wa114 ?wb114; (case wa114 => (simp (disch := first | assumption | (simp; done) | omega) [ent0_def, pc, dem1]; exact rfl)))
    (refine Zk.W_seqE (E1 := ?wE115) ?wa115 ?wb115; (case wa115 => (simp (disch := first | assumption | (simp; done) | omega) [pd, dem1]; exact rfl)))
    (refine Zk.W_seqE (E1 := ?wE116) ?wa116 ?wb116; (case wa116 => (simp (disch := first | assumption | (simp; done) | omega) [uni]; exact rfl)))
    (refine Zk.W_seqE (E1 := ?wE117) ?wa117 ?wb117; (case wa117 => (simp (disch := first | assumption | (simp; done) | omega) []; exact rfl)))
    have e0 : [D.int 1] = (tab (0 + 1) (PB c d 0)).map D.int := by simp [tab, List.range_succ, PB]
    have t0 : tri2 0 = 0 := rfl
    rw [e0]
    (refine Zk.W_forN ?wE239 n [6, 7, 8, 9, 10, 11] (fun (_ : Unit) j => [(4, some (.lst ((tab (j + 1) (PB c d j)).map D.int), 9)), (5, some (.int (c ^ tri2 j), 9))]) (fun _ _ => True) () ?wa239 ?wb239 ?_ ?_ ?_; (case wa239 => (simp (disch := first | assumption | (simp; done) | omega) [rk, t0]; exact rfl)); (case wb239 => (simp (disch := first | assumption | (simp; done) | omega) [Zk.sets, rk, t0])))
    · trivial
    · intro _ j I' hj _ hI
      simp only [Zk.AllU, Zk.sets, List.set_cons_succ, List.set_cons_zero, List.set_nil] at *
      intro u6 u7 u8 u9 u10 u11
      refine W_tgV.mpr ⟨by simp, ?_⟩
      have rk2 : rgOk ((j : Int) + 2) := ⟨by omega, by omega⟩
      have tn : ((j : Int) + 2).toNat = j + 2 := by omega
      refine W_seqK fun Kq hKq => ?_
      simp (disch := first | assumption | (simp; done) | omega) [W_lc0, rk2, tn, rng0]
      refine W_lcN (xs := List.range (j + 2)) (ι := fun b : Nat => D.int (b : Int)) (fun _ => 0) (by simp [sizeL]; omega) (fun k hk => ?_) fun acc ha hu => ?_
      · simp (disch := first | assumption | (simp; done) | omega) []
      have ez : acc.map (·.1) = (tab (j + 2) (PBh c d j 0)).map D.int := by
        rw [ha]
        refine congrArg (List.map D.int) ?_
        exact List.map_congr_left fun x _ => (PBh_0 c d j x).symm
      simp (disch := first | assumption | (simp; done) | omega) [ez, hu]
      refine hKq _ ?_
      clear hKq Kq ha hu ez acc
      have et := enD_tab (j + 1) (PB c d j)
      (refine Zk.W_forS ?wE240 (List.range (j + 1)) (fun k : Nat => pr ((k : Int), PB c d j k)) [9, 10, 11] (fun (_ : Unit) a => [(7, some (.lst ((tab (j + 2) (PBh c d j a.length)).map D.int), 9))]) (fun _ _ => True) () ?wa240 ?wb240 ?_ ?_ ?_; (case wa240 => (simp (disch := first | assumption | (simp; done) | omega) [et]; exact rfl)); (case wb240 => (simp (disch := first | assumption | (simp; done) | omega) [Zk.sets, et])))
      · trivial
      · intro _ a x b I2 e _ hI2
        simp only [Zk.AllU, Zk.sets, List.set_cons_succ, List.set_cons_zero, List.set_nil] at *
        intro u9 u10 u11
        obtain ⟨ea, hx⟩ := range_split e
        have la : a.length = x := by rw [ea]; simp
        rw [List.length_append, List.length_singleton, la] at hI2
        rw [la]
        refine W_tg2 (by simp) (by simp) ?_
        have o := h.on (n := j) (x := x) (by omega)
        have pb := PB_big h (n := j) (x := x) (by omega) (by omega)
        have hjb := h.cb (n := j) (by omega)
        have cj := cb j (by omega)
        have b1 := db x (by omega)
        have b2 := cb (j - x) (by omega)
        have ob : (d ^ x * c ^ (j - x)).natAbs < big := big_20000 (by
          refine Nat.le_trans ?_ hjb
          omega)
        have ob2 : (c ^ j - d ^ x * c ^ (j - x)).natAbs < big := big_20000 (by
          refine Nat.le_trans ?_ hjb
          omega)
        have t1 : atI (tab (n + 1) fun j => d ^ j) (x : Int) = some (d ^ x) := tab_at (by omega) (by omega)
        have t2 : atI (tab (n + 1) fun j => c ^ j) ((j : Int) - x) = some (c ^ (j - x)) := by
          rw [tab_at (by omega) (by omega), show ((j : Int) - x).toNat = j - x by omega]
        have t3 : atI (tab (n + 1) fun j => c ^ j) (j : Int) = some (c ^ j) := tab_at (by omega) (by omega)
        (refine Zk.W_seqE (E1 := ?wE118) ?wa118 ?wb118; (case wa118 => (simp (disch := first | assumption | (simp; done) | omega) [t1, t2, b1, b2, -Int.natAbs_pow]; exact rfl)))
        generalize hon : d ^ x * c ^ (j - x) = on at *
        have ti : ∀ f : Nat → Int, atI (tab (j + 2) f) (x : Int) = some (f x) := fun f => tab_at (by omega) (by omega)
        have ti2 : ∀ f : Nat → Int, atI (tab (j + 2) f) ((x : Int) + 1) = some (f (x + 1)) := fun f => by rw [tab_at (by omega) (by omega)]; congr 2
        have ix1 : ixN (j + 2) (x : Int) = some x := by rw [ixN_ok (by omega) (by omega)]; simp
        have ix2 : ixN (j + 2) ((x : Int) + 1) = some (x + 1) := by
          rw [ixN_ok (by omega) (by omega)]
          congr 1
        have tl : ∀ f, (tab (j + 2) f).length = j + 2 := tab_len (j + 2)
        (refine Zk.W_seqE (E1 := ?wE119) ?wa119 ?wb119; (case wa119 => (simp (disch := first | assumption | (simp; done) | omega) [t3, ti, tl, ix1, pb, ob2, ← List.map_set, tab_set, -Int.natAbs_pow]; exact rfl)))
        simp (disch := first | assumption | (simp; done) | omega) [ti2, tl, ix2, pb, ob, ← List.map_set, tab_set, -Int.natAbs_pow]
        have fin := hI2 () trivial
        rw [← PBh_s, if_neg (show ¬ x + 1 = x by omega), hon] at fin
        apply fin
      intro _ _
      simp only [Zk.AllU, Zk.sets, List.set_cons_succ, List.set_cons_zero, List.set_nil] at *
      intro u9 u10 u11
      rw [List.length_range]
      have el : tab (j + 2) (PBh c d j (j + 1)) = tab (j + 1 + 1) (PB c d (j + 1)) := tab_ext fun x hx => PBh_last c d j x hx
      rw [el]
      have t3 : atI (tab (n + 1) fun j => c ^ j) (j : Int) = some (c ^ j) := tab_at (by omega) (by omega)
      have cj := cb j (by omega)
      have ct := cb (tri2 j) (tri2_le j (by omega))
      have ec : c ^ tri2 j * c ^ j = c ^ tri2 (j + 1) := by rw [tri2, Int.pow_add]
      simp (disch := first | assumption | (simp; done) | omega) [t3, cj, ct, ec, -Int.natAbs_pow]
      apply hI () trivial
    intro _ _
    simp only [Zk.AllU, Zk.sets, List.set_cons_succ, List.set_cons_zero, List.set_nil] at *
    intro u6 u7 u8 u9 u10 u11
    simp (disch := first | assumption | (simp; done) | omega) []
    exact hQ _ rfl
  obtain ⟨r, e, rfl⟩ := go
  exact e
end
end
end Zk
namespace Zk
noncomputable section
open PySem PySem.Spec PyProof.Rows L2
section
variable {c d : Int} {n : Nat}
theorem CD.ca (h : CD c d) {j : Nat} (hj : j ≤ 40) : (c ^ j).natAbs ≤ 2 ^ 800 := by
  have h1 : c ^ j ≤ (2 ^ 20) ^ j := pow_le_l h.c0 h.c20 j
  have h2 : ((2 : Int) ^ 20) ^ j = ((2 ^ (20 * j) : Nat) : Int) := by rw [← Int.pow_mul, Int.natCast_pow]; rfl
  have h3 : 2 ^ (20 * j) ≤ 2 ^ 800 := Nat.pow_le_pow_right (by decide) (by omega)
  have := h.cp j
  generalize (2 : Nat) ^ 800 = G at *
  omega
theorem CD.da (h : CD c d) {j : Nat} (hj : j ≤ 40) : (d ^ j).natAbs ≤ 2 ^ 800 := by
  have := h.ca hj
  have := h.dle j
  have := h.dp j
  generalize (2 : Nat) ^ 800 = G at *
  omega
theorem CD.pa (h : CD c d) (hT : (c ^ tri2 n).natAbs ≤ 2 ^ 6000) {x : Nat} (hx : x ≤ n) : (PB c d n x).natAbs ≤ 2 ^ 6000 := by
  have h1 := PB_le h hx
  refine Nat.le_trans ?_ hT
  omega
theorem CD.tne (h : CD c d) : c ^ tri2 n ≠ 0 := by have := h.cp (tri2 n); omega
def chD (c d : Int) (n : Nat) : D := .tup ((List.range (n + 1)).map fun x => fr (Rat.divInt (PB c d n x) (c ^ tri2 n)))
@[simp] theorem imm_chD : imm (chD c d n) = true := by simp [chD]
theorem chances_by_W (h : CD c d) (hn : n ≤ 40) (hT : (c ^ tri2 n).natAbs ≤ 2 ^ 6000) : S_chances_by [.int (n : Int), .tup [.int c, .int d]] = some (chD c d n, 9, .non) := by
  have go : W (S_chances_by [.int (n : Int), .tup [.int c, .int d]]) fun r => r = (chD c d n, 9, .non) := by
    refine W_O fun Q' hQ => ?_
    unfold S_chances_by S_chances_byb
    rw [W_mDef]
    have pb := parts_behind_W h hn
    (refine Zk.W_seqE (E1 := ?wE120) ?wa120 ?wb120; (case wa120 => (simp (disch := first | assumption | (simp; done) | omega) [ent0_def, pb, dem1]; exact rfl)))
    simp (disch := first | assumption | (simp; done) | omega) [W_lc0]
    rw [show (tab (n + 1) (PB c d n)).map D.int = (List.range (n + 1)).map fun x => D.int (PB c d n x) by unfold tab; rw [List.map_map]; rfl]
    refine W_lcY (fun x => fr (Rat.divInt (PB c d n x) (c ^ tri2 n))) (fun _ => imm_fr _) (by simp [sizeL]; omega) (fun x hx => ?_) fun acc ha hu => ?_
    · have fe := fraction_eq (n := PB c d n x) h.tne (abs_lt_8000 hT (by decide))
      simp (disch := first | assumption | (simp; done) | omega) [fe, dem1]
    · have im : imms ((List.range (n + 1)).map fun x => fr (Rat.divInt (PB c d n x) (c ^ tri2 n))) = true := imms_map' (fun _ => imm_fr _) _
      simp (disch := first | assumption | (simp; done) | omega) [ha, hu, im]
      exact hQ _ rfl
  obtain ⟨r, e, rfl⟩ := go
  exact e
theorem cd21 : CD 2 1 := ⟨by decide, by decide, by decide⟩
theorem t21 : ∀ n, n ≤ 40 → tri2 n ≤ 780 := by decide
theorem T21 (hn : n ≤ 40) : ((2 : Int) ^ tri2 n).natAbs ≤ 2 ^ 6000 := by
  rw [Int.natAbs_pow]
  exact Nat.pow_le_pow_right (by decide) (Nat.le_trans (t21 n hn) (by decide))
theorem chances_W (hn : n ≤ 40) : S_chances [.int (n : Int)] = some (chD 2 1 n, 9, .non) := by
  have go : W (S_chances [.int (n : Int)]) fun r => r = (chD 2 1 n, 9, .non) := by
    refine W_O fun Q' hQ => ?_
    unfold S_chances S_chancesb
    have cw := chances_by_W cd21 hn (T21 hn)
    simp (disch := first | assumption | (simp; done) | omega) [ent0_def, cw, dem1]
    exact hQ _ rfl
  obtain ⟨r, e, rfl⟩ := go
  exact e
theorem law_power_W (h : CD c d) {k : Nat} (hk : k ≤ 1000) : S_law_power [.int c, .int (k : Int)] = some (.int (c ^ k), 9, .non) :=
  raised_eq (b := c) (k := k) (by omega) (by have := big_20000 (h.cb (n := 1) (by decide)); rwa [Int.pow_one] at this) fun j hj => big_20000 (h.cb (by omega))
theorem CD.self (h : CD c d) : CD d d := ⟨h.d1, Int.le_refl _, by have := h.dc; have := h.c20; omega⟩
theorem law_chances_W (h : CD c d) (hn : n ≤ 40) (hT : (c ^ tri2 n).natAbs ≤ 2 ^ 6000) : S_law_chances [.int (n : Int), .int c, .int d] = some (chD c d n, 9, .non) := by
  have go : W (S_law_chances [.int (n : Int), .int c, .int d]) fun r => r = (chD c d n, 9, .non) := by
    refine W_O fun Q' hQ => ?_
    unfold S_law_chances S_law_chancesb
    rw [W_mDef]
    have rk : rgOk (n : Int) := ⟨by omega, by omega⟩
    have cb : ∀ j, j ≤ 1000 → (c ^ j).natAbs < big := fun j hj => big_20000 (h.cb hj)
    have db : ∀ j, j ≤ 1000 → (d ^ j).natAbs < big := fun j hj => big_20000 (h.self.cb hj)
    (refine Zk.W_seqE (E1 := ?wE121) ?wa121 ?wb121; (case wa121 => (simp (disch := first | assumption | (simp; done) | omega) [ent0_def, uni]; exact rfl)))
    (refine Zk.W_seqE (E1 := ?wE122) ?wa122 ?wb122; (case wa122 => (simp (disch := first | assumption | (simp; done) | omega) []; exact rfl)))
    have e0 : [D.int 1] = (tab (0 + 1) (PB c d 0)).map D.int := by simp [tab, List.range_succ, PB]
    have t0 : tri2 0 = 0 := rfl
    rw [e0]
    (refine Zk.W_forN ?wE241 n [5, 6, 7, 8] (fun (_ : Unit) j => [(3, some (.lst ((tab (j + 1) (PB c d j)).map D.int), 9)), (4, some (.int (tri2 j : Nat), 9))]) (fun _ _ => True) () ?wa241 ?wb241 ?_ ?_ ?_; (case wa241 => (simp (disch := first | assumption | (simp; done) | omega) [rk, t0]; exact rfl)); (case wb241 => (simp (disch := first | assumption | (simp; done) | omega) [Zk.sets, rk, t0])))
    · trivial
    · intro _ j I' hj _ hI
      simp only [Zk.AllU, Zk.sets, List.set_cons_succ, List.set_cons_zero, List.set_nil] at *
      intro u5 u6 u7 u8
      refine W_tgV.mpr ⟨by simp, ?_⟩
      have tl : ∀ i f, (tab i f).length = i := tab_len
      have zr := zrow (w := j + 2) (by omega)
      have ej : (j : Int) + 1 + 1 = ((j + 2 : Nat) : Int) := by omega
      have ez : (tab (j + 2) fun _ => (0 : Int)) = tab (j + 2) (PBh c d j 0) := tab_ext fun x _ => (PBh_0 c d j x).symm
      rw [ez, show ((j + 2 : Nat) : Int) = (j : Int) + 1 + 1 by omega] at zr
      (refine Zk.W_seqE (E1 := ?wE123) ?wa123 ?wb123; (case wa123 => (simp (disch := first | assumption | (simp; done) | omega) [tl, zr, uni, -gMul_rep]; exact rfl)))
      have rk2 : rgOk ((j : Int) + 1) := ⟨by omega, by omega⟩
      have tn : ((j : Int) + 1).toNat = j + 1 := by omega
      (refine Zk.W_forN ?wE242 (j + 1) [7, 8] (fun (_ : Unit) x => [(6, some (.lst ((tab (j + 2) (PBh c d j x)).map D.int), 9))]) (fun _ _ => True) () ?wa242 ?wb242 ?_ ?_ ?_; (case wa242 => (simp (disch := first | assumption | (simp; done) | omega) [tl, rk2, tn]; exact rfl)); (case wb242 => (simp (disch := first | assumption | (simp; done) | omega) [Zk.sets, tl, rk2, tn])))
      · trivial
      · intro _ x I2 hx _ hI2
        simp only [Zk.AllU, Zk.sets, List.set_cons_succ, List.set_cons_zero, List.set_nil] at *
        intro u7 u8
        refine W_tgV.mpr ⟨by simp, ?_⟩
        have o := h.on (n := j) (x := x) (by omega)
        have pb := PB_big h (n := j) (x := x) (by omega) (by omega)
        have hjb := h.cb (n := j) (by omega)
        have b1 := db x (by omega)
        have b2 := cb (j - x) (by omega)
        have ob : (d ^ x * c ^ (j - x)).natAbs < big := big_20000 (by
          refine Nat.le_trans ?_ hjb
          omega)
        have ob2 : (c ^ j - d ^ x * c ^ (j - x)).natAbs < big := big_20000 (by
          refine Nat.le_trans ?_ hjb
          omega)
        have p1 := law_power_W h.self (k := x) (by omega)
        have p2 := law_power_W h (k := j - x) (by omega)
        have p3 := law_power_W h (k := j) (by omega)
        have ejx : ((j - x : Nat) : Int) = (j : Int) - x := by omega
        rw [ejx] at p2
        (refine Zk.W_seqE (E1 := ?wE124) ?wa124 ?wb124; (case wa124 => (simp (disch := first | assumption | (simp; done) | omega) [p1, p2, b1, b2, dem1, -Int.natAbs_pow]; exact rfl)))
        generalize hon : d ^ x * c ^ (j - x) = on at *
        have t3 : atI (tab (j + 1) (PB c d j)) (x : Int) = some (PB c d j x) := tab_at (by omega) (by omega)
        have ti : ∀ f : Nat → Int, atI (tab (j + 2) f) (x : Int) = some (f x) := fun f => tab_at (by omega) (by omega)
        have ti2 : ∀ f : Nat → Int, atI (tab (j + 2) f) ((x : Int) + 1) = some (f (x + 1)) := fun f => by rw [tab_at (by omega) (by omega)]; congr 2
        have ix1 : ixN (j + 2) (x : Int) = some x := by rw [ixN_ok (by omega) (by omega)]; simp
        have ix2 : ixN (j + 2) ((x : Int) + 1) = some (x + 1) := by
          rw [ixN_ok (by omega) (by omega)]
          congr 1
        (refine Zk.W_seqE (E1 := ?wE125) ?wa125 ?wb125; (case wa125 => (simp (disch := first | assumption | (simp; done) | omega) [p3, t3, ti, tl, ix1, pb, ob2, dem1, ← List.map_set, tab_set, -Int.natAbs_pow]; exact rfl)))
        simp (disch := first | assumption | (simp; done) | omega) [ti2, t3, tl, ix2, pb, ob, ← List.map_set, tab_set, -Int.natAbs_pow]
        have fin := hI2 () trivial
        rw [← PBh_s, if_neg (show ¬ x + 1 = x by omega), hon] at fin
        apply fin
      intro _ _
      simp only [Zk.AllU, Zk.sets, List.set_cons_succ, List.set_cons_zero, List.set_nil] at *
      intro u7 u8
      have el : tab (j + 2) (PBh c d j (j + 1)) = tab (j + 1 + 1) (PB c d (j + 1)) := tab_ext fun x hx => PBh_last c d j x hx
      rw [el]
      have ec : (tri2 j : Int) + (j : Int) = (tri2 (j + 1) : Nat) := by rw [tri2]; omega
      simp (disch := first | assumption | (simp; done) | omega) [ec]
      apply hI () trivial
    intro _ _
    simp only [Zk.AllU, Zk.sets, List.set_cons_succ, List.set_cons_zero, List.set_nil] at *
    intro u5 u6 u7 u8
    have p4 := law_power_W h (k := tri2 n) (by have := tri2_le n hn; omega)
    (refine Zk.W_seqE (E1 := ?wE126) ?wa126 ?wb126; (case wa126 => (simp (disch := first | assumption | (simp; done) | omega) [p4, dem1]; exact rfl)))
    simp (disch := first | assumption | (simp; done) | omega) [W_lc0]
    rw [show (tab (n + 1) (PB c d n)).map D.int = (List.range (n + 1)).map fun x => D.int (PB c d n x) by unfold tab; rw [List.map_map]; rfl]
    refine W_lcY (fun x => fr (Rat.divInt (PB c d n x) (c ^ tri2 n))) (fun _ => imm_fr _) (by simp [sizeL]; omega) (fun x hx => ?_) fun acc ha hu => ?_
    · have fe := frac_eq (n := PB c d n x) h.tne (abs_lt_8000 (h.pa hT (by have := List.mem_range.mp hx; omega)) (by decide)) (abs_lt_8000 hT (by decide))
      simp (disch := first | assumption | (simp; done) | omega) [fe, dem1]
    · have im : imms ((List.range (n + 1)).map fun x => fr (Rat.divInt (PB c d n x) (c ^ tri2 n))) = true := imms_map' (fun _ => imm_fr _) _
      simp (disch := first | assumption | (simp; done) | omega) [ha, hu, im]
      exact hQ _ rfl
  obtain ⟨r, e, rfl⟩ := go
  exact e
end
end
end Zk
namespace Zk
noncomputable section
open PySem PySem.Spec PyProof.Rows L2
section
variable {m : Nat} {c : Nat → Nat → Int}
end
end
end Zk
namespace Zk
noncomputable section
open PySem PySem.Spec PyProof.Rows L2
section
variable {m : Nat} {st : List (Int × Int)}
end
end
end Zk
namespace Zk
noncomputable section
open PySem PySem.Spec PyProof.Rows L2
theorem sum_bd {α : Type} {f : α → Int} {a : List α} (B e : Nat) (h : ∀ p ∈ a, (f p).natAbs ≤ 2 ^ B) (hl : a.length ≤ 2 ^ e) : ((a.map f).sum).natAbs ≤ 2 ^ (e + B) := by
  rw [Nat.pow_add]
  exact Nat.le_trans (sums_abs h) (Nat.mul_le_mul_right _ hl)
section
variable {st : List (Int × Int)} {m k : Nat}
end
end
end Zk
namespace Zk
noncomputable section
open PySem PySem.Spec PyProof.Rows L2
def twoD (a b : Int) : D := .tup [.int a, .int b]
theorem minus_I {a b c d : Int} (ha : a.natAbs < big) (hb : b.natAbs < big) (hc : c.natAbs < big) (hd : d.natAbs < big) (h0 : b * d ≠ 0) (h1 : (b * d).natAbs < 2 ^ 8000) : S_minus [twoD a b, twoD c d] = some (fr (Rat.divInt (a * d - c * b) (b * d)), 9, .non) := by
  have go : W (S_minus [twoD a b, twoD c d]) fun r => r = (fr (Rat.divInt (a * d - c * b) (b * d)), 9, .non) := by
    refine W_O fun Q' hQ => ?_
    unfold S_minus S_minusb twoD
    have fe := fraction_eq (n := a * d - c * b) h0 h1
    simp (disch := first | assumption | (simp; done) | omega) [ent0_def, ha, hb, hc, hd, fe, dem1]
    exact hQ _ rfl
  obtain ⟨r, e, rfl⟩ := go
  exact e
theorem over_I {a b c d : Int} (ha : a.natAbs < big) (hb : b.natAbs < big) (hc : c.natAbs < big) (hd : d.natAbs < big) (h0 : b * c ≠ 0) (h1 : (b * c).natAbs < 2 ^ 8000) : S_over [twoD a b, twoD c d] = some (fr (Rat.divInt (a * d) (b * c)), 9, .non) := by
  have go : W (S_over [twoD a b, twoD c d]) fun r => r = (fr (Rat.divInt (a * d) (b * c)), 9, .non) := by
    refine W_O fun Q' hQ => ?_
    unfold S_over S_overb twoD
    have fe := fraction_eq (n := a * d) h0 h1
    simp (disch := first | assumption | (simp; done) | omega) [ent0_def, ha, hb, hc, hd, fe, dem1]
    exact hQ _ rfl
  obtain ⟨r, e, rfl⟩ := go
  exact e
theorem fr_two (q : Rat) : fr q = twoD q.num (q.den : Int) := rfl
theorem minus_R {f g : Rat} {a b c e : Nat} (hf : szR a b f) (hg : szR c e g) (ha : a ≤ 8000) (hb : b ≤ 8000) (hc : c ≤ 8000) (he : e ≤ 8000) (h : b + e ≤ 7999) : S_minus [fr f, fr g] = some (fr (f - g), 9, .non) := by
  rw [fr_two f, fr_two g, minus_I (abs_big hf.1 ha) (abs_big (i := (f.den : Int)) hf.2 hb) (abs_big hg.1 hc) (abs_big (i := (g.den : Int)) hg.2 he) (den_mul_ne f g) (abs_lt_8000 (mul_abs (x := (f.den : Int)) (y := (g.den : Int)) hf.2 hg.2) (by omega)), sub_div]
theorem div_div (f g : Rat) : Rat.divInt (f.num * g.den) ((f.den : Int) * g.num) = f / g := by
  rw [Rat.div_def, Rat.divInt_eq_div, Rat.intCast_mul, Rat.intCast_mul, Rat.div_def, Rat.inv_mul_rev]
  have e1 : (f.num : Rat) * (((f.den : Nat) : Int) : Rat)⁻¹ = f := by
    rw [← Rat.div_def, ← Rat.divInt_eq_div]; exact Rat.num_divInt_den f
  have e2 : (((g.den : Nat) : Int) : Rat) * (g.num : Rat)⁻¹ = g⁻¹ := by
    rw [← Rat.div_def, ← Rat.divInt_eq_div, ← Rat.inv_divInt]
    rw [Rat.num_divInt_den]
  calc (f.num : Rat) * (((g.den : Nat) : Int) : Rat) * ((g.num : Rat)⁻¹ * (((f.den : Nat) : Int) : Rat)⁻¹)
      = ((f.num : Rat) * (((f.den : Nat) : Int) : Rat)⁻¹) * ((((g.den : Nat) : Int) : Rat) * (g.num : Rat)⁻¹) := by
        rw [Rat.mul_comm (g.num : Rat)⁻¹, Rat.mul_assoc, Rat.mul_assoc, ← Rat.mul_assoc (((g.den : Nat) : Int) : Rat), Rat.mul_comm (((g.den : Nat) : Int) : Rat), Rat.mul_assoc]
    _ = f * g⁻¹ := by rw [e1, e2]
theorem over_R {f g : Rat} {a b c e : Nat} (hf : szR a b f) (hg : szR c e g) (h0 : g ≠ 0) (ha : a ≤ 8000) (hb : b ≤ 8000) (hc : c ≤ 8000) (he : e ≤ 8000) (h : b + c ≤ 7999) : S_over [fr f, fr g] = some (fr (f / g), 9, .non) := by
  have n0 : g.num ≠ 0 := fun e => h0 (Rat.num_eq_zero.mp e)
  rw [fr_two f, fr_two g, over_I (abs_big hf.1 ha) (abs_big (i := (f.den : Int)) hf.2 hb) (abs_big hg.1 hc) (abs_big (i := (g.den : Int)) hg.2 he) (Int.mul_ne_zero (den_ne f) n0) (abs_lt_8000 (mul_abs (x := (f.den : Int)) (y := g.num) hf.2 hg.1) (by omega)), div_div]
section
variable {c d : Int} {n : Nat}
def sPB (c d : Int) (n : Nat) : Int := sumN (n + 1) fun x => PB c d n x * (c ^ x * d ^ (n - x))
theorem divInt_mean (h : CD c d) : Rat.divInt (sPB c d n) (c ^ tri2 n * d ^ n) = 1 + (n : Rat) * Rat.divInt (c - d) d := by
  have m := PB_mean c d n
  have hd : (d : Rat) ≠ 0 := fun e => by have := Rat.intCast_inj.mp (e.trans Rat.intCast_zero.symm); have := h.d1; omega
  have hT : c ^ tri2 n * d ^ n ≠ 0 := Int.mul_ne_zero h.tne (by have := h.dp n; omega)
  have d0 : d ≠ 0 := by have := h.d1; omega
  have e1 : Rat.divInt (sPB c d n) (c ^ tri2 n * d ^ n) = Rat.divInt (sPB c d n * d) (c ^ tri2 n * d ^ n * d) := (Rat.divInt_mul_right d0).symm
  rw [e1, show sPB c d n * d = c ^ tri2 n * d ^ n * (d + n * (c - d)) from m, Rat.divInt_mul_left hT, Rat.divInt_eq_div, Rat.divInt_eq_div, Rat.intCast_add, Rat.intCast_mul, Rat.div_def, Rat.div_def, Rat.add_mul, Rat.mul_inv_cancel _ hd, Rat.mul_assoc, Rat.intCast_natCast]
theorem mean_told_by_W (h : CD c d) (hcd : d < c) (hn : n ≤ 40) (hT : (c ^ tri2 n).natAbs ≤ 2 ^ 6000) : S_mean_told_by [.int (n : Int), twoD c d] = some (fr (n : Rat), 9, .non) := by
  have go : W (S_mean_told_by [.int (n : Int), twoD c d]) fun r => r = (fr (n : Rat), 9, .non) := by
    refine W_O fun Q' hQ => ?_
    unfold S_mean_told_by S_mean_told_byb
    rw [W_mDef]
    have pb := parts_behind_W h hn
    have cA : ∀ j, j ≤ 40 → (c ^ j).natAbs ≤ 2 ^ 800 := fun j hj => h.ca hj
    have dA : ∀ j, j ≤ 40 → (d ^ j).natAbs ≤ 2 ^ 800 := fun j hj => h.da hj
    have c1 := cA 1 (by decide)
    have d1 := dA 1 (by decide)
    rw [Int.pow_one] at c1 d1
    have cbg := abs_big c1 (by decide)
    have dbg := abs_big d1 (by decide)
    have pc := powers_to_W (b := c) (n := n) (by omega) cbg fun j hj => abs_big (cA j (by omega)) (by decide)
    have pd := powers_to_W (b := d) (n := n) (by omega) dbg fun j hj => abs_big (dA j (by omega)) (by decide)
    have e0 : twoD c d = .tup [.int c, .int d] := rfl
    rw [← e0] at pb
    have it : imm (twoD c d) = true := by simp [twoD]
    have x0 : gIxd [twoD c d, .int 0] = some (.int c, 0) := by simp [twoD]
    have x1 : gIxd [twoD c d, .int 1] = some (.int d, 0) := by simp [twoD]
    (refine Zk.W_seqE (E1 := ?wE144) ?wa144 ?wb144; (case wa144 => (simp (disch := first | assumption | (simp; done) | omega) [ent0_def, pb, dem1, it]; exact rfl)))
    (refine Zk.W_seqE (E1 := ?wE145) ?wa145 ?wb145; (case wa145 => (simp (disch := first | assumption | (simp; done) | omega) [pc, dem1, it, x0]; exact rfl)))
    (refine Zk.W_seqE (E1 := ?wE146) ?wa146 ?wb146; (case wa146 => (simp (disch := first | assumption | (simp; done) | omega) [pd, dem1, it, x1]; exact rfl)))
    refine W_seqK fun Kq hKq => ?_
    simp (disch := first | assumption | (simp; done) | omega) [W_lc0, enD_tab]
    refine W_lcN (xs := List.range (n + 1)) (ι := fun k : Nat => pr ((k : Int), PB c d n k)) (fun x => PB c d n x * (c ^ x * d ^ (n - x))) (by simp [sizeL]; omega) (fun x hx => ?_) fun acc ha hu => ?_
    · have hx2 : x ≤ n := by have := List.mem_range.mp hx; omega
      have t1 : atI (tab (n + 1) fun j => c ^ j) (x : Int) = some (c ^ x) := tab_at (by omega) (by omega)
      have t2 : atI (tab (n + 1) fun j => d ^ j) ((n : Int) - x) = some (d ^ (n - x)) := by
        rw [tab_at (by omega) (by omega), show ((n : Int) - x).toNat = n - x by omega]
      have b1 := abs_big (h.pa hT hx2) (by decide)
      have b2 := abs_big (cA x (by omega)) (by decide)
      have b3 := abs_big (mul_abs (h.pa hT hx2) (cA x (by omega))) (by decide)
      have b4 := abs_big (dA (n - x) (by omega)) (by decide)
      simp (disch := first | assumption | (simp; done) | omega) [pr, t1, t2, b1, b2, b3, b4, Int.mul_assoc, -Int.natAbs_pow]
    have gs : gSum [.lst (((List.range (n + 1)).map fun x => PB c d n x * (c ^ x * d ^ (n - x))).map D.int)] = some (.int (sPB c d n), 9) := by
      rw [gSum_ints, sum_range]; rfl
    simp (disch := first | assumption | (simp; done) | omega) [ha, hu, gs, -List.map_map]
    refine hKq _ ?_
    clear hKq Kq
    have t3 : atI (tab (n + 1) fun j => d ^ j) (n : Int) = some (d ^ n) := by rw [tab_at (by omega) (by omega), Int.toNat_natCast]
    have b5 := abs_big hT (by decide)
    have b6 := abs_big (dA n (by omega)) (by decide)
    have tn : c ^ tri2 n * d ^ n ≠ 0 := Int.mul_ne_zero h.tne (by have := h.dp n; omega)
    have ta := mul_abs hT (dA n (by omega))
    have fe := fraction_eq (n := sPB c d n) tn (abs_lt_8000 ta (by decide))
    (refine Zk.W_seqE (E1 := ?wE147) ?wa147 ?wb147; (case wa147 => (simp (disch := first | assumption | (simp; done) | omega) [t3, b5, b6, fe, dem1, -Int.natAbs_pow]; exact rfl)))
    have sb : (sPB c d n).natAbs ≤ 2 ^ 7700 := by
      unfold sPB
      rw [← sum_range]
      exact sum_bd (a := List.range (n + 1)) (f := fun x => PB c d n x * (c ^ x * d ^ (n - x))) 7600 100 (fun x hx => by
        have hx2 : x ≤ n := by have := List.mem_range.mp hx; omega
        exact mul_abs (b := 800 + 800) (h.pa hT hx2) (mul_abs (cA x (by omega)) (dA (n - x) (by omega)))) (by
        rw [List.length_range]
        exact Nat.le_trans (by omega : n + 1 ≤ 2 ^ 6) (Nat.pow_le_pow_right (by decide) (by decide)))
    have dm := divInt_mean (n := n) h
    have sz1 := szR_divInt (a := 7700) (b := 6800) sb tn ta
    have one1 : D.tup [.int 1, .int 1] = fr 1 := rfl
    have szo : szR 1 1 (1 : Rat) := ⟨by decide, by decide⟩
    have m1 := minus_R sz1 szo (by decide) (by decide) (by decide) (by decide) (by decide)
    have m2 := minus_I (a := c) (b := d) (c := 1) (d := 1) cbg dbg one_big one_big (by rw [Int.mul_one]; have := h.d1; omega) (by rw [Int.mul_one]; exact abs_lt_8000 d1 (by decide))
    rw [Int.mul_one, Int.one_mul, Int.mul_one] at m2
    have e11 : twoD 1 1 = fr 1 := rfl
    rw [e11] at m2
    have cdb : (c - d).natAbs ≤ 2 ^ 801 := sub_abs c1 d1
    have d0 : d ≠ 0 := by have := h.d1; omega
    have sz2 := szR_divInt (a := 801) (b := 800) cdb d0 d1
    have hdr : (d : Rat) ≠ 0 := fun e => d0 (Rat.intCast_inj.mp (e.trans Rat.intCast_zero.symm))
    have ne2 : Rat.divInt (c - d) d ≠ 0 := fun e => by
      have h1 := Rat.div_mul_cancel (a := ((c - d : Int) : Rat)) (b := (d : Rat)) hdr
      rw [← Rat.divInt_eq_div, e, Rat.zero_mul] at h1
      have := Rat.intCast_inj.mp (h1.symm.trans Rat.intCast_zero.symm)
      omega
    rw [dm] at m1
    have e3 : (1 : Rat) + (n : Rat) * Rat.divInt (c - d) d - 1 = (n : Rat) * Rat.divInt (c - d) d := by
      rw [Rat.add_comm, Rat.sub_eq_add_neg, Rat.add_assoc, Rat.add_neg_cancel, Rat.add_zero]
    rw [e3] at m1
    have e4 : (n : Rat) * Rat.divInt (c - d) d = Rat.divInt (n * (c - d)) d := by
      rw [Rat.divInt_eq_div, Rat.divInt_eq_div, Rat.intCast_mul, Rat.div_def, Rat.div_def, Rat.mul_assoc, Rat.intCast_natCast]
    have sz3 : szR (6 + 801) 800 ((n : Rat) * Rat.divInt (c - d) d) := by
      rw [e4]
      exact szR_divInt (mul_abs (x := (n : Int)) (a := 6) (by rw [Int.natAbs_natCast]; exact Nat.le_trans hn (by decide)) cdb) d0 d1
    have ov := over_R sz3 sz2 ne2 (by decide) (by decide) (by decide) (by decide) (by decide)
    rw [Rat.mul_div_cancel ne2] at ov
    have ii : imm (twoD 1 1) = true := by simp [twoD]
    have et : D.tup [.int 1, .int 1] = fr 1 := rfl
    simp (disch := first | assumption | (simp; done) | omega) [et, m1, m2, ov, dem1, it, dm]
    exact hQ _ rfl
  obtain ⟨r, e, rfl⟩ := go
  exact e
end
end
end Zk
namespace Zk
noncomputable section
open PySem PySem.Spec PyProof.Rows L2
section
variable {n : Nat}
end
section
variable {p : Nat}
end
end
end Zk
namespace Zk
noncomputable section
open PySem PySem.Spec PyProof.Rows L2
section
variable {p : Nat}
end
end
end Zk
namespace Zk
noncomputable section
open PySem PySem.Spec PyProof.Rows L2
theorem fr_nd {q : Rat} {a : Int} {b : Nat} (h1 : q.num = a) (h2 : q.den = b) : fr q = .tup [.int a, .int (b : Int)] := by
  show D.tup [.int q.num, .int (q.den : Int)] = _
  rw [h1, h2]
end
end Zk
namespace Zk
noncomputable section
open PySem PySem.Spec PyProof.Rows L2
def S_timesb : Fs := (mRet (mCall none S_fraction (mAc (mMul (mIxd (mVar 0) (mC (.int 0))) (mIxd (mVar 1) (mC (.int 0)))) (mAc (mMul (mIxd (mVar 0) (mC (.int 1))) (mIxd (mVar 1) (mC (.int 1)))) mA0))))
def S_times : Mir := mDef none 2 S_timesb
def S_gone_onb : Fs := (mSeq (mSet 2 (mLc (mRg1 (mAdd (mOp gLen (mAc (mVar 0) mA0)) (mC (.int 1)))) [3] (tgV 3) mYes (mTup (mAc (mC (.int 0)) (mAc (mC (.int 1)) mA0))))) (mSeq (mFor (mEnu (mVar 0)) (tgT 2 (tgC (tgV 4) (tgC (tgV 5) tgN))) (mIfS (mB (mNe (mVar 5) (mTup (mAc (mC (.int 0)) (mAc (mC (.int 1)) mA0))))) (mSeq (mSet 6 (mCall none S_times (mAc (mVar 5) (mAc (mCall none S_fraction (mAc (mShl (mC (.int 1)) (mVar 1)) (mAc (mShl (mC (.int 1)) (mVar 4)) mA0))) mA0)))) (mSeq (mPut 2 (mVar 4) (mCall none S_plus (mAc (mIxd (mVar 2) (mVar 4)) (mAc (mCall none S_minus (mAc (mVar 5) (mAc (mVar 6) mA0))) mA0)))) (mPut 2 (mAdd (mVar 4) (mC (.int 1))) (mCall none S_plus (mAc (mIxd (mVar 2) (mAdd (mVar 4) (mC (.int 1)))) (mAc (mVar 6) mA0)))))) mNx)) (mRet (mVar 2))))
def S_gone_on : Mir := mDef none 7 S_gone_onb
def S_joined_chancesb : Fs := (mSeq (mSet 2 (mOp gMin (mAc (mVar 0) (mAc (mVar 1) mA0)))) (mSeq (mSet 3 (mAdd (mLc (mRg1 (mOp gMax (mAc (mVar 0) (mAc (mVar 1) mA0)))) [4] (tgV 4) mYes (mTup (mAc (mC (.int 0)) (mAc (mC (.int 1)) mA0)))) (mLst (mAc (mTup (mAc (mC (.int 1)) (mAc (mC (.int 1)) mA0))) mA0)))) (mSeq (mFor (mRg1 (mVar 2)) (tgV 5) (mSet 3 (mCall none S_gone_on (mAc (mVar 3) (mAc (mVar 5) mA0))))) (mRet (mOp gTuple (mAc (mVar 3) mA0))))))
def S_joined_chances : Mir := mDef none 6 S_joined_chancesb
def S_chances_of_joinedb : Fs := (mSeq (mSet 2 (mLc (mRg1 (mAdd (mAdd (mVar 0) (mVar 1)) (mC (.int 1)))) [3] (tgV 3) mYes (mTup (mAc (mC (.int 0)) (mAc (mC (.int 1)) mA0))))) (mSeq (mFor (mEnu (mCall none S_chances (mAc (mVar 0) mA0))) (tgT 2 (tgC (tgV 4) (tgC (tgV 5) tgN))) (mFor (mEnu (mCall none S_chances (mAc (mVar 1) mA0))) (tgT 2 (tgC (tgV 6) (tgC (tgV 7) tgN))) (mSeq (mSet 8 (mCall none S_times (mAc (mVar 5) (mAc (mVar 7) mA0)))) (mFor (mEnu (mCall none S_joined_chances (mAc (mVar 4) (mAc (mVar 6) mA0)))) (tgT 2 (tgC (tgV 9) (tgC (tgV 10) tgN))) (mPut 2 (mVar 9) (mCall none S_plus (mAc (mIxd (mVar 2) (mVar 9)) (mAc (mCall none S_times (mAc (mVar 8) (mAc (mVar 10) mA0))) mA0)))))))) (mRet (mOp gTuple (mAc (mVar 2) mA0)))))
def S_chances_of_joined : Mir := mDef none 11 S_chances_of_joinedb
def S_choiceb : Fs := (mSeq (mSet 2 (mC (.int 1))) (mSeq (mSet 3 (mC (.int 1))) (mSeq (mFor (mRg1 (mVar 1)) (tgV 4) (mSeq (mSet 2 (mMul (mVar 2) (mSub (mShl (mC (.int 1)) (mVar 0)) (mShl (mC (.int 1)) (mVar 4))))) (mSet 3 (mMul (mVar 3) (mSub (mShl (mC (.int 1)) (mAdd (mVar 4) (mC (.int 1)))) (mC (.int 1))))))) (mRet (mDiv (mVar 2) (mVar 3))))))
def S_choice : Mir := mDef none 5 S_choiceb
def S_mean_choiceb : Fs := (mSeq (mAsg (tgT 2 (tgC (tgV 2) (tgC (tgV 3) tgN))) (mCall none S_parts_behind (mAc (mVar 0) (mAc (mTup (mAc (mC (.int 2)) (mAc (mC (.int 1)) mA0))) mA0)))) (mRet (mCall none S_fraction (mAc (mOp gSum (mAc (mLc (mEnu (mVar 2)) [4, 5] (tgT 2 (tgC (tgV 4) (tgC (tgV 5) tgN))) mYes (mMul (mVar 5) (mCall none S_choice (mAc (mVar 4) (mAc (mVar 1) mA0))))) mA0)) (mAc (mVar 3) mA0)))))
def S_mean_choice : Mir := mDef none 6 S_mean_choiceb
def S_law_joined_chancesb : Fs := (mSeq (mSet 2 (mMul (mLst (mAc (mC (.int 0)) mA0)) (mAdd (mAdd (mVar 0) (mVar 1)) (mC (.int 1))))) (mSeq (mPut 2 (mOp gMax (mAc (mVar 0) (mAc (mVar 1) mA0))) (mC (.int 1))) (mSeq (mFor (mRg1 (mOp gMin (mAc (mVar 0) (mAc (mVar 1) mA0)))) (tgV 3) (mSeq (mSet 4 (mMul (mLst (mAc (mC (.int 0)) mA0)) (mAdd (mAdd (mVar 0) (mVar 1)) (mC (.int 1))))) (mSeq (mFor (mRg2 (mOp gMax (mAc (mVar 0) (mAc (mVar 1) mA0))) (mAdd (mAdd (mVar 0) (mVar 1)) (mC (.int 1)))) (tgV 5) (mIfS (mB (mNe (mIxd (mVar 2) (mVar 5)) (mC (.int 0)))) (mSeq (mSet 6 (mShl (mC (.int 1)) (mSub (mAdd (mC (.int 40)) (mVar 3)) (mVar 5)))) (mSeq (mPut 4 (mVar 5) (mAdd (mIxd (mVar 4) (mVar 5)) (mMul (mIxd (mVar 2) (mVar 5)) (mSub (mShl (mC (.int 1)) (mC (.int 40))) (mVar 6))))) (mPut 4 (mAdd (mVar 5) (mC (.int 1))) (mAdd (mIxd (mVar 4) (mAdd (mVar 5) (mC (.int 1)))) (mMul (mIxd (mVar 2) (mVar 5)) (mVar 6)))))) mNx)) (mMov 2 4)))) (mRet (mOp gTuple (mAc (mLc (mSq (mVar 2)) [7] (tgV 7) mYes (mCall none S_law_frac (mAc (mVar 7) (mAc (mShl (mC (.int 1)) (mMul (mC (.int 40)) (mOp gMin (mAc (mVar 0) (mAc (mVar 1) mA0))))) mA0)))) mA0))))))
def S_law_joined_chances : Mir := mDef none 8 S_law_joined_chancesb
def S_law_choiceb : Fs := (mSeq (mSet 2 (mC (.int 1))) (mSeq (mSet 3 (mC (.int 1))) (mSeq (mFor (mRg1 (mVar 1)) (tgV 4) (mSeq (mSet 2 (mMul (mVar 2) (mSub (mShl (mC (.int 1)) (mVar 0)) (mShl (mC (.int 1)) (mVar 4))))) (mSet 3 (mMul (mVar 3) (mSub (mShl (mC (.int 1)) (mAdd (mVar 4) (mC (.int 1)))) (mC (.int 1))))))) (mRet (mDiv (mVar 2) (mVar 3))))))
def S_law_choice : Mir := mDef none 5 S_law_choiceb
def S_law_setsb : Fs := (mSeq (mSet 2 (mLst (mAc (mC (.int 1)) mA0))) (mSeq (mFor (mRg1 (mVar 0)) (tgV 3) (mSet 2 (mAdd (mAdd (mLst (mAc (mC (.int 1)) mA0)) (mLc (mRg1 (mSub (mOp gLen (mAc (mVar 2) mA0)) (mC (.int 1)))) [4] (tgV 4) mYes (mAdd (mIxd (mVar 2) (mVar 4)) (mIxd (mVar 2) (mAdd (mVar 4) (mC (.int 1))))))) (mLst (mAc (mC (.int 1)) mA0))))) (mSeq (mIfS (mB (mGt (mVar 1) (mVar 0))) (mRet (mC (.int 0))) mNx) (mRet (mIxd (mVar 2) (mVar 1))))))
def S_law_sets : Mir := mDef none 5 S_law_setsb
def S_law_meanb : Fs := (mSeq (mSet 3 (mTup (mAc (mC (.int 0)) (mAc (mC (.int 1)) mA0)))) (mSeq (mFor (mRg1 (mOp gLen (mAc (mVar 0) mA0))) (tgV 4) (mSeq (mSet 5 (mSub (mCall none S_law_power (mAc (mVar 1) (mAc (mVar 4) mA0))) (mCall none S_law_power (mAc (mVar 2) (mAc (mVar 4) mA0))))) (mSet 3 (mCall none S_law_plus (mAc (mVar 3) (mAc (mCall none S_law_product (mAc (mIxd (mVar 0) (mVar 4)) (mAc (mCall none S_law_frac (mAc (mMul (mVar 5) (mVar 2)) (mAc (mMul (mCall none S_law_power (mAc (mVar 2) (mAc (mVar 4) mA0))) (mSub (mVar 1) (mVar 2))) mA0))) mA0))) mA0)))))) (mRet (mVar 3))))
def S_law_mean : Mir := mDef none 6 S_law_meanb
end
end Zk
namespace Zk.Bf
noncomputable section
open PySem PySem.Spec PyProof.Rows L2 Zk
theorem pw2 (x : Nat) : (2 : Int) ^ x = ((2 ^ x : Nat) : Int) := (Int.natCast_pow 2 x).symm
theorem pw_le {x y : Nat} (h : x ≤ y) : (2 : Int) ^ x ≤ 2 ^ y := by rw [pw2, pw2]; exact Int.ofNat_le.mpr (Nat.pow_le_pow_right (by decide) h)
/-- (2^x - 1) (2^x - 2) .. -/
def Fr (x : Nat) : Nat → Int
  | 0 => 1
  | r + 1 => Fr x r * (2 ^ x - 2 ^ r)
def Lr : Nat → Int
  | 0 => 1
  | r + 1 => Lr r * (2 ^ (r + 1) - 1)
def Gs : Nat → Nat → Int
  | _, 0 => 1
  | 0, _ + 1 => 0
  | x + 1, r + 1 => Gs x (r + 1) + 2 ^ x * Gs x r
theorem Gs_0 (x : Nat) : Gs x 0 = 1 := by cases x <;> rfl
theorem Fr_up (x : Nat) : ∀ r, Fr (x + 1) (r + 1) = 2 ^ r * (2 ^ (x + 1) - 1) * Fr x r
  | 0 => by simp [Fr]
  | r + 1 => by
    have h := Fr_up x r
    show Fr (x + 1) (r + 1) * (2 ^ (x + 1) - 2 ^ (r + 1)) = _
    rw [h]
    show _ = 2 ^ (r + 1) * (2 ^ (x + 1) - 1) * (Fr x r * (2 ^ x - 2 ^ r))
    rw [Int.pow_succ 2 r, Int.pow_succ 2 x]
    grind
theorem Fr_step (x r : Nat) : Fr (x + 1) (r + 1) = Fr x (r + 1) + 2 ^ x * (2 ^ (r + 1) - 1) * Fr x r := by
  rw [Fr_up]
  show _ = Fr x r * (2 ^ x - 2 ^ r) + _
  rw [Int.pow_succ 2 r, Int.pow_succ 2 x]
  grind
theorem Fr_zero : ∀ r, Fr 0 (r + 1) = 0
  | 0 => by simp [Fr]
  | r + 1 => by
    show Fr 0 (r + 1) * _ = 0
    rw [Fr_zero r, Int.zero_mul]
theorem Fr_L : ∀ x r, Fr x r = Lr r * Gs x r
  | x, 0 => by rw [Gs_0]; rfl
  | 0, r + 1 => by rw [Fr_zero]; show 0 = Lr (r + 1) * 0; rw [Int.mul_zero]
  | x + 1, r + 1 => by
    rw [Fr_step, Fr_L x (r + 1), Fr_L x r]
    show _ = Lr (r + 1) * (Gs x (r + 1) + 2 ^ x * Gs x r)
    show _ + _ * _ * _ = _
    have : Lr (r + 1) = Lr r * (2 ^ (r + 1) - 1) := rfl
    rw [this]
    grind
theorem Lr_pos : ∀ r, 1 ≤ Lr r
  | 0 => by decide
  | r + 1 => by
    have h1 := Lr_pos r
    have h2 : (2 : Int) ^ (r + 1) = 2 ^ r * 2 := Int.pow_succ 2 r
    have h3 : (1 : Int) ≤ 2 ^ r := Int.pow_pos (by decide)
    show 1 ≤ Lr r * (2 ^ (r + 1) - 1)
    have h4 : (1 : Int) ≤ 2 ^ (r + 1) - 1 := by omega
    have := Int.mul_le_mul h1 h4 (by decide) (by omega)
    omega
def Cn : Nat → Nat → Int
  | _, 0 => 1
  | 0, _ + 1 => 0
  | n + 1, r + 1 => Cn n r + Cn n (r + 1)
theorem Cn_0 (n : Nat) : Cn n 0 = 1 := by cases n <;> rfl
theorem PB_G : ∀ n r, sumN (n + 1) (fun x => PB 2 1 n x * Gs x r) = 2 ^ tri2 n * Cn n r
  | n, 0 => by
    rw [Cn_0, Int.mul_one, ← PB_one 2 1 n]
    exact sumN_congr fun x _ => by rw [Gs_0, Int.mul_one]
  | 0, r + 1 => by
    show 0 + PB 2 1 0 0 * 0 = _ * 0
    rw [Int.mul_zero, Int.mul_zero]; rfl
  | n + 1, r + 1 => by
    have h := PB_sum 2 1 (fun x => Gs x (r + 1)) n
    rw [h]
    have e : sumN (n + 1) (fun x => PB 2 1 n x * (((2 : Int) ^ n - 1 ^ x * 2 ^ (n - x)) * Gs x (r + 1) + 1 ^ x * 2 ^ (n - x) * Gs (x + 1) (r + 1))) = sumN (n + 1) fun x => 2 ^ n * (PB 2 1 n x * Gs x (r + 1)) + 2 ^ n * (PB 2 1 n x * Gs x r) := sumN_congr fun x hx => by
      have a1 : (2 : Int) ^ n = 2 ^ (n - x) * 2 ^ x := by rw [← Int.pow_add]; congr 1; omega
      have a2 : Gs (x + 1) (r + 1) = Gs x (r + 1) + 2 ^ x * Gs x r := rfl
      rw [Int.one_pow, a2, a1]
      grind
    rw [e, sumN_add, sumN_mul, sumN_mul, PB_G n (r + 1), PB_G n r]
    show _ = 2 ^ tri2 (n + 1) * (Cn n r + Cn n (r + 1))
    rw [tri2, Int.pow_add]
    grind
theorem Cn_gt : ∀ {n r : Nat}, n < r → Cn n r = 0
  | 0, r + 1, _ => rfl
  | n + 1, r + 1, h => by
    show Cn n r + Cn n (r + 1) = 0
    rw [Cn_gt (by omega), Cn_gt (by omega)]; rfl
theorem Cn_self : ∀ n, Cn n n = 1
  | 0 => rfl
  | n + 1 => by
    show Cn n n + Cn n (n + 1) = 1
    rw [Cn_self n, Cn_gt (by omega)]; rfl
theorem Gs_nn : ∀ x r, 0 ≤ Gs x r ∧ Gs x r ≤ 2 ^ (x * (x + 1))
  | x, 0 => by rw [Gs_0]; exact ⟨by decide, Int.pow_pos (by decide)⟩
  | 0, r + 1 => by show (0 : Int) ≤ 0 ∧ (0 : Int) ≤ 2 ^ (0 * (0 + 1)); decide
  | x + 1, r + 1 => by
    have h1 := Gs_nn x r
    have h2 := Gs_nn x (r + 1)
    have h3 : (1 : Int) ≤ 2 ^ x := Int.pow_pos (by decide)
    show 0 ≤ Gs x (r + 1) + 2 ^ x * Gs x r ∧ Gs x (r + 1) + 2 ^ x * Gs x r ≤ 2 ^ ((x + 1) * (x + 1 + 1))
    have h4 := Int.mul_nonneg (by omega : (0 : Int) ≤ 2 ^ x) h1.1
    have h5 := Int.mul_le_mul_of_nonneg_left h1.2 (by omega : (0 : Int) ≤ 2 ^ x)
    have h6 : (2 : Int) ^ ((x + 1) * (x + 1 + 1)) = 2 ^ x * 2 ^ (x * (x + 1)) * (4 * 2 ^ x) := by
      rw [show (x + 1) * (x + 1 + 1) = x + x * (x + 1) + (2 + x) by grind, Int.pow_add, Int.pow_add, Int.pow_add]; rfl
    have h7 : (1 : Int) ≤ 2 ^ (x * (x + 1)) := Int.pow_pos (by decide)
    rw [h6]
    generalize (2 : Int) ^ (x * (x + 1)) = P at *
    generalize (2 : Int) ^ x = Q at *
    have h8 : P ≤ Q * P := by have := Int.mul_le_mul_of_nonneg_right h3 (by omega : (0 : Int) ≤ P); omega
    have h9 : Q * P * 4 ≤ Q * P * (4 * Q) := Int.mul_le_mul_of_nonneg_left (by omega) (by omega)
    refine ⟨by omega, by omega⟩
theorem Fr_abs (x r : Nat) (hx : x ≤ 40) (hr : r ≤ 40) : (Fr x r).natAbs ≤ 2 ^ (40 * r) := by
  induction r with
  | zero => simp [Fr]
  | succ r ih =>
    show (Fr x r * (2 ^ x - 2 ^ r)).natAbs ≤ _
    refine Nat.le_trans (mul_abs (ih (by omega)) (b := 40) ?_) (Nat.pow_le_pow_right (by decide) (by omega))
    have h1 : (2 : Int) ^ x ≤ 2 ^ 40 := pw_le hx
    have h2 : (2 : Int) ^ r ≤ 2 ^ 40 := pw_le (by omega)
    have h3 : (0 : Int) < 2 ^ x := Int.pow_pos (by decide)
    have h4 : (0 : Int) < 2 ^ r := Int.pow_pos (by decide)
    have : ((2 : Int) ^ 40) = ((2 ^ 40 : Nat) : Int) := rfl
    omega
theorem Lr_abs (r : Nat) (hr : r ≤ 40) : (Lr r).natAbs ≤ 2 ^ (41 * r) := by
  induction r with
  | zero => decide
  | succ r ih =>
    show (Lr r * (2 ^ (r + 1) - 1)).natAbs ≤ _
    refine Nat.le_trans (mul_abs (ih (by omega)) (b := 41) ?_) (Nat.pow_le_pow_right (by decide) (by omega))
    have h1 : (2 : Int) ^ (r + 1) ≤ 2 ^ 41 := pw_le (by omega)
    have h3 : (0 : Int) < 2 ^ (r + 1) := Int.pow_pos (by decide)
    have : ((2 : Int) ^ 41) = ((2 ^ 41 : Nat) : Int) := rfl
    omega
/-- the law's mean of what the parts tell, by c and d -/
theorem PB_tell (c d : Int) (n : Nat) : sumN (n + 1) (fun x => PB c d n x * ((c ^ x - d ^ x) * d * d ^ (n - x))) = c ^ tri2 n * d ^ n * (n * (c - d)) := by
  have h1 := PB_one c d n
  have h2 := PB_mean c d n
  have e : sumN (n + 1) (fun x => PB c d n x * ((c ^ x - d ^ x) * d * d ^ (n - x))) = sumN (n + 1) fun x => d * (PB c d n x * (c ^ x * d ^ (n - x))) + (-(d ^ n * d)) * PB c d n x := sumN_congr fun x hx => by
    have a3 : d ^ n = d ^ (n - x) * d ^ x := by rw [← Int.pow_add]; congr 1; omega
    rw [a3]
    grind
  rw [e, sumN_add, sumN_mul, sumN_mul, h1]
  grind
end
end Zk.Bf
namespace Zk.Bf
noncomputable section
open PySem PySem.Spec PyProof.Rows L2 Zk
theorem shlN (m : Nat) (h : m ≤ 1000000) : gShl [.int 1, .int (m : Int)] = some (.int (2 ^ m)) := by
  have h2 : 0 ≤ (m : Int) ∧ (m : Int) ≤ 1000000 ∧ (1 : Int).natAbs < big := ⟨by omega, by omega, big0 (by decide)⟩
  simp only [gShl, gI2, if_pos h2, Int.toNat_natCast, Int.one_mul]
theorem choice_walk (M : Mir) (Mb : Fs) (hM : M = mDef none 5 Mb) (hb : Mb = S_choiceb) {x r : Nat} (hx : x ≤ 40) (hr : r ≤ 40) : M [.int (x : Int), .int (r : Int)] = some (.int (Gs x r), 9, .non) := by
  have go : W (M [.int (x : Int), .int (r : Int)]) fun q => q = (.int (Gs x r), 9, .non) := by
    refine W_O fun Q' hQ => ?_
    rw [hM, hb]
    unfold S_choiceb
    rw [W_mDef]
    (refine Zk.W_seqE (E1 := ?wE160) ?wa160 ?wb160; (case wa160 => (simp (disch := first | assumption | (simp; done) | omega) [ent0_def]; exact rfl)))
    (refine Zk.W_seqE (E1 := ?wE161) ?wa161 ?wb161; (case wa161 => (simp (disch := first | assumption | (simp; done) | omega) []; exact rfl)))
    have rk : rgOk (r : Int) := ⟨by omega, by omega⟩
    have f0 : Fr x 0 = 1 := rfl
    have l0 : Lr 0 = 1 := rfl
    (refine Zk.W_forN ?wE254 r [4] (fun (_ : Unit) j => [(2, some (.int (Fr x j), 9)), (3, some (.int (Lr j), 9))]) (fun _ _ => True) () ?wa254 ?wb254 ?_ ?_ ?_; (case wa254 => (simp (disch := first | assumption | (simp; done) | omega) [rk, f0, l0]; exact rfl)); (case wb254 => (simp (disch := first | assumption | (simp; done) | omega) [Zk.sets, rk, f0, l0])))
    · trivial
    · intro _ j I' hj _ hI
      simp only [Zk.AllU, Zk.sets, List.set_cons_succ, List.set_cons_zero, List.set_nil] at *
      intro u4
      refine W_tgV.mpr ⟨by simp, ?_⟩
      have b1 := abs_big (Fr_abs x j hx (by omega)) (by omega)
      have b2 := abs_big (Lr_abs j (by omega)) (by omega)
      have fin := hI () trivial
      have s1 := shlN x (by omega)
      have s2 := shlN j (by omega)
      have s3 := shlN (j + 1) (by omega)
      rw [show ((j + 1 : Nat) : Int) = (j : Int) + 1 by omega] at s3
      have f1 : Fr x (j + 1) = Fr x j * (2 ^ x - 2 ^ j) := rfl
      have l1 : Lr (j + 1) = Lr j * (2 ^ (j + 1) - 1) := rfl
      have d1 : ((2 : Int) ^ x - 2 ^ j).natAbs < big := big_20000 (by
        rw [pw2, pw2]
        have h1 : 2 ^ x ≤ 2 ^ 20000 := Nat.pow_le_pow_right (by decide) (by omega)
        have h2 : 2 ^ j ≤ 2 ^ 20000 := Nat.pow_le_pow_right (by decide) (by omega)
        generalize 2 ^ 20000 = B at *
        generalize 2 ^ x = A at *
        generalize 2 ^ j = C at *
        omega)
      have d2 : ((2 : Int) ^ (j + 1) - 1).natAbs < big := big_20000 (by
        rw [pw2]
        have h2 : 2 ^ (j + 1) ≤ 2 ^ 20000 := Nat.pow_le_pow_right (by decide) (by omega)
        have h3 : 0 < 2 ^ (j + 1) := Nat.pow_pos (by decide)
        generalize 2 ^ 20000 = B at *
        omega)
      rw [f1, l1] at fin
      generalize Fr x j = F at *
      generalize Lr j = L at *
      (refine Zk.W_seqE (E1 := ?wE162) ?wa162 ?wb162; (case wa162 => (simp (disch := first | assumption | (simp; done) | omega) [s1, s2, b1, d1, -Int.natAbs_pow]; exact rfl)))
      simp (disch := first | assumption | (simp; done) | omega) [s3, b2, d2, -Int.natAbs_pow]
      apply fin
    intro _ _
    simp only [Zk.AllU, Zk.sets, List.set_cons_succ, List.set_cons_zero, List.set_nil] at *
    intro u4
    have lp := Lr_pos r
    have ex : Fr x r / Lr r = Gs x r := by
      rw [Fr_L]
      exact Int.mul_ediv_cancel_left _ (by omega)
    have l0 : Lr r ≠ 0 := by omega
    have b1 := abs_big (Fr_abs x r hx hr) (by omega)
    have b2 := abs_big (Lr_abs r hr) (by omega)
    simp (disch := first | assumption | (simp; done) | omega) [ex]
    refine ⟨⟨by omega, ?_⟩, hQ _ rfl⟩
    have h1 := Lr_abs r hr
    have h2 : 2 ^ (41 * r) < 2 ^ 8000 := Nat.pow_lt_pow_right (by decide) (by omega)
    have h3 : ((2 : Int) ^ 8000) = ((2 ^ 8000 : Nat) : Int) := pw2 8000
    rw [h3]
    generalize 2 ^ 8000 = B at *
    omega
  obtain ⟨q, e, rfl⟩ := go
  exact e
theorem choice_W {x r : Nat} (hx : x ≤ 40) (hr : r ≤ 40) : S_choice [.int (x : Int), .int (r : Int)] = some (.int (Gs x r), 9, .non) := choice_walk _ _ rfl rfl hx hr
theorem law_choice_W {x r : Nat} (hx : x ≤ 40) (hr : r ≤ 40) : S_law_choice [.int (x : Int), .int (r : Int)] = some (.int (Gs x r), 9, .non) := choice_walk S_law_choice S_law_choiceb rfl rfl hx hr
theorem mean_choice_W {n r : Nat} (hn : n ≤ 40) (hr : r ≤ 40) : S_mean_choice [.int (n : Int), .int (r : Int)] = some (fr (Cn n r : Rat), 9, .non) := by
  have go : W (S_mean_choice [.int (n : Int), .int (r : Int)]) fun q => q = (fr (Cn n r : Rat), 9, .non) := by
    refine W_O fun Q' hQ => ?_
    unfold S_mean_choice S_mean_choiceb
    rw [W_mDef]
    have pb := parts_behind_W cd21 hn
    (refine Zk.W_seqE (E1 := ?wE163) ?wa163 ?wb163; (case wa163 => (simp (disch := first | assumption | (simp; done) | omega) [ent0_def, pb, dem1]; exact rfl)))
    simp (disch := first | assumption | (simp; done) | omega) [W_lc0, enD_tab]
    refine W_lcN (xs := List.range (n + 1)) (ι := fun k : Nat => pr ((k : Int), PB 2 1 n k)) (fun x => PB 2 1 n x * Gs x r) (by simp [sizeL]; omega) (fun x hx => ?_) fun acc ha hu => ?_
    · have hx2 : x ≤ n := by have := List.mem_range.mp hx; omega
      have b1 := PB_big cd21 hn hx2
      have b2 : (Gs x r).natAbs < big := big_20000 (by
        have h1 := Gs_nn x r
        rw [pw2] at h1
        have h2 : 2 ^ (x * (x + 1)) ≤ 2 ^ 20000 := Nat.pow_le_pow_right (by decide) (by
          have := Nat.mul_le_mul (show x ≤ 40 by omega) (show x + 1 ≤ 41 by omega)
          omega)
        generalize 2 ^ 20000 = B at *
        omega)
      have cw := choice_W (x := x) (r := r) (by omega) hr
      simp (disch := first | assumption | (simp; done) | omega) [pr, cw, b1, b2, dem1]
    have gs : gSum [.lst (((List.range (n + 1)).map fun x => PB 2 1 n x * Gs x r).map D.int)] = some (.int (2 ^ tri2 n * Cn n r), 9) := by
      rw [gSum_ints, sum_range, PB_G]
    have t0 : (2 : Int) ^ tri2 n ≠ 0 := cd21.tne
    have fe := fraction_eq (n := 2 ^ tri2 n * Cn n r) t0 (abs_lt_8000 (T21 hn) (by decide))
    rw [show Rat.divInt (2 ^ tri2 n * Cn n r) (2 ^ tri2 n) = (Cn n r : Rat) by
      rw [Rat.divInt_eq_div, Rat.intCast_mul, Rat.mul_comm, Rat.div_def, Rat.mul_assoc, Rat.mul_inv_cancel _ (fun e => t0 (Rat.intCast_inj.mp (e.trans Rat.intCast_zero.symm))), Rat.mul_one]] at fe
    simp (disch := first | assumption | (simp; done) | omega) [ha, hu, gs, fe, dem1, -List.map_map]
    exact hQ _ rfl
  obtain ⟨q, e, rfl⟩ := go
  exact e
theorem law_sets_W {n r : Nat} (hn : n ≤ 100) (hr : r ≤ 100) : S_law_sets [.int (n : Int), .int (r : Int)] = some (.int (Cn n r), 9, .non) := by
  have go : W (S_law_sets [.int (n : Int), .int (r : Int)]) fun q => q = (.int (Cn n r), 9, .non) := by
    refine W_O fun Q' hQ => ?_
    unfold S_law_sets S_law_setsb
    rw [W_mDef]
    (refine Zk.W_seqE (E1 := ?wE164) ?wa164 ?wb164; (case wa164 => (simp (disch := first | assumption | (simp; done) | omega) [ent0_def, uni]; exact rfl)))
    have rk : rgOk (n : Int) := ⟨by omega, by omega⟩
    have c0 : [D.int 1] = (tab (0 + 1) (Cn 0)).map D.int := rfl
    rw [c0]
    (refine Zk.W_forN ?wE255 n [3, 4] (fun (_ : Unit) j => [(2, some (.lst ((tab (j + 1) (Cn j)).map D.int), 9))]) (fun _ _ => True) () ?wa255 ?wb255 ?_ ?_ ?_; (case wa255 => (simp (disch := first | assumption | (simp; done) | omega) [rk]; exact rfl)); (case wb255 => (simp (disch := first | assumption | (simp; done) | omega) [Zk.sets, rk])))
    · trivial
    · intro _ j I' hj _ hI
      simp only [Zk.AllU, Zk.sets, List.set_cons_succ, List.set_cons_zero, List.set_nil] at *
      intro u3 u4
      refine W_tgV.mpr ⟨by simp, ?_⟩
      have fin := hI () trivial
      have tl : (tab (j + 1) (Cn j)).length = j + 1 := tab_len _ _
      have rj : rgOk (j : Int) := ⟨by omega, by omega⟩
      simp (disch := first | assumption | (simp; done) | omega) [W_lc0, tl, rj, rng0]
      refine W_lcN (xs := List.range j) (ι := fun k : Nat => D.int (k : Int)) (fun x => Cn j x + Cn j (x + 1)) (by simp [sizeL]; omega) (fun x hx => ?_) fun acc ha hu => ?_
      · have hx2 : x < j := List.mem_range.mp hx
        have t1 : atI (tab (j + 1) (Cn j)) (x : Int) = some (Cn j x) := tab_at (by omega) (by omega)
        have t2 : atI (tab (j + 1) (Cn j)) ((x : Int) + 1) = some (Cn j (x + 1)) := by rw [tab_at (by omega) (by omega)]; congr 2
        simp (disch := first | assumption | (simp; done) | omega) [t1, t2]
      · simp (disch := first | assumption | (simp; done) | omega) [ha, hu, -List.map_map]
        have e : D.int 1 :: (List.map D.int (List.map (fun x => Cn j x + Cn j (x + 1)) (List.range j)) ++ [D.int 1]) = (tab (j + 1 + 1) (Cn (j + 1))).map D.int := by
          unfold tab
          rw [List.range_succ, List.range_succ_eq_map, List.map_append, List.map_append, List.map_cons, List.map_cons, List.map_map, Cn_0]
          congr 2
          · rw [List.map_map, List.map_map]; rfl
          · show [D.int 1] = [D.int (Cn (j + 1) (j + 1))]
            rw [Cn_self]
        rw [e, lev_ints]
        apply fin
    intro _ _
    simp only [Zk.AllU, Zk.sets, List.set_cons_succ, List.set_cons_zero, List.set_nil] at *
    intro u3 u4
    by_cases c : n < r
    · have e := Cn_gt c
      rw [e] at hQ
      simp (disch := first | assumption | (simp; done) | omega) [c]
      exact hQ _ rfl
    · have t1 : atI (tab (n + 1) (Cn n)) (r : Int) = some (Cn n r) := tab_at (by omega) (by omega)
      simp (disch := first | assumption | (simp; done) | omega) [c, t1]
      exact hQ _ rfl
  obtain ⟨q, e, rfl⟩ := go
  exact e
end
end Zk.Bf
namespace Zk
noncomputable section
open PySem PySem.Spec PyProof.Rows L2
end
end Zk
namespace Zk.Bc
noncomputable section
open PySem PySem.Spec PyProof.Rows L2 Zk
end
end Zk.Bc
namespace Zk.Bc
noncomputable section
open PySem PySem.Spec PyProof.Rows L2 Zk
end
end Zk.Bc
namespace Zk.Bc
noncomputable section
open PySem PySem.Spec PyProof.Rows L2 Zk
theorem deqs_is : ∀ (P Q : List Int), deqs (P.map D.int) (Q.map D.int) = decide (P = Q)
  | [], [] => by simp
  | [], q :: Q => by simp
  | p :: P, [] => by simp
  | p :: P, q :: Q => by
    have := deqs_is P Q
    simp only [List.map_cons, deqs_cons, this, deq_int]
    rw [Bool.eq_iff_iff]
    simp
theorem dat_tI (n : Nat) (P : List Int) : dat (n + 1) (.tup (P.map D.int)) = true := by simp [dat]
end
end Zk.Bc
namespace Zk.Bf
noncomputable section
open PySem PySem.Spec PyProof.Rows L2 Zk Zk.Bc
def rowF (n : Nat) (f : Nat → Rat) : List D := (List.range n).map fun x => fr (f x)
@[simp] theorem rowF_len (n : Nat) (f : Nat → Rat) : (rowF n f).length = n := by simp [rowF]
theorem imms_rowF (n : Nat) (f : Nat → Rat) : imms (rowF n f) = true := imms_map' (fun _ => imm_fr _) _
theorem lev_rowF (n : Nat) (f : Nat → Rat) : lev (rowF n f) = 9 := by unfold lev; rw [imms_rowF]; rfl
theorem rowF_ext {n : Nat} {f g : Nat → Rat} (h : ∀ x, x < n → f x = g x) : rowF n f = rowF n g := List.map_congr_left fun x hx => by rw [h x (List.mem_range.mp hx)]
theorem rowF_set (n : Nat) (f : Nat → Rat) (j : Nat) (v : Rat) : (rowF n f).set j (fr v) = rowF n fun b => if b = j then v else f b := by
  refine List.ext_getElem? fun i => ?_
  rw [List.getElem?_set]
  unfold rowF
  rw [List.getElem?_map, List.getElem?_map, List.length_map, List.length_range]
  by_cases hi : i < n
  · rw [List.getElem?_range hi]
    by_cases c : j = i
    · subst c; simp [hi]
    · rw [if_neg c]; simp [Ne.symm c]
  · rw [List.getElem?_eq_none (by simpa using hi)]
    by_cases c : j = i
    · subst c; simp [hi]
    · rw [if_neg c]; rfl
theorem rowF_at {n : Nat} {f : Nat → Rat} {i : Int} (h0 : 0 ≤ i) (h : i < n) : atI (rowF n f) i = some (fr (f i.toNat)) := by
  unfold atI
  rw [ixN_ok h0 (by simpa using h), Option.bind_some]
  unfold rowF
  rw [List.getElem?_map, List.getElem?_range (by omega)]; rfl
theorem fr_inj {p q : Rat} (h : fr p = fr q) : p = q := by
  unfold fr at h
  have h1 : p.num = q.num := by injection h with h; injection h with h _; injection h
  have h2 : (p.den : Int) = (q.den : Int) := by injection h with h; injection h with _ h; injection h with h _; injection h
  exact Rat.ext h1 (by omega)
theorem ne_fr (p q : Rat) : gNe [fr p, fr q] = some (.bl (!decide (p = q))) := by
  have e : ∀ p, fr p = .tup ([p.num, (p.den : Int)].map D.int) := fun _ => rfl
  have i : ([p.num, (p.den : Int)] = [q.num, (q.den : Int)]) ↔ p = q := ⟨fun h => fr_inj (by rw [e, e, h]), fun h => by rw [h]⟩
  rw [e, e]
  simp only [gNe, show dat 64 (.tup ([p.num, (p.den : Int)].map D.int)) = true from dat_tI 63 _, show dat 64 (.tup ([q.num, (q.den : Int)].map D.int)) = true from dat_tI 63 _, and_self, if_true, deq_tup, deqs_is, decide_eq_decide.mpr i]
theorem times_W {f g : Rat} {a b c e : Nat} (hf : szR a b f) (hg : szR c e g) (ha : a ≤ 8000) (hb : b ≤ 3900) (hc : c ≤ 8000) (he : e ≤ 3900) : S_times [fr f, fr g] = some (fr (f * g), 9, .non) := by
  have go : W (S_times [fr f, fr g]) fun r => r = (fr (f * g), 9, .non) := by
    refine W_O fun Q' hQ => ?_
    unfold S_times S_timesb
    have n1 := abs_big hf.1 ha
    have n2 := abs_big hg.1 hc
    have d1 : f.den < big := abs_big (i := (f.den : Int)) (k := b) hf.2 (by omega)
    have d2 : g.den < big := abs_big (i := (g.den : Int)) (k := e) hg.2 (by omega)
    have dd : ((f.den : Int) * g.den).natAbs < 2 ^ 8000 := by
      have := mul_abs (x := (f.den : Int)) (y := (g.den : Int)) hf.2 hg.2
      exact Nat.lt_of_le_of_lt this (Nat.pow_lt_pow_right (by decide) (by omega))
    have fe := fraction_eq (n := f.num * g.num) (den_mul_ne f g) dd
    rw [mul_div] at fe
    have x0 : ∀ q : Rat, gIxd [fr q, .int 0] = some (.int q.num, 0) := fun q => rfl
    have x1 : ∀ q : Rat, gIxd [fr q, .int 1] = some (.int q.den, 0) := fun q => rfl
    simp (disch := first | assumption | (simp; done) | omega) [ent0_def, dem1, n1, n2, d1, d2, fe, x0, x1]
    exact hQ _ rfl
  obtain ⟨r, e, rfl⟩ := go
  exact e
def dy (k : Nat) (a : Int) : Rat := Rat.divInt a (2 ^ k)
theorem pw_ne (k : Nat) : (2 : Int) ^ k ≠ 0 := by have : (0 : Int) < 2 ^ k := Int.pow_pos (by decide); omega
theorem dy_0 (k : Nat) : dy k 0 = 0 := Rat.zero_divInt _
theorem dy_one (a : Int) : dy 0 a = (a : Rat) := by unfold dy; rw [Int.pow_zero, Rat.divInt_eq_div]; grind
theorem dy_add (k : Nat) (a b : Int) : dy k a + dy k b = dy k (a + b) := by
  unfold dy
  rw [Rat.divInt_eq_div, Rat.divInt_eq_div, Rat.divInt_eq_div, Rat.intCast_add, Rat.div_def, Rat.div_def, Rat.div_def, Rat.add_mul]
theorem dy_sub (k : Nat) (a b : Int) : dy k a - dy k b = dy k (a - b) := by
  have h := dy_add k (a - b) b
  rw [Int.sub_add_cancel] at h
  rw [← h]
  grind
theorem dy_mul (k l : Nat) (a b : Int) : dy k a * dy l b = dy (k + l) (a * b) := by
  unfold dy
  rw [Rat.divInt_mul_divInt, Int.pow_add]
theorem dy_up (k l : Nat) (a : Int) : dy k a = dy (k + l) (a * 2 ^ l) := by
  unfold dy
  rw [Int.pow_add, Rat.divInt_mul_right (pw_ne l)]
theorem dy_zero {k : Nat} {a : Int} : dy k a = 0 ↔ a = 0 := by
  unfold dy
  constructor
  · intro h
    rw [Rat.divInt_eq_div] at h
    have h2 : ((2 ^ k : Int) : Rat) ≠ 0 := fun e => pw_ne k (Rat.intCast_inj.mp (e.trans Rat.intCast_zero.symm))
    have h3 := Rat.div_mul_cancel (a := (a : Rat)) h2
    rw [h, Rat.zero_mul] at h3
    exact Rat.intCast_inj.mp (h3.symm.trans Rat.intCast_zero.symm)
  · rintro rfl; exact Rat.zero_divInt _
theorem dy_sz {k b : Nat} {a : Int} (h : a.natAbs ≤ 2 ^ b) : szR b k (dy k a) := szR_divInt h (pw_ne k) (by rw [Int.natAbs_pow]; exact Nat.le_refl _)
/-- 2 ^ j over 2 ^ z -/
theorem dy_on {k j z : Nat} (a : Int) (h : z ≤ 40 + j) : dy k a * Rat.divInt (2 ^ j) (2 ^ z) = dy (k + 40) (a * 2 ^ (40 + j - z)) := by
  unfold dy
  rw [Rat.divInt_mul_divInt]
  refine (Rat.divInt_eq_divInt_iff (Int.mul_ne_zero (pw_ne k) (pw_ne z)) (pw_ne _)).mpr ?_
  have e : (2 : Int) ^ j * 2 ^ (k + 40) = 2 ^ (40 + j - z) * (2 ^ k * 2 ^ z) := by
    rw [← Int.pow_add, ← Int.pow_add, ← Int.pow_add]
    congr 1
    omega
  rw [Int.mul_assoc, e, Int.mul_assoc]
def jT (hi : Nat) : Nat → Nat → Int
  | 0, y => if y = hi then 1 else 0
  | j + 1, y => jT hi j y * (2 ^ 40 - 2 ^ (40 + j - y)) + (if 1 ≤ y then jT hi j (y - 1) * 2 ^ (40 + j - (y - 1)) else 0)
theorem jT_outE (hi : Nat) : ∀ (j y : Nat), y < hi ∨ hi + j < y → jT hi j y = 0
  | 0, y, h => if_neg (by omega)
  | j + 1, y, h => by
    show jT hi j y * (2 ^ 40 - 2 ^ (40 + j - y)) + (if 1 ≤ y then jT hi j (y - 1) * 2 ^ (40 + j - (y - 1)) else 0) = 0
    rw [jT_outE hi j y (by omega), Int.zero_mul]
    split
    · rw [jT_outE hi j (y - 1) (by omega), Int.zero_mul]; rfl
    · rfl
theorem jT_out (hi j : Nat) {y : Nat} (h : y < hi ∨ hi + j < y) : jT hi j y = 0 := jT_outE hi j y h
theorem jT_abs {hi : Nat} : ∀ (j y : Nat), j ≤ hi → (jT hi j y).natAbs ≤ 2 ^ (41 * j)
  | 0, y, _ => by
    show (if y = hi then (1 : Int) else 0).natAbs ≤ _
    split <;> decide
  | j + 1, y, h => by
    have h1 := jT_abs (hi := hi) j y (by omega)
    have h2 := jT_abs (hi := hi) j (y - 1) (by omega)
    show (jT hi j y * (2 ^ 40 - 2 ^ (40 + j - y)) + (if 1 ≤ y then jT hi j (y - 1) * 2 ^ (40 + j - (y - 1)) else 0)).natAbs ≤ _
    have e : 2 ^ (41 * (j + 1)) = 2 ^ (41 * j) * 2 ^ 40 * 2 := by rw [show 41 * (j + 1) = 41 * j + (40 + 1) by omega, Nat.pow_add, Nat.mul_assoc]
    have g1 : (jT hi j y * (2 ^ 40 - 2 ^ (40 + j - y))).natAbs ≤ 2 ^ (41 * j) * 2 ^ 40 := by
      by_cases c : y < hi
      · rw [jT_out hi j (.inl c), Int.zero_mul]; exact Nat.zero_le _
      · rw [Int.natAbs_mul]
        refine Nat.mul_le_mul h1 ?_
        rw [pw2, pw2]
        have : 2 ^ (40 + j - y) ≤ 2 ^ 40 := Nat.pow_le_pow_right (by decide) (by omega)
        generalize 2 ^ (40 + j - y) = A at *
        omega
    have g2 : (if 1 ≤ y then jT hi j (y - 1) * 2 ^ (40 + j - (y - 1)) else 0).natAbs ≤ 2 ^ (41 * j) * 2 ^ 40 := by
      split
      · by_cases c : y - 1 < hi
        · rw [jT_out hi j (.inl c), Int.zero_mul]; exact Nat.zero_le _
        · rw [Int.natAbs_mul, Int.natAbs_pow]
          exact Nat.mul_le_mul h2 (Nat.pow_le_pow_right (by decide) (by omega))
      · exact Nat.zero_le _
    rw [e]
    generalize 2 ^ (41 * j) * 2 ^ 40 = B at *
    omega
def jH (t : Nat → Int) (j z y : Nat) : Int := (if y < z then t y * (2 ^ 40 - 2 ^ (40 + j - y)) else 0) + (if 1 ≤ y ∧ y ≤ z then t (y - 1) * 2 ^ (40 + j - (y - 1)) else 0)
theorem jH_from {t : Nat → Int} {j a : Nat} (h : ∀ y, y < a → t y = 0) (y : Nat) : jH t j a y = 0 := by
  unfold jH
  by_cases c : y < a
  · rw [if_pos c, h y c]
    split
    · rw [h (y - 1) (by omega)]; simp
    · simp
  · rw [if_neg c]
    split
    · rw [h (y - 1) (by omega)]; simp
    · rfl
theorem jH_s (t : Nat → Int) (j z : Nat) : (fun y => if y = z + 1 then (if z + 1 = z then jH t j z (z + 1) + t z * (2 ^ 40 - 2 ^ (40 + j - z)) else jH t j z (z + 1)) + t z * 2 ^ (40 + j - z) else if y = z then jH t j z z + t z * (2 ^ 40 - 2 ^ (40 + j - z)) else jH t j z y) = jH t j (z + 1) := by
  funext y
  rw [if_neg (show ¬ z + 1 = z by omega)]
  unfold jH
  by_cases h1 : y = z + 1
  · subst h1
    rw [if_pos rfl, if_neg (by omega), if_neg (by omega), if_neg (by omega), if_pos ⟨by omega, by omega⟩, Nat.add_sub_cancel]
    omega
  · rw [if_neg h1]
    by_cases h2 : y = z
    · subst h2
      rw [if_pos rfl, if_neg (Nat.lt_irrefl y), if_pos (Nat.lt_succ_self y)]
      by_cases c : 1 ≤ y
      · rw [if_pos (show 1 ≤ y ∧ y ≤ y from ⟨c, Nat.le_refl _⟩), if_pos (show 1 ≤ y ∧ y ≤ y + 1 from ⟨c, by omega⟩)]; omega
      · rw [if_neg (show ¬ (1 ≤ y ∧ y ≤ y) by omega), if_neg (show ¬ (1 ≤ y ∧ y ≤ y + 1) by omega)]; omega
    · rw [if_neg h2]
      congr 1
      · by_cases c : y < z
        · rw [if_pos c, if_pos (by omega)]
        · rw [if_neg c, if_neg (by omega)]
      · by_cases c : 1 ≤ y ∧ y ≤ z
        · rw [if_pos c, if_pos ⟨c.1, by omega⟩]
        · rw [if_neg c, if_neg (by omega)]
theorem jH_skip {t : Nat → Int} {j z : Nat} (h : t z = 0) : jH t j (z + 1) = jH t j z := by
  rw [← jH_s, h]
  funext y
  simp only [Int.zero_mul, Int.add_zero, ite_self]
  split
  · subst_vars; rfl
  · split
    · subst_vars; rfl
    · rfl
theorem jH_all {hi j z : Nat} (h : hi + j < z) (y : Nat) : jH (jT hi j) j z y = jT hi (j + 1) y := by
  unfold jH
  show _ = jT hi j y * (2 ^ 40 - 2 ^ (40 + j - y)) + (if 1 ≤ y then jT hi j (y - 1) * 2 ^ (40 + j - (y - 1)) else 0)
  congr 1
  · by_cases c : y < z
    · rw [if_pos c]
    · rw [if_neg c, jT_out hi j (.inr (by omega)), Int.zero_mul]
  · by_cases c : 1 ≤ y
    · rw [if_pos c]
      by_cases d : y ≤ z
      · rw [if_pos ⟨c, d⟩]
      · rw [if_neg (by omega), jT_out hi j (.inr (by omega)), Int.zero_mul]
    · rw [if_neg (by omega), if_neg c]
theorem jH_abs {t : Nat → Int} {j z : Nat} {b : Nat} (ht : ∀ y, (t y).natAbs ≤ 2 ^ b) (hj : j ≤ 40) (y : Nat) : (jH t j z y).natAbs ≤ 2 ^ (b + 90) := by
  have g1 : (if y < z then t y * (2 ^ 40 - 2 ^ (40 + j - y)) else 0).natAbs ≤ 2 ^ (b + 81) := by
    split
    · refine mul_abs (ht y) ?_
      have h1 : 2 ^ (40 + j - y) ≤ 2 ^ 80 := Nat.pow_le_pow_right (by decide) (by omega)
      rw [pw2, pw2]
      have h2 : (2 : Nat) ^ 40 ≤ 2 ^ 80 := by decide
      generalize 2 ^ (40 + j - y) = A at *
      omega
    · exact Nat.zero_le _
  have g2 : (if 1 ≤ y ∧ y ≤ z then t (y - 1) * 2 ^ (40 + j - (y - 1)) else 0).natAbs ≤ 2 ^ (b + 81) := by
    split
    · refine mul_abs (ht _) ?_
      rw [Int.natAbs_pow]
      exact Nat.pow_le_pow_right (by decide) (by omega)
    · exact Nat.zero_le _
  have e : 2 ^ (b + 90) = 2 ^ (b + 81) * 2 ^ 9 := by rw [← Nat.pow_add]
  unfold jH
  rw [e]
  generalize 2 ^ (b + 81) = B at *
  omega
end
end Zk.Bf
namespace Zk.Bf
noncomputable section
open PySem PySem.Spec PyProof.Rows L2 Zk Zk.Bc
theorem fr_z : D.tup [.int 0, .int 1] = fr 0 := rfl
theorem fr_o : D.tup [.int 1, .int 1] = fr 1 := rfl
theorem go_facts {K j z : Nat} {t a b : Int} (hK : K ≤ 800) (hj : j ≤ 20) (hz : z ≤ 40) (ht : t.natAbs ≤ 2 ^ 700) (ha : a.natAbs ≤ 2 ^ 790) (hb : b.natAbs ≤ 2 ^ 790) :
    S_times [fr (dy K t), fr (Rat.divInt (2 ^ j) (2 ^ z))] = some (fr (dy (K + 40) (t * 2 ^ (40 + j - z))), 9, .non) ∧
    S_minus [fr (dy K t), fr (dy (K + 40) (t * 2 ^ (40 + j - z)))] = some (fr (dy (K + 40) (t * (2 ^ 40 - 2 ^ (40 + j - z)))), 9, .non) ∧
    S_plus [fr (dy (K + 40) a), fr (dy (K + 40) (t * (2 ^ 40 - 2 ^ (40 + j - z))))] = some (fr (dy (K + 40) (a + t * (2 ^ 40 - 2 ^ (40 + j - z)))), 9, .non) ∧
    S_plus [fr (dy (K + 40) b), fr (dy (K + 40) (t * 2 ^ (40 + j - z)))] = some (fr (dy (K + 40) (b + t * 2 ^ (40 + j - z))), 9, .non) := by
  have zq : szR 700 800 (dy K t) := (dy_sz ht).mono (Nat.le_refl _) hK
  have zo : szR 100 100 (Rat.divInt (2 ^ j) (2 ^ z)) := (szR_divInt (a := j) (b := z) (by rw [Int.natAbs_pow]; exact Nat.le_refl _) (pw_ne z) (by rw [Int.natAbs_pow]; exact Nat.le_refl _)).mono (by omega) (by omega)
  have t1 := times_W zq zo (by decide) (by decide) (by decide) (by decide)
  rw [dy_on t (by omega)] at t1
  have hp : ((2 : Int) ^ (40 + j - z)).natAbs ≤ 2 ^ 60 := by rw [Int.natAbs_pow]; exact Nat.pow_le_pow_right (by decide) (by omega)
  have ep : dy K t = dy (K + 40) (t * 2 ^ 40) := dy_up K 40 t
  have h40 : ((2 : Int) ^ 40).natAbs ≤ 2 ^ 60 := by decide
  generalize (2 : Int) ^ (40 + j - z) = on at *
  generalize (2 : Int) ^ 40 = u at *
  have o1 : (t * on).natAbs ≤ 2 ^ 760 := mul_abs (a := 700) (b := 60) ht hp
  have o2 : (t * (u - on)).natAbs ≤ 2 ^ 761 := mul_abs (a := 700) (b := 61) ht (sub_abs h40 hp)
  have q1 : szR 760 840 (dy (K + 40) (t * on)) := (dy_sz o1).mono (Nat.le_refl _) (by omega)
  have q2 : szR 761 840 (dy (K + 40) (t * (u - on))) := (dy_sz o2).mono (Nat.le_refl _) (by omega)
  have qa : szR 790 840 (dy (K + 40) a) := (dy_sz ha).mono (Nat.le_refl _) (by omega)
  have qb : szR 790 840 (dy (K + 40) b) := (dy_sz hb).mono (Nat.le_refl _) (by omega)
  have m1 := minus_R zq q1 (by decide) (by decide) (by decide) (by decide) (by decide)
  have em : dy K t - dy (K + 40) (t * on) = dy (K + 40) (t * (u - on)) := by rw [ep, dy_sub, ← Int.mul_sub]
  rw [em] at m1
  have a1 := plus_W qa q2 (by decide) (by decide) (by decide) (by decide)
  have a2 := plus_W qb q1 (by decide) (by decide) (by decide) (by decide)
  rw [dy_add] at a1 a2
  exact ⟨t1, m1, a1, a2⟩
theorem gone_on_W {m j K : Nat} {t : Nat → Int} (hm : m ≤ 40) (hj : j ≤ 20) (hK : K ≤ 800) (ht : ∀ y, (t y).natAbs ≤ 2 ^ 700) : S_gone_on [.lst (rowF m fun x => dy K (t x)), .int (j : Int)] = some (.lst (rowF (m + 1) fun x => dy (K + 40) (jH t j m x)), 9, .non) := by
  have go : W (S_gone_on [.lst (rowF m fun x => dy K (t x)), .int (j : Int)]) fun r => r = (.lst (rowF (m + 1) fun x => dy (K + 40) (jH t j m x)), 9, .non) := by
    refine W_O fun Q' hQ => ?_
    unfold S_gone_on S_gone_onb
    rw [W_mDef, ent0_def]
    have ir := imms_rowF m fun x => dy K (t x)
    have rm : rgOk ((m : Int) + 1) := ⟨by omega, by omega⟩
    have tn : ((m : Int) + 1).toNat = m + 1 := by omega
    have z0 : rowF (m + 1) (fun _ => 0) = rowF (m + 1) fun x => dy (K + 40) (jH t j 0 x) := rowF_ext fun x _ => by
      rw [jH_from (fun y h => absurd h (Nat.not_lt_zero y)), dy_0]
    refine W_seqO (J := fun E => E = [some (.lst (rowF m fun x => dy K (t x)), 0), some (.int (j : Int), 0), some (.lst (rowF (m + 1) fun x => dy (K + 40) (jH t j 0 x)), 9), none, none, none, none]) ?_ ?_
    · intro J' hJ
      rw [← z0] at hJ
      simp (disch := first | assumption | (simp; done) | omega) [W_lc0, rm, tn, rng0]
      refine W_lcY (xs := List.range (m + 1)) (ι := fun k : Nat => D.int (k : Int)) (fun _ => fr 0) (fun _ => imm_fr _) (by simp [sizeL]; omega) (fun x hx => ?_) fun acc ha hu => ?_
      · simp (disch := first | assumption | (simp; done) | omega) [fr_z]
      · simp (disch := first | assumption | (simp; done) | omega) [ha, hu]
        exact hJ _ rfl
    rintro _ rfl
    have er := enD_rows m fun x => fr (dy K (t x))
    have er2 : enD 0 (rowF m fun x => dy K (t x)) = (List.range m).map fun c : Nat => D.tup [.int (c : Int), fr (dy K (t c))] := er
    (refine Zk.W_forQ ?wE266 m (fun c : Nat => D.tup [.int (c : Int), fr (dy K (t c))]) [4, 5, 6] (fun (_ : Unit) z => [(2, some (.lst (rowF (m + 1) fun x => dy (K + 40) (jH t j z x)), 9))]) (fun _ _ => True) () ?wa266 ?wb266 ?_ ?_ ?_; (case wa266 => (simp (disch := first | assumption | (simp; done) | omega) [er2, ir, -List.map_map]; exact rfl)); (case wb266 => (simp (disch := first | assumption | (simp; done) | omega) [Zk.sets, er2, ir, -List.map_map])))
    · trivial
    · intro _ z I' hz _ hI
      simp only [Zk.AllU, Zk.sets, List.set_cons_succ, List.set_cons_zero, List.set_nil] at *
      intro u4 u5 u6
      refine W_tg2 (by simp) (by simp) ?_
      have fin := hI () trivial
      by_cases c : t z = 0
      · have q0 : dy K (t z) = 0 := dy_zero.mpr c
        have n1 := ne_fr (dy K (t z)) 0
        rw [decide_eq_true q0] at n1
        rw [jH_skip c] at fin
        (refine Zk.W_ifF (E1 := ?wE176) ?wa176 ?wb176; (case wa176 => (simp (disch := first | assumption | (simp; done) | omega) [fr_z, n1]; exact rfl)))
        simp (disch := first | assumption | (simp; done) | omega) []
        apply fin
      · have q0 : ¬ dy K (t z) = 0 := fun e => c (dy_zero.mp e)
        have n1 := ne_fr (dy K (t z)) 0
        rw [decide_eq_false q0] at n1
        (refine Zk.W_ifT (E1 := ?wE177) ?wa177 ?wb177; (case wa177 => (simp (disch := first | assumption | (simp; done) | omega) [fr_z, n1]; exact rfl)))
        have s1 := shlN j (by omega)
        have s2 := shlN z (by omega)
        have f1 := fraction_eq (n := 2 ^ j) (pw_ne z) (abs_lt_8000 (k := z) (by rw [Int.natAbs_pow]; exact Nat.le_refl _) (by omega))
        have p1 : (2 ^ j : Int).natAbs < big := big_20000 (by rw [Int.natAbs_pow]; exact Nat.pow_le_pow_right (by decide) (by omega))
        have p2 : (2 ^ z : Int).natAbs < big := big_20000 (by rw [Int.natAbs_pow]; exact Nat.pow_le_pow_right (by decide) (by omega))
        obtain ⟨g1, g2, g3, g4⟩ := go_facts (K := K) (j := j) (z := z) (a := jH t j z z) (b := jH t j z (z + 1)) hK hj (by omega) (ht z) (jH_abs ht (by omega) z) (jH_abs ht (by omega) (z + 1))
        have hs := jH_s t j z
        (refine Zk.W_seqE (E1 := ?wE178) ?wa178 ?wb178; (case wa178 => (simp (disch := first | assumption | (simp; done) | omega) [s1, s2, f1, g1, p1, p2, dem1, -Int.natAbs_pow]; exact rfl)))
        generalize (2 : Int) ^ 40 = u at *
        have r1 : ∀ f : Nat → Rat, atI (rowF (m + 1) f) (z : Int) = some (fr (f z)) := fun f => rowF_at (by omega) (by omega)
        have r2 : ∀ f : Nat → Rat, atI (rowF (m + 1) f) ((z : Int) + 1) = some (fr (f (z + 1))) := fun f => by rw [rowF_at (by omega) (by omega)]; congr 3
        have ix1 : ixN (m + 1) (z : Int) = some z := by rw [ixN_ok (by omega) (by omega)]; simp
        have ix2 : ixN (m + 1) ((z : Int) + 1) = some (z + 1) := by
          rw [ixN_ok (by omega) (by omega)]
          congr 1
        (refine Zk.W_seqE (E1 := ?wE179) ?wa179 ?wb179; (case wa179 => (simp (disch := first | assumption | (simp; done) | omega) [r1, g2, g3, ix1, rowF_set, dem1]; exact rfl)))
        have nz : ¬ z + 1 = z := by omega
        simp (disch := first | assumption | (simp; done) | omega) [r2, nz, g4, ix2, rowF_set, dem1]
        have e : (rowF (m + 1) fun b => if b = z + 1 then dy (K + 40) (jH t j z (z + 1) + t z * 2 ^ (40 + j - z)) else if b = z then dy (K + 40) (jH t j z z + t z * (u - 2 ^ (40 + j - z))) else dy (K + 40) (jH t j z b)) = rowF (m + 1) fun x => dy (K + 40) (jH t j (z + 1) x) := rowF_ext fun b _ => by
          have hb := congrFun hs b
          rw [if_neg nz] at hb
          rw [← hb]
          by_cases c1 : b = z + 1
          · rw [if_pos c1, if_pos c1]
          · rw [if_neg c1, if_neg c1]
            by_cases c2 : b = z
            · rw [if_pos c2, if_pos c2]
            · rw [if_neg c2, if_neg c2]
        rw [e]
        apply fin
    intro _ _
    simp only [Zk.AllU, Zk.sets, List.set_cons_succ, List.set_cons_zero, List.set_nil] at *
    intro u4 u5 u6
    have ir2 := imms_rowF (m + 1) fun x => dy (K + 40) (jH t j m x)
    simp (disch := first | assumption | (simp; done) | omega) [ir2]
    exact hQ _ rfl
  obtain ⟨r, e, rfl⟩ := go
  exact e
/-- the chances of the joined counter -/
def jD (hi lo : Nat) : D := .tup (rowF (hi + lo + 1) fun x => dy (40 * lo) (jT hi lo x))
@[simp] theorem imm_jD (hi lo : Nat) : imm (jD hi lo) = true := by
  have := imms_rowF (hi + lo + 1) fun x => dy (40 * lo) (jT hi lo x)
  simp [jD, this]
theorem joined_W {x y hi lo : Nat} (e1 : min (x : Int) y = lo) (e2 : max (x : Int) y = hi) (hl : lo ≤ hi) (hh : hi ≤ 16) : S_joined_chances [.int (x : Int), .int (y : Int)] = some (jD hi lo, 9, .non) := by
  have go : W (S_joined_chances [.int (x : Int), .int (y : Int)]) fun r => r = (jD hi lo, 9, .non) := by
    refine W_O fun Q' hQ => ?_
    unfold S_joined_chances S_joined_chancesb
    rw [W_mDef]
    (refine Zk.W_seqE (E1 := ?wE180) ?wa180 ?wb180; (case wa180 => (simp (disch := first | assumption | (simp; done) | omega) [ent0_def, e1]; exact rfl)))
    have rh : rgOk (hi : Int) := ⟨by omega, by omega⟩
    have rl : rgOk (lo : Int) := ⟨by omega, by omega⟩
    have i0 : (rowF hi fun _ => 0) ++ [fr 1] = rowF (hi + 0 + 1) fun x => dy (40 * 0) (jT hi 0 x) := by
      unfold rowF
      rw [List.range_succ, List.map_append]
      congr 1
      · refine List.map_congr_left fun x hx => ?_
        have := List.mem_range.mp hx
        show fr 0 = fr (dy (40 * 0) (jT hi 0 x))
        rw [jT_out hi 0 (y := x) (by omega), dy_0]
      · show [fr 1] = [fr (dy 0 (if hi = hi then 1 else 0))]
        rw [if_pos rfl, dy_one]; rfl
    refine W_seqO (J := fun E => E = [some (.int (x : Int), 0), some (.int (y : Int), 0), some (.int (lo : Int), 9), some (.lst (rowF (hi + 0 + 1) fun x => dy (40 * 0) (jT hi 0 x)), 9), none, none]) ?_ ?_
    · intro J' hJ
      simp (disch := first | assumption | (simp; done) | omega) [W_lc0, e2, rh, rng0]
      refine W_lcY (xs := List.range hi) (ι := fun k : Nat => D.int (k : Int)) (fun _ => fr 0) (fun _ => imm_fr _) (by simp [sizeL]; omega) (fun x hx => ?_) fun acc ha hu => ?_
      · simp (disch := first | assumption | (simp; done) | omega) [fr_z]
      · have hx : acc.map (·.1) = rowF hi fun _ => 0 := ha
        simp (disch := first | assumption | (simp; done) | omega) [hx, hu, fr_o, i0, lev_rowF]
        exact hJ _ rfl
    rintro _ rfl
    (refine Zk.W_forN ?wE267 lo [5] (fun (_ : Unit) j => [(3, some (.lst (rowF (hi + j + 1) fun x => dy (40 * j) (jT hi j x)), 9))]) (fun _ _ => True) () ?wa267 ?wb267 ?_ ?_ ?_; (case wa267 => (simp (disch := first | assumption | (simp; done) | omega) [rl]; exact rfl)); (case wb267 => (simp (disch := first | assumption | (simp; done) | omega) [Zk.sets, rl])))
    · trivial
    · intro _ j I' hj _ hI
      simp only [Zk.AllU, Zk.sets, List.set_cons_succ, List.set_cons_zero, List.set_nil] at *
      intro u5
      refine W_tgV.mpr ⟨by simp, ?_⟩
      have g := gone_on_W (m := hi + j + 1) (j := j) (K := 40 * j) (t := jT hi j) (by omega) (by omega) (by omega) fun y => Nat.le_trans (jT_abs j y (by omega)) (Nat.pow_le_pow_right (by decide) (by omega))
      have eg : (rowF (hi + j + 1 + 1) fun x => dy (40 * j + 40) (jH (jT hi j) j (hi + j + 1) x)) = rowF (hi + (j + 1) + 1) fun x => dy (40 * (j + 1)) (jT hi (j + 1) x) := rowF_ext fun x _ => by rw [jH_all (by omega)]; rfl
      rw [eg] at g
      have ir := imms_rowF (hi + j + 1) fun x => dy (40 * j) (jT hi j x)
      simp (disch := first | assumption | (simp; done) | omega) [g, ir, dem1]
      apply hI () trivial
    intro _ _
    simp only [Zk.AllU, Zk.sets, List.set_cons_succ, List.set_cons_zero, List.set_nil] at *
    intro u5
    have ir := imms_rowF (hi + lo + 1) fun x => dy (40 * lo) (jT hi lo x)
    simp (disch := first | assumption | (simp; done) | omega) [ir]
    exact hQ _ rfl
  obtain ⟨r, e, rfl⟩ := go
  exact e
theorem law_joined_W {x y hi lo : Nat} (e1 : min (x : Int) y = lo) (e2 : max (x : Int) y = hi) (hl : lo ≤ hi) (hh : hi ≤ 16) : S_law_joined_chances [.int (x : Int), .int (y : Int)] = some (jD hi lo, 9, .non) := by
  have go : W (S_law_joined_chances [.int (x : Int), .int (y : Int)]) fun r => r = (jD hi lo, 9, .non) := by
    refine W_O fun Q' hQ => ?_
    unfold S_law_joined_chances S_law_joined_chancesb
    rw [W_mDef]
    have es : (x : Int) + y = (hi : Int) + lo := by omega
    have zr := zrow (w := hi + lo + 1) (by omega)
    rw [show ((hi + lo + 1 : Nat) : Int) = (hi : Int) + lo + 1 by omega] at zr
    have ix0 : ixN (hi + lo + 1) (hi : Int) = some hi := by rw [ixN_ok (by omega) (by omega)]; simp
    have tl : ∀ i f, (tab i f).length = i := tab_len
    have rl : rgOk (lo : Int) := ⟨by omega, by omega⟩
    (refine Zk.W_seqE (E1 := ?wE181) ?wa181 ?wb181; (case wa181 => (simp (disch := first | assumption | (simp; done) | omega) [ent0_def, es, zr, uni, -gMul_rep]; exact rfl)))
    have e0 : (tab (hi + lo + 1) fun b => if b = hi then 1 else 0) = tab (hi + lo + 1) (jT hi 0) := rfl
    (refine Zk.W_seqE (E1 := ?wE182) ?wa182 ?wb182; (case wa182 => (simp (disch := first | assumption | (simp; done) | omega) [e2, tl, ix0, ← List.map_set, tab_set, e0]; exact rfl)))
    (refine Zk.W_forN ?wE268 lo [3, 4, 5, 6] (fun (_ : Unit) j => [(2, some (.lst ((tab (hi + lo + 1) (jT hi j)).map D.int), 9))]) (fun _ _ => True) () ?wa268 ?wb268 ?_ ?_ ?_; (case wa268 => (simp (disch := first | assumption | (simp; done) | omega) [e1, rl]; exact rfl)); (case wb268 => (simp (disch := first | assumption | (simp; done) | omega) [Zk.sets, e1, rl])))
    · trivial
    · intro _ j I' hj _ hI
      simp only [Zk.AllU, Zk.sets, List.set_cons_succ, List.set_cons_zero, List.set_nil] at *
      intro u3 u4 u5 u6
      refine W_tgV.mpr ⟨by simp, ?_⟩
      have fin := hI () trivial
      have z0 : (tab (hi + lo + 1) fun _ => (0 : Int)) = tab (hi + lo + 1) (jH (jT hi j) j (hi + 0)) := tab_ext fun y _ => (jH_from (fun y h => jT_out hi j (.inl h)) y).symm
      rw [z0] at zr
      (refine Zk.W_seqE (E1 := ?wE183) ?wa183 ?wb183; (case wa183 => (simp (disch := first | assumption | (simp; done) | omega) [es, zr, uni, -gMul_rep]; exact rfl)))
      have r1 : rgOk (hi : Int) := ⟨by omega, by omega⟩
      have r2 : rgOk ((hi : Int) + lo + 1) := ⟨by omega, by omega⟩
      have te : ((hi : Int) + lo + 1 - hi).toNat = lo + 1 := by omega
      (refine Zk.W_forL ?wE269 (hi : Int) (lo + 1) [5, 6] (fun (_ : Unit) k => [(4, some (.lst ((tab (hi + lo + 1) (jH (jT hi j) j (hi + k))).map D.int), 9))]) (fun _ _ => True) () ?wa269 ?wb269 ?_ ?_ ?_; (case wa269 => (simp (disch := first | assumption | (simp; done) | omega) [e2, es, r1, r2, te]; exact rfl)); (case wb269 => (simp (disch := first | assumption | (simp; done) | omega) [Zk.sets, e2, es, r1, r2, te])))
      · trivial
      · intro _ k I2 hk _ hI2
        simp only [Zk.AllU, Zk.sets, List.set_cons_succ, List.set_cons_zero, List.set_nil] at *
        intro u5 u6
        refine W_tgV.mpr ⟨by simp, ?_⟩
        have fin2 := hI2 () trivial
        have a1 : atI (tab (hi + lo + 1) (jT hi j)) ((hi : Int) + k) = some (jT hi j (hi + k)) := by rw [tab_at (by omega) (by omega)]; congr 2
        by_cases c : jT hi j (hi + k) = 0
        · rw [show hi + (k + 1) = hi + k + 1 by omega, jH_skip c] at fin2
          simp (disch := first | assumption | (simp; done) | omega) [a1, c]
          apply fin2
        · have hkj : k ≤ j := by
            refine Nat.le_of_not_lt fun h => c (jT_out hi j (.inr (by omega)))
          have hs := jH_s (jT hi j) j (hi + k)
          have nz : ¬ hi + k + 1 = hi + k := by omega
          rw [if_neg nz] at hs
          have s1 := shlN (40 + j - (hi + k)) (by omega)
          rw [show ((40 + j - (hi + k) : Nat) : Int) = 40 + (j : Int) - ((hi : Int) + k) by omega] at s1
          have s40 := shlN 40 (by decide)
          have b1 := abs_big (jT_abs (hi := hi) j (hi + k) (by omega)) (by omega)
          have b2 : ((2 : Int) ^ (40 + j - (hi + k))).natAbs < big := big_20000 (by rw [Int.natAbs_pow]; exact Nat.pow_le_pow_right (by decide) (by omega))
          have b3 : ((2 : Int) ^ 40 - 2 ^ (40 + j - (hi + k))).natAbs < big := big_20000 (by
            rw [pw2, pw2]
            have h1 : 2 ^ (40 + j - (hi + k)) ≤ 2 ^ 20000 := Nat.pow_le_pow_right (by decide) (by omega)
            have h2 : 2 ^ 40 ≤ 2 ^ 20000 := Nat.pow_le_pow_right (by decide) (by decide)
            generalize 2 ^ 20000 = B at *
            generalize 2 ^ 40 = C at *
            generalize 2 ^ (40 + j - (hi + k)) = A at *
            omega)
          rw [show (2 : Int) ^ 40 = 1099511627776 by decide] at hs b3 s40
          generalize hon : (2 : Int) ^ (40 + j - (hi + k)) = on at *
          have r1 : ∀ f : Nat → Int, atI (tab (hi + lo + 1) f) ((hi : Int) + k) = some (f (hi + k)) := fun f => by rw [tab_at (by omega) (by omega)]; congr 2
          have r2 : ∀ f : Nat → Int, atI (tab (hi + lo + 1) f) ((hi : Int) + k + 1) = some (f (hi + k + 1)) := fun f => by rw [tab_at (by omega) (by omega)]; congr 2
          have ix1 : ixN (hi + lo + 1) ((hi : Int) + k) = some (hi + k) := by
            rw [ixN_ok (by omega) (by omega)]
            congr 1
          have ix2 : ixN (hi + lo + 1) ((hi : Int) + k + 1) = some (hi + k + 1) := by
            rw [ixN_ok (by omega) (by omega)]
            congr 1
          (refine Zk.W_ifT (E1 := ?wE184) ?wa184 ?wb184; (case wa184 => (simp (disch := first | assumption | (simp; done) | omega) [r1, c]; exact rfl)))
          (refine Zk.W_seqE (E1 := ?wE185) ?wa185 ?wb185; (case wa185 => (simp (disch := first | assumption | (simp; done) | omega) [s1]; exact rfl)))
          (refine Zk.W_seqE (E1 := ?wE186) ?wa186 ?wb186; (case wa186 => (simp (disch := first | assumption | (simp; done) | omega) [r1, s40, b1, b3, tl, ix1, ← List.map_set, tab_set]; exact rfl)))
          simp (disch := first | assumption | (simp; done) | omega) [r1, r2, nz, b1, b2, tl, ix2, ← List.map_set, tab_set]
          rw [show hi + (k + 1) = hi + k + 1 by omega, ← hs] at fin2
          apply fin2
      intro _ _
      simp only [Zk.AllU, Zk.sets, List.set_cons_succ, List.set_cons_zero, List.set_nil] at *
      intro u5 u6
      have eJ : tab (hi + lo + 1) (jH (jT hi j) j (hi + (lo + 1))) = tab (hi + lo + 1) (jT hi (j + 1)) := tab_ext fun y _ => jH_all (by omega) y
      rw [eJ]
      simp (disch := first | assumption | (simp; done) | omega) []
      apply fin
    intro _ _
    simp only [Zk.AllU, Zk.sets, List.set_cons_succ, List.set_cons_zero, List.set_nil] at *
    intro u3 u4 u5 u6
    have s1 := shlN (40 * lo) (by omega)
    rw [show ((40 * lo : Nat) : Int) = 40 * (lo : Int) by omega] at s1
    have b1 : (40 : Int).natAbs < big := big0 (by decide)
    have b2 : (lo : Int).natAbs < big := big0 (by omega)
    simp (disch := first | assumption | (simp; done) | omega) [W_lc0]
    rw [show (tab (hi + lo + 1) (jT hi lo)).map D.int = (List.range (hi + lo + 1)).map fun x => D.int (jT hi lo x) by unfold tab; rw [List.map_map]; rfl]
    refine W_lcY (fun x => fr (dy (40 * lo) (jT hi lo x))) (fun _ => imm_fr _) (by simp [sizeL]; omega) (fun x hx => ?_) fun acc ha hu => ?_
    · have fe := frac_eq (n := jT hi lo x) (pw_ne (40 * lo)) (abs_lt_8000 (jT_abs (hi := hi) lo x hl) (by omega)) (abs_lt_8000 (k := 40 * lo) (by rw [Int.natAbs_pow]; exact Nat.le_refl _) (by omega))
      have ed : Rat.divInt (jT hi lo x) (2 ^ (40 * lo)) = dy (40 * lo) (jT hi lo x) := rfl
      rw [ed] at fe
      simp (disch := first | assumption | (simp; done) | omega) [e1, s1, fe, dem1]
    · have im := imms_rowF (hi + lo + 1) fun x => dy (40 * lo) (jT hi lo x)
      have hx : acc.map (·.1) = rowF (hi + lo + 1) fun x => dy (40 * lo) (jT hi lo x) := ha
      simp (disch := first | assumption | (simp; done) | omega) [hx, hu, im]
      exact hQ _ rfl
  obtain ⟨r, e, rfl⟩ := go
  exact e
end
end Zk.Bf
namespace Zk.Bf
noncomputable section
open PySem PySem.Spec PyProof.Rows L2 Zk Zk.Bc
def PBN : Nat → List Nat
  | 0 => [1]
  | n + 1 => (List.range (n + 2)).map fun x => (if x ≤ n then (PBN n).getD x 0 * (2 ^ n - 2 ^ (n - x)) else 0) + (if 1 ≤ x then (PBN n).getD (x - 1) 0 * 2 ^ (n - (x - 1)) else 0)
def jTn (hi : Nat) : Nat → Nat → Nat
  | 0, y => if y = hi then 1 else 0
  | j + 1, y => jTn hi j y * (2 ^ 40 - 2 ^ (40 + j - y)) + (if 1 ≤ y then jTn hi j (y - 1) * 2 ^ (40 + j - (y - 1)) else 0)
def sumNat : Nat → (Nat → Nat) → Nat
  | 0, _ => 0
  | n + 1, f => sumNat n f + f n
def jn (n o z : Nat) : Nat := sumNat (n + 1) fun x => sumNat (o + 1) fun y => (PBN n).getD x 0 * (PBN o).getD y 0 * (jTn (max x y) (min x y) z * 2 ^ (160 - 40 * min x y))
theorem chk : ∀ n, n < 13 → ∀ o, o < 5 → ∀ z, z < n + o + 1 → jn n o z * 2 ^ tri2 (n + o) = (PBN (n + o)).getD z 0 * 2 ^ (tri2 n + tri2 o + 160) := by decide +kernel
theorem PBN_is : ∀ n x, x ≤ n → (((PBN n).getD x 0 : Nat) : Int) = PB 2 1 n x
  | 0, x, h => by
    have : x = 0 := by omega
    subst this; rfl
  | n + 1, x, h => by
    have e : (PBN (n + 1)).getD x 0 = (if x ≤ n then (PBN n).getD x 0 * (2 ^ n - 2 ^ (n - x)) else 0) + (if 1 ≤ x then (PBN n).getD (x - 1) 0 * 2 ^ (n - (x - 1)) else 0) := by
      show ((List.range (n + 2)).map _).getD x 0 = _
      rw [List.getD_eq_getElem?_getD, List.getElem?_map, List.getElem?_range (by omega)]
      rfl
    have i1 : ∀ y, y ≤ n → ((2 ^ n - 2 ^ (n - y) : Nat) : Int) = 2 ^ n - 1 ^ y * 2 ^ (n - y) := fun y hy => by
      have h1 : 2 ^ (n - y) ≤ 2 ^ n := Nat.pow_le_pow_right (by decide) (by omega)
      rw [Int.one_pow, Int.one_mul, pw2, pw2, Int.ofNat_sub h1]
    rw [e, Int.natCast_add]
    cases x with
    | zero =>
      rw [if_pos (Nat.zero_le n), if_neg (by omega), Int.natCast_mul, PBN_is n 0 (Nat.zero_le n), i1 0 (Nat.zero_le n)]
      show _ = PB 2 1 n 0 * (2 ^ n - 1 ^ 0 * 2 ^ n)
      rw [Nat.sub_zero]
      omega
    | succ x =>
      rw [if_pos (show 1 ≤ x + 1 by omega), Nat.add_sub_cancel, Int.natCast_mul, PBN_is n x (by omega)]
      show _ = (if x + 1 ≤ n then PB 2 1 n (x + 1) * (2 ^ n - 1 ^ (x + 1) * 2 ^ (n - (x + 1))) else 0) + (if x ≤ n then PB 2 1 n x * (1 ^ x * 2 ^ (n - x)) else 0)
      rw [if_pos (show x ≤ n by omega), ← pw2]
      congr 1
      · by_cases c : x + 1 ≤ n
        · rw [if_pos c, if_pos c, Int.natCast_mul, PBN_is n (x + 1) c, i1 (x + 1) c]
        · rw [if_neg c, if_neg c]; rfl
      · rw [Int.one_pow, Int.one_mul]
theorem jTn_is (hi : Nat) : ∀ j y, j ≤ hi → ((jTn hi j y : Nat) : Int) = jT hi j y
  | 0, y, _ => by
    show (((if y = hi then 1 else 0 : Nat)) : Int) = if y = hi then 1 else 0
    split <;> rfl
  | j + 1, y, h => by
    show ((jTn hi j y * (2 ^ 40 - 2 ^ (40 + j - y)) + (if 1 ≤ y then jTn hi j (y - 1) * 2 ^ (40 + j - (y - 1)) else 0) : Nat) : Int) = jT hi j y * (2 ^ 40 - 2 ^ (40 + j - y)) + (if 1 ≤ y then jT hi j (y - 1) * 2 ^ (40 + j - (y - 1)) else 0)
    rw [Int.natCast_add, Int.natCast_mul, jTn_is hi j y (by omega)]
    congr 1
    · by_cases c : y < hi
      · rw [jT_out hi j (.inl c), Int.zero_mul, Int.zero_mul]
      · have h1 : 2 ^ (40 + j - y) ≤ 2 ^ 40 := Nat.pow_le_pow_right (by decide) (by omega)
        rw [Int.ofNat_sub h1, ← pw2, ← pw2]
    · split
      · rw [Int.natCast_mul, jTn_is hi j (y - 1) (by omega), ← pw2]
      · rfl
theorem sumNat_is : ∀ n (f : Nat → Nat) (g : Nat → Int), (∀ x, x < n → (f x : Int) = g x) → (sumNat n f : Int) = sumN n g
  | 0, f, g, _ => rfl
  | n + 1, f, g, h => by
    show ((sumNat n f + f n : Nat) : Int) = sumN n g + g n
    rw [Int.natCast_add, sumNat_is n f g (fun x hx => h x (by omega)), h n (by omega)]
/-- the part that the places x and y give to the place z -/
def tm (n o x y z : Nat) : Int := PB 2 1 n x * PB 2 1 o y * (jT (max x y) (min x y) z * 2 ^ (160 - 40 * min x y))
theorem tm_sum {n o z : Nat} (hn : n < 13) (ho : o < 5) (hz : z < n + o + 1) : (sumN (n + 1) fun x => sumN (o + 1) fun y => tm n o x y z) * 2 ^ tri2 (n + o) = PB 2 1 (n + o) z * 2 ^ (tri2 n + tri2 o + 160) := by
  have h : ((jn n o z * 2 ^ tri2 (n + o) : Nat) : Int) = (((PBN (n + o)).getD z 0 * 2 ^ (tri2 n + tri2 o + 160) : Nat) : Int) := congrArg (fun m : Nat => (m : Int)) (chk n hn o ho z hz)
  rw [Int.natCast_mul, Int.natCast_mul, PBN_is _ _ (by omega), ← pw2, ← pw2] at h
  rw [← h]
  congr 1
  refine (sumNat_is _ _ _ fun x hx => ?_).symm
  refine sumNat_is _ _ _ fun y hy => ?_
  rw [Int.natCast_mul, Int.natCast_mul, Int.natCast_mul, PBN_is _ _ (by omega), PBN_is _ _ (by omega), jTn_is _ _ _ (by omega), ← pw2]
  rfl
theorem dy_eq {k l : Nat} {a b : Int} (h : a * 2 ^ l = b * 2 ^ k) : dy k a = dy l b := (Rat.divInt_eq_divInt_iff (pw_ne k) (pw_ne l)).mpr h
theorem sumN_abs {B : Nat} : ∀ (n : Nat) (f : Nat → Int), (∀ i, i < n → (f i).natAbs ≤ B) → (sumN n f).natAbs ≤ n * B
  | 0, f, _ => by show (0 : Int).natAbs ≤ _; exact Nat.zero_le _
  | n + 1, f, h => by
    have h1 := sumN_abs n f fun i hi => h i (by omega)
    have h2 := h n (by omega)
    show (sumN n f + f n).natAbs ≤ (n + 1) * B
    rw [Nat.succ_mul]
    omega
theorem tri_le : ∀ n, n ≤ 16 → tri2 n ≤ 120 := by decide
theorem PB_100 {n x : Nat} (hn : n ≤ 12) (hx : x ≤ n) : (PB 2 1 n x).natAbs ≤ 2 ^ 66 := by
  have h := PB_le cd21 hx
  have h2 : ∀ n, n ≤ 12 → tri2 n ≤ 66 := by decide
  have h3 : 2 ^ tri2 n ≤ 2 ^ 66 := Nat.pow_le_pow_right (by decide) (h2 n hn)
  rw [pw2] at h
  generalize 2 ^ 66 = B at *
  generalize 2 ^ tri2 n = C at *
  omega
theorem tm_abs {n o x y : Nat} (z : Nat) (hn : n ≤ 12) (ho : o ≤ 4) (hx : x ≤ n) (hy : y ≤ o) : (tm n o x y z).natAbs ≤ 2 ^ 456 := by
  unfold tm
  refine mul_abs (a := 66 + 66) (b := 164 + 160) (mul_abs (PB_100 hn hx) (PB_100 (by omega) hy)) (mul_abs (Nat.le_trans (jT_abs _ z (by omega)) (Nat.pow_le_pow_right (by decide) (by omega))) ?_)
  rw [Int.natAbs_pow]
  exact Nat.pow_le_pow_right (by decide) (by omega)
/-- after a of the one and b of the other, and c places -/
def acc3 (n o a b c z : Nat) : Int := (sumN a fun x => sumN (o + 1) fun y => tm n o x y z) + (sumN b fun y => tm n o a y z) + (if z < c then tm n o a b z else 0)
theorem acc3_abs {n o a b : Nat} (c z : Nat) (hn : n ≤ 12) (ho : o ≤ 4) (ha : a ≤ n) (hb : b ≤ o) : (acc3 n o a b c z).natAbs ≤ 2 ^ 470 := by
  have h1 : (sumN a fun x => sumN (o + 1) fun y => tm n o x y z).natAbs ≤ 12 * (5 * 2 ^ 456) := by
    refine Nat.le_trans (sumN_abs (B := 5 * 2 ^ 456) a _ fun x hx => ?_) (Nat.mul_le_mul_right _ (by omega))
    exact Nat.le_trans (sumN_abs (B := 2 ^ 456) (o + 1) _ fun y hy => tm_abs z hn ho (by omega) (by omega)) (Nat.mul_le_mul_right _ (by omega))
  have h2 : (sumN b fun y => tm n o a y z).natAbs ≤ 5 * 2 ^ 456 := Nat.le_trans (sumN_abs (B := 2 ^ 456) b _ fun y hy => tm_abs z hn ho ha (by omega)) (Nat.mul_le_mul_right _ (by omega))
  have h3 : (if z < c then tm n o a b z else 0).natAbs ≤ 2 ^ 456 := by
    split
    · exact tm_abs z hn ho ha hb
    · exact Nat.zero_le _
  have e : 2 ^ 470 = 2 ^ 456 * 2 ^ 14 := by rw [← Nat.pow_add]
  unfold acc3
  rw [e]
  generalize 2 ^ 456 = B at *
  omega
theorem chD_row (n : Nat) : chD 2 1 n = .tup (rowF (n + 1) fun x => dy (tri2 n) (PB 2 1 n x)) := rfl
theorem join_facts {n o a b c : Nat} (A : Int) (hn : n ≤ 12) (ho : o ≤ 4) (ha : a ≤ n) (hb : b ≤ o) (hA : A.natAbs ≤ 2 ^ 470) :
    S_times [fr (dy (tri2 n) (PB 2 1 n a)), fr (dy (tri2 o) (PB 2 1 o b))] = some (fr (dy (tri2 n + tri2 o) (PB 2 1 n a * PB 2 1 o b)), 9, .non) ∧
    S_times [fr (dy (tri2 n + tri2 o) (PB 2 1 n a * PB 2 1 o b)), fr (dy (40 * min a b) (jT (max a b) (min a b) c))] = some (fr (dy (tri2 n + tri2 o + 160) (tm n o a b c)), 9, .non) ∧
    S_plus [fr (dy (tri2 n + tri2 o + 160) A), fr (dy (tri2 n + tri2 o + 160) (tm n o a b c))] = some (fr (dy (tri2 n + tri2 o + 160) (A + tm n o a b c)), 9, .non) := by
  have t1 := tri_le n (by omega)
  have t2 := tri_le o (by omega)
  have p1 := PB_100 hn ha
  have p2 := PB_100 (n := o) (x := b) (by omega) hb
  have q1 : szR 66 120 (dy (tri2 n) (PB 2 1 n a)) := (dy_sz p1).mono (Nat.le_refl _) t1
  have q2 : szR 66 120 (dy (tri2 o) (PB 2 1 o b)) := (dy_sz p2).mono (Nat.le_refl _) t2
  have q3 : szR 132 240 (dy (tri2 n + tri2 o) (PB 2 1 n a * PB 2 1 o b)) := (dy_sz (mul_abs (a := 66) (b := 66) p1 p2)).mono (Nat.le_refl _) (by omega)
  have j1 : (jT (max a b) (min a b) c).natAbs ≤ 2 ^ 164 := Nat.le_trans (jT_abs _ c (by omega)) (Nat.pow_le_pow_right (by decide) (by omega))
  have q4 : szR 164 160 (dy (40 * min a b) (jT (max a b) (min a b) c)) := (dy_sz j1).mono (Nat.le_refl _) (by omega)
  have q5 : szR 470 400 (dy (tri2 n + tri2 o + 160) A) := (dy_sz hA).mono (Nat.le_refl _) (by omega)
  have q6 : szR 456 400 (dy (tri2 n + tri2 o + 160) (tm n o a b c)) := (dy_sz (tm_abs c hn ho ha hb)).mono (Nat.le_refl _) (by omega)
  have w1 := times_W q1 q2 (by decide) (by decide) (by decide) (by decide)
  rw [dy_mul] at w1
  have w2 := times_W q3 q4 (by decide) (by decide) (by decide) (by decide)
  have e2 : dy (tri2 n + tri2 o) (PB 2 1 n a * PB 2 1 o b) * dy (40 * min a b) (jT (max a b) (min a b) c) = dy (tri2 n + tri2 o + 160) (tm n o a b c) := by
    rw [dy_mul, dy_up _ (160 - 40 * min a b), show tri2 n + tri2 o + 40 * min a b + (160 - 40 * min a b) = tri2 n + tri2 o + 160 by omega]
    unfold tm
    rw [Int.mul_assoc (PB 2 1 n a * PB 2 1 o b)]
  rw [e2] at w2
  have w3 := plus_W q5 q6 (by decide) (by decide) (by decide) (by decide)
  rw [dy_add] at w3
  exact ⟨w1, w2, w3⟩
def jst (n o a b c : Nat) : List D := rowF (n + o + 1) fun z => dy (tri2 n + tri2 o + 160) (acc3 n o a b c z)
theorem imms_jst (n o a b c : Nat) : imms (jst n o a b c) = true := imms_rowF _ _
theorem enD_rowF (n : Nat) (f : Nat → Rat) : enD 0 (rowF n f) = (List.range n).map fun c : Nat => D.tup [.int (c : Int), fr (f c)] := enD_rows n fun x => fr (f x)
theorem jst_b {n o a b : Nat} (ho : b ≤ o) (ha : a ≤ n) : jst n o a b (a + b + 1) = jst n o a (b + 1) 0 := rowF_ext fun z _ => by
  unfold acc3
  rw [if_neg (Nat.not_lt_zero z)]
  have e : sumN (b + 1) (fun y => tm n o a y z) = sumN b (fun y => tm n o a y z) + tm n o a b z := rfl
  rw [e]
  by_cases c : z < a + b + 1
  · rw [if_pos c]; congr 1; omega
  · rw [if_neg c]
    have : tm n o a b z = 0 := by
      unfold tm
      rw [jT_out _ _ (.inr (by omega)), Int.zero_mul, Int.mul_zero]
    rw [this]; congr 1; omega
theorem jst_a {n o a : Nat} : jst n o a (o + 1) 0 = jst n o (a + 1) 0 0 := rowF_ext fun z _ => by
  unfold acc3
  rw [if_neg (Nat.not_lt_zero z), if_neg (Nat.not_lt_zero z)]
  have e : sumN (a + 1) (fun x => sumN (o + 1) fun y => tm n o x y z) = sumN a (fun x => sumN (o + 1) fun y => tm n o x y z) + sumN (o + 1) fun y => tm n o a y z := rfl
  rw [e]
  rw [show (sumN 0 fun y => tm n o (a + 1) y z) = 0 from rfl]
  congr 1
  omega
theorem jst_c (n o a b c : Nat) : (rowF (n + o + 1) fun z => if z = c then dy (tri2 n + tri2 o + 160) (acc3 n o a b c c + tm n o a b c) else dy (tri2 n + tri2 o + 160) (acc3 n o a b c z)) = jst n o a b (c + 1) := rowF_ext fun z _ => by
  by_cases h : z = c
  · subst h
    rw [if_pos rfl]
    unfold acc3
    rw [if_neg (Nat.lt_irrefl z), if_pos (Nat.lt_succ_self z)]
    congr 1; omega
  · rw [if_neg h]
    unfold acc3
    by_cases g : z < c
    · rw [if_pos g, if_pos (by omega)]
    · rw [if_neg g, if_neg (by omega)]
theorem acc3_end (n o z : Nat) : acc3 n o (n + 1) 0 0 z = sumN (n + 1) fun x => sumN (o + 1) fun y => tm n o x y z := by
  unfold acc3
  rw [if_neg (Nat.not_lt_zero z), show (sumN 0 fun y => tm n o (n + 1) y z) = 0 from rfl, Int.add_zero, Int.add_zero]
theorem jst_end {n o : Nat} (hn : n ≤ 12) (ho : o ≤ 4) : D.tup (jst n o (n + 1) 0 0) = chD 2 1 (n + o) := by
  have h : jst n o (n + 1) 0 0 = rowF (n + o + 1) fun x => dy (tri2 (n + o)) (PB 2 1 (n + o) x) := rowF_ext fun z hz => by
    rw [acc3_end]
    exact dy_eq (tm_sum (by omega) (by omega) hz)
  rw [h, chD_row]
theorem chances_joined_W {n o : Nat} (hn : n ≤ 12) (ho : o ≤ 4) : S_chances_of_joined [.int (n : Int), .int (o : Int)] = some (chD 2 1 (n + o), 9, .non) := by
  have go : W (S_chances_of_joined [.int (n : Int), .int (o : Int)]) fun r => r = (chD 2 1 (n + o), 9, .non) := by
    refine W_O fun Q' hQ => ?_
    unfold S_chances_of_joined S_chances_of_joinedb
    rw [W_mDef, ent0_def]
    have cn := chances_W (n := n) (by omega)
    have co := chances_W (n := o) (by omega)
    rw [chD_row] at cn
    have rm : rgOk ((n : Int) + o + 1) := ⟨by omega, by omega⟩
    have tn : ((n : Int) + o + 1).toNat = n + o + 1 := by omega
    have z0 : rowF (n + o + 1) (fun _ => 0) = jst n o 0 0 0 := rowF_ext fun x _ => by
      unfold acc3
      rw [if_neg (by omega)]
      exact (dy_0 _).symm
    refine W_seqO (J := fun E => E = [some (.int (n : Int), 0), some (.int (o : Int), 0), some (.lst (jst n o 0 0 0), 9), none, none, none, none, none, none, none, none]) ?_ ?_
    · intro J' hJ
      rw [← z0] at hJ
      simp (disch := first | assumption | (simp; done) | omega) [W_lc0, rm, tn, rng0]
      refine W_lcY (xs := List.range (n + o + 1)) (ι := fun k : Nat => D.int (k : Int)) (fun _ => fr 0) (fun _ => imm_fr _) (by simp [sizeL]; omega) (fun x hx => ?_) fun acc ha hu => ?_
      · simp (disch := first | assumption | (simp; done) | omega) [fr_z]
      · simp (disch := first | assumption | (simp; done) | omega) [ha, hu]
        exact hJ _ rfl
    rintro _ rfl
    have tn1 := imms_rowF (n + 1) fun x => dy (tri2 n) (PB 2 1 n x)
    have to1 := imms_rowF (o + 1) fun x => dy (tri2 o) (PB 2 1 o x)
    rw [chD_row] at co
    (refine Zk.W_forQ ?wE270 (n + 1) (fun c : Nat => D.tup [.int (c : Int), fr (dy (tri2 n) (PB 2 1 n c))]) [4, 5, 6, 7, 8, 9, 10] (fun (_ : Unit) a => [(2, some (.lst (jst n o a 0 0), 9))]) (fun _ _ => True) () ?wa270 ?wb270 ?_ ?_ ?_; (case wa270 => (simp (disch := first | assumption | (simp; done) | omega) [cn, enD_rowF, tn1, dem1, -List.map_map]; exact rfl)); (case wb270 => (simp (disch := first | assumption | (simp; done) | omega) [Zk.sets, cn, enD_rowF, tn1, dem1, -List.map_map])))
    · trivial
    · intro _ a I' ha _ hI
      simp only [Zk.AllU, Zk.sets, List.set_cons_succ, List.set_cons_zero, List.set_nil] at *
      intro u4 u5 u6 u7 u8 u9 u10
      refine W_tg2 (by simp) (by simp) ?_
      have fin := hI () trivial
      refine W_end ?_
      (refine Zk.W_forQ ?wE271 (o + 1) (fun c : Nat => D.tup [.int (c : Int), fr (dy (tri2 o) (PB 2 1 o c))]) [6, 7, 8, 9, 10] (fun (_ : Unit) b => [(2, some (.lst (jst n o a b 0), 9))]) (fun _ _ => True) () ?wa271 ?wb271 ?_ ?_ ?_; (case wa271 => (simp (disch := first | assumption | (simp; done) | omega) [co, enD_rowF, to1, dem1, -List.map_map]; exact rfl)); (case wb271 => (simp (disch := first | assumption | (simp; done) | omega) [Zk.sets, co, enD_rowF, to1, dem1, -List.map_map])))
      · trivial
      · intro _ b I2 hb _ hI2
        simp only [Zk.AllU, Zk.sets, List.set_cons_succ, List.set_cons_zero, List.set_nil] at *
        intro u6 u7 u8 u9 u10
        refine W_tg2 (by simp) (by simp) ?_
        have fin2 := hI2 () trivial
        have f0 := join_facts (n := n) (o := o) (a := a) (b := b) (c := 0) 0 hn ho (by omega) (by omega) (by decide)
        (refine Zk.W_seqE (E1 := ?wE187) ?wa187 ?wb187; (case wa187 => (simp (disch := first | assumption | (simp; done) | omega) [f0.1, dem1]; exact rfl)))
        refine W_end ?_
        have jw := joined_W (x := a) (y := b) (hi := max a b) (lo := min a b) (by omega) (by omega) (by omega) (by omega)
        have ij := imms_rowF (max a b + min a b + 1) fun x => dy (40 * min a b) (jT (max a b) (min a b) x)
        unfold jD at jw
        (refine Zk.W_forQ ?wE272 (max a b + min a b + 1) (fun c : Nat => D.tup [.int (c : Int), fr (dy (40 * min a b) (jT (max a b) (min a b) c))]) [9, 10] (fun (_ : Unit) c => [(2, some (.lst (jst n o a b c), 9))]) (fun _ _ => True) () ?wa272 ?wb272 ?_ ?_ ?_; (case wa272 => (simp (disch := first | assumption | (simp; done) | omega) [jw, enD_rowF, ij, dem1, -List.map_map]; exact rfl)); (case wb272 => (simp (disch := first | assumption | (simp; done) | omega) [Zk.sets, jw, enD_rowF, ij, dem1, -List.map_map])))
        · trivial
        · intro _ c I3 hc _ hI3
          simp only [Zk.AllU, Zk.sets, List.set_cons_succ, List.set_cons_zero, List.set_nil] at *
          intro u9 u10
          refine W_tg2 (by simp) (by simp) ?_
          have fin3 := hI3 () trivial
          obtain ⟨_, f2, f3⟩ := join_facts (n := n) (o := o) (a := a) (b := b) (c := c) (acc3 n o a b c c) hn ho (by omega) (by omega) (acc3_abs c c hn ho (by omega) (by omega))
          have r1 : atI (jst n o a b c) (c : Int) = some (fr (dy (tri2 n + tri2 o + 160) (acc3 n o a b c c))) := rowF_at (by omega) (by omega)
          have ix1 : ixN (n + o + 1) (c : Int) = some c := by rw [ixN_ok (by omega) (by omega)]; simp
          have jl : (jst n o a b c).length = n + o + 1 := rowF_len _ _
          have js : (jst n o a b c).set c (fr (dy (tri2 n + tri2 o + 160) (acc3 n o a b c c + tm n o a b c))) = jst n o a b (c + 1) := (rowF_set _ _ _ _).trans (jst_c n o a b c)
          simp (disch := first | assumption | (simp; done) | omega) [r1, f2, f3, ix1, jl, js, dem1]
          apply fin3
        intro _ _
        simp only [Zk.AllU, Zk.sets, List.set_cons_succ, List.set_cons_zero, List.set_nil] at *
        intro u9 u10
        rw [show max a b + min a b + 1 = a + b + 1 by omega, jst_b (by omega) (by omega)]
        simp (disch := first | assumption | (simp; done) | omega) []
        apply fin2
      intro _ _
      simp only [Zk.AllU, Zk.sets, List.set_cons_succ, List.set_cons_zero, List.set_nil] at *
      intro u6 u7 u8 u9 u10
      rw [jst_a]
      simp (disch := first | assumption | (simp; done) | omega) []
      apply fin
    intro _ _
    simp only [Zk.AllU, Zk.sets, List.set_cons_succ, List.set_cons_zero, List.set_nil] at *
    intro u4 u5 u6 u7 u8 u9 u10
    have ie := imms_jst n o (n + 1) 0 0
    simp (disch := first | assumption | (simp; done) | omega) [ie]
    rw [jst_end hn ho]
    exact hQ _ rfl
  obtain ⟨r, e, rfl⟩ := go
  exact e
end
end Zk.Bf
namespace Zk.Bf
noncomputable section
open PySem PySem.Spec PyProof.Rows L2 Zk Zk.Bc
theorem divInt_add_same (a b e : Int) : Rat.divInt a e + Rat.divInt b e = Rat.divInt (a + b) e := by
  rw [Rat.divInt_eq_div, Rat.divInt_eq_div, Rat.divInt_eq_div, Rat.intCast_add, Rat.div_def, Rat.div_def, Rat.div_def, Rat.add_mul]
section
variable {c d : Int} {n : Nat}
theorem CD.c20p (h : CD c d) (k : Nat) : (c ^ k).natAbs ≤ 2 ^ (20 * k) := by
  rw [Int.natAbs_pow, Nat.pow_mul]
  exact Nat.pow_le_pow_left (by have := h.c20; have := h.d1; have := h.dc; omega) k
theorem tri66 : ∀ n, n ≤ 12 → tri2 n ≤ 66 := by decide
/-- a part of the law's mean -/
def tlP (c d : Int) (n x : Nat) : Int := PB c d n x * ((c ^ x - d ^ x) * d * d ^ (n - x))
theorem tlP_abs (h : CD c d) (hn : n ≤ 12) {x : Nat} (hx : x ≤ n) : (tlP c d n x).natAbs ≤ 2 ^ 2100 := by
  have h1 := PB_le h hx
  have t := tri66 n hn
  have hT : (c ^ tri2 n).natAbs ≤ 2 ^ 1320 := Nat.le_trans (CD.c20p h _) (Nat.pow_le_pow_right (by decide) (by omega))
  have hP : (PB c d n x).natAbs ≤ 2 ^ 1320 := by
    refine Nat.le_trans ?_ hT
    omega
  have hc : ∀ k, k ≤ 12 → (c ^ k).natAbs ≤ 2 ^ 240 := fun k hk => Nat.le_trans (CD.c20p h _) (Nat.pow_le_pow_right (by decide) (by omega))
  have hd : ∀ k, k ≤ 12 → (d ^ k).natAbs ≤ 2 ^ 240 := fun k hk => Nat.le_trans (CD.c20p h.self _) (Nat.pow_le_pow_right (by decide) (by omega))
  have hd1 := hd 1 (by decide)
  rw [Int.pow_one] at hd1
  have := mul_abs hP (mul_abs (mul_abs (sub_abs (hc x (by omega)) (hd x (by omega))) hd1) (hd (n - x) (by omega)))
  exact Nat.le_trans this (Nat.pow_le_pow_right (by decide) (by decide))
def tlD (c d : Int) (n : Nat) : Int := c ^ tri2 n * d ^ n * (c - d)
theorem tlD_ne (h : CD c d) (hcd : d < c) : tlD c d n ≠ 0 := Int.mul_ne_zero (Int.mul_ne_zero h.tne (by have := h.dp n; omega)) (by omega)
theorem tlD_abs (h : CD c d) (hn : n ≤ 12) : (tlD c d n).natAbs ≤ 2 ^ 1600 := by
  have t := tri66 n hn
  have h1 := Nat.le_trans (CD.c20p h (tri2 n)) (Nat.pow_le_pow_right (by decide) (by omega : 20 * tri2 n ≤ 1320))
  have h2 := Nat.le_trans (CD.c20p h.self n) (Nat.pow_le_pow_right (by decide) (by omega : 20 * n ≤ 240))
  have h3 : (c - d).natAbs ≤ 2 ^ 20 := by have := h.c20; have := h.d1; have := h.dc; omega
  exact Nat.le_trans (mul_abs (mul_abs h1 h2) h3) (Nat.pow_le_pow_right (by decide) (by decide))
theorem ring1 (P t d y z w : Int) {e : Int} : P * (t * d) * (w * (y * z) * e) = P * (t * d * y) * (w * (z * e)) := by grind
theorem mean_facts (h : CD c d) (hcd : d < c) (hn : n ≤ 12) {x : Nat} (hx2 : x ≤ n) :
    S_law_frac [.int ((c ^ x - d ^ x) * d), .int (d ^ x * (c - d))] = some (fr (Rat.divInt ((c ^ x - d ^ x) * d) (d ^ x * (c - d))), 0, .non) ∧
    S_law_product [fr (Rat.divInt (PB c d n x) (c ^ tri2 n)), fr (Rat.divInt ((c ^ x - d ^ x) * d) (d ^ x * (c - d)))] = some (fr (Rat.divInt (tlP c d n x) (tlD c d n)), 9, .non) ∧
    S_law_plus [fr (Rat.divInt (sumN x (tlP c d n)) (tlD c d n)), fr (Rat.divInt (tlP c d n x) (tlD c d n))] = some (fr (Rat.divInt (sumN (x + 1) (tlP c d n)) (tlD c d n)), 9, .non) ∧
    (c ^ x).natAbs < big ∧ (d ^ x).natAbs < big ∧ (c ^ x - d ^ x).natAbs < big ∧ d.natAbs < big ∧ (c - d).natAbs < big := by
  have dn := tlD_ne (n := n) h hcd
  have da := tlD_abs (n := n) h hn
  have t66 := tri66 n hn
  have cx : (c ^ x).natAbs ≤ 2 ^ 240 := Nat.le_trans (CD.c20p h _) (Nat.pow_le_pow_right (by decide) (by omega))
  have dx : (d ^ x).natAbs ≤ 2 ^ 240 := Nat.le_trans (CD.c20p h.self _) (Nat.pow_le_pow_right (by decide) (by omega))
  have d1 : d.natAbs ≤ 2 ^ 20 := by have := h.c20; have := h.d1; have := h.dc; omega
  have cd1 : (c - d).natAbs ≤ 2 ^ 20 := by have := h.c20; have := h.d1; have := h.dc; omega
  have tp : (c ^ x - d ^ x).natAbs ≤ 2 ^ 241 := sub_abs (a := 240) (b := 240) cx dx
  have den0 : d ^ x * (c - d) ≠ 0 := Int.mul_ne_zero (by have := h.dp x; omega) (by omega)
  have f1 := frac_eq (n := (c ^ x - d ^ x) * d) den0 (abs_lt_8000 (mul_abs tp d1) (by decide)) (abs_lt_8000 (mul_abs dx cd1) (by decide))
  have hT : (c ^ tri2 n).natAbs ≤ 2 ^ 1320 := Nat.le_trans (CD.c20p h _) (Nat.pow_le_pow_right (by decide) (by omega))
  have hP : (PB c d n x).natAbs ≤ 2 ^ 1320 := by
    have := PB_le h hx2
    refine Nat.le_trans ?_ hT
    omega
  have s1 : szR 1320 1320 (Rat.divInt (PB c d n x) (c ^ tri2 n)) := szR_divInt hP h.tne hT
  have s2 : szR 261 260 (Rat.divInt ((c ^ x - d ^ x) * d) (d ^ x * (c - d))) := szR_divInt (mul_abs tp d1) den0 (mul_abs dx cd1)
  have m1 := (law_product_eq s1 s2 (by decide) (by decide)).1
  have em : Rat.divInt (PB c d n x) (c ^ tri2 n) * Rat.divInt ((c ^ x - d ^ x) * d) (d ^ x * (c - d)) = Rat.divInt (tlP c d n x) (tlD c d n) := by
    rw [Rat.divInt_mul_divInt]
    refine (Rat.divInt_eq_divInt_iff (Int.mul_ne_zero h.tne den0) dn).mpr ?_
    unfold tlP tlD
    have a3 : d ^ n = d ^ (n - x) * d ^ x := by rw [← Int.pow_add, Nat.sub_add_cancel hx2]
    rw [a3]
    exact ring1 _ _ _ _ _ _
  rw [em] at m1
  have sS : (sumN x (tlP c d n)).natAbs ≤ 2 ^ 2110 := by
    refine Nat.le_trans (sumN_abs (B := 2 ^ 2100) x _ fun i hi => tlP_abs h hn (by omega)) ?_
    have e : 2 ^ 2110 = 2 ^ 10 * 2 ^ 2100 := by rw [← Nat.pow_add]
    rw [e]
    exact Nat.mul_le_mul_right _ (by omega)
  have s3 := szR_divInt sS dn da
  have s4 := szR_divInt (tlP_abs h hn hx2) dn da
  have a1 := (law_plus_eq s3 s4 (by decide) (by decide) (by decide)).1
  rw [divInt_add_same] at a1
  have es : sumN x (tlP c d n) + tlP c d n x = sumN (x + 1) (tlP c d n) := rfl
  rw [es] at a1
  have b1 : (c ^ x).natAbs < big := abs_big cx (by decide)
  have b2 : (d ^ x).natAbs < big := abs_big dx (by decide)
  have b3 : (c ^ x - d ^ x).natAbs < big := abs_big tp (by decide)
  have b4 : d.natAbs < big := abs_big d1 (by decide)
  have b5 : (c - d).natAbs < big := abs_big cd1 (by decide)
  exact ⟨f1, m1, a1, b1, b2, b3, b4, b5⟩
theorem law_mean_W (h : CD c d) (hcd : d < c) (hn : n ≤ 12) : S_law_mean [chD c d n, .int c, .int d] = some (fr (n : Rat), 9, .non) := by
  have go : W (S_law_mean [chD c d n, .int c, .int d]) fun r => r = (fr (n : Rat), 9, .non) := by
    refine W_O fun Q' hQ => ?_
    unfold S_law_mean S_law_meanb
    rw [W_mDef]
    (refine Zk.W_seqE (E1 := ?wE188) ?wa188 ?wb188; (case wa188 => (simp (disch := first | assumption | (simp; done) | omega) [ent0_def]; exact rfl)))
    have rn : rgOk ((n : Int) + 1) := ⟨by omega, by omega⟩
    have tn : ((n : Int) + 1).toNat = n + 1 := by omega
    have gl : gLen [chD c d n] = some (.int ((n : Int) + 1), 9) := by simp [chD, gLen]
    have z0 : D.tup [.int 0, .int 1] = fr (Rat.divInt (sumN 0 (tlP c d n)) (tlD c d n)) := by
      show fr 0 = fr (Rat.divInt 0 _)
      rw [Rat.zero_divInt]
    rw [z0]
    have dn := tlD_ne (n := n) h hcd
    have da := tlD_abs (n := n) h hn
    have t66 := tri66 n hn
    have ic : imm (chD c d n) = true := imm_chD
    (refine Zk.W_forN ?wE273 (n + 1) [4, 5] (fun (l : Nat) x => [(3, some (fr (Rat.divInt (sumN x (tlP c d n)) (tlD c d n)), l))]) (fun _ _ => True) 0 ?wa273 ?wb273 ?_ ?_ ?_; (case wa273 => (simp (disch := first | assumption | (simp; done) | omega) [gl, rn, tn, ic]; exact rfl)); (case wb273 => (simp (disch := first | assumption | (simp; done) | omega) [Zk.sets, gl, rn, tn, ic])))
    · trivial
    · intro l x I' hx _ hI
      simp only [Zk.AllU, Zk.sets, List.set_cons_succ, List.set_cons_zero, List.set_nil] at *
      intro u4 u5
      refine W_tgV.mpr ⟨by simp, ?_⟩
      have fin := hI 9 trivial
      have p1 := law_power_W h (k := x) (by omega)
      have p2 := law_power_W h.self (k := x) (by omega)
      have at1 : gIxd [chD c d n, .int (x : Int)] = some (fr (Rat.divInt (PB c d n x) (c ^ tri2 n)), 0) := by
        unfold chD
        rw [gIxd_tup, gIx_tup]
        have : atI ((List.range (n + 1)).map fun x => fr (Rat.divInt (PB c d n x) (c ^ tri2 n))) (x : Int) = some (fr (Rat.divInt (PB c d n x) (c ^ tri2 n))) := rowF_at (f := fun x => Rat.divInt (PB c d n x) (c ^ tri2 n)) (by omega) (by omega)
        rw [this]; rfl
      obtain ⟨f1, m1, a1, b1, b2, b3, b4, b5⟩ := mean_facts h hcd hn (show x ≤ n by omega)
      (refine Zk.W_seqE (E1 := ?wE189) ?wa189 ?wb189; (case wa189 => (simp (disch := first | assumption | (simp; done) | omega) [p1, p2, b1, b2, dem1, -Int.natAbs_pow]; exact rfl)))
      simp (disch := first | assumption | (simp; done) | omega) [at1, p2, f1, m1, a1, b2, b3, b4, b5, dem1, -Int.natAbs_pow]
      apply fin
    intro _ _
    simp only [Zk.AllU, Zk.sets, List.set_cons_succ, List.set_cons_zero, List.set_nil] at *
    intro u4 u5
    have ef : Rat.divInt (sumN (n + 1) (tlP c d n)) (tlD c d n) = (n : Rat) := by
      have ht : sumN (n + 1) (tlP c d n) = c ^ tri2 n * d ^ n * (n * (c - d)) := PB_tell c d n
      rw [ht]
      have e2 : c ^ tri2 n * d ^ n * ((n : Int) * (c - d)) = (n : Int) * tlD c d n := by unfold tlD; grind
      rw [e2, Rat.divInt_eq_div, Rat.intCast_mul, Rat.mul_div_cancel (fun e => dn (Rat.intCast_inj.mp (e.trans Rat.intCast_zero.symm))), Rat.intCast_natCast]
    rw [ef]
    simp (disch := first | assumption | (simp; done) | omega) []
    exact hQ _ rfl
  obtain ⟨r, e, rfl⟩ := go
  exact e
end
end
end Zk.Bf
namespace K72
noncomputable section
open PySem PySem.Spec PyProof.Rows L2 Zk
def topS (i : Nat) : Stmt := PySem.Challenge.pw_sketchkeep_k72_joined_counters_and_choic.main.body.getD i (.Pass ⟨0, 0, 0, 0⟩)
abbrev s_fraction : Stmt := topS 2
theorem sc_fraction : FnScope ["n", "d", "divisor"] ["n", "d"] (defScope s_fraction) := ⟨rfl, rfl, rfl, by decide +kernel, rfl, by decide +kernel, by decide +kernel⟩
abbrev m_fraction := S_fraction
theorem ok_fraction {P : Program} {w : World} {K : PySem.W.Frag} {mg : Str → Option Value} {base : Heap} {f : Addr} {fd : FuncData} (z_gcd : mg "gcd" = some (.builtin "math.gcd")) (F : Fun K "fraction" "fraction" s_fraction f fd) : FnOk P w K mg base CX0 1 f fd ["n", "d"] (spM K none 2 m_fraction) :=
  F.zk (wr := (([0, 1] ++ []) ++ ([2] ++ []))) sc_fraction none (by decide) (fun i h => by cases h) fun cdv A outer s H E hr =>
    (ass_cons (as_if (at_cmp (ac_lt (ae_var 1) ae_int)) (ass_one (as_par 0 1 (aa_cons (ae_neg (ae_var 0)) (aa_cons (ae_neg (ae_var 1)) aa_nil)) sc_fraction.nd)) ass_nil) (ass_cons (as_set 2 (ae_gcd (by rfl) z_gcd (aa_cons (ae_var 0) (aa_cons (ae_var 1) aa_nil))) sc_fraction.nd) (ass_one (as_ret (ae_tup (aa_cons (ae_div (ae_var 0) (ae_var 2)) (aa_cons (ae_div (ae_var 1) (ae_var 2)) aa_nil)))))))
abbrev s_plus : Stmt := topS 3
theorem sc_plus : FnScope ["f", "g"] ["f", "g"] (defScope s_plus) := ⟨rfl, rfl, rfl, by decide +kernel, rfl, by decide +kernel, by decide +kernel⟩
abbrev m_plus := S_plus
theorem ok_plus {P : Program} {w : World} {K : PySem.W.Frag} {mg : Str → Option Value} {base : Heap} {f : Addr} {fd : FuncData} (o_fraction : Ok P w K mg base 1 "fraction" ["n", "d"] none 2 S_fraction) (F : Fun K "plus" "plus" s_plus f fd) : FnOk P w K mg base CX0 2 f fd ["f", "g"] (spM K none 2 m_plus) :=
  F.zk (wr := []) sc_plus none (by decide) (fun i h => by cases h) fun cdv A outer s H E hr =>
    (ass_one (as_ret (ae_fn o_fraction hr (by rfl) (aa_cons (ae_add (ae_mul (ae_ixd hr.u1 (ae_var 0) ae_int) (ae_ixd hr.u1 (ae_var 1) ae_int)) (ae_mul (ae_ixd hr.u1 (ae_var 1) ae_int) (ae_ixd hr.u1 (ae_var 0) ae_int))) (aa_cons (ae_mul (ae_ixd hr.u1 (ae_var 0) ae_int) (ae_ixd hr.u1 (ae_var 1) ae_int)) aa_nil)) (npc (npc np0)))))
abbrev s_minus : Stmt := topS 4
theorem sc_minus : FnScope ["f", "g"] ["f", "g"] (defScope s_minus) := ⟨rfl, rfl, rfl, by decide +kernel, rfl, by decide +kernel, by decide +kernel⟩
abbrev m_minus := S_minus
theorem ok_minus {P : Program} {w : World} {K : PySem.W.Frag} {mg : Str → Option Value} {base : Heap} {f : Addr} {fd : FuncData} (o_fraction : Ok P w K mg base 1 "fraction" ["n", "d"] none 2 S_fraction) (F : Fun K "minus" "minus" s_minus f fd) : FnOk P w K mg base CX0 2 f fd ["f", "g"] (spM K none 2 m_minus) :=
  F.zk (wr := []) sc_minus none (by decide) (fun i h => by cases h) fun cdv A outer s H E hr =>
    (ass_one (as_ret (ae_fn o_fraction hr (by rfl) (aa_cons (ae_sub (ae_mul (ae_ixd hr.u1 (ae_var 0) ae_int) (ae_ixd hr.u1 (ae_var 1) ae_int)) (ae_mul (ae_ixd hr.u1 (ae_var 1) ae_int) (ae_ixd hr.u1 (ae_var 0) ae_int))) (aa_cons (ae_mul (ae_ixd hr.u1 (ae_var 0) ae_int) (ae_ixd hr.u1 (ae_var 1) ae_int)) aa_nil)) (npc (npc np0)))))
abbrev s_times : Stmt := topS 5
theorem sc_times : FnScope ["f", "g"] ["f", "g"] (defScope s_times) := ⟨rfl, rfl, rfl, by decide +kernel, rfl, by decide +kernel, by decide +kernel⟩
abbrev m_times := S_times
theorem ok_times {P : Program} {w : World} {K : PySem.W.Frag} {mg : Str → Option Value} {base : Heap} {f : Addr} {fd : FuncData} (o_fraction : Ok P w K mg base 1 "fraction" ["n", "d"] none 2 S_fraction) (F : Fun K "times" "times" s_times f fd) : FnOk P w K mg base CX0 2 f fd ["f", "g"] (spM K none 2 m_times) :=
  F.zk (wr := []) sc_times none (by decide) (fun i h => by cases h) fun cdv A outer s H E hr =>
    (ass_one (as_ret (ae_fn o_fraction hr (by rfl) (aa_cons (ae_mul (ae_ixd hr.u1 (ae_var 0) ae_int) (ae_ixd hr.u1 (ae_var 1) ae_int)) (aa_cons (ae_mul (ae_ixd hr.u1 (ae_var 0) ae_int) (ae_ixd hr.u1 (ae_var 1) ae_int)) aa_nil)) (npc (npc np0)))))
abbrev s_over : Stmt := topS 6
theorem sc_over : FnScope ["f", "g"] ["f", "g"] (defScope s_over) := ⟨rfl, rfl, rfl, by decide +kernel, rfl, by decide +kernel, by decide +kernel⟩
abbrev m_over := S_over
theorem ok_over {P : Program} {w : World} {K : PySem.W.Frag} {mg : Str → Option Value} {base : Heap} {f : Addr} {fd : FuncData} (o_fraction : Ok P w K mg base 1 "fraction" ["n", "d"] none 2 S_fraction) (F : Fun K "over" "over" s_over f fd) : FnOk P w K mg base CX0 2 f fd ["f", "g"] (spM K none 2 m_over) :=
  F.zk (wr := []) sc_over none (by decide) (fun i h => by cases h) fun cdv A outer s H E hr =>
    (ass_one (as_ret (ae_fn o_fraction hr (by rfl) (aa_cons (ae_mul (ae_ixd hr.u1 (ae_var 0) ae_int) (ae_ixd hr.u1 (ae_var 1) ae_int)) (aa_cons (ae_mul (ae_ixd hr.u1 (ae_var 0) ae_int) (ae_ixd hr.u1 (ae_var 1) ae_int)) aa_nil)) (npc (npc np0)))))
abbrev s_powers_to : Stmt := topS 8
theorem sc_powers_to : FnScope ["base", "n", "result", "_"] ["base", "n"] (defScope s_powers_to) := ⟨rfl, rfl, rfl, by decide +kernel, rfl, by decide +kernel, by decide +kernel⟩
abbrev m_powers_to := S_powers_to
theorem ok_powers_to {P : Program} {w : World} {K : PySem.W.Frag} {mg : Str → Option Value} {base : Heap} {f : Addr} {fd : FuncData} (z_range : mg "range" = none) (F : Fun K "powers_to" "powers_to" s_powers_to f fd) : FnOk P w K mg base CX0 1 f fd ["base", "n"] (spM K none 2 m_powers_to) :=
  F.zk (wr := ([2] ++ (([3] ++ []) ++ []))) sc_powers_to none (by decide) (fun i h => by cases h) fun cdv A outer s H E hr =>
    (ass_cons (as_set 2 (ae_lst (aa_cons ae_int aa_nil)) sc_powers_to.nd) (ass_cons (as_for PassesOwn.never (ai_rg1 (ae_var 1) (by rfl) z_range) (ag_n 3 sc_powers_to.nd) (ass_one (as_ex (ae_app 2 (ae_mul (ae_ixd hr.u1 (ae_var 2) (ae_neg ae_int)) (ae_var 0)))))) (ass_one (as_ret (ae_var 2)))))
abbrev s_parts_behind : Stmt := topS 9
abbrev n_parts_behind : List Str := ["n", "b", "ups", "downs", "parts", "divisor", "done", "later", "_", "x", "part", "on"]
theorem sc_parts_behind : FnScope ["n", "b", "ups", "downs", "parts", "divisor", "done", "later", "_", "x", "part", "on"] ["n", "b"] (defScope s_parts_behind) := ⟨rfl, rfl, rfl, by decide +kernel, rfl, by decide +kernel, by decide +kernel⟩
abbrev m_parts_behind := S_parts_behind
theorem ok_parts_behind {P : Program} {w : World} {K : PySem.W.Frag} {mg : Str → Option Value} {base : Heap} {f : Addr} {fd : FuncData} (z_range : mg "range" = none) (z_enumerate : mg "enumerate" = none) (o_powers_to : Ok P w K mg base 1 "powers_to" ["base", "n"] none 2 S_powers_to) (F : Fun K "parts_behind" "parts_behind" s_parts_behind f fd) : FnOk P w K mg base CX0 2 f fd ["n", "b"] (spM K none 2 m_parts_behind) :=
  F.zk (wr := ([2] ++ ([3] ++ ([4] ++ ([5] ++ (([6] ++ ([7] ++ ((([9] ++ ([10] ++ [])) ++ ([11] ++ ([] ++ []))) ++ ([4] ++ [5])))) ++ [])))))) sc_parts_behind none (by decide) (fun i h => by cases h) fun cdv A outer s H E hr =>
    (ass_cons (as_set 2 (ae_fn o_powers_to hr (by rfl) (aa_cons (ae_ixd hr.u1 (ae_var 1) ae_int) (aa_cons (ae_var 0) aa_nil)) (npc (npc np0))) sc_parts_behind.nd) (ass_cons (as_set 3 (ae_fn o_powers_to hr (by rfl) (aa_cons (ae_ixd hr.u1 (ae_var 1) ae_int) (aa_cons (ae_var 0) aa_nil)) (npc (npc np0))) sc_parts_behind.nd) (ass_cons (as_set 4 (ae_lst (aa_cons ae_int aa_nil)) sc_parts_behind.nd) (ass_cons (as_set 5 ae_int sc_parts_behind.nd) (ass_cons (as_for PassesOwn.never (ai_rg1 (ae_var 0) (by rfl) z_range) (ag_n 6 sc_parts_behind.nd) (ass_cons (as_setLc 7 [("_", 8)] sc_parts_behind.nd (blkOk_by (N := n_parts_behind) (sc := defScope s_parts_behind) (by decide +kernel)) (ai_rg1 (ae_add (ae_var 6) ae_int) (by rfl) z_range) (fun _ _ _ _ _ => (ag_n 8 sc_parts_behind.nd)) (fun _ _ _ _ _ => ats_nil) (fun _ _ _ _ _ => ae_int) gl_v (by decide +kernel)) (ass_cons (as_for PassesOwn.never (ai_enu (ae_var 4) (by rfl) z_enumerate) (ag_t (ags_cons (ag_n 9 sc_parts_behind.nd) (ags_cons (ag_n 10 sc_parts_behind.nd) ags_nil))) (ass_cons (as_set 11 (ae_mul (ae_ixd hr.u1 (ae_var 3) (ae_var 9)) (ae_ixd hr.u1 (ae_var 2) (ae_sub (ae_var 6) (ae_var 9)))) sc_parts_behind.nd) (ass_cons (as_put 7 hr.u1 (ae_var 9) (ae_add (ae_ixd hr.u1 (ae_var 7) (ae_var 9)) (ae_mul (ae_var 10) (ae_sub (ae_ixd hr.u1 (ae_var 2) (ae_var 6)) (ae_var 11))))) (ass_one (as_put 7 hr.u1 (ae_add (ae_var 9) ae_int) (ae_add (ae_ixd hr.u1 (ae_var 7) (ae_add (ae_var 9) ae_int)) (ae_mul (ae_var 10) (ae_var 11)))))))) (ass_cons (as_mov 4 7 sc_parts_behind.nd) (ass_one (as_set 5 (ae_mul (ae_var 5) (ae_ixd hr.u1 (ae_var 2) (ae_var 6))) sc_parts_behind.nd)))))) (ass_one (as_ret (ae_tup (aa_cons (ae_var 4) (aa_cons (ae_var 5) aa_nil))))))))))
abbrev s_chances_by : Stmt := topS 10
abbrev n_chances_by : List Str := ["n", "b", "parts", "divisor", "part"]
theorem sc_chances_by : FnScope ["n", "b", "parts", "divisor", "part"] ["n", "b"] (defScope s_chances_by) := ⟨rfl, rfl, rfl, by decide +kernel, rfl, by decide +kernel, by decide +kernel⟩
abbrev m_chances_by := S_chances_by
theorem ok_chances_by {P : Program} {w : World} {K : PySem.W.Frag} {mg : Str → Option Value} {base : Heap} {f : Addr} {fd : FuncData} (z_tuple : mg "tuple" = none) (o_parts_behind : Ok P w K mg base 2 "parts_behind" ["n", "b"] none 2 S_parts_behind) (o_fraction : Ok P w K mg base 2 "fraction" ["n", "d"] none 2 S_fraction) (F : Fun K "chances_by" "chances_by" s_chances_by f fd) : FnOk P w K mg base CX0 3 f fd ["n", "b"] (spM K none 2 m_chances_by) :=
  F.zk (wr := (([2] ++ ([3] ++ [])) ++ [])) sc_chances_by none (by decide) (fun i h => by cases h) fun cdv A outer s H E hr =>
    (ass_cons (as_asg (ae_fn o_parts_behind hr (by rfl) (aa_cons (ae_var 0) (aa_cons (ae_var 1) aa_nil)) (npc (npc np0))) (ag_t (ags_cons (ag_n 2 sc_chances_by.nd) (ags_cons (ag_n 3 sc_chances_by.nd) ags_nil)))) (ass_one (as_ret (ae_bty call_tuple_of al_tuple (by rfl) z_tuple boot_tuple (aa_cons (ae_lc [("part", 4)] sc_chances_by.nd (blkOk_by (N := n_chances_by) (sc := defScope s_chances_by) (by decide +kernel)) (ai_seq (ae_var 2)) (fun _ _ _ _ _ => (ag_n 4 sc_chances_by.nd)) (fun _ _ _ _ _ => ats_nil) (fun _ _ _ _ _ => (ae_fn o_fraction hr (by rfl) (aa_cons (ae_var 4) (aa_cons (ae_var 3) aa_nil)) (npc (npc np0)))) gl_v) aa_nil)))))
abbrev s_chances : Stmt := topS 11
theorem sc_chances : FnScope ["n"] ["n"] (defScope s_chances) := ⟨rfl, rfl, rfl, by decide +kernel, rfl, by decide +kernel, by decide +kernel⟩
abbrev m_chances := S_chances
theorem ok_chances {P : Program} {w : World} {K : PySem.W.Frag} {mg : Str → Option Value} {base : Heap} {f : Addr} {fd : FuncData} (o_chances_by : Ok P w K mg base 3 "chances_by" ["n", "b"] none 2 S_chances_by) (F : Fun K "chances" "chances" s_chances f fd) : FnOk P w K mg base CX0 4 f fd ["n"] (spM K none 1 m_chances) :=
  F.zk (wr := []) sc_chances none (by decide) (fun i h => by cases h) fun cdv A outer s H E hr =>
    (ass_one (as_ret (ae_fn o_chances_by hr (by rfl) (aa_cons (ae_var 0) (aa_cons (ae_tup (aa_cons ae_int (aa_cons ae_int aa_nil))) aa_nil)) (npc (npc np0)))))
abbrev s_mean_told_by : Stmt := topS 12
abbrev n_mean_told_by : List Str := ["n", "b", "parts", "divisor", "ups", "downs", "powers", "x", "part", "mean"]
theorem sc_mean_told_by : FnScope ["n", "b", "parts", "divisor", "ups", "downs", "powers", "x", "part", "mean"] ["n", "b"] (defScope s_mean_told_by) := ⟨rfl, rfl, rfl, by decide +kernel, rfl, by decide +kernel, by decide +kernel⟩
abbrev m_mean_told_by := S_mean_told_by
theorem ok_mean_told_by {P : Program} {w : World} {K : PySem.W.Frag} {mg : Str → Option Value} {base : Heap} {f : Addr} {fd : FuncData} (z_enumerate : mg "enumerate" = none) (z_sum : mg "sum" = none) (o_parts_behind : Ok P w K mg base 2 "parts_behind" ["n", "b"] none 2 S_parts_behind) (o_powers_to : Ok P w K mg base 2 "powers_to" ["base", "n"] none 2 S_powers_to) (o_fraction : Ok P w K mg base 2 "fraction" ["n", "d"] none 2 S_fraction) (o_over : Ok P w K mg base 2 "over" ["f", "g"] none 2 S_over) (o_minus : Ok P w K mg base 2 "minus" ["f", "g"] none 2 S_minus) (F : Fun K "mean_told_by" "mean_told_by" s_mean_told_by f fd) : FnOk P w K mg base CX0 3 f fd ["n", "b"] (spM K none 2 m_mean_told_by) :=
  F.zk (wr := (([2] ++ ([3] ++ [])) ++ ([4] ++ ([5] ++ ([6] ++ ([9] ++ [])))))) sc_mean_told_by none (by decide) (fun i h => by cases h) fun cdv A outer s H E hr =>
    (ass_cons (as_asg (ae_fn o_parts_behind hr (by rfl) (aa_cons (ae_var 0) (aa_cons (ae_var 1) aa_nil)) (npc (npc np0))) (ag_t (ags_cons (ag_n 2 sc_mean_told_by.nd) (ags_cons (ag_n 3 sc_mean_told_by.nd) ags_nil)))) (ass_cons (as_set 4 (ae_fn o_powers_to hr (by rfl) (aa_cons (ae_ixd hr.u1 (ae_var 1) ae_int) (aa_cons (ae_var 0) aa_nil)) (npc (npc np0))) sc_mean_told_by.nd) (ass_cons (as_set 5 (ae_fn o_powers_to hr (by rfl) (aa_cons (ae_ixd hr.u1 (ae_var 1) ae_int) (aa_cons (ae_var 0) aa_nil)) (npc (npc np0))) sc_mean_told_by.nd) (ass_cons (as_set 6 (ae_blt call_sumA al_sum (by rfl) z_sum boot_sum (aa_cons (ae_lc [("x", 7), ("part", 8)] sc_mean_told_by.nd (blkOk_by (N := n_mean_told_by) (sc := defScope s_mean_told_by) (by decide +kernel)) (ai_enu (ae_var 2) (by rfl) z_enumerate) (fun _ _ _ _ _ => (ag_t (ags_cons (ag_n 7 sc_mean_told_by.nd) (ags_cons (ag_n 8 sc_mean_told_by.nd) ags_nil)))) (fun _ _ _ _ _ => ats_nil) (fun _ _ _ _ _ => (ae_mul (ae_mul (ae_var 8) (ae_ixd hr.u1 (ae_var 4) (ae_var 7))) (ae_ixd hr.u1 (ae_var 5) (ae_sub (ae_var 0) (ae_var 7))))) (gl_t (gl_c gl_v (gl_c gl_v gl_n)))) aa_nil)) sc_mean_told_by.nd) (ass_cons (as_set 9 (ae_fn o_fraction hr (by rfl) (aa_cons (ae_var 6) (aa_cons (ae_mul (ae_var 3) (ae_ixd hr.u1 (ae_var 5) (ae_var 0))) aa_nil)) (npc (npc np0))) sc_mean_told_by.nd) (ass_one (as_ret (ae_fn o_over hr (by rfl) (aa_cons (ae_fn o_minus hr (by rfl) (aa_cons (ae_var 9) (aa_cons (ae_tup (aa_cons ae_int (aa_cons ae_int aa_nil))) aa_nil)) (npc (npc np0))) (aa_cons (ae_fn o_minus hr (by rfl) (aa_cons (ae_var 1) (aa_cons (ae_tup (aa_cons ae_int (aa_cons ae_int aa_nil))) aa_nil)) (npc (npc np0))) aa_nil)) (npc (npc np0))))))))))
abbrev s_gone_on : Stmt := topS 14
abbrev n_gone_on : List Str := ["row", "j", "result", "_", "z", "chance", "on"]
theorem sc_gone_on : FnScope ["row", "j", "result", "_", "z", "chance", "on"] ["row", "j"] (defScope s_gone_on) := ⟨rfl, rfl, rfl, by decide +kernel, rfl, by decide +kernel, by decide +kernel⟩
abbrev m_gone_on := S_gone_on
theorem ok_gone_on {P : Program} {w : World} {K : PySem.W.Frag} {mg : Str → Option Value} {base : Heap} {f : Addr} {fd : FuncData} (z_range : mg "range" = none) (z_len : mg "len" = none) (z_enumerate : mg "enumerate" = none) (o_times : Ok P w K mg base 2 "times" ["f", "g"] none 2 S_times) (o_fraction : Ok P w K mg base 2 "fraction" ["n", "d"] none 2 S_fraction) (o_plus : Ok P w K mg base 2 "plus" ["f", "g"] none 2 S_plus) (o_minus : Ok P w K mg base 2 "minus" ["f", "g"] none 2 S_minus) (F : Fun K "gone_on" "gone_on" s_gone_on f fd) : FnOk P w K mg base CX0 3 f fd ["row", "j"] (spM K none 2 m_gone_on) :=
  F.zk (wr := ([2] ++ ((([4] ++ ([5] ++ [])) ++ (([6] ++ ([] ++ [])) ++ [])) ++ []))) sc_gone_on none (by decide) (fun i h => by cases h) fun cdv A outer s H E hr =>
    (ass_cons (as_setLc 2 [("_", 3)] sc_gone_on.nd (blkOk_by (N := n_gone_on) (sc := defScope s_gone_on) (by decide +kernel)) (ai_rg1 (ae_add (ae_blt call_len al_len (by rfl) z_len boot_len (aa_cons (ae_var 0) aa_nil)) ae_int) (by rfl) z_range) (fun _ _ _ _ _ => (ag_n 3 sc_gone_on.nd)) (fun _ _ _ _ _ => ats_nil) (fun _ _ _ _ _ => (ae_tup (aa_cons ae_int (aa_cons ae_int aa_nil)))) gl_v (by decide +kernel)) (ass_cons (as_for PassesOwn.never (ai_enu (ae_var 0) (by rfl) z_enumerate) (ag_t (ags_cons (ag_n 4 sc_gone_on.nd) (ags_cons (ag_n 5 sc_gone_on.nd) ags_nil))) (ass_one (as_if (at_cmp (ac_ne hr.u64 (ae_var 5) (ae_tup (aa_cons ae_int (aa_cons ae_int aa_nil))))) (ass_cons (as_set 6 (ae_fn o_times hr (by rfl) (aa_cons (ae_var 5) (aa_cons (ae_fn o_fraction hr (by rfl) (aa_cons (ae_shl ae_int (ae_var 1)) (aa_cons (ae_shl ae_int (ae_var 4)) aa_nil)) (npc (npc np0))) aa_nil)) (npc (npc np0))) sc_gone_on.nd) (ass_cons (as_put 2 hr.u1 (ae_var 4) (ae_fn o_plus hr (by rfl) (aa_cons (ae_ixd hr.u1 (ae_var 2) (ae_var 4)) (aa_cons (ae_fn o_minus hr (by rfl) (aa_cons (ae_var 5) (aa_cons (ae_var 6) aa_nil)) (npc (npc np0))) aa_nil)) (npc (npc np0)))) (ass_one (as_put 2 hr.u1 (ae_add (ae_var 4) ae_int) (ae_fn o_plus hr (by rfl) (aa_cons (ae_ixd hr.u1 (ae_var 2) (ae_add (ae_var 4) ae_int)) (aa_cons (ae_var 6) aa_nil)) (npc (npc np0))))))) ass_nil))) (ass_one (as_ret (ae_var 2)))))
abbrev s_joined_chances : Stmt := topS 15
abbrev n_joined_chances : List Str := ["x", "y", "low", "row", "_", "j"]
theorem sc_joined_chances : FnScope ["x", "y", "low", "row", "_", "j"] ["x", "y"] (defScope s_joined_chances) := ⟨rfl, rfl, rfl, by decide +kernel, rfl, by decide +kernel, by decide +kernel⟩
abbrev m_joined_chances := S_joined_chances
theorem ok_joined_chances {P : Program} {w : World} {K : PySem.W.Frag} {mg : Str → Option Value} {base : Heap} {f : Addr} {fd : FuncData} (z_min : mg "min" = none) (z_range : mg "range" = none) (z_max : mg "max" = none) (z_tuple : mg "tuple" = none) (o_gone_on : Ok P w K mg base 3 "gone_on" ["row", "j"] none 2 S_gone_on) (F : Fun K "joined_chances" "joined_chances" s_joined_chances f fd) : FnOk P w K mg base CX0 4 f fd ["x", "y"] (spM K none 2 m_joined_chances) :=
  F.zk (wr := ([2] ++ ([3] ++ (([5] ++ [3]) ++ [])))) sc_joined_chances none (by decide) (fun i h => by cases h) fun cdv A outer s H E hr =>
    (ass_cons (as_set 2 (ae_blt call_minA al_min (by rfl) z_min boot_min (aa_cons (ae_var 0) (aa_cons (ae_var 1) aa_nil))) sc_joined_chances.nd) (ass_cons (as_set 3 (ae_add (ae_lc [("_", 4)] sc_joined_chances.nd (blkOk_by (N := n_joined_chances) (sc := defScope s_joined_chances) (by decide +kernel)) (ai_rg1 (ae_blt call_maxA al_max (by rfl) z_max boot_max (aa_cons (ae_var 0) (aa_cons (ae_var 1) aa_nil))) (by rfl) z_range) (fun _ _ _ _ _ => (ag_n 4 sc_joined_chances.nd)) (fun _ _ _ _ _ => ats_nil) (fun _ _ _ _ _ => (ae_tup (aa_cons ae_int (aa_cons ae_int aa_nil)))) gl_v) (ae_lst (aa_cons (ae_tup (aa_cons ae_int (aa_cons ae_int aa_nil))) aa_nil))) sc_joined_chances.nd) (ass_cons (as_for PassesOwn.never (ai_rg1 (ae_var 2) (by rfl) z_range) (ag_n 5 sc_joined_chances.nd) (ass_one (as_set 3 (ae_fn o_gone_on hr (by rfl) (aa_cons (ae_var 3) (aa_cons (ae_var 5) aa_nil)) (npc (npc np0))) sc_joined_chances.nd))) (ass_one (as_ret (ae_bty call_tuple_of al_tuple (by rfl) z_tuple boot_tuple (aa_cons (ae_var 3) aa_nil)))))))
abbrev s_chances_of_joined : Stmt := topS 16
abbrev n_chances_of_joined : List Str := ["n", "other", "result", "_", "x", "chance", "y", "another", "both", "place", "part"]
theorem sc_chances_of_joined : FnScope ["n", "other", "result", "_", "x", "chance", "y", "another", "both", "place", "part"] ["n", "other"] (defScope s_chances_of_joined) := ⟨rfl, rfl, rfl, by decide +kernel, rfl, by decide +kernel, by decide +kernel⟩
abbrev m_chances_of_joined := S_chances_of_joined
theorem ok_chances_of_joined {P : Program} {w : World} {K : PySem.W.Frag} {mg : Str → Option Value} {base : Heap} {f : Addr} {fd : FuncData} (z_range : mg "range" = none) (z_enumerate : mg "enumerate" = none) (z_tuple : mg "tuple" = none) (o_chances : Ok P w K mg base 4 "chances" ["n"] none 1 S_chances) (o_times : Ok P w K mg base 4 "times" ["f", "g"] none 2 S_times) (o_joined_chances : Ok P w K mg base 4 "joined_chances" ["x", "y"] none 2 S_joined_chances) (o_plus : Ok P w K mg base 4 "plus" ["f", "g"] none 2 S_plus) (F : Fun K "chances_of_joined" "chances_of_joined" s_chances_of_joined f fd) : FnOk P w K mg base CX0 5 f fd ["n", "other"] (spM K none 2 m_chances_of_joined) :=
  F.zk (wr := ([2] ++ ((([4] ++ ([5] ++ [])) ++ (([6] ++ ([7] ++ [])) ++ ([8] ++ (([9] ++ ([10] ++ [])) ++ [])))) ++ []))) sc_chances_of_joined none (by decide) (fun i h => by cases h) fun cdv A outer s H E hr =>
    (ass_cons (as_setLc 2 [("_", 3)] sc_chances_of_joined.nd (blkOk_by (N := n_chances_of_joined) (sc := defScope s_chances_of_joined) (by decide +kernel)) (ai_rg1 (ae_add (ae_add (ae_var 0) (ae_var 1)) ae_int) (by rfl) z_range) (fun _ _ _ _ _ => (ag_n 3 sc_chances_of_joined.nd)) (fun _ _ _ _ _ => ats_nil) (fun _ _ _ _ _ => (ae_tup (aa_cons ae_int (aa_cons ae_int aa_nil)))) gl_v (by decide +kernel)) (ass_cons (as_for PassesOwn.never (ai_enu (ae_fn o_chances hr (by rfl) (aa_cons (ae_var 0) aa_nil) (npc np0)) (by rfl) z_enumerate) (ag_t (ags_cons (ag_n 4 sc_chances_of_joined.nd) (ags_cons (ag_n 5 sc_chances_of_joined.nd) ags_nil))) (ass_one (as_for PassesOwn.never (ai_enu (ae_fn o_chances hr (by rfl) (aa_cons (ae_var 1) aa_nil) (npc np0)) (by rfl) z_enumerate) (ag_t (ags_cons (ag_n 6 sc_chances_of_joined.nd) (ags_cons (ag_n 7 sc_chances_of_joined.nd) ags_nil))) (ass_cons (as_set 8 (ae_fn o_times hr (by rfl) (aa_cons (ae_var 5) (aa_cons (ae_var 7) aa_nil)) (npc (npc np0))) sc_chances_of_joined.nd) (ass_one (as_for PassesOwn.never (ai_enu (ae_fn o_joined_chances hr (by rfl) (aa_cons (ae_var 4) (aa_cons (ae_var 6) aa_nil)) (npc (npc np0))) (by rfl) z_enumerate) (ag_t (ags_cons (ag_n 9 sc_chances_of_joined.nd) (ags_cons (ag_n 10 sc_chances_of_joined.nd) ags_nil))) (ass_one (as_put 2 hr.u1 (ae_var 9) (ae_fn o_plus hr (by rfl) (aa_cons (ae_ixd hr.u1 (ae_var 2) (ae_var 9)) (aa_cons (ae_fn o_times hr (by rfl) (aa_cons (ae_var 8) (aa_cons (ae_var 10) aa_nil)) (npc (npc np0))) aa_nil)) (npc (npc np0))))))))))) (ass_one (as_ret (ae_bty call_tuple_of al_tuple (by rfl) z_tuple boot_tuple (aa_cons (ae_var 2) aa_nil))))))
abbrev s_choice : Stmt := topS 17
theorem sc_choice : FnScope ["x", "r", "upper", "lower", "i"] ["x", "r"] (defScope s_choice) := ⟨rfl, rfl, rfl, by decide +kernel, rfl, by decide +kernel, by decide +kernel⟩
abbrev m_choice := S_choice
theorem ok_choice {P : Program} {w : World} {K : PySem.W.Frag} {mg : Str → Option Value} {base : Heap} {f : Addr} {fd : FuncData} (z_range : mg "range" = none) (F : Fun K "choice" "choice" s_choice f fd) : FnOk P w K mg base CX0 1 f fd ["x", "r"] (spM K none 2 m_choice) :=
  F.zk (wr := ([2] ++ ([3] ++ (([4] ++ ([2] ++ [3])) ++ [])))) sc_choice none (by decide) (fun i h => by cases h) fun cdv A outer s H E hr =>
    (ass_cons (as_set 2 ae_int sc_choice.nd) (ass_cons (as_set 3 ae_int sc_choice.nd) (ass_cons (as_for PassesOwn.never (ai_rg1 (ae_var 1) (by rfl) z_range) (ag_n 4 sc_choice.nd) (ass_cons (as_set 2 (ae_mul (ae_var 2) (ae_sub (ae_shl ae_int (ae_var 0)) (ae_shl ae_int (ae_var 4)))) sc_choice.nd) (ass_one (as_set 3 (ae_mul (ae_var 3) (ae_sub (ae_shl ae_int (ae_add (ae_var 4) ae_int)) ae_int)) sc_choice.nd)))) (ass_one (as_ret (ae_div (ae_var 2) (ae_var 3)))))))
abbrev s_mean_choice : Stmt := topS 18
abbrev n_mean_choice : List Str := ["n", "r", "parts", "divisor", "x", "part"]
theorem sc_mean_choice : FnScope ["n", "r", "parts", "divisor", "x", "part"] ["n", "r"] (defScope s_mean_choice) := ⟨rfl, rfl, rfl, by decide +kernel, rfl, by decide +kernel, by decide +kernel⟩
abbrev m_mean_choice := S_mean_choice
theorem ok_mean_choice {P : Program} {w : World} {K : PySem.W.Frag} {mg : Str → Option Value} {base : Heap} {f : Addr} {fd : FuncData} (z_enumerate : mg "enumerate" = none) (z_sum : mg "sum" = none) (o_parts_behind : Ok P w K mg base 2 "parts_behind" ["n", "b"] none 2 S_parts_behind) (o_fraction : Ok P w K mg base 2 "fraction" ["n", "d"] none 2 S_fraction) (o_choice : Ok P w K mg base 2 "choice" ["x", "r"] none 2 S_choice) (F : Fun K "mean_choice" "mean_choice" s_mean_choice f fd) : FnOk P w K mg base CX0 3 f fd ["n", "r"] (spM K none 2 m_mean_choice) :=
  F.zk (wr := (([2] ++ ([3] ++ [])) ++ [])) sc_mean_choice none (by decide) (fun i h => by cases h) fun cdv A outer s H E hr =>
    (ass_cons (as_asg (ae_fn o_parts_behind hr (by rfl) (aa_cons (ae_var 0) (aa_cons (ae_tup (aa_cons ae_int (aa_cons ae_int aa_nil))) aa_nil)) (npc (npc np0))) (ag_t (ags_cons (ag_n 2 sc_mean_choice.nd) (ags_cons (ag_n 3 sc_mean_choice.nd) ags_nil)))) (ass_one (as_ret (ae_fn o_fraction hr (by rfl) (aa_cons (ae_blt call_sumA al_sum (by rfl) z_sum boot_sum (aa_cons (ae_lc [("x", 4), ("part", 5)] sc_mean_choice.nd (blkOk_by (N := n_mean_choice) (sc := defScope s_mean_choice) (by decide +kernel)) (ai_enu (ae_var 2) (by rfl) z_enumerate) (fun _ _ _ _ _ => (ag_t (ags_cons (ag_n 4 sc_mean_choice.nd) (ags_cons (ag_n 5 sc_mean_choice.nd) ags_nil)))) (fun _ _ _ _ _ => ats_nil) (fun _ _ _ _ _ => (ae_mul (ae_var 5) (ae_fn o_choice hr (by rfl) (aa_cons (ae_var 4) (aa_cons (ae_var 1) aa_nil)) (npc (npc np0))))) (gl_t (gl_c gl_v (gl_c gl_v gl_n)))) aa_nil)) (aa_cons (ae_var 3) aa_nil)) (npc (npc np0))))))
abbrev s__law_draws : Stmt := topS 20
abbrev n__law_draws : List Str := ["script", "many", "cells", "cell", "left", "draws", "k", "place", "mixed"]
theorem sc__law_draws : FnScope ["script", "many", "cells", "cell", "left", "draws", "k", "place", "mixed"] ["script", "many"] (defScope s__law_draws) := ⟨rfl, rfl, rfl, by decide +kernel, rfl, by decide +kernel, by decide +kernel⟩
abbrev m__law_draws := S_law_draws
theorem ok__law_draws {P : Program} {w : World} {K : PySem.W.Frag} {mg : Str → Option Value} {base : Heap} {f : Addr} {fd : FuncData} (z_int : mg "int" = none) (z_len : mg "len" = none) (z_list : mg "list" = none) (z_range : mg "range" = none) (F : Fun K "_law_draws" "_law_draws" s__law_draws f fd) : FnOk P w K mg base CX0 1 f fd ["script", "many"] (spM K none 2 m__law_draws) :=
  F.zk (wr := ([2] ++ (([] ++ []) ++ ([4] ++ ([5] ++ (([6] ++ ([7] ++ (([] ++ []) ++ ([8] ++ [])))) ++ ([] ++ []))))))) sc__law_draws none (by decide) (fun i h => by cases h) fun cdv A outer s H E hr =>
    (ass_cons (as_setLc 2 [("cell", 3)] sc__law_draws.nd (blkOk_by (N := n__law_draws) (sc := defScope s__law_draws) (by decide +kernel)) (ai_seq (ae_sl (ae_var 0) ao_none (ao_some ae_int))) (fun _ _ _ _ _ => (ag_n 3 sc__law_draws.nd)) (fun _ _ _ _ _ => ats_nil) (fun _ _ _ _ _ => (ae_mod (ae_bty call_int1 al_int (by rfl) z_int boot_int (aa_cons (ae_var 3) aa_nil)) (ae_shl ae_int ae_int))) gl_v (by decide +kernel)) (ass_cons (as_if (at_cmp (ac_eq hr.u64 (ae_blt call_len al_len (by rfl) z_len boot_len (aa_cons (ae_var 2) aa_nil)) ae_int)) (ass_one (as_ex (ae_app 2 ae_int))) ass_nil) (ass_cons (as_set 4 (ae_bty call_list_of al_list (by rfl) z_list boot_list (aa_cons (ae_var 2) aa_nil)) sc__law_draws.nd) (ass_cons (as_set 5 (ae_lst aa_nil) sc__law_draws.nd) (ass_cons (as_for PassesOwn.never (ai_rg1 (ae_var 1) (by rfl) z_range) (ag_n 6 sc__law_draws.nd) (ass_cons (as_set 7 (ae_mod (ae_bty call_int1 al_int (by rfl) z_int boot_int (aa_cons (ae_var 6) aa_nil)) (ae_blt call_len al_len (by rfl) z_len boot_len (aa_cons (ae_var 2) aa_nil))) sc__law_draws.nd) (ass_one (as_if (at_w (aw_and (at_cmp (ac_ge (ae_ixd hr.u1 (ae_var 2) (ae_var 7)) (ae_pow ae_int ae_int))) (aw_and1 (at_cmp (ac_gt (ae_ixd hr.u1 (ae_var 4) (ae_var 7)) ae_int))))) (ass_cons (as_ex (ae_app 5 (ae_mod (ae_bty call_int1 al_int (by rfl) z_int boot_int (aa_cons (ae_ixd hr.u1 (ae_var 4) (ae_var 7)) aa_nil)) ae_int))) (ass_one (as_put 4 hr.u1 (ae_var 7) (ae_div (ae_ixd hr.u1 (ae_var 4) (ae_var 7)) ae_int)))) (ass_cons (as_set 8 (ae_mod (ae_bty call_int1 al_int (by rfl) z_int boot_int (aa_cons (ae_add (ae_add (ae_mul (ae_ixd hr.u1 (ae_var 2) (ae_var 7)) ae_int) (ae_mul (ae_var 6) ae_int)) ae_int) aa_nil)) ae_int) sc__law_draws.nd) (ass_one (as_ex (ae_app 5 (ae_mod (ae_bty call_int1 al_int (by rfl) z_int boot_int (aa_cons (ae_add (ae_add (ae_mul (ae_var 8) (ae_var 8)) (ae_mul ae_int (ae_var 8))) (ae_var 6)) aa_nil)) ae_int))))))))) (ass_cons (as_ex (ae_rev 5)) (ass_one (as_ret (ae_var 5)))))))))
abbrev s__law_take : Stmt := topS 21
theorem sc__law_take : FnScope ["draws", "many"] ["draws", "many"] (defScope s__law_take) := ⟨rfl, rfl, rfl, by decide +kernel, rfl, by decide +kernel, by decide +kernel⟩
abbrev m__law_take := S_law_take
theorem ok__law_take {P : Program} {w : World} {K : PySem.W.Frag} {mg : Str → Option Value} {base : Heap} {f : Addr} {fd : FuncData} (z_len : mg "len" = none) (z_int : mg "int" = none) (F : Fun K "_law_take" "_law_take" s__law_take f fd) : FnOk P w K mg base CX0 1 f fd ["draws", "many"] (spM K (some 0) 2 m__law_take) :=
  F.zk (wr := (([] ++ []) ++ [])) sc__law_take (some 0) (by decide) (fun i h => by cases h; decide) fun cdv A outer s H E hr =>
    (ass_cons (as_if (at_cmp (ac_eq hr.u64 (ae_blt call_len al_len (by rfl) z_len boot_len (aa_cons (ae_var 0) aa_nil)) ae_int)) (ass_one (as_ret ae_int)) ass_nil) (ass_one (as_ret (ae_mod (ae_bty call_int1 al_int (by rfl) z_int boot_int (aa_cons (ae_pop 0) aa_nil)) (ae_var 1)))))
abbrev s__law_pick : Stmt := topS 22
theorem sc__law_pick : FnScope ["draws", "row"] ["draws", "row"] (defScope s__law_pick) := ⟨rfl, rfl, rfl, by decide +kernel, rfl, by decide +kernel, by decide +kernel⟩
abbrev m__law_pick := S_law_pick
theorem ok__law_pick {P : Program} {w : World} {K : PySem.W.Frag} {mg : Str → Option Value} {base : Heap} {f : Addr} {fd : FuncData} (z_len : mg "len" = none) (o__law_take : Ok P w K mg base 1 "_law_take" ["draws", "many"] (some 0) 2 S_law_take) (F : Fun K "_law_pick" "_law_pick" s__law_pick f fd) : FnOk P w K mg base CX0 2 f fd ["draws", "row"] (spM K (some 0) 2 m__law_pick) :=
  F.zk (wr := []) sc__law_pick (some 0) (by decide) (fun i h => by cases h; decide) fun cdv A outer s H E hr =>
    (ass_one (as_ret (ae_ixd hr.u1 (ae_var 1) (ae_fn o__law_take hr (by rfl) (aa_cons (ae_var 0) (aa_cons (ae_blt call_len al_len (by rfl) z_len boot_len (aa_cons (ae_var 1) aa_nil)) aa_nil)) (npc (npc np0))))))
abbrev s__law_same : Stmt := topS 23
abbrev n__law_same : List Str := ["actual", "due", "k"]
theorem sc__law_same : FnScope ["actual", "due", "k"] ["actual", "due"] (defScope s__law_same) := ⟨rfl, rfl, rfl, by decide +kernel, rfl, by decide +kernel, by decide +kernel⟩
abbrev m__law_same := S_law_same
theorem ok__law_same {P : Program} {w : World} {K : PySem.W.Frag} {mg : Str → Option Value} {base : Heap} {f : Addr} {fd : FuncData} (z_list : mg "list" = none) (z_tuple : mg "tuple" = none) (z_isinstance : mg "isinstance" = none) (z_len : mg "len" = none) (z_range : mg "range" = none) (z_bool : mg "bool" = none) (z_int : mg "int" = none) (z_str : mg "str" = none) (F : Fun K "_law_same" "_law_same" s__law_same f fd) (hm : mg "_law_same" = some (.ref f)) (hb : Binds K fd ["actual", "due"] []) : ∀ n : Nat, FnOk P w K mg base CX0 (0 + n) f fd ["actual", "due"] (spM K none 2 (m__law_same n))
  | 0 => fn_none fun ds => rfl
  | n + 1 =>
    have o__law_same : Ok P w K mg base (0 + n) "_law_same" ["actual", "due"] none 2 (m__law_same n) := ⟨f, fd, ok__law_same z_list z_tuple z_isinstance z_len z_range z_bool z_int z_str F hm hb n, hm, F.kp, hb⟩
    F.zk (wr := (((([] ++ []) ++ (([] ++ []) ++ [])) ++ []) ++ (([] ++ []) ++ (([] ++ []) ++ [])))) sc__law_same none (by decide) (fun i h => by cases h) fun cdv A outer s H E hr =>
      (ass_cons (as_if (at_tru (ae_blt call_isiA al_isi (by rfl) z_isinstance boot_isinstance (aa_cons (ae_var 1) (aa_cons (ae_tup (aa_cons (ae_typ (by rfl) z_tuple boot_tuple) (aa_cons (ae_typ (by rfl) z_list boot_list) aa_nil))) aa_nil)))) (ass_cons (as_if (at_w (aw_or (at_cmp (ac_ne hr.u64 (ae_blt call_isiA al_isi (by rfl) z_isinstance boot_isinstance (aa_cons (ae_var 0) (aa_cons (ae_typ (by rfl) z_tuple boot_tuple) aa_nil))) (ae_blt call_isiA al_isi (by rfl) z_isinstance boot_isinstance (aa_cons (ae_var 1) (aa_cons (ae_typ (by rfl) z_tuple boot_tuple) aa_nil))))) (aw_or1 (at_cmp (ac_ne hr.u64 (ae_blt call_isiA al_isi (by rfl) z_isinstance boot_isinstance (aa_cons (ae_var 0) (aa_cons (ae_typ (by rfl) z_list boot_list) aa_nil))) (ae_blt call_isiA al_isi (by rfl) z_isinstance boot_isinstance (aa_cons (ae_var 1) (aa_cons (ae_typ (by rfl) z_list boot_list) aa_nil)))))))) (ass_one (as_ret ae_bl)) ass_nil) (ass_cons (as_if (at_cmp (ac_ne hr.u64 (ae_blt call_len al_len (by rfl) z_len boot_len (aa_cons (ae_var 0) aa_nil)) (ae_blt call_len al_len (by rfl) z_len boot_len (aa_cons (ae_var 1) aa_nil)))) (ass_one (as_ret ae_bl)) ass_nil) (ass_one (as_ret (ae_cmp (ac_notIn hr.u65 ae_bl (ae_lc [("k", 2)] sc__law_same.nd (blkOk_by (N := n__law_same) (sc := defScope s__law_same) (by decide +kernel)) (ai_rg1 (ae_blt call_len al_len (by rfl) z_len boot_len (aa_cons (ae_var 1) aa_nil)) (by rfl) z_range) (fun _ _ _ _ _ => (ag_n 2 sc__law_same.nd)) (fun _ _ _ _ _ => ats_nil) (fun _ _ _ _ _ => (ae_fn o__law_same hr (by rfl) (aa_cons (ae_ixd hr.u1 (ae_var 0) (ae_var 2)) (aa_cons (ae_ixd hr.u1 (ae_var 1) (ae_var 2)) aa_nil)) (npc (npc np0)))) gl_v))))))) ass_nil) (ass_cons (as_if (at_w (aw_or (at_cmp (ac_ne hr.u64 (ae_blt call_isiA al_isi (by rfl) z_isinstance boot_isinstance (aa_cons (ae_var 0) (aa_cons (ae_typ (by rfl) z_bool boot_bool) aa_nil))) (ae_blt call_isiA al_isi (by rfl) z_isinstance boot_isinstance (aa_cons (ae_var 1) (aa_cons (ae_typ (by rfl) z_bool boot_bool) aa_nil))))) (aw_or1 (at_cmp (ac_ne hr.u64 (ae_blt call_isiA al_isi (by rfl) z_isinstance boot_isinstance (aa_cons (ae_var 0) (aa_cons (ae_typ (by rfl) z_int boot_int) aa_nil))) (ae_blt call_isiA al_isi (by rfl) z_isinstance boot_isinstance (aa_cons (ae_var 1) (aa_cons (ae_typ (by rfl) z_int boot_int) aa_nil)))))))) (ass_one (as_ret ae_bl)) ass_nil) (ass_cons (as_if (at_w (aw_or (at_cmp (ac_ne hr.u64 (ae_blt call_isiA al_isi (by rfl) z_isinstance boot_isinstance (aa_cons (ae_var 0) (aa_cons (ae_typ (by rfl) z_str boot_str) aa_nil))) (ae_blt call_isiA al_isi (by rfl) z_isinstance boot_isinstance (aa_cons (ae_var 1) (aa_cons (ae_typ (by rfl) z_str boot_str) aa_nil))))) (aw_or1 (at_cmp (ac_ne hr.u64 (ae_cmp (ac_isN (ae_var 0))) (ae_cmp (ac_isN (ae_var 1)))))))) (ass_one (as_ret ae_bl)) ass_nil) (ass_one (as_ret (ae_cmp (ac_eq hr.u64 (ae_var 0) (ae_var 1))))))))
abbrev s__law_gcd : Stmt := topS 24
theorem sc__law_gcd : FnScope ["one", "other", "a", "b", "turn", "c"] ["one", "other"] (defScope s__law_gcd) := ⟨rfl, rfl, rfl, by decide +kernel, rfl, by decide +kernel, by decide +kernel⟩
abbrev m__law_gcd := S_law_gcd
theorem ok__law_gcd {P : Program} {w : World} {K : PySem.W.Frag} {mg : Str → Option Value} {base : Heap} {f : Addr} {fd : FuncData} (z_abs : mg "abs" = none) (z_range : mg "range" = none) (z_int : mg "int" = none) (F : Fun K "_law_gcd" "_law_gcd" s__law_gcd f fd) : FnOk P w K mg base CX0 1 f fd ["one", "other"] (spM K none 2 m__law_gcd) :=
  F.zk (wr := ([2] ++ ([3] ++ (([4] ++ (([] ++ []) ++ ([5] ++ ([2] ++ [3])))) ++ [])))) sc__law_gcd none (by decide) (fun i h => by cases h) fun cdv A outer s H E hr =>
    (ass_cons (as_set 2 (ae_blt call_abs al_abs (by rfl) z_abs boot_abs (aa_cons (ae_var 0) aa_nil)) sc__law_gcd.nd) (ass_cons (as_set 3 (ae_blt call_abs al_abs (by rfl) z_abs boot_abs (aa_cons (ae_var 1) aa_nil)) sc__law_gcd.nd) (ass_cons (as_for PassesOwn.never (ai_rg1 ae_int (by rfl) z_range) (ag_n 4 sc__law_gcd.nd) (ass_cons (as_if (at_cmp (ac_eq hr.u64 (ae_var 3) ae_int)) (ass_one as_bk) ass_nil) (ass_cons (as_set 5 (ae_mod (ae_bty call_int1 al_int (by rfl) z_int boot_int (aa_cons (ae_var 2) aa_nil)) (ae_var 3)) sc__law_gcd.nd) (ass_cons (as_set 2 (ae_var 3) sc__law_gcd.nd) (ass_one (as_set 3 (ae_var 5) sc__law_gcd.nd)))))) (ass_one (as_ret (ae_var 2))))))
abbrev s__law_frac : Stmt := topS 25
theorem sc__law_frac : FnScope ["n", "d", "c"] ["n", "d"] (defScope s__law_frac) := ⟨rfl, rfl, rfl, by decide +kernel, rfl, by decide +kernel, by decide +kernel⟩
abbrev m__law_frac := S_law_frac
theorem ok__law_frac {P : Program} {w : World} {K : PySem.W.Frag} {mg : Str → Option Value} {base : Heap} {f : Addr} {fd : FuncData} (z_max : mg "max" = none) (o__law_gcd : Ok P w K mg base 1 "_law_gcd" ["one", "other"] none 2 S_law_gcd) (F : Fun K "_law_frac" "_law_frac" s__law_frac f fd) : FnOk P w K mg base CX0 2 f fd ["n", "d"] (spM K none 2 m__law_frac) :=
  F.zk (wr := ([2] ++ (([2] ++ []) ++ []))) sc__law_frac none (by decide) (fun i h => by cases h) fun cdv A outer s H E hr =>
    (ass_cons (as_set 2 (ae_blt call_maxA al_max (by rfl) z_max boot_max (aa_cons ae_int (aa_cons (ae_fn o__law_gcd hr (by rfl) (aa_cons (ae_var 0) (aa_cons (ae_var 1) aa_nil)) (npc (npc np0))) aa_nil))) sc__law_frac.nd) (ass_cons (as_if (at_cmp (ac_lt (ae_var 1) ae_int)) (ass_one (as_set 2 (ae_sub ae_int (ae_var 2)) sc__law_frac.nd)) ass_nil) (ass_one (as_ret (ae_tup (aa_cons (ae_divZ (ae_var 0) (ae_var 2)) (aa_cons (ae_divZ (ae_var 1) (ae_var 2)) aa_nil)))))))
abbrev s__law_plus : Stmt := topS 26
theorem sc__law_plus : FnScope ["one", "other"] ["one", "other"] (defScope s__law_plus) := ⟨rfl, rfl, rfl, by decide +kernel, rfl, by decide +kernel, by decide +kernel⟩
abbrev m__law_plus := S_law_plus
theorem ok__law_plus {P : Program} {w : World} {K : PySem.W.Frag} {mg : Str → Option Value} {base : Heap} {f : Addr} {fd : FuncData} (o__law_frac : Ok P w K mg base 2 "_law_frac" ["n", "d"] none 2 S_law_frac) (F : Fun K "_law_plus" "_law_plus" s__law_plus f fd) : FnOk P w K mg base CX0 3 f fd ["one", "other"] (spM K none 2 m__law_plus) :=
  F.zk (wr := []) sc__law_plus none (by decide) (fun i h => by cases h) fun cdv A outer s H E hr =>
    (ass_one (as_ret (ae_fn o__law_frac hr (by rfl) (aa_cons (ae_add (ae_mul (ae_ixd hr.u1 (ae_var 0) ae_int) (ae_ixd hr.u1 (ae_var 1) ae_int)) (ae_mul (ae_ixd hr.u1 (ae_var 1) ae_int) (ae_ixd hr.u1 (ae_var 0) ae_int))) (aa_cons (ae_mul (ae_ixd hr.u1 (ae_var 0) ae_int) (ae_ixd hr.u1 (ae_var 1) ae_int)) aa_nil)) (npc (npc np0)))))
abbrev s__law_product : Stmt := topS 27
theorem sc__law_product : FnScope ["one", "other"] ["one", "other"] (defScope s__law_product) := ⟨rfl, rfl, rfl, by decide +kernel, rfl, by decide +kernel, by decide +kernel⟩
abbrev m__law_product := S_law_product
theorem ok__law_product {P : Program} {w : World} {K : PySem.W.Frag} {mg : Str → Option Value} {base : Heap} {f : Addr} {fd : FuncData} (o__law_frac : Ok P w K mg base 2 "_law_frac" ["n", "d"] none 2 S_law_frac) (F : Fun K "_law_product" "_law_product" s__law_product f fd) : FnOk P w K mg base CX0 3 f fd ["one", "other"] (spM K none 2 m__law_product) :=
  F.zk (wr := []) sc__law_product none (by decide) (fun i h => by cases h) fun cdv A outer s H E hr =>
    (ass_one (as_ret (ae_fn o__law_frac hr (by rfl) (aa_cons (ae_mul (ae_ixd hr.u1 (ae_var 0) ae_int) (ae_ixd hr.u1 (ae_var 1) ae_int)) (aa_cons (ae_mul (ae_ixd hr.u1 (ae_var 0) ae_int) (ae_ixd hr.u1 (ae_var 1) ae_int)) aa_nil)) (npc (npc np0)))))
abbrev s__law_power : Stmt := topS 28
theorem sc__law_power : FnScope ["base", "many", "told", "k"] ["base", "many"] (defScope s__law_power) := ⟨rfl, rfl, rfl, by decide +kernel, rfl, by decide +kernel, by decide +kernel⟩
abbrev m__law_power := S_law_power
theorem ok__law_power {P : Program} {w : World} {K : PySem.W.Frag} {mg : Str → Option Value} {base : Heap} {f : Addr} {fd : FuncData} (z_range : mg "range" = none) (F : Fun K "_law_power" "_law_power" s__law_power f fd) : FnOk P w K mg base CX0 1 f fd ["base", "many"] (spM K none 2 m__law_power) :=
  F.zk (wr := ([2] ++ (([3] ++ [2]) ++ []))) sc__law_power none (by decide) (fun i h => by cases h) fun cdv A outer s H E hr =>
    (ass_cons (as_set 2 ae_int sc__law_power.nd) (ass_cons (as_for PassesOwn.never (ai_rg1 (ae_var 1) (by rfl) z_range) (ag_n 3 sc__law_power.nd) (ass_one (as_set 2 (ae_mul (ae_var 2) (ae_var 0)) sc__law_power.nd))) (ass_one (as_ret (ae_var 2)))))
abbrev s__law_chances : Stmt := topS 29
abbrev n__law_chances : List Str := ["n", "c", "d", "told", "power", "go", "more", "x", "on", "whole", "thing"]
theorem sc__law_chances : FnScope ["n", "c", "d", "told", "power", "go", "more", "x", "on", "whole", "thing"] ["n", "c", "d"] (defScope s__law_chances) := ⟨rfl, rfl, rfl, by decide +kernel, rfl, by decide +kernel, by decide +kernel⟩
abbrev m__law_chances := S_law_chances
theorem ok__law_chances {P : Program} {w : World} {K : PySem.W.Frag} {mg : Str → Option Value} {base : Heap} {f : Addr} {fd : FuncData} (z_range : mg "range" = none) (z_len : mg "len" = none) (z_tuple : mg "tuple" = none) (o__law_power : Ok P w K mg base 2 "_law_power" ["base", "many"] none 2 S_law_power) (o__law_frac : Ok P w K mg base 2 "_law_frac" ["n", "d"] none 2 S_law_frac) (F : Fun K "_law_chances" "_law_chances" s__law_chances f fd) : FnOk P w K mg base CX0 3 f fd ["n", "c", "d"] (spM K none 3 m__law_chances) :=
  F.zk (wr := ([3] ++ ([4] ++ (([5] ++ ([6] ++ (([7] ++ ([8] ++ ([] ++ []))) ++ ([3] ++ [4])))) ++ ([9] ++ []))))) sc__law_chances none (by decide) (fun i h => by cases h) fun cdv A outer s H E hr =>
    (ass_cons (as_set 3 (ae_lst (aa_cons ae_int aa_nil)) sc__law_chances.nd) (ass_cons (as_set 4 ae_int sc__law_chances.nd) (ass_cons (as_for PassesOwn.never (ai_rg1 (ae_var 0) (by rfl) z_range) (ag_n 5 sc__law_chances.nd) (ass_cons (as_set 6 (ae_mul (ae_lst (aa_cons ae_int aa_nil)) (ae_add (ae_blt call_len al_len (by rfl) z_len boot_len (aa_cons (ae_var 3) aa_nil)) ae_int)) sc__law_chances.nd) (ass_cons (as_for PassesOwn.never (ai_rg1 (ae_blt call_len al_len (by rfl) z_len boot_len (aa_cons (ae_var 3) aa_nil)) (by rfl) z_range) (ag_n 7 sc__law_chances.nd) (ass_cons (as_set 8 (ae_mul (ae_fn o__law_power hr (by rfl) (aa_cons (ae_var 2) (aa_cons (ae_var 7) aa_nil)) (npc (npc np0))) (ae_fn o__law_power hr (by rfl) (aa_cons (ae_var 1) (aa_cons (ae_sub (ae_var 5) (ae_var 7)) aa_nil)) (npc (npc np0)))) sc__law_chances.nd) (ass_cons (as_put 6 hr.u1 (ae_var 7) (ae_add (ae_ixd hr.u1 (ae_var 6) (ae_var 7)) (ae_mul (ae_ixd hr.u1 (ae_var 3) (ae_var 7)) (ae_sub (ae_fn o__law_power hr (by rfl) (aa_cons (ae_var 1) (aa_cons (ae_var 5) aa_nil)) (npc (npc np0))) (ae_var 8))))) (ass_one (as_put 6 hr.u1 (ae_add (ae_var 7) ae_int) (ae_add (ae_ixd hr.u1 (ae_var 6) (ae_add (ae_var 7) ae_int)) (ae_mul (ae_ixd hr.u1 (ae_var 3) (ae_var 7)) (ae_var 8)))))))) (ass_cons (as_mov 3 6 sc__law_chances.nd) (ass_one (as_set 4 (ae_add (ae_var 4) (ae_var 5)) sc__law_chances.nd)))))) (ass_cons (as_set 9 (ae_fn o__law_power hr (by rfl) (aa_cons (ae_var 1) (aa_cons (ae_var 4) aa_nil)) (npc (npc np0))) sc__law_chances.nd) (ass_one (as_ret (ae_bty call_tuple_of al_tuple (by rfl) z_tuple boot_tuple (aa_cons (ae_lc [("thing", 10)] sc__law_chances.nd (blkOk_by (N := n__law_chances) (sc := defScope s__law_chances) (by decide +kernel)) (ai_seq (ae_var 3)) (fun _ _ _ _ _ => (ag_n 10 sc__law_chances.nd)) (fun _ _ _ _ _ => ats_nil) (fun _ _ _ _ _ => (ae_fn o__law_frac hr (by rfl) (aa_cons (ae_var 10) (aa_cons (ae_var 9) aa_nil)) (npc (npc np0)))) gl_v) aa_nil))))))))
abbrev s__law_joined_chances : Stmt := topS 30
abbrev n__law_joined_chances : List Str := ["x", "y", "table", "j", "more", "z", "on", "part"]
theorem sc__law_joined_chances : FnScope ["x", "y", "table", "j", "more", "z", "on", "part"] ["x", "y"] (defScope s__law_joined_chances) := ⟨rfl, rfl, rfl, by decide +kernel, rfl, by decide +kernel, by decide +kernel⟩
abbrev m__law_joined_chances := S_law_joined_chances
theorem ok__law_joined_chances {P : Program} {w : World} {K : PySem.W.Frag} {mg : Str → Option Value} {base : Heap} {f : Addr} {fd : FuncData} (z_max : mg "max" = none) (z_range : mg "range" = none) (z_min : mg "min" = none) (z_tuple : mg "tuple" = none) (o__law_frac : Ok P w K mg base 2 "_law_frac" ["n", "d"] none 2 S_law_frac) (F : Fun K "_law_joined_chances" "_law_joined_chances" s__law_joined_chances f fd) : FnOk P w K mg base CX0 3 f fd ["x", "y"] (spM K none 2 m__law_joined_chances) :=
  F.zk (wr := ([2] ++ ([] ++ (([3] ++ ([4] ++ (([5] ++ (([6] ++ ([] ++ [])) ++ [])) ++ [2]))) ++ [])))) sc__law_joined_chances none (by decide) (fun i h => by cases h) fun cdv A outer s H E hr =>
    (ass_cons (as_set 2 (ae_mul (ae_lst (aa_cons ae_int aa_nil)) (ae_add (ae_add (ae_var 0) (ae_var 1)) ae_int)) sc__law_joined_chances.nd) (ass_cons (as_put 2 hr.u1 (ae_blt call_maxA al_max (by rfl) z_max boot_max (aa_cons (ae_var 0) (aa_cons (ae_var 1) aa_nil))) ae_int) (ass_cons (as_for PassesOwn.never (ai_rg1 (ae_blt call_minA al_min (by rfl) z_min boot_min (aa_cons (ae_var 0) (aa_cons (ae_var 1) aa_nil))) (by rfl) z_range) (ag_n 3 sc__law_joined_chances.nd) (ass_cons (as_set 4 (ae_mul (ae_lst (aa_cons ae_int aa_nil)) (ae_add (ae_add (ae_var 0) (ae_var 1)) ae_int)) sc__law_joined_chances.nd) (ass_cons (as_for PassesOwn.never (ai_rg2 (ae_blt call_maxA al_max (by rfl) z_max boot_max (aa_cons (ae_var 0) (aa_cons (ae_var 1) aa_nil))) (ae_add (ae_add (ae_var 0) (ae_var 1)) ae_int) (by rfl) z_range) (ag_n 5 sc__law_joined_chances.nd) (ass_one (as_if (at_cmp (ac_ne hr.u64 (ae_ixd hr.u1 (ae_var 2) (ae_var 5)) ae_int)) (ass_cons (as_set 6 (ae_shl ae_int (ae_sub (ae_add ae_int (ae_var 3)) (ae_var 5))) sc__law_joined_chances.nd) (ass_cons (as_put 4 hr.u1 (ae_var 5) (ae_add (ae_ixd hr.u1 (ae_var 4) (ae_var 5)) (ae_mul (ae_ixd hr.u1 (ae_var 2) (ae_var 5)) (ae_sub (ae_shl ae_int ae_int) (ae_var 6))))) (ass_one (as_put 4 hr.u1 (ae_add (ae_var 5) ae_int) (ae_add (ae_ixd hr.u1 (ae_var 4) (ae_add (ae_var 5) ae_int)) (ae_mul (ae_ixd hr.u1 (ae_var 2) (ae_var 5)) (ae_var 6))))))) ass_nil))) (ass_one (as_mov 2 4 sc__law_joined_chances.nd))))) (ass_one (as_ret (ae_bty call_tuple_of al_tuple (by rfl) z_tuple boot_tuple (aa_cons (ae_lc [("part", 7)] sc__law_joined_chances.nd (blkOk_by (N := n__law_joined_chances) (sc := defScope s__law_joined_chances) (by decide +kernel)) (ai_seq (ae_var 2)) (fun _ _ _ _ _ => (ag_n 7 sc__law_joined_chances.nd)) (fun _ _ _ _ _ => ats_nil) (fun _ _ _ _ _ => (ae_fn o__law_frac hr (by rfl) (aa_cons (ae_var 7) (aa_cons (ae_shl ae_int (ae_mul ae_int (ae_blt call_minA al_min (by rfl) z_min boot_min (aa_cons (ae_var 0) (aa_cons (ae_var 1) aa_nil))))) aa_nil)) (npc (npc np0)))) gl_v) aa_nil)))))))
abbrev s__law_choice : Stmt := topS 31
theorem sc__law_choice : FnScope ["x", "r", "top", "low", "i"] ["x", "r"] (defScope s__law_choice) := ⟨rfl, rfl, rfl, by decide +kernel, rfl, by decide +kernel, by decide +kernel⟩
abbrev m__law_choice := S_law_choice
theorem ok__law_choice {P : Program} {w : World} {K : PySem.W.Frag} {mg : Str → Option Value} {base : Heap} {f : Addr} {fd : FuncData} (z_range : mg "range" = none) (F : Fun K "_law_choice" "_law_choice" s__law_choice f fd) : FnOk P w K mg base CX0 1 f fd ["x", "r"] (spM K none 2 m__law_choice) :=
  F.zk (wr := ([2] ++ ([3] ++ (([4] ++ ([2] ++ [3])) ++ [])))) sc__law_choice none (by decide) (fun i h => by cases h) fun cdv A outer s H E hr =>
    (ass_cons (as_set 2 ae_int sc__law_choice.nd) (ass_cons (as_set 3 ae_int sc__law_choice.nd) (ass_cons (as_for PassesOwn.never (ai_rg1 (ae_var 1) (by rfl) z_range) (ag_n 4 sc__law_choice.nd) (ass_cons (as_set 2 (ae_mul (ae_var 2) (ae_sub (ae_shl ae_int (ae_var 0)) (ae_shl ae_int (ae_var 4)))) sc__law_choice.nd) (ass_one (as_set 3 (ae_mul (ae_var 3) (ae_sub (ae_shl ae_int (ae_add (ae_var 4) ae_int)) ae_int)) sc__law_choice.nd)))) (ass_one (as_ret (ae_div (ae_var 2) (ae_var 3)))))))
abbrev s__law_sets : Stmt := topS 32
abbrev n__law_sets : List Str := ["n", "r", "row", "k", "i"]
theorem sc__law_sets : FnScope ["n", "r", "row", "k", "i"] ["n", "r"] (defScope s__law_sets) := ⟨rfl, rfl, rfl, by decide +kernel, rfl, by decide +kernel, by decide +kernel⟩
abbrev m__law_sets := S_law_sets
theorem ok__law_sets {P : Program} {w : World} {K : PySem.W.Frag} {mg : Str → Option Value} {base : Heap} {f : Addr} {fd : FuncData} (z_range : mg "range" = none) (z_len : mg "len" = none) (F : Fun K "_law_sets" "_law_sets" s__law_sets f fd) : FnOk P w K mg base CX0 1 f fd ["n", "r"] (spM K none 2 m__law_sets) :=
  F.zk (wr := ([2] ++ (([3] ++ [2]) ++ (([] ++ []) ++ [])))) sc__law_sets none (by decide) (fun i h => by cases h) fun cdv A outer s H E hr =>
    (ass_cons (as_set 2 (ae_lst (aa_cons ae_int aa_nil)) sc__law_sets.nd) (ass_cons (as_for PassesOwn.never (ai_rg1 (ae_var 0) (by rfl) z_range) (ag_n 3 sc__law_sets.nd) (ass_one (as_set 2 (ae_add (ae_add (ae_lst (aa_cons ae_int aa_nil)) (ae_lc [("i", 4)] sc__law_sets.nd (blkOk_by (N := n__law_sets) (sc := defScope s__law_sets) (by decide +kernel)) (ai_rg1 (ae_sub (ae_blt call_len al_len (by rfl) z_len boot_len (aa_cons (ae_var 2) aa_nil)) ae_int) (by rfl) z_range) (fun _ _ _ _ _ => (ag_n 4 sc__law_sets.nd)) (fun _ _ _ _ _ => ats_nil) (fun _ _ _ _ _ => (ae_add (ae_ixd hr.u1 (ae_var 2) (ae_var 4)) (ae_ixd hr.u1 (ae_var 2) (ae_add (ae_var 4) ae_int)))) gl_v)) (ae_lst (aa_cons ae_int aa_nil))) sc__law_sets.nd))) (ass_cons (as_if (at_cmp (ac_gt (ae_var 1) (ae_var 0))) (ass_one (as_ret ae_int)) ass_nil) (ass_one (as_ret (ae_ixd hr.u1 (ae_var 2) (ae_var 1)))))))
abbrev s__law_first_half : Stmt := topS 33
theorem sc__law_first_half : FnScope ["script", "draws", "turn", "x", "y", "due", "r", "top", "n", "mean", "told", "other"] ["script"] (defScope s__law_first_half) := ⟨rfl, rfl, rfl, by decide +kernel, rfl, by decide +kernel, by decide +kernel⟩
def b__law_first_half : Fs := (mSeq (mSet 1 (mCall none S_law_draws (mAc (mVar 0) (mAc (mC (.int 60)) mA0)))) (mSeq (mFor (mRg1 (mC (.int 2))) (tgV 2) (mSeq (mSet 3 (mCall (some 0) S_law_take (mAc (mVar 1) (mAc (mC (.int 16)) mA0)))) (mSeq (mSet 4 (mCall (some 0) S_law_take (mAc (mVar 1) (mAc (mCall (some 0) S_law_pick (mAc (mVar 1) (mAc (mLst (mAc (mC (.int 3)) (mAc (mC (.int 16)) mA0))) mA0))) mA0)))) (mSeq (mSet 5 (mCall none S_law_joined_chances (mAc (mVar 3) (mAc (mVar 4) mA0)))) (mSeq (mIfS (mOrT (mNotT (mTr (mCall none (S_law_same 8) (mAc (mCall none S_joined_chances (mAc (mVar 3) (mAc (mVar 4) mA0))) (mAc (mVar 5) mA0))))) (mNotT (mTr (mCall none (S_law_same 8) (mAc (mCall none S_joined_chances (mAc (mVar 4) (mAc (mVar 3) mA0))) (mAc (mVar 5) mA0)))))) (mRet (mC (.bl false))) mNx) (mSeq (mSet 6 (mCall (some 0) S_law_take (mAc (mVar 1) (mAc (mCall (some 0) S_law_pick (mAc (mVar 1) (mAc (mLst (mAc (mC (.int 4)) (mAc (mC (.int 31)) mA0))) mA0))) mA0)))) (mSeq (mFor (mSq (mLst (mAc (mCall (some 0) S_law_take (mAc (mVar 1) (mAc (mC (.int 31)) mA0))) (mAc (mVar 6) (mAc (mC (.int 30)) mA0))))) (tgV 7) (mIfS (mNotT (mTr (mCall none (S_law_same 8) (mAc (mCall none S_choice (mAc (mVar 7) (mAc (mVar 6) mA0))) (mAc (mCall none S_law_choice (mAc (mVar 7) (mAc (mVar 6) mA0))) mA0))))) (mRet (mC (.bl false))) mNx)) (mSeq (mSet 8 (mCall (some 0) S_law_take (mAc (mVar 1) (mAc (mC (.int 31)) mA0)))) (mSeq (mIfS (mNotT (mTr (mCall none (S_law_same 8) (mAc (mCall none S_mean_choice (mAc (mVar 8) (mAc (mVar 6) mA0))) (mAc (mTup (mAc (mCall none S_law_sets (mAc (mVar 8) (mAc (mVar 6) mA0))) (mAc (mC (.int 1)) mA0))) mA0))))) (mRet (mC (.bl false))) mNx) (mSeq (mSet 8 (mCall (some 0) S_law_take (mAc (mVar 1) (mAc (mC (.int 13)) mA0)))) (mSeq (mSet 9 (mTup (mAc (mC (.int 0)) (mAc (mC (.int 1)) mA0)))) (mSeq (mSet 10 (mCall none S_chances (mAc (mVar 8) mA0))) (mSeq (mIfS (mNotT (mTr (mCall none (S_law_same 8) (mAc (mVar 10) (mAc (mCall none S_law_chances (mAc (mVar 8) (mAc (mC (.int 2)) (mAc (mC (.int 1)) mA0)))) mA0))))) (mRet (mC (.bl false))) mNx) (mSeq (mFor (mRg1 (mAdd (mVar 8) (mC (.int 1)))) (tgV 3) (mSet 9 (mCall none S_law_plus (mAc (mVar 9) (mAc (mCall none S_law_product (mAc (mIxd (mVar 10) (mVar 3)) (mAc (mTup (mAc (mCall none S_choice (mAc (mVar 3) (mAc (mVar 6) mA0))) (mAc (mC (.int 1)) mA0))) mA0))) mA0))))) (mIfS (mB (mNe (mVar 9) (mTup (mAc (mCall none S_law_sets (mAc (mVar 8) (mAc (mVar 6) mA0))) (mAc (mC (.int 1)) mA0))))) (mRet (mC (.bl false))) mNx))))))))))))))) (mSeq (mSet 8 (mCall (some 0) S_law_take (mAc (mVar 1) (mAc (mCall (some 0) S_law_pick (mAc (mVar 1) (mAc (mLst (mAc (mC (.int 5)) (mAc (mC (.int 9)) (mAc (mC (.int 13)) mA0)))) mA0))) mA0)))) (mSeq (mSet 11 (mCall (some 0) S_law_take (mAc (mVar 1) (mAc (mCall (some 0) S_law_pick (mAc (mVar 1) (mAc (mLst (mAc (mC (.int 3)) (mAc (mC (.int 5)) mA0))) mA0))) mA0)))) (mSeq (mIfS (mNotT (mTr (mCall none (S_law_same 8) (mAc (mCall none S_chances_of_joined (mAc (mVar 8) (mAc (mVar 11) mA0))) (mAc (mCall none S_law_chances (mAc (mAdd (mVar 8) (mVar 11)) (mAc (mC (.int 2)) (mAc (mC (.int 1)) mA0)))) mA0))))) (mRet (mC (.bl false))) mNx) (mRet (mAndV (mCall none (S_law_same 8) (mAc (mCall none S_joined_chances (mAc (mC (.int 1)) (mAc (mC (.int 1)) mA0))) (mAc (mTup (mAc (mTup (mAc (mC (.int 0)) (mAc (mC (.int 1)) mA0))) (mAc (mTup (mAc (mC (.int 1)) (mAc (mC (.int 2)) mA0))) (mAc (mTup (mAc (mC (.int 1)) (mAc (mC (.int 2)) mA0))) mA0)))) mA0))) (mCall none (S_law_same 8) (mAc (mCall none S_choice (mAc (mC (.int 4)) (mAc (mC (.int 2)) mA0))) (mAc (mC (.int 70)) mA0))))))))))
def m__law_first_half : Mir := mDef none 12 b__law_first_half
theorem ok__law_first_half {P : Program} {w : World} {K : PySem.W.Frag} {mg : Str → Option Value} {base : Heap} {f : Addr} {fd : FuncData} (z_range : mg "range" = none) (o__law_draws : Ok P w K mg base 8 "_law_draws" ["script", "many"] none 2 S_law_draws) (o__law_take : Ok P w K mg base 8 "_law_take" ["draws", "many"] (some 0) 2 S_law_take) (o__law_pick : Ok P w K mg base 8 "_law_pick" ["draws", "row"] (some 0) 2 S_law_pick) (o__law_joined_chances : Ok P w K mg base 8 "_law_joined_chances" ["x", "y"] none 2 S_law_joined_chances) (o__law_same : Ok P w K mg base 8 "_law_same" ["actual", "due"] none 2 (S_law_same 8)) (o_joined_chances : Ok P w K mg base 8 "joined_chances" ["x", "y"] none 2 S_joined_chances) (o__law_choice : Ok P w K mg base 8 "_law_choice" ["x", "r"] none 2 S_law_choice) (o_choice : Ok P w K mg base 8 "choice" ["x", "r"] none 2 S_choice) (o__law_sets : Ok P w K mg base 8 "_law_sets" ["n", "r"] none 2 S_law_sets) (o_mean_choice : Ok P w K mg base 8 "mean_choice" ["n", "r"] none 2 S_mean_choice) (o_chances : Ok P w K mg base 8 "chances" ["n"] none 1 S_chances) (o__law_chances : Ok P w K mg base 8 "_law_chances" ["n", "c", "d"] none 3 S_law_chances) (o__law_plus : Ok P w K mg base 8 "_law_plus" ["one", "other"] none 2 S_law_plus) (o__law_product : Ok P w K mg base 8 "_law_product" ["one", "other"] none 2 S_law_product) (o_chances_of_joined : Ok P w K mg base 8 "chances_of_joined" ["n", "other"] none 2 S_chances_of_joined) (F : Fun K "_law_first_half" "_law_first_half" s__law_first_half f fd) : FnOk P w K mg base CX0 9 f fd ["script"] (spM K none 1 m__law_first_half) :=
  F.zk (wr := ([1] ++ (([2] ++ ([3] ++ ([4] ++ ([5] ++ (([] ++ []) ++ ([6] ++ (([7] ++ ([] ++ [])) ++ ([8] ++ (([] ++ []) ++ ([8] ++ ([9] ++ ([10] ++ (([] ++ []) ++ (([3] ++ [9]) ++ ([] ++ []))))))))))))))) ++ ([8] ++ ([11] ++ (([] ++ []) ++ [])))))) sc__law_first_half none (by decide) (fun i h => by cases h) fun cdv A outer s H E hr =>
    (ass_cons (as_set 1 (ae_fn o__law_draws hr (by rfl) (aa_cons (ae_var 0) (aa_cons ae_int aa_nil)) (npc (npc np0))) sc__law_first_half.nd) (ass_cons (as_for PassesOwn.never (ai_rg1 ae_int (by rfl) z_range) (ag_n 2 sc__law_first_half.nd) (ass_cons (as_set 3 (ae_fn o__law_take hr (by rfl) (aa_cons (ae_var 1) (aa_cons ae_int aa_nil)) (npc (npc np0))) sc__law_first_half.nd) (ass_cons (as_set 4 (ae_fn o__law_take hr (by rfl) (aa_cons (ae_var 1) (aa_cons (ae_fn o__law_pick hr (by rfl) (aa_cons (ae_var 1) (aa_cons (ae_lst (aa_cons ae_int (aa_cons ae_int aa_nil))) aa_nil)) (npc (npc np0))) aa_nil)) (npc (npc np0))) sc__law_first_half.nd) (ass_cons (as_set 5 (ae_fn o__law_joined_chances hr (by rfl) (aa_cons (ae_var 3) (aa_cons (ae_var 4) aa_nil)) (npc (npc np0))) sc__law_first_half.nd) (ass_cons (as_if (at_w (aw_or (at_not (at_tru (ae_fn o__law_same hr (by rfl) (aa_cons (ae_fn o_joined_chances hr (by rfl) (aa_cons (ae_var 3) (aa_cons (ae_var 4) aa_nil)) (npc (npc np0))) (aa_cons (ae_var 5) aa_nil)) (npc (npc np0))))) (aw_or1 (at_not (at_tru (ae_fn o__law_same hr (by rfl) (aa_cons (ae_fn o_joined_chances hr (by rfl) (aa_cons (ae_var 4) (aa_cons (ae_var 3) aa_nil)) (npc (npc np0))) (aa_cons (ae_var 5) aa_nil)) (npc (npc np0)))))))) (ass_one (as_ret ae_bl)) ass_nil) (ass_cons (as_set 6 (ae_fn o__law_take hr (by rfl) (aa_cons (ae_var 1) (aa_cons (ae_fn o__law_pick hr (by rfl) (aa_cons (ae_var 1) (aa_cons (ae_lst (aa_cons ae_int (aa_cons ae_int aa_nil))) aa_nil)) (npc (npc np0))) aa_nil)) (npc (npc np0))) sc__law_first_half.nd) (ass_cons (as_for PassesOwn.never (ai_seq (ae_lst (aa_cons (ae_fn o__law_take hr (by rfl) (aa_cons (ae_var 1) (aa_cons ae_int aa_nil)) (npc (npc np0))) (aa_cons (ae_var 6) (aa_cons ae_int aa_nil))))) (ag_n 7 sc__law_first_half.nd) (ass_one (as_if (at_not (at_tru (ae_fn o__law_same hr (by rfl) (aa_cons (ae_fn o_choice hr (by rfl) (aa_cons (ae_var 7) (aa_cons (ae_var 6) aa_nil)) (npc (npc np0))) (aa_cons (ae_fn o__law_choice hr (by rfl) (aa_cons (ae_var 7) (aa_cons (ae_var 6) aa_nil)) (npc (npc np0))) aa_nil)) (npc (npc np0))))) (ass_one (as_ret ae_bl)) ass_nil))) (ass_cons (as_set 8 (ae_fn o__law_take hr (by rfl) (aa_cons (ae_var 1) (aa_cons ae_int aa_nil)) (npc (npc np0))) sc__law_first_half.nd) (ass_cons (as_if (at_not (at_tru (ae_fn o__law_same hr (by rfl) (aa_cons (ae_fn o_mean_choice hr (by rfl) (aa_cons (ae_var 8) (aa_cons (ae_var 6) aa_nil)) (npc (npc np0))) (aa_cons (ae_tup (aa_cons (ae_fn o__law_sets hr (by rfl) (aa_cons (ae_var 8) (aa_cons (ae_var 6) aa_nil)) (npc (npc np0))) (aa_cons ae_int aa_nil))) aa_nil)) (npc (npc np0))))) (ass_one (as_ret ae_bl)) ass_nil) (ass_cons (as_set 8 (ae_fn o__law_take hr (by rfl) (aa_cons (ae_var 1) (aa_cons ae_int aa_nil)) (npc (npc np0))) sc__law_first_half.nd) (ass_cons (as_set 9 (ae_tup (aa_cons ae_int (aa_cons ae_int aa_nil))) sc__law_first_half.nd) (ass_cons (as_set 10 (ae_fn o_chances hr (by rfl) (aa_cons (ae_var 8) aa_nil) (npc np0)) sc__law_first_half.nd) (ass_cons (as_if (at_not (at_tru (ae_fn o__law_same hr (by rfl) (aa_cons (ae_var 10) (aa_cons (ae_fn o__law_chances hr (by rfl) (aa_cons (ae_var 8) (aa_cons ae_int (aa_cons ae_int aa_nil))) (npc (npc (npc np0)))) aa_nil)) (npc (npc np0))))) (ass_one (as_ret ae_bl)) ass_nil) (ass_cons (as_for PassesOwn.never (ai_rg1 (ae_add (ae_var 8) ae_int) (by rfl) z_range) (ag_n 3 sc__law_first_half.nd) (ass_one (as_set 9 (ae_fn o__law_plus hr (by rfl) (aa_cons (ae_var 9) (aa_cons (ae_fn o__law_product hr (by rfl) (aa_cons (ae_ixd hr.u1 (ae_var 10) (ae_var 3)) (aa_cons (ae_tup (aa_cons (ae_fn o_choice hr (by rfl) (aa_cons (ae_var 3) (aa_cons (ae_var 6) aa_nil)) (npc (npc np0))) (aa_cons ae_int aa_nil))) aa_nil)) (npc (npc np0))) aa_nil)) (npc (npc np0))) sc__law_first_half.nd))) (ass_one (as_if (at_cmp (ac_ne hr.u64 (ae_var 9) (ae_tup (aa_cons (ae_fn o__law_sets hr (by rfl) (aa_cons (ae_var 8) (aa_cons (ae_var 6) aa_nil)) (npc (npc np0))) (aa_cons ae_int aa_nil))))) (ass_one (as_ret ae_bl)) ass_nil)))))))))))))))) (ass_cons (as_set 8 (ae_fn o__law_take hr (by rfl) (aa_cons (ae_var 1) (aa_cons (ae_fn o__law_pick hr (by rfl) (aa_cons (ae_var 1) (aa_cons (ae_lst (aa_cons ae_int (aa_cons ae_int (aa_cons ae_int aa_nil)))) aa_nil)) (npc (npc np0))) aa_nil)) (npc (npc np0))) sc__law_first_half.nd) (ass_cons (as_set 11 (ae_fn o__law_take hr (by rfl) (aa_cons (ae_var 1) (aa_cons (ae_fn o__law_pick hr (by rfl) (aa_cons (ae_var 1) (aa_cons (ae_lst (aa_cons ae_int (aa_cons ae_int aa_nil))) aa_nil)) (npc (npc np0))) aa_nil)) (npc (npc np0))) sc__law_first_half.nd) (ass_cons (as_if (at_not (at_tru (ae_fn o__law_same hr (by rfl) (aa_cons (ae_fn o_chances_of_joined hr (by rfl) (aa_cons (ae_var 8) (aa_cons (ae_var 11) aa_nil)) (npc (npc np0))) (aa_cons (ae_fn o__law_chances hr (by rfl) (aa_cons (ae_add (ae_var 8) (ae_var 11)) (aa_cons ae_int (aa_cons ae_int aa_nil))) (npc (npc (npc np0)))) aa_nil)) (npc (npc np0))))) (ass_one (as_ret ae_bl)) ass_nil) (ass_one (as_ret (ae_andV (ae_fn o__law_same hr (by rfl) (aa_cons (ae_fn o_joined_chances hr (by rfl) (aa_cons ae_int (aa_cons ae_int aa_nil)) (npc (npc np0))) (aa_cons (ae_tup (aa_cons (ae_tup (aa_cons ae_int (aa_cons ae_int aa_nil))) (aa_cons (ae_tup (aa_cons ae_int (aa_cons ae_int aa_nil))) (aa_cons (ae_tup (aa_cons ae_int (aa_cons ae_int aa_nil))) aa_nil)))) aa_nil)) (npc (npc np0))) (ae_one (ae_fn o__law_same hr (by rfl) (aa_cons (ae_fn o_choice hr (by rfl) (aa_cons ae_int (aa_cons ae_int aa_nil)) (npc (npc np0))) (aa_cons ae_int aa_nil)) (npc (npc np0))))))))))))
abbrev s__law_mean : Stmt := topS 34
theorem sc__law_mean : FnScope ["told", "c", "d", "mean", "x", "top"] ["told", "c", "d"] (defScope s__law_mean) := ⟨rfl, rfl, rfl, by decide +kernel, rfl, by decide +kernel, by decide +kernel⟩
abbrev m__law_mean := S_law_mean
theorem ok__law_mean {P : Program} {w : World} {K : PySem.W.Frag} {mg : Str → Option Value} {base : Heap} {f : Addr} {fd : FuncData} (z_range : mg "range" = none) (z_len : mg "len" = none) (o__law_power : Ok P w K mg base 3 "_law_power" ["base", "many"] none 2 S_law_power) (o__law_plus : Ok P w K mg base 3 "_law_plus" ["one", "other"] none 2 S_law_plus) (o__law_product : Ok P w K mg base 3 "_law_product" ["one", "other"] none 2 S_law_product) (o__law_frac : Ok P w K mg base 3 "_law_frac" ["n", "d"] none 2 S_law_frac) (F : Fun K "_law_mean" "_law_mean" s__law_mean f fd) : FnOk P w K mg base CX0 4 f fd ["told", "c", "d"] (spM K none 3 m__law_mean) :=
  F.zk (wr := ([3] ++ (([4] ++ ([5] ++ [3])) ++ []))) sc__law_mean none (by decide) (fun i h => by cases h) fun cdv A outer s H E hr =>
    (ass_cons (as_set 3 (ae_tup (aa_cons ae_int (aa_cons ae_int aa_nil))) sc__law_mean.nd) (ass_cons (as_for PassesOwn.never (ai_rg1 (ae_blt call_len al_len (by rfl) z_len boot_len (aa_cons (ae_var 0) aa_nil)) (by rfl) z_range) (ag_n 4 sc__law_mean.nd) (ass_cons (as_set 5 (ae_sub (ae_fn o__law_power hr (by rfl) (aa_cons (ae_var 1) (aa_cons (ae_var 4) aa_nil)) (npc (npc np0))) (ae_fn o__law_power hr (by rfl) (aa_cons (ae_var 2) (aa_cons (ae_var 4) aa_nil)) (npc (npc np0)))) sc__law_mean.nd) (ass_one (as_set 3 (ae_fn o__law_plus hr (by rfl) (aa_cons (ae_var 3) (aa_cons (ae_fn o__law_product hr (by rfl) (aa_cons (ae_ixd hr.u1 (ae_var 0) (ae_var 4)) (aa_cons (ae_fn o__law_frac hr (by rfl) (aa_cons (ae_mul (ae_var 5) (ae_var 2)) (aa_cons (ae_mul (ae_fn o__law_power hr (by rfl) (aa_cons (ae_var 2) (aa_cons (ae_var 4) aa_nil)) (npc (npc np0))) (ae_sub (ae_var 1) (ae_var 2))) aa_nil)) (npc (npc np0))) aa_nil)) (npc (npc np0))) aa_nil)) (npc (npc np0))) sc__law_mean.nd)))) (ass_one (as_ret (ae_var 3)))))
abbrev s__law_second_half : Stmt := topS 35
theorem sc__law_second_half : FnScope ["script", "draws", "turn", "d", "c", "n", "b", "told"] ["script"] (defScope s__law_second_half) := ⟨rfl, rfl, rfl, by decide +kernel, rfl, by decide +kernel, by decide +kernel⟩
def b__law_second_half : Fs := (mSeq (mSet 1 (mCall none S_law_draws (mAc (mVar 0) (mAc (mC (.int 60)) mA0)))) (mSeq (mFor (mRg1 (mC (.int 3))) (tgV 2) (mSeq (mSet 3 (mAdd (mC (.int 1)) (mCall (some 0) S_law_take (mAc (mVar 1) (mAc (mC (.int 9)) mA0))))) (mSeq (mSet 4 (mAdd (mAdd (mVar 3) (mC (.int 1))) (mCall (some 0) S_law_take (mAc (mVar 1) (mAc (mC (.int 9)) mA0))))) (mSeq (mSet 5 (mCall (some 0) S_law_take (mAc (mVar 1) (mAc (mC (.int 10)) mA0)))) (mSeq (mIfS (mAndT (mB (mEq (mVar 2) (mC (.int 0)))) (mB (mEq (mCall (some 0) S_law_take (mAc (mVar 1) (mAc (mC (.int 4)) mA0))) (mC (.int 0))))) (mSeq (mSet 3 (mAdd (mC (.int 1)) (mMul (mCall (some 0) S_law_take (mAc (mVar 1) (mAc (mC (.int 1000)) mA0))) (mC (.int 999))))) (mSeq (mSet 4 (mAdd (mAdd (mVar 3) (mC (.int 1))) (mCall (some 0) S_law_take (mAc (mVar 1) (mAc (mC (.int 900)) mA0))))) (mSet 5 (mCall (some 0) S_law_take (mAc (mVar 1) (mAc (mC (.int 6)) mA0)))))) mNx) (mSeq (mIfS (mAndT (mB (mEq (mVar 2) (mC (.int 1)))) (mB (mEq (mCall (some 0) S_law_take (mAc (mVar 1) (mAc (mC (.int 4)) mA0))) (mC (.int 0))))) (mSeq (mAsg (tgT 2 (tgC (tgV 4) (tgC (tgV 3) tgN))) (mCall (some 0) S_law_pick (mAc (mVar 1) (mAc (mLst (mAc (mTup (mAc (mC (.int 2)) (mAc (mC (.int 1)) mA0))) (mAc (mTup (mAc (mC (.int 3)) (mAc (mC (.int 2)) mA0))) (mAc (mTup (mAc (mC (.int 3)) (mAc (mC (.int 1)) mA0))) mA0)))) mA0)))) (mSet 5 (mAdd (mC (.int 10)) (mCall (some 0) S_law_take (mAc (mVar 1) (mAc (mC (.int 3)) mA0)))))) mNx) (mSeq (mSet 6 (mCall none S_law_frac (mAc (mVar 4) (mAc (mVar 3) mA0)))) (mSeq (mSet 7 (mCall none S_chances_by (mAc (mVar 5) (mAc (mVar 6) mA0)))) (mSeq (mIfS (mOrT (mNotT (mTr (mCall none (S_law_same 8) (mAc (mVar 7) (mAc (mCall none S_law_chances (mAc (mVar 5) (mAc (mIxd (mVar 6) (mC (.int 0))) (mAc (mIxd (mVar 6) (mC (.int 1))) mA0)))) mA0))))) (mB (mNe (mCall none S_law_mean (mAc (mVar 7) (mAc (mIxd (mVar 6) (mC (.int 0))) (mAc (mIxd (mVar 6) (mC (.int 1))) mA0)))) (mTup (mAc (mVar 5) (mAc (mC (.int 1)) mA0)))))) (mRet (mC (.bl false))) mNx) (mIfS (mNotT (mTr (mCall none (S_law_same 8) (mAc (mCall none S_mean_told_by (mAc (mVar 5) (mAc (mVar 6) mA0))) (mAc (mTup (mAc (mVar 5) (mAc (mC (.int 1)) mA0))) mA0))))) (mRet (mC (.bl false))) mNx)))))))))) (mSeq (mSet 5 (mCall (some 0) S_law_take (mAc (mVar 1) (mAc (mC (.int 13)) mA0)))) (mRet (mAndV (mCall none (S_law_same 8) (mAc (mCall none S_chances_by (mAc (mVar 5) (mAc (mTup (mAc (mC (.int 2)) (mAc (mC (.int 1)) mA0))) mA0))) (mAc (mCall none S_law_chances (mAc (mVar 5) (mAc (mC (.int 2)) (mAc (mC (.int 1)) mA0)))) mA0))) (mCall none (S_law_same 8) (mAc (mCall none S_chances (mAc (mVar 5) mA0)) (mAc (mCall none S_law_chances (mAc (mVar 5) (mAc (mC (.int 2)) (mAc (mC (.int 1)) mA0)))) mA0))))))))
def m__law_second_half : Mir := mDef none 8 b__law_second_half
theorem ok__law_second_half {P : Program} {w : World} {K : PySem.W.Frag} {mg : Str → Option Value} {base : Heap} {f : Addr} {fd : FuncData} (z_range : mg "range" = none) (o__law_draws : Ok P w K mg base 8 "_law_draws" ["script", "many"] none 2 S_law_draws) (o__law_take : Ok P w K mg base 8 "_law_take" ["draws", "many"] (some 0) 2 S_law_take) (o__law_pick : Ok P w K mg base 8 "_law_pick" ["draws", "row"] (some 0) 2 S_law_pick) (o__law_frac : Ok P w K mg base 8 "_law_frac" ["n", "d"] none 2 S_law_frac) (o_chances_by : Ok P w K mg base 8 "chances_by" ["n", "b"] none 2 S_chances_by) (o__law_same : Ok P w K mg base 8 "_law_same" ["actual", "due"] none 2 (S_law_same 8)) (o__law_chances : Ok P w K mg base 8 "_law_chances" ["n", "c", "d"] none 3 S_law_chances) (o__law_mean : Ok P w K mg base 8 "_law_mean" ["told", "c", "d"] none 3 S_law_mean) (o_mean_told_by : Ok P w K mg base 8 "mean_told_by" ["n", "b"] none 2 S_mean_told_by) (o_chances : Ok P w K mg base 8 "chances" ["n"] none 1 S_chances) (F : Fun K "_law_second_half" "_law_second_half" s__law_second_half f fd) : FnOk P w K mg base CX0 9 f fd ["script"] (spM K none 1 m__law_second_half) :=
  F.zk (wr := ([1] ++ (([2] ++ ([3] ++ ([4] ++ ([5] ++ ((([3] ++ ([4] ++ [5])) ++ []) ++ (((([4] ++ ([3] ++ [])) ++ [5]) ++ []) ++ ([6] ++ ([7] ++ (([] ++ []) ++ ([] ++ [])))))))))) ++ ([5] ++ [])))) sc__law_second_half none (by decide) (fun i h => by cases h) fun cdv A outer s H E hr =>
    (ass_cons (as_set 1 (ae_fn o__law_draws hr (by rfl) (aa_cons (ae_var 0) (aa_cons ae_int aa_nil)) (npc (npc np0))) sc__law_second_half.nd) (ass_cons (as_for PassesOwn.never (ai_rg1 ae_int (by rfl) z_range) (ag_n 2 sc__law_second_half.nd) (ass_cons (as_set 3 (ae_add ae_int (ae_fn o__law_take hr (by rfl) (aa_cons (ae_var 1) (aa_cons ae_int aa_nil)) (npc (npc np0)))) sc__law_second_half.nd) (ass_cons (as_set 4 (ae_add (ae_add (ae_var 3) ae_int) (ae_fn o__law_take hr (by rfl) (aa_cons (ae_var 1) (aa_cons ae_int aa_nil)) (npc (npc np0)))) sc__law_second_half.nd) (ass_cons (as_set 5 (ae_fn o__law_take hr (by rfl) (aa_cons (ae_var 1) (aa_cons ae_int aa_nil)) (npc (npc np0))) sc__law_second_half.nd) (ass_cons (as_if (at_w (aw_and (at_cmp (ac_eq hr.u64 (ae_var 2) ae_int)) (aw_and1 (at_cmp (ac_eq hr.u64 (ae_fn o__law_take hr (by rfl) (aa_cons (ae_var 1) (aa_cons ae_int aa_nil)) (npc (npc np0))) ae_int))))) (ass_cons (as_set 3 (ae_add ae_int (ae_mul (ae_fn o__law_take hr (by rfl) (aa_cons (ae_var 1) (aa_cons ae_int aa_nil)) (npc (npc np0))) ae_int)) sc__law_second_half.nd) (ass_cons (as_set 4 (ae_add (ae_add (ae_var 3) ae_int) (ae_fn o__law_take hr (by rfl) (aa_cons (ae_var 1) (aa_cons ae_int aa_nil)) (npc (npc np0)))) sc__law_second_half.nd) (ass_one (as_set 5 (ae_fn o__law_take hr (by rfl) (aa_cons (ae_var 1) (aa_cons ae_int aa_nil)) (npc (npc np0))) sc__law_second_half.nd)))) ass_nil) (ass_cons (as_if (at_w (aw_and (at_cmp (ac_eq hr.u64 (ae_var 2) ae_int)) (aw_and1 (at_cmp (ac_eq hr.u64 (ae_fn o__law_take hr (by rfl) (aa_cons (ae_var 1) (aa_cons ae_int aa_nil)) (npc (npc np0))) ae_int))))) (ass_cons (as_asg (ae_fn o__law_pick hr (by rfl) (aa_cons (ae_var 1) (aa_cons (ae_lst (aa_cons (ae_tup (aa_cons ae_int (aa_cons ae_int aa_nil))) (aa_cons (ae_tup (aa_cons ae_int (aa_cons ae_int aa_nil))) (aa_cons (ae_tup (aa_cons ae_int (aa_cons ae_int aa_nil))) aa_nil)))) aa_nil)) (npc (npc np0))) (ag_t (ags_cons (ag_n 4 sc__law_second_half.nd) (ags_cons (ag_n 3 sc__law_second_half.nd) ags_nil)))) (ass_one (as_set 5 (ae_add ae_int (ae_fn o__law_take hr (by rfl) (aa_cons (ae_var 1) (aa_cons ae_int aa_nil)) (npc (npc np0)))) sc__law_second_half.nd))) ass_nil) (ass_cons (as_set 6 (ae_fn o__law_frac hr (by rfl) (aa_cons (ae_var 4) (aa_cons (ae_var 3) aa_nil)) (npc (npc np0))) sc__law_second_half.nd) (ass_cons (as_set 7 (ae_fn o_chances_by hr (by rfl) (aa_cons (ae_var 5) (aa_cons (ae_var 6) aa_nil)) (npc (npc np0))) sc__law_second_half.nd) (ass_cons (as_if (at_w (aw_or (at_not (at_tru (ae_fn o__law_same hr (by rfl) (aa_cons (ae_var 7) (aa_cons (ae_fn o__law_chances hr (by rfl) (aa_cons (ae_var 5) (aa_cons (ae_ixd hr.u1 (ae_var 6) ae_int) (aa_cons (ae_ixd hr.u1 (ae_var 6) ae_int) aa_nil))) (npc (npc (npc np0)))) aa_nil)) (npc (npc np0))))) (aw_or1 (at_cmp (ac_ne hr.u64 (ae_fn o__law_mean hr (by rfl) (aa_cons (ae_var 7) (aa_cons (ae_ixd hr.u1 (ae_var 6) ae_int) (aa_cons (ae_ixd hr.u1 (ae_var 6) ae_int) aa_nil))) (npc (npc (npc np0)))) (ae_tup (aa_cons (ae_var 5) (aa_cons ae_int aa_nil)))))))) (ass_one (as_ret ae_bl)) ass_nil) (ass_one (as_if (at_not (at_tru (ae_fn o__law_same hr (by rfl) (aa_cons (ae_fn o_mean_told_by hr (by rfl) (aa_cons (ae_var 5) (aa_cons (ae_var 6) aa_nil)) (npc (npc np0))) (aa_cons (ae_tup (aa_cons (ae_var 5) (aa_cons ae_int aa_nil))) aa_nil)) (npc (npc np0))))) (ass_one (as_ret ae_bl)) ass_nil))))))))))) (ass_cons (as_set 5 (ae_fn o__law_take hr (by rfl) (aa_cons (ae_var 1) (aa_cons ae_int aa_nil)) (npc (npc np0))) sc__law_second_half.nd) (ass_one (as_ret (ae_andV (ae_fn o__law_same hr (by rfl) (aa_cons (ae_fn o_chances_by hr (by rfl) (aa_cons (ae_var 5) (aa_cons (ae_tup (aa_cons ae_int (aa_cons ae_int aa_nil))) aa_nil)) (npc (npc np0))) (aa_cons (ae_fn o__law_chances hr (by rfl) (aa_cons (ae_var 5) (aa_cons ae_int (aa_cons ae_int aa_nil))) (npc (npc (npc np0)))) aa_nil)) (npc (npc np0))) (ae_one (ae_fn o__law_same hr (by rfl) (aa_cons (ae_fn o_chances hr (by rfl) (aa_cons (ae_var 5) aa_nil) (npc np0)) (aa_cons (ae_fn o__law_chances hr (by rfl) (aa_cons (ae_var 5) (aa_cons ae_int (aa_cons ae_int aa_nil))) (npc (npc (npc np0)))) aa_nil)) (npc (npc np0))))))))))
abbrev s_law : Stmt := topS 36
theorem sc_law : FnScope ["script"] ["script"] (defScope s_law) := ⟨rfl, rfl, rfl, by decide +kernel, rfl, by decide +kernel, by decide +kernel⟩
def b_law : Fs := (mRet (mAndV (mCall none m__law_first_half (mAc (mVar 0) mA0)) (mCall none m__law_second_half (mAc (mVar 0) mA0))))
def m_law : Mir := mDef none 1 b_law
theorem ok_law {P : Program} {w : World} {K : PySem.W.Frag} {mg : Str → Option Value} {base : Heap} {f : Addr} {fd : FuncData} (o__law_first_half : Ok P w K mg base 9 "_law_first_half" ["script"] none 1 m__law_first_half) (o__law_second_half : Ok P w K mg base 9 "_law_second_half" ["script"] none 1 m__law_second_half) (F : Fun K "law" "law" s_law f fd) : FnOk P w K mg base CX0 10 f fd ["script"] (spM K none 1 m_law) :=
  F.zk (wr := []) sc_law none (by decide) (fun i h => by cases h) fun cdv A outer s H E hr =>
    (ass_one (as_ret (ae_andV (ae_fn o__law_first_half hr (by rfl) (aa_cons (ae_var 0) aa_nil) (npc np0)) (ae_one (ae_fn o__law_second_half hr (by rfl) (aa_cons (ae_var 0) aa_nil) (npc np0))))))
end
end K72
namespace K72
noncomputable section
open PySem PySem.Spec PyProof.Rows L2 Zk Zk.Bc Zk.Bf
theorem pick_int (s : List Int) (ns : List Int) (h : ns ≠ []) : ∃ v ∈ ns, S_law_pick [dr s, .lst (ns.map D.int)] = some (.int v, 9, dr s.dropLast) := by
  refine ⟨pk s ns h, pk_mem, ?_⟩
  have := pick_eq (d := .lst (ns.map D.int)) (.inl rfl) s (by simpa using h) (by rw [pk_map (h := h)]; rfl)
  rw [pk_map (h := h)] at this
  exact this
theorem pick_pr (s : List Int) (ns : List (Int × Int)) (h : ns ≠ []) : ∃ v ∈ ns, S_law_pick [dr s, .lst (ns.map pr)] = some (pr v, 9, dr s.dropLast) := by
  refine ⟨pk s ns h, pk_mem, ?_⟩
  have := pick_eq (d := .lst (ns.map pr)) (.inl rfl) s (by simpa using h) (by rw [pk_map (h := h)]; rfl)
  rw [pk_map (h := h)] at this
  exact this
/-- a number below a picked one -/
theorem below (s : List Int) (ns : List Int) (h : ns ≠ []) (hp : ∀ v ∈ ns, 0 < v) : ∃ (v : Int) (w : Nat), v ∈ ns ∧ (w : Int) < v ∧ S_law_pick [dr s, .lst (ns.map D.int)] = some (.int v, 9, dr s.dropLast) ∧ S_law_take [dr s.dropLast, .int v] = some (.int (w : Int), 9, dr s.dropLast.dropLast) := by
  obtain ⟨v, hv, e⟩ := pick_int s ns h
  obtain ⟨w, ew, hw⟩ := dvN s.dropLast v (hp v hv)
  have tk := take_eq s.dropLast v (hp v hv)
  rw [ew] at tk
  exact ⟨v, w, hv, hw, e, tk⟩
theorem tk (s : List Int) (n : Nat) (h : 0 < n) : ∃ w : Nat, w < n ∧ S_law_take [dr s, .int (n : Int)] = some (.int (w : Int), 9, dr s.dropLast) := by
  obtain ⟨w, ew, hw⟩ := dvN s (n : Int) (by omega)
  have tk := take_eq s (n : Int) (by omega)
  rw [ew] at tk
  exact ⟨w, by omega, tk⟩
theorem pl_row (n : Nat) (f : Nat → Rat) (h : n ≤ 1000) : pl 7 (.tup (rowF n f)) = true := by
  have h2 : n < 16777216 := by omega
  simp [pl, rowF, List.all_map, pl_fr, h2]
theorem pl_i (n : Nat) (i : Int) : pl (n + 1) (.int i) = true := rfl
theorem dy_self (k : Nat) (a : Int) : dy k (2 ^ k * a) = (a : Rat) := by
  rw [← dy_one]
  exact dy_eq (by rw [Int.pow_zero]; grind)
theorem Gs_abs (x r : Nat) (hx : x ≤ 12) : (Gs x r).natAbs ≤ 2 ^ 156 := by
  have h := Gs_nn x r
  have h2 : 2 ^ (x * (x + 1)) ≤ 2 ^ 156 := Nat.pow_le_pow_right (by decide) (by
    have := Nat.mul_le_mul hx (show x + 1 ≤ 13 by omega)
    omega)
  rw [pw2] at h
  generalize 2 ^ 156 = B at *
  generalize 2 ^ (x * (x + 1)) = C at *
  omega
theorem mch_facts {n r x : Nat} (hn : n ≤ 12) (hx : x ≤ n) :
    S_law_product [fr (dy (tri2 n) (PB 2 1 n x)), .tup [.int (Gs x r), .int 1]] = some (fr (dy (tri2 n) (PB 2 1 n x * Gs x r)), 9, .non) ∧
    S_law_plus [fr (dy (tri2 n) (sumN x fun x => PB 2 1 n x * Gs x r)), fr (dy (tri2 n) (PB 2 1 n x * Gs x r))] = some (fr (dy (tri2 n) (sumN (x + 1) fun x => PB 2 1 n x * Gs x r)), 9, .non) := by
  have t1 := tri_le n (by omega)
  have p1 := PB_100 hn hx
  have q1 : szR 66 120 (dy (tri2 n) (PB 2 1 n x)) := (dy_sz p1).mono (Nat.le_refl _) t1
  have q2 : szR 156 0 ((Gs x r : Int) : Rat) := szR_int (Gs_abs x r (by omega))
  have m1 := (law_product_eq q1 q2 (by decide) (by decide)).1
  rw [← dy_one, dy_mul, Nat.add_zero, dy_one, fr_int] at m1
  have b : ∀ i, i ≤ n → (PB 2 1 n i * Gs i r).natAbs ≤ 2 ^ 222 := fun i hi => mul_abs (a := 66) (b := 156) (PB_100 hn hi) (Gs_abs i r (by omega))
  have sb : (sumN x fun x => PB 2 1 n x * Gs x r).natAbs ≤ 2 ^ 230 := by
    refine Nat.le_trans (sumN_abs (B := 2 ^ 222) x _ fun i hi => b i (by omega)) ?_
    have e : 2 ^ 230 = 2 ^ 8 * 2 ^ 222 := by rw [← Nat.pow_add]
    rw [e]
    exact Nat.mul_le_mul_right _ (by omega)
  have q3 : szR 230 120 (dy (tri2 n) (sumN x fun x => PB 2 1 n x * Gs x r)) := (dy_sz sb).mono (Nat.le_refl _) t1
  have q4 : szR 222 120 (dy (tri2 n) (PB 2 1 n x * Gs x r)) := (dy_sz (b x hx)).mono (Nat.le_refl _) t1
  have a1 := (law_plus_eq q3 q4 (by decide) (by decide) (by decide)).1
  rw [dy_add] at a1
  exact ⟨m1, a1⟩
theorem first_W (ns : List Int) : ∃ m o, m__law_first_half [.scr ns] = some (.bl true, m, o) := by
  have go : W (m__law_first_half [.scr ns]) fun r => ∃ m o, r = (.bl true, m, o) := by
    unfold m__law_first_half b__law_first_half
    rw [W_mDef]
    (refine Zk.W_seqK fun Kq hKq => ?_; simp (disch := first | assumption | (simp; done) | omega) [dem1, ent0_def]; refine ((draws_spec ns 60 (by decide) (by decide))).mono ?_; rintro _ ⟨s, rfl⟩; simp (disch := first | assumption | (simp; done) | omega) [dem1, ent0_def]; refine hKq _ ?_; clear hKq Kq)
    have r2 : rgOk 2 := ⟨by decide, by decide⟩
    (refine Zk.W_forN ?wE275 2 [2, 3, 4, 5, 6, 7, 8, 9, 10] (fun (s : List Int) _ => [(1, some (dr s, 9))]) (fun _ _ => True) s ?wa275 ?wb275 ?_ ?_ ?_; (case wa275 => (simp (disch := first | assumption | (simp; done) | omega) [r2]; exact rfl)); (case wb275 => (simp (disch := first | assumption | (simp; done) | omega) [Zk.sets, r2])))
    · trivial
    · intro s i I' hi _ hI
      simp only [Zk.AllU, Zk.sets, List.set_cons_succ, List.set_cons_zero, List.set_nil] at *
      intro u2 u3 u4 u5 u6 u7 u8 u9 u10
      refine W_tgV.mpr ⟨by simp, ?_⟩
      obtain ⟨x, hx, t1⟩ := tk s 16 (by decide)
      have t1 : S_law_take [dr s, .int 16] = some (.int (x : Int), 9, dr s.dropLast) := t1
      generalize s.dropLast = s at *
      (refine Zk.W_seqE (E1 := ?wE190) ?wa190 ?wb190; (case wa190 => (simp (disch := first | assumption | (simp; done) | omega) [t1, uni, dem1]; exact rfl)))
      obtain ⟨v, y, hv, hy, p1, t2⟩ := below s [3, 16] (by decide) (by decide)
      have p1 : S_law_pick [dr s, .lst [.int 3, .int 16]] = some (.int v, 9, dr s.dropLast) := p1
      have hy2 : y < 16 := by
        simp only [List.mem_cons, List.not_mem_nil, or_false] at hv
        omega
      (refine Zk.W_seqE (E1 := ?wE191) ?wa191 ?wb191; (case wa191 => (simp (disch := first | assumption | (simp; done) | omega) [p1, t2, uni, dem1, -W_pickL]; exact rfl)))
      generalize s.dropLast.dropLast = s at *
      have lj := law_joined_W (x := x) (y := y) (hi := max x y) (lo := min x y) (by omega) (by omega) (by omega) (by omega)
      have j1 := joined_W (x := x) (y := y) (hi := max x y) (lo := min x y) (by omega) (by omega) (by omega) (by omega)
      have j2 := joined_W (x := y) (y := x) (hi := max x y) (lo := min x y) (by omega) (by omega) (by omega) (by omega)
      have pj : pl 7 (jD (max x y) (min x y)) = true := pl_row _ _ (by omega)
      have ij := imm_jD (max x y) (min x y)
      generalize jD (max x y) (min x y) = jd at *
      (refine Zk.W_seqE (E1 := ?wE192) ?wa192 ?wb192; (case wa192 => (simp (disch := first | assumption | (simp; done) | omega) [lj, ij, dem1]; exact rfl)))
      (refine Zk.W_seqE (E1 := ?wE193) ?wa193 ?wb193; (case wa193 => (simp (disch := first | assumption | (simp; done) | omega) [j1, j2, ij, W_same pj, dem1]; exact rfl)))
      obtain ⟨v, r, hv, hr, p1, t2⟩ := below s [4, 31] (by decide) (by decide)
      have p1 : S_law_pick [dr s, .lst [.int 4, .int 31]] = some (.int v, 9, dr s.dropLast) := p1
      have hr2 : r ≤ 30 := by
        simp only [List.mem_cons, List.not_mem_nil, or_false] at hv
        omega
      (refine Zk.W_seqE (E1 := ?wE194) ?wa194 ?wb194; (case wa194 => (simp (disch := first | assumption | (simp; done) | omega) [p1, t2, uni, dem1, -W_pickL]; exact rfl)))
      generalize s.dropLast.dropLast = s at *
      obtain ⟨w, hw, t3⟩ := tk s 31 (by decide)
      have t3 : S_law_take [dr s, .int 31] = some (.int (w : Int), 9, dr s.dropLast) := t3
      generalize s.dropLast = s' at *
      (refine Zk.W_forS ?wE276 [w, r, 30] (fun k : Nat => D.int (k : Int)) [7] (fun (_ : Unit) _ => []) (fun _ _ => True) () ?wa276 ?wb276 ?_ ?_ ?_; (case wa276 => (simp (disch := first | assumption | (simp; done) | omega) [t3, uni, dem1]; exact rfl)); (case wb276 => (simp (disch := first | assumption | (simp; done) | omega) [Zk.sets, t3, uni, dem1])))
      · trivial
      · intro _ a top b I2 e _ hI2
        simp only [Zk.AllU, Zk.sets, List.set_cons_succ, List.set_cons_zero, List.set_nil] at *
        intro u7
        refine W_tgV.mpr ⟨by simp, ?_⟩
        have ht : top ≤ 30 := by
          have : top ∈ [w, r, 30] := by rw [e]; simp
          simp only [List.mem_cons, List.not_mem_nil, or_false] at this
          omega
        have c1 := choice_W (x := top) (r := r) (by omega) (by omega)
        have c2 := law_choice_W (x := top) (r := r) (by omega) (by omega)
        have pi := pl_i 6 (Gs top r)
        simp (disch := first | assumption | (simp; done) | omega) [c1, c2, W_same pi, dem1]
        apply hI2 () trivial
      intro _ _
      simp only [Zk.AllU, Zk.sets, List.set_cons_succ, List.set_cons_zero, List.set_nil] at *
      intro u7
      obtain ⟨n, hn, t4⟩ := tk s' 31 (by decide)
      have t4 : S_law_take [dr s', .int 31] = some (.int (n : Int), 9, dr s'.dropLast) := t4
      generalize s'.dropLast = s at *
      (refine Zk.W_seqE (E1 := ?wE195) ?wa195 ?wb195; (case wa195 => (simp (disch := first | assumption | (simp; done) | omega) [t4, uni, dem1]; exact rfl)))
      have mc := mean_choice_W (n := n) (r := r) (by omega) (by omega)
      have ls := law_sets_W (n := n) (r := r) (by omega) (by omega)
      rw [fr_int] at mc
      have p2 : pl 7 (.tup [.int (Cn n r), .int 1]) = true := rfl
      (refine Zk.W_seqE (E1 := ?wE196) ?wa196 ?wb196; (case wa196 => (simp (disch := first | assumption | (simp; done) | omega) [mc, ls, W_same p2, dem1]; exact rfl)))
      obtain ⟨n, hn, t4⟩ := tk s 13 (by decide)
      have t4 : S_law_take [dr s, .int 13] = some (.int (n : Int), 9, dr s.dropLast) := t4
      generalize s.dropLast = s at *
      (refine Zk.W_seqE (E1 := ?wE197) ?wa197 ?wb197; (case wa197 => (simp (disch := first | assumption | (simp; done) | omega) [t4, uni, dem1]; exact rfl)))
      (refine Zk.W_seqE (E1 := ?wE198) ?wa198 ?wb198; (case wa198 => (simp (disch := first | assumption | (simp; done) | omega) []; exact rfl)))
      have cw := chances_W (n := n) (by omega)
      have lc := law_chances_W cd21 (n := n) (by omega) (T21 (by omega))
      have pc : pl 7 (chD 2 1 n) = true := pl_row (n + 1) _ (by omega)
      have ic : imm (chD 2 1 n) = true := imm_chD
      (refine Zk.W_seqE (E1 := ?wE199) ?wa199 ?wb199; (case wa199 => (simp (disch := first | assumption | (simp; done) | omega) [cw, ic, dem1]; exact rfl)))
      (refine Zk.W_seqE (E1 := ?wE200) ?wa200 ?wb200; (case wa200 => (simp (disch := first | assumption | (simp; done) | omega) [lc, ic, W_same pc, dem1]; exact rfl)))
      have z0 : D.tup [.int 0, .int 1] = fr (dy (tri2 n) (sumN 0 fun x => PB 2 1 n x * Gs x r)) := by
        show fr 0 = fr (dy _ 0)
        rw [dy_0]
      rw [z0]
      have rn : rgOk ((n : Int) + 1) := ⟨by omega, by omega⟩
      have tn : ((n : Int) + 1).toNat = n + 1 := by omega
      (refine Zk.W_forN ?wE277 (n + 1) [3] (fun (l : Nat) x => [(9, some (fr (dy (tri2 n) (sumN x fun x => PB 2 1 n x * Gs x r)), l))]) (fun _ _ => True) 0 ?wa277 ?wb277 ?_ ?_ ?_; (case wa277 => (simp (disch := first | assumption | (simp; done) | omega) [rn, tn]; exact rfl)); (case wb277 => (simp (disch := first | assumption | (simp; done) | omega) [Zk.sets, rn, tn])))
      · trivial
      · intro l x I2 hx _ hI2
        simp only [Zk.AllU, Zk.sets, List.set_cons_succ, List.set_cons_zero, List.set_nil] at *
        intro u3
        refine W_tgV.mpr ⟨by simp, ?_⟩
        have at1 : gIxd [chD 2 1 n, .int (x : Int)] = some (fr (dy (tri2 n) (PB 2 1 n x)), 0) := by
          rw [chD_row, gIxd_tup, gIx_tup, rowF_at (by omega) (by omega)]; rfl
        obtain ⟨m1, a1⟩ := mch_facts (n := n) (r := r) (x := x) (by omega) (by omega)
        have c1 := choice_W (x := x) (r := r) (by omega) (by omega)
        simp (disch := first | assumption | (simp; done) | omega) [at1, c1, m1, a1, ic, dem1]
        apply hI2 9 trivial
      intro l _
      simp only [Zk.AllU, Zk.sets, List.set_cons_succ, List.set_cons_zero, List.set_nil] at *
      intro u3
      have ls := law_sets_W (n := n) (r := r) (by omega) (by omega)
      have n1 := ne_fr (Cn n r : Rat) (Cn n r : Rat)
      rw [decide_eq_true rfl] at n1
      have e9 : dy (tri2 n) (sumN (n + 1) fun x => PB 2 1 n x * Gs x r) = (Cn n r : Rat) := by rw [PB_G, dy_self]
      rw [e9]
      rw [fr_int] at n1 ⊢
      simp (disch := first | assumption | (simp; done) | omega) [ls, n1, dem1]
      apply hI _ trivial
    intro s _
    simp only [Zk.AllU, Zk.sets, List.set_cons_succ, List.set_cons_zero, List.set_nil] at *
    intro u2 u3 u4 u5 u6 u7 u8 u9 u10
    obtain ⟨v, n, hv, hn, p1, t2⟩ := below s [5, 9, 13] (by decide) (by decide)
    have p1 : S_law_pick [dr s, .lst [.int 5, .int 9, .int 13]] = some (.int v, 9, dr s.dropLast) := p1
    have hn2 : n ≤ 12 := by
      simp only [List.mem_cons, List.not_mem_nil, or_false] at hv
      omega
    (refine Zk.W_seqE (E1 := ?wE201) ?wa201 ?wb201; (case wa201 => (simp (disch := first | assumption | (simp; done) | omega) [p1, t2, uni, dem1, -W_pickL]; exact rfl)))
    generalize s.dropLast.dropLast = s at *
    obtain ⟨v, o, hv, ho, p1, t2⟩ := below s [3, 5] (by decide) (by decide)
    have p1 : S_law_pick [dr s, .lst [.int 3, .int 5]] = some (.int v, 9, dr s.dropLast) := p1
    have ho2 : o ≤ 4 := by
      simp only [List.mem_cons, List.not_mem_nil, or_false] at hv
      omega
    (refine Zk.W_seqE (E1 := ?wE202) ?wa202 ?wb202; (case wa202 => (simp (disch := first | assumption | (simp; done) | omega) [p1, t2, uni, dem1, -W_pickL]; exact rfl)))
    have cj := chances_joined_W hn2 ho2
    have lc := law_chances_W cd21 (n := n + o) (by omega) (T21 (by omega))
    rw [show ((n + o : Nat) : Int) = (n : Int) + o by omega] at lc
    have pc : pl 7 (chD 2 1 (n + o)) = true := pl_row (n + o + 1) _ (by omega)
    have ic : imm (chD 2 1 (n + o)) = true := imm_chD
    (refine Zk.W_seqE (E1 := ?wE203) ?wa203 ?wb203; (case wa203 => (simp (disch := first | assumption | (simp; done) | omega) [cj, lc, ic, W_same pc, dem1]; exact rfl)))
    have w1 := joined_W (x := 1) (y := 1) (hi := 1) (lo := 1) (by decide) (by decide) (by decide) (by decide)
    have e1 : jD 1 1 = .tup [.tup [.int 0, .int 1], .tup [.int 1, .int 2], .tup [.int 1, .int 2]] := by
      have e3 : rowF (1 + 1 + 1) (fun x => dy (40 * 1) (jT 1 1 x)) = [fr (dy 40 (jT 1 1 0)), fr (dy 40 (jT 1 1 1)), fr (dy 40 (jT 1 1 2))] := rfl
      unfold jD
      rw [e3, fr_nd (q := dy 40 (jT 1 1 0)) (a := 0) (b := 1) (by decide +kernel) (by decide +kernel), fr_nd (q := dy 40 (jT 1 1 1)) (a := 1) (b := 2) (by decide +kernel) (by decide +kernel), fr_nd (q := dy 40 (jT 1 1 2)) (a := 1) (b := 2) (by decide +kernel) (by decide +kernel)]
      rfl
    rw [e1] at w1
    have w1 : S_joined_chances [.int 1, .int 1] = some (.tup [.tup [.int 0, .int 1], .tup [.int 1, .int 2], .tup [.int 1, .int 2]], 9, .non) := w1
    have w2 := choice_W (x := 4) (r := 2) (by decide) (by decide)
    have w2 : S_choice [.int 4, .int 2] = some (.int 70, 9, .non) := w2
    have p1 : pl 7 (.tup [.tup [.int 0, .int 1], .tup [.int 1, .int 2], .tup [.int 1, .int 2]]) = true := rfl
    simp (disch := first | assumption | (simp; done) | omega) [w1, w2, W_same p1, W_same (pl_i 6 70), dem1]
  obtain ⟨r, e, m, o, rfl⟩ := go
  exact ⟨m, o, e⟩
theorem reduced {c d : Int} (h1 : 1 ≤ d) (h2 : d < c) (h3 : c ≤ 1048576) : CD (Rat.divInt c d).num ((Rat.divInt c d).den : Int) ∧ ((Rat.divInt c d).den : Int) < (Rat.divInt c d).num := by
  have s := szR_divInt (a := 20) (b := 20) (n := c) (d := d) (by omega) (by omega) (by omega)
  have e := Rat.num_divInt_den (Rat.divInt c d)
  have hn := s.1
  have hp : (0 : Int) < (Rat.divInt c d).den := by have := (Rat.divInt c d).den_pos; omega
  generalize (Rat.divInt c d).num = u at *
  generalize ((Rat.divInt c d).den : Int) = w at *
  have h := (Rat.divInt_eq_divInt_iff (by omega) (by omega)).mp e
  have h4 : w < u := by
    refine Int.lt_of_not_ge fun g => ?_
    have a1 : u * d ≤ w * d := Int.mul_le_mul_of_nonneg_right g (by omega)
    have a2 : w * d < w * c := Int.mul_lt_mul_of_pos_left h2 hp
    rw [Int.mul_comm w c] at a2
    omega
  refine ⟨⟨by omega, by omega, ?_⟩, h4⟩
  have : ((2 : Int) ^ 20) = ((2 ^ 20 : Nat) : Int) := rfl
  omega
theorem second_W (ns : List Int) : ∃ m o, m__law_second_half [.scr ns] = some (.bl true, m, o) := by
  have go : W (m__law_second_half [.scr ns]) fun r => ∃ m o, r = (.bl true, m, o) := by
    unfold m__law_second_half b__law_second_half
    rw [W_mDef]
    (refine Zk.W_seqK fun Kq hKq => ?_; simp (disch := first | assumption | (simp; done) | omega) [dem1, ent0_def]; refine ((draws_spec ns 60 (by decide) (by decide))).mono ?_; rintro _ ⟨s, rfl⟩; simp (disch := first | assumption | (simp; done) | omega) [dem1, ent0_def]; refine hKq _ ?_; clear hKq Kq)
    have r3 : rgOk 3 := ⟨by decide, by decide⟩
    (refine Zk.W_forN ?wE279 3 [2, 3, 4, 5, 6, 7] (fun (s : List Int) _ => [(1, some (dr s, 9))]) (fun _ _ => True) s ?wa279 ?wb279 ?_ ?_ ?_; (case wa279 => (simp (disch := first | assumption | (simp; done) | omega) [r3]; exact rfl)); (case wb279 => (simp (disch := first | assumption | (simp; done) | omega) [Zk.sets, r3])))
    · trivial
    · intro s i I' hi _ hI
      simp only [Zk.AllU, Zk.sets, List.set_cons_succ, List.set_cons_zero, List.set_nil] at *
      intro u2 u3 u4 u5 u6 u7
      refine W_tgV.mpr ⟨by simp, ?_⟩
      obtain ⟨d0, hd0, t1⟩ := tk s 9 (by decide)
      have t1 : S_law_take [dr s, .int 9] = some (.int (d0 : Int), 9, dr s.dropLast) := t1
      generalize s.dropLast = s at *
      (refine Zk.W_seqE (E1 := ?wE204) ?wa204 ?wb204; (case wa204 => (simp (disch := first | assumption | (simp; done) | omega) [t1, uni, dem1]; exact rfl)))
      obtain ⟨c0, hc0, t1⟩ := tk s 9 (by decide)
      have t1 : S_law_take [dr s, .int 9] = some (.int (c0 : Int), 9, dr s.dropLast) := t1
      generalize s.dropLast = s at *
      (refine Zk.W_seqE (E1 := ?wE205) ?wa205 ?wb205; (case wa205 => (simp (disch := first | assumption | (simp; done) | omega) [t1, uni, dem1]; exact rfl)))
      obtain ⟨n0, hn0, t1⟩ := tk s 10 (by decide)
      have t1 : S_law_take [dr s, .int 10] = some (.int (n0 : Int), 9, dr s.dropLast) := t1
      generalize s.dropLast = s at *
      (refine Zk.W_seqE (E1 := ?wE206) ?wa206 ?wb206; (case wa206 => (simp (disch := first | assumption | (simp; done) | omega) [t1, uni, dem1]; exact rfl)))
      refine W_seqO (J := fun E => ∃ (s : List Int) (d c : Int) (n l3 l4 l5 : Nat), 1 ≤ d ∧ d < c ∧ c ≤ 1048576 ∧ n ≤ 12 ∧ E = [some (.scr ns, 0), some (dr s, 9), some (.int (i : Int), 0), some (.int d, l3), some (.int c, l4), some (.int (n : Int), l5), u6, u7]) ?_ ?_
      · intro J' hJ
        by_cases ci : i = 0
        · subst ci
          obtain ⟨w, hw, t1⟩ := tk s 4 (by decide)
          have t1 : S_law_take [dr s, .int 4] = some (.int (w : Int), 9, dr s.dropLast) := t1
          by_cases cw : w = 0
          · (refine Zk.W_ifT (E1 := ?wE207) ?wa207 ?wb207; (case wa207 => (simp (disch := first | assumption | (simp; done) | omega) [t1, cw, uni, dem1]; exact rfl)))
            generalize s.dropLast = s at *
            obtain ⟨d1, hd1, t2⟩ := tk s 1000 (by decide)
            have t2 : S_law_take [dr s, .int 1000] = some (.int (d1 : Int), 9, dr s.dropLast) := t2
            (refine Zk.W_seqE (E1 := ?wE208) ?wa208 ?wb208; (case wa208 => (simp (disch := first | assumption | (simp; done) | omega) [t2, uni, dem1]; exact rfl)))
            generalize s.dropLast = s at *
            obtain ⟨c1, hc1, t2⟩ := tk s 900 (by decide)
            have t2 : S_law_take [dr s, .int 900] = some (.int (c1 : Int), 9, dr s.dropLast) := t2
            (refine Zk.W_seqE (E1 := ?wE209) ?wa209 ?wb209; (case wa209 => (simp (disch := first | assumption | (simp; done) | omega) [t2, uni, dem1]; exact rfl)))
            generalize s.dropLast = s at *
            obtain ⟨n1, hn1, t2⟩ := tk s 6 (by decide)
            have t2 : S_law_take [dr s, .int 6] = some (.int (n1 : Int), 9, dr s.dropLast) := t2
            simp (disch := first | assumption | (simp; done) | omega) [t2, uni, dem1]
            exact hJ _ ⟨_, _, _, n1, _, _, _, by omega, by omega, by omega, by omega, rfl⟩
          · (refine Zk.W_ifF (E1 := ?wE210) ?wa210 ?wb210; (case wa210 => (simp (disch := first | assumption | (simp; done) | omega) [t1, cw, uni, dem1]; exact rfl)))
            simp (disch := first | assumption | (simp; done) | omega) []
            exact hJ _ ⟨_, _, _, n0, _, _, _, by omega, by omega, by omega, by omega, rfl⟩
        · (refine Zk.W_ifF (E1 := ?wE211) ?wa211 ?wb211; (case wa211 => (simp (disch := first | assumption | (simp; done) | omega) [ci]; exact rfl)))
          simp (disch := first | assumption | (simp; done) | omega) []
          exact hJ _ ⟨_, _, _, n0, _, _, _, by omega, by omega, by omega, by omega, rfl⟩
      rintro _ ⟨s, d, c, n, l3, l4, l5, h1, h2, h3, h4, rfl⟩
      refine W_seqO (J := fun E => ∃ (s : List Int) (d c : Int) (n l3 l4 l5 : Nat), 1 ≤ d ∧ d < c ∧ c ≤ 1048576 ∧ n ≤ 12 ∧ E = [some (.scr ns, 0), some (dr s, 9), some (.int (i : Int), 0), some (.int d, l3), some (.int c, l4), some (.int (n : Int), l5), u6, u7]) ?_ ?_
      · intro J' hJ
        by_cases ci : i = 1
        · subst ci
          obtain ⟨w, hw, t1⟩ := tk s 4 (by decide)
          have t1 : S_law_take [dr s, .int 4] = some (.int (w : Int), 9, dr s.dropLast) := t1
          by_cases cw : w = 0
          · (refine Zk.W_ifT (E1 := ?wE212) ?wa212 ?wb212; (case wa212 => (simp (disch := first | assumption | (simp; done) | omega) [t1, cw, uni, dem1]; exact rfl)))
            generalize s.dropLast = s at *
            obtain ⟨v, hv, p1⟩ := pick_pr s [(2, 1), (3, 2), (3, 1)] (by decide)
            have p1 : S_law_pick [dr s, .lst [.tup [.int 2, .int 1], .tup [.int 3, .int 2], .tup [.int 3, .int 1]]] = some (.tup [.int v.1, .int v.2], 9, dr s.dropLast) := p1
            (refine Zk.W_seqE (E1 := ?wE213) ?wa213 ?wb213; (case wa213 => (simp (disch := first | assumption | (simp; done) | omega) [p1, uni, dem1, W_tgT, W_tgV, -W_pickL]; exact rfl)))
            generalize s.dropLast = s at *
            obtain ⟨n1, hn1, t2⟩ := tk s 3 (by decide)
            have t2 : S_law_take [dr s, .int 3] = some (.int (n1 : Int), 9, dr s.dropLast) := t2
            simp (disch := first | assumption | (simp; done) | omega) [t2, uni, dem1]
            have hv2 : 1 ≤ v.2 ∧ v.2 < v.1 ∧ v.1 ≤ 3 := by
              simp only [List.mem_cons, List.not_mem_nil, or_false] at hv
              rcases hv with rfl | rfl | rfl <;> decide
            exact hJ _ ⟨_, v.2, v.1, 10 + n1, _, _, _, by omega, by omega, by omega, by omega, rfl⟩
          · (refine Zk.W_ifF (E1 := ?wE214) ?wa214 ?wb214; (case wa214 => (simp (disch := first | assumption | (simp; done) | omega) [t1, cw, uni, dem1]; exact rfl)))
            simp (disch := first | assumption | (simp; done) | omega) []
            exact hJ _ ⟨_, d, c, n, _, _, _, by omega, by omega, by omega, by omega, rfl⟩
        · have ci2 : ¬ (i : Int) = 1 := by omega
          (refine Zk.W_ifF (E1 := ?wE215) ?wa215 ?wb215; (case wa215 => (simp (disch := first | assumption | (simp; done) | omega) [ci2]; exact rfl)))
          simp (disch := first | assumption | (simp; done) | omega) []
          exact hJ _ ⟨_, d, c, n, _, _, _, by omega, by omega, by omega, by omega, rfl⟩
      rintro _ ⟨s, d, c, n, l3, l4, l5, h1, h2, h3, h4, rfl⟩
      have d0 : d ≠ 0 := by omega
      have hb1 : c.natAbs ≤ 2 ^ 20 := by omega
      have hb2 : d.natAbs ≤ 2 ^ 20 := by omega
      have fe := frac_eq (n := c) d0 (abs_lt_8000 hb1 (by decide)) (abs_lt_8000 hb2 (by decide))
      obtain ⟨cd, lt⟩ := reduced h1 h2 h3
      generalize Rat.divInt c d = q at *
      (refine Zk.W_seqE (E1 := ?wE216) ?wa216 ?wb216; (case wa216 => (simp (disch := first | assumption | (simp; done) | omega) [fe, dem1]; exact rfl)))
      have t66 := tri66 n h4
      have hT : (q.num ^ tri2 n).natAbs ≤ 2 ^ 6000 := Nat.le_trans (CD.c20p cd _) (Nat.pow_le_pow_right (by decide) (by omega))
      have cb := chances_by_W cd (n := n) (by omega) hT
      have lc := law_chances_W cd (n := n) (by omega) hT
      have lm := law_mean_W cd lt h4
      have mt := mean_told_by_W cd lt (n := n) (by omega) hT
      have cb : S_chances_by [.int (n : Int), fr q] = some (chD q.num q.den n, 9, .non) := cb
      have mt : S_mean_told_by [.int (n : Int), fr q] = some (fr (n : Rat), 9, .non) := mt
      have pc : pl 7 (chD q.num q.den n) = true := pl_row (n + 1) _ (by omega)
      have ic : imm (chD q.num q.den n) = true := imm_chD
      have x0 : gIxd [fr q, .int 0] = some (.int q.num, 0) := rfl
      have x1 : gIxd [fr q, .int 1] = some (.int q.den, 0) := rfl
      have n1 := ne_fr ((n : Int) : Rat) ((n : Int) : Rat)
      rw [decide_eq_true rfl] at n1
      rw [← Rat.intCast_natCast, fr_int] at lm mt
      rw [fr_int] at n1
      have p2 : pl 7 (.tup [.int (n : Int), .int 1]) = true := rfl
      (refine Zk.W_seqE (E1 := ?wE217) ?wa217 ?wb217; (case wa217 => (simp (disch := first | assumption | (simp; done) | omega) [cb, dem1]; exact rfl)))
      (refine Zk.W_seqE (E1 := ?wE218) ?wa218 ?wb218; (case wa218 => (simp (disch := first | assumption | (simp; done) | omega) [lc, lm, n1, ic, x0, x1, W_same pc, dem1]; exact rfl)))
      simp (disch := first | assumption | (simp; done) | omega) [mt, W_same p2, dem1]
      apply hI _ trivial
    intro s _
    simp only [Zk.AllU, Zk.sets, List.set_cons_succ, List.set_cons_zero, List.set_nil] at *
    intro u2 u3 u4 u5 u6 u7
    obtain ⟨n, hn, t1⟩ := tk s 13 (by decide)
    have t1 : S_law_take [dr s, .int 13] = some (.int (n : Int), 9, dr s.dropLast) := t1
    (refine Zk.W_seqE (E1 := ?wE219) ?wa219 ?wb219; (case wa219 => (simp (disch := first | assumption | (simp; done) | omega) [t1, uni, dem1]; exact rfl)))
    have cb := chances_by_W cd21 (n := n) (by omega) (T21 (by omega))
    have lc := law_chances_W cd21 (n := n) (by omega) (T21 (by omega))
    have cw := chances_W (n := n) (by omega)
    have pc : pl 7 (chD 2 1 n) = true := pl_row (n + 1) _ (by omega)
    have ic : imm (chD 2 1 n) = true := imm_chD
    simp (disch := first | assumption | (simp; done) | omega) [cb, lc, cw, ic, W_same pc, dem1]
  obtain ⟨r, e, m, o, rfl⟩ := go
  exact ⟨m, o, e⟩
theorem law_true (ns : List Int) (hn : ns.length ≤ 63) : ∃ m o, m_law [.scr ns] = some (.bl true, m, o) := by
  have go : W (m_law [.scr ns]) fun r => ∃ m o, r = (.bl true, m, o) := by
    unfold m_law b_law
    rw [W_mDef]
    obtain ⟨m1, o1, f1⟩ := first_W ns
    obtain ⟨m2, o2, f2⟩ := second_W ns
    simp (disch := first | assumption | (simp; done) | omega) [ent0_def, f1, f2, dem1]
  obtain ⟨r, e, m, o, rfl⟩ := go
  exact ⟨m, o, e⟩
end
end K72
namespace K72
noncomputable section
open PySem PySem.Spec PyProof.Rows L2 Zk
set_option maxHeartbeats 0 in
theorem all_mk {l : PySem.W.OpenLaw} {w : World} {K : PySem.W.Frag} {h : Heap} {mg : Str → Option Value} {fa : Addr} (X : K.In h) (G : h.Ns mainGlobals mg) (hfa : mg "law" = some (.ref fa))
    {f0 : Addr} {od0 an0 : Option Addr} {sl0 : Array (Option Value)} {oc0 kV0 dc0 pm0 cd0 ct0 : Value}
    (a0 : PySem.W.nsIn K mainGlobals "_law_draws" = some (some (.ref f0))) (l0 : K.lookup f0 = some ⟨oc0, od0, .func (PySem.W.fnOf "_law_draws" "_law_draws" (defArgs s__law_draws) (defBody s__law_draws) (defScope s__law_draws) .none kV0 dc0 pm0 an0 cd0 ct0), sl0⟩) (c0 : PySem.W.codeIn K cd0 "_law_draws" = true) (k0 : PySem.W.keepIn K (.ref f0) = true)
    {f1 : Addr} {od1 an1 : Option Addr} {sl1 : Array (Option Value)} {oc1 kV1 dc1 pm1 cd1 ct1 : Value}
    (a1 : PySem.W.nsIn K mainGlobals "_law_take" = some (some (.ref f1))) (l1 : K.lookup f1 = some ⟨oc1, od1, .func (PySem.W.fnOf "_law_take" "_law_take" (defArgs s__law_take) (defBody s__law_take) (defScope s__law_take) .none kV1 dc1 pm1 an1 cd1 ct1), sl1⟩) (c1 : PySem.W.codeIn K cd1 "_law_take" = true) (k1 : PySem.W.keepIn K (.ref f1) = true)
    {f2 : Addr} {od2 an2 : Option Addr} {sl2 : Array (Option Value)} {oc2 kV2 dc2 pm2 cd2 ct2 : Value}
    (a2 : PySem.W.nsIn K mainGlobals "_law_pick" = some (some (.ref f2))) (l2 : K.lookup f2 = some ⟨oc2, od2, .func (PySem.W.fnOf "_law_pick" "_law_pick" (defArgs s__law_pick) (defBody s__law_pick) (defScope s__law_pick) .none kV2 dc2 pm2 an2 cd2 ct2), sl2⟩) (c2 : PySem.W.codeIn K cd2 "_law_pick" = true) (k2 : PySem.W.keepIn K (.ref f2) = true)
    {f3 : Addr} {od3 an3 : Option Addr} {sl3 : Array (Option Value)} {oc3 kV3 dc3 pm3 cd3 ct3 : Value}
    (a3 : PySem.W.nsIn K mainGlobals "_law_gcd" = some (some (.ref f3))) (l3 : K.lookup f3 = some ⟨oc3, od3, .func (PySem.W.fnOf "_law_gcd" "_law_gcd" (defArgs s__law_gcd) (defBody s__law_gcd) (defScope s__law_gcd) .none kV3 dc3 pm3 an3 cd3 ct3), sl3⟩) (c3 : PySem.W.codeIn K cd3 "_law_gcd" = true) (k3 : PySem.W.keepIn K (.ref f3) = true)
    {f4 : Addr} {od4 an4 : Option Addr} {sl4 : Array (Option Value)} {oc4 kV4 dc4 pm4 cd4 ct4 : Value}
    (a4 : PySem.W.nsIn K mainGlobals "_law_frac" = some (some (.ref f4))) (l4 : K.lookup f4 = some ⟨oc4, od4, .func (PySem.W.fnOf "_law_frac" "_law_frac" (defArgs s__law_frac) (defBody s__law_frac) (defScope s__law_frac) .none kV4 dc4 pm4 an4 cd4 ct4), sl4⟩) (c4 : PySem.W.codeIn K cd4 "_law_frac" = true) (k4 : PySem.W.keepIn K (.ref f4) = true)
    {f5 : Addr} {od5 an5 : Option Addr} {sl5 : Array (Option Value)} {oc5 kV5 dc5 pm5 cd5 ct5 : Value}
    (a5 : PySem.W.nsIn K mainGlobals "_law_joined_chances" = some (some (.ref f5))) (l5 : K.lookup f5 = some ⟨oc5, od5, .func (PySem.W.fnOf "_law_joined_chances" "_law_joined_chances" (defArgs s__law_joined_chances) (defBody s__law_joined_chances) (defScope s__law_joined_chances) .none kV5 dc5 pm5 an5 cd5 ct5), sl5⟩) (c5 : PySem.W.codeIn K cd5 "_law_joined_chances" = true) (k5 : PySem.W.keepIn K (.ref f5) = true)
    {f6 : Addr} {od6 an6 : Option Addr} {sl6 : Array (Option Value)} {oc6 kV6 dc6 pm6 cd6 ct6 : Value}
    (a6 : PySem.W.nsIn K mainGlobals "_law_same" = some (some (.ref f6))) (l6 : K.lookup f6 = some ⟨oc6, od6, .func (PySem.W.fnOf "_law_same" "_law_same" (defArgs s__law_same) (defBody s__law_same) (defScope s__law_same) .none kV6 dc6 pm6 an6 cd6 ct6), sl6⟩) (c6 : PySem.W.codeIn K cd6 "_law_same" = true) (k6 : PySem.W.keepIn K (.ref f6) = true)
    {f7 : Addr} {od7 an7 : Option Addr} {sl7 : Array (Option Value)} {oc7 kV7 dc7 pm7 cd7 ct7 : Value}
    (a7 : PySem.W.nsIn K mainGlobals "fraction" = some (some (.ref f7))) (l7 : K.lookup f7 = some ⟨oc7, od7, .func (PySem.W.fnOf "fraction" "fraction" (defArgs s_fraction) (defBody s_fraction) (defScope s_fraction) .none kV7 dc7 pm7 an7 cd7 ct7), sl7⟩) (c7 : PySem.W.codeIn K cd7 "fraction" = true) (k7 : PySem.W.keepIn K (.ref f7) = true)
    {f8 : Addr} {od8 an8 : Option Addr} {sl8 : Array (Option Value)} {oc8 kV8 dc8 pm8 cd8 ct8 : Value}
    (a8 : PySem.W.nsIn K mainGlobals "times" = some (some (.ref f8))) (l8 : K.lookup f8 = some ⟨oc8, od8, .func (PySem.W.fnOf "times" "times" (defArgs s_times) (defBody s_times) (defScope s_times) .none kV8 dc8 pm8 an8 cd8 ct8), sl8⟩) (c8 : PySem.W.codeIn K cd8 "times" = true) (k8 : PySem.W.keepIn K (.ref f8) = true)
    {f9 : Addr} {od9 an9 : Option Addr} {sl9 : Array (Option Value)} {oc9 kV9 dc9 pm9 cd9 ct9 : Value}
    (a9 : PySem.W.nsIn K mainGlobals "plus" = some (some (.ref f9))) (l9 : K.lookup f9 = some ⟨oc9, od9, .func (PySem.W.fnOf "plus" "plus" (defArgs s_plus) (defBody s_plus) (defScope s_plus) .none kV9 dc9 pm9 an9 cd9 ct9), sl9⟩) (c9 : PySem.W.codeIn K cd9 "plus" = true) (k9 : PySem.W.keepIn K (.ref f9) = true)
    {f10 : Addr} {od10 an10 : Option Addr} {sl10 : Array (Option Value)} {oc10 kV10 dc10 pm10 cd10 ct10 : Value}
    (a10 : PySem.W.nsIn K mainGlobals "minus" = some (some (.ref f10))) (l10 : K.lookup f10 = some ⟨oc10, od10, .func (PySem.W.fnOf "minus" "minus" (defArgs s_minus) (defBody s_minus) (defScope s_minus) .none kV10 dc10 pm10 an10 cd10 ct10), sl10⟩) (c10 : PySem.W.codeIn K cd10 "minus" = true) (k10 : PySem.W.keepIn K (.ref f10) = true)
    {f11 : Addr} {od11 an11 : Option Addr} {sl11 : Array (Option Value)} {oc11 kV11 dc11 pm11 cd11 ct11 : Value}
    (a11 : PySem.W.nsIn K mainGlobals "gone_on" = some (some (.ref f11))) (l11 : K.lookup f11 = some ⟨oc11, od11, .func (PySem.W.fnOf "gone_on" "gone_on" (defArgs s_gone_on) (defBody s_gone_on) (defScope s_gone_on) .none kV11 dc11 pm11 an11 cd11 ct11), sl11⟩) (c11 : PySem.W.codeIn K cd11 "gone_on" = true) (k11 : PySem.W.keepIn K (.ref f11) = true)
    {f12 : Addr} {od12 an12 : Option Addr} {sl12 : Array (Option Value)} {oc12 kV12 dc12 pm12 cd12 ct12 : Value}
    (a12 : PySem.W.nsIn K mainGlobals "joined_chances" = some (some (.ref f12))) (l12 : K.lookup f12 = some ⟨oc12, od12, .func (PySem.W.fnOf "joined_chances" "joined_chances" (defArgs s_joined_chances) (defBody s_joined_chances) (defScope s_joined_chances) .none kV12 dc12 pm12 an12 cd12 ct12), sl12⟩) (c12 : PySem.W.codeIn K cd12 "joined_chances" = true) (k12 : PySem.W.keepIn K (.ref f12) = true)
    {f13 : Addr} {od13 an13 : Option Addr} {sl13 : Array (Option Value)} {oc13 kV13 dc13 pm13 cd13 ct13 : Value}
    (a13 : PySem.W.nsIn K mainGlobals "_law_choice" = some (some (.ref f13))) (l13 : K.lookup f13 = some ⟨oc13, od13, .func (PySem.W.fnOf "_law_choice" "_law_choice" (defArgs s__law_choice) (defBody s__law_choice) (defScope s__law_choice) .none kV13 dc13 pm13 an13 cd13 ct13), sl13⟩) (c13 : PySem.W.codeIn K cd13 "_law_choice" = true) (k13 : PySem.W.keepIn K (.ref f13) = true)
    {f14 : Addr} {od14 an14 : Option Addr} {sl14 : Array (Option Value)} {oc14 kV14 dc14 pm14 cd14 ct14 : Value}
    (a14 : PySem.W.nsIn K mainGlobals "choice" = some (some (.ref f14))) (l14 : K.lookup f14 = some ⟨oc14, od14, .func (PySem.W.fnOf "choice" "choice" (defArgs s_choice) (defBody s_choice) (defScope s_choice) .none kV14 dc14 pm14 an14 cd14 ct14), sl14⟩) (c14 : PySem.W.codeIn K cd14 "choice" = true) (k14 : PySem.W.keepIn K (.ref f14) = true)
    {f15 : Addr} {od15 an15 : Option Addr} {sl15 : Array (Option Value)} {oc15 kV15 dc15 pm15 cd15 ct15 : Value}
    (a15 : PySem.W.nsIn K mainGlobals "_law_sets" = some (some (.ref f15))) (l15 : K.lookup f15 = some ⟨oc15, od15, .func (PySem.W.fnOf "_law_sets" "_law_sets" (defArgs s__law_sets) (defBody s__law_sets) (defScope s__law_sets) .none kV15 dc15 pm15 an15 cd15 ct15), sl15⟩) (c15 : PySem.W.codeIn K cd15 "_law_sets" = true) (k15 : PySem.W.keepIn K (.ref f15) = true)
    {f16 : Addr} {od16 an16 : Option Addr} {sl16 : Array (Option Value)} {oc16 kV16 dc16 pm16 cd16 ct16 : Value}
    (a16 : PySem.W.nsIn K mainGlobals "powers_to" = some (some (.ref f16))) (l16 : K.lookup f16 = some ⟨oc16, od16, .func (PySem.W.fnOf "powers_to" "powers_to" (defArgs s_powers_to) (defBody s_powers_to) (defScope s_powers_to) .none kV16 dc16 pm16 an16 cd16 ct16), sl16⟩) (c16 : PySem.W.codeIn K cd16 "powers_to" = true) (k16 : PySem.W.keepIn K (.ref f16) = true)
    {f17 : Addr} {od17 an17 : Option Addr} {sl17 : Array (Option Value)} {oc17 kV17 dc17 pm17 cd17 ct17 : Value}
    (a17 : PySem.W.nsIn K mainGlobals "parts_behind" = some (some (.ref f17))) (l17 : K.lookup f17 = some ⟨oc17, od17, .func (PySem.W.fnOf "parts_behind" "parts_behind" (defArgs s_parts_behind) (defBody s_parts_behind) (defScope s_parts_behind) .none kV17 dc17 pm17 an17 cd17 ct17), sl17⟩) (c17 : PySem.W.codeIn K cd17 "parts_behind" = true) (k17 : PySem.W.keepIn K (.ref f17) = true)
    {f18 : Addr} {od18 an18 : Option Addr} {sl18 : Array (Option Value)} {oc18 kV18 dc18 pm18 cd18 ct18 : Value}
    (a18 : PySem.W.nsIn K mainGlobals "mean_choice" = some (some (.ref f18))) (l18 : K.lookup f18 = some ⟨oc18, od18, .func (PySem.W.fnOf "mean_choice" "mean_choice" (defArgs s_mean_choice) (defBody s_mean_choice) (defScope s_mean_choice) .none kV18 dc18 pm18 an18 cd18 ct18), sl18⟩) (c18 : PySem.W.codeIn K cd18 "mean_choice" = true) (k18 : PySem.W.keepIn K (.ref f18) = true)
    {f19 : Addr} {od19 an19 : Option Addr} {sl19 : Array (Option Value)} {oc19 kV19 dc19 pm19 cd19 ct19 : Value}
    (a19 : PySem.W.nsIn K mainGlobals "chances_by" = some (some (.ref f19))) (l19 : K.lookup f19 = some ⟨oc19, od19, .func (PySem.W.fnOf "chances_by" "chances_by" (defArgs s_chances_by) (defBody s_chances_by) (defScope s_chances_by) .none kV19 dc19 pm19 an19 cd19 ct19), sl19⟩) (c19 : PySem.W.codeIn K cd19 "chances_by" = true) (k19 : PySem.W.keepIn K (.ref f19) = true)
    {f20 : Addr} {od20 an20 : Option Addr} {sl20 : Array (Option Value)} {oc20 kV20 dc20 pm20 cd20 ct20 : Value}
    (a20 : PySem.W.nsIn K mainGlobals "chances" = some (some (.ref f20))) (l20 : K.lookup f20 = some ⟨oc20, od20, .func (PySem.W.fnOf "chances" "chances" (defArgs s_chances) (defBody s_chances) (defScope s_chances) .none kV20 dc20 pm20 an20 cd20 ct20), sl20⟩) (c20 : PySem.W.codeIn K cd20 "chances" = true) (k20 : PySem.W.keepIn K (.ref f20) = true)
    {f21 : Addr} {od21 an21 : Option Addr} {sl21 : Array (Option Value)} {oc21 kV21 dc21 pm21 cd21 ct21 : Value}
    (a21 : PySem.W.nsIn K mainGlobals "_law_power" = some (some (.ref f21))) (l21 : K.lookup f21 = some ⟨oc21, od21, .func (PySem.W.fnOf "_law_power" "_law_power" (defArgs s__law_power) (defBody s__law_power) (defScope s__law_power) .none kV21 dc21 pm21 an21 cd21 ct21), sl21⟩) (c21 : PySem.W.codeIn K cd21 "_law_power" = true) (k21 : PySem.W.keepIn K (.ref f21) = true)
    {f22 : Addr} {od22 an22 : Option Addr} {sl22 : Array (Option Value)} {oc22 kV22 dc22 pm22 cd22 ct22 : Value}
    (a22 : PySem.W.nsIn K mainGlobals "_law_chances" = some (some (.ref f22))) (l22 : K.lookup f22 = some ⟨oc22, od22, .func (PySem.W.fnOf "_law_chances" "_law_chances" (defArgs s__law_chances) (defBody s__law_chances) (defScope s__law_chances) .none kV22 dc22 pm22 an22 cd22 ct22), sl22⟩) (c22 : PySem.W.codeIn K cd22 "_law_chances" = true) (k22 : PySem.W.keepIn K (.ref f22) = true)
    {f23 : Addr} {od23 an23 : Option Addr} {sl23 : Array (Option Value)} {oc23 kV23 dc23 pm23 cd23 ct23 : Value}
    (a23 : PySem.W.nsIn K mainGlobals "_law_plus" = some (some (.ref f23))) (l23 : K.lookup f23 = some ⟨oc23, od23, .func (PySem.W.fnOf "_law_plus" "_law_plus" (defArgs s__law_plus) (defBody s__law_plus) (defScope s__law_plus) .none kV23 dc23 pm23 an23 cd23 ct23), sl23⟩) (c23 : PySem.W.codeIn K cd23 "_law_plus" = true) (k23 : PySem.W.keepIn K (.ref f23) = true)
    {f24 : Addr} {od24 an24 : Option Addr} {sl24 : Array (Option Value)} {oc24 kV24 dc24 pm24 cd24 ct24 : Value}
    (a24 : PySem.W.nsIn K mainGlobals "_law_product" = some (some (.ref f24))) (l24 : K.lookup f24 = some ⟨oc24, od24, .func (PySem.W.fnOf "_law_product" "_law_product" (defArgs s__law_product) (defBody s__law_product) (defScope s__law_product) .none kV24 dc24 pm24 an24 cd24 ct24), sl24⟩) (c24 : PySem.W.codeIn K cd24 "_law_product" = true) (k24 : PySem.W.keepIn K (.ref f24) = true)
    {f25 : Addr} {od25 an25 : Option Addr} {sl25 : Array (Option Value)} {oc25 kV25 dc25 pm25 cd25 ct25 : Value}
    (a25 : PySem.W.nsIn K mainGlobals "chances_of_joined" = some (some (.ref f25))) (l25 : K.lookup f25 = some ⟨oc25, od25, .func (PySem.W.fnOf "chances_of_joined" "chances_of_joined" (defArgs s_chances_of_joined) (defBody s_chances_of_joined) (defScope s_chances_of_joined) .none kV25 dc25 pm25 an25 cd25 ct25), sl25⟩) (c25 : PySem.W.codeIn K cd25 "chances_of_joined" = true) (k25 : PySem.W.keepIn K (.ref f25) = true)
    {f26 : Addr} {od26 an26 : Option Addr} {sl26 : Array (Option Value)} {oc26 kV26 dc26 pm26 cd26 ct26 : Value}
    (a26 : PySem.W.nsIn K mainGlobals "_law_first_half" = some (some (.ref f26))) (l26 : K.lookup f26 = some ⟨oc26, od26, .func (PySem.W.fnOf "_law_first_half" "_law_first_half" (defArgs s__law_first_half) (defBody s__law_first_half) (defScope s__law_first_half) .none kV26 dc26 pm26 an26 cd26 ct26), sl26⟩) (c26 : PySem.W.codeIn K cd26 "_law_first_half" = true) (k26 : PySem.W.keepIn K (.ref f26) = true)
    {f27 : Addr} {od27 an27 : Option Addr} {sl27 : Array (Option Value)} {oc27 kV27 dc27 pm27 cd27 ct27 : Value}
    (a27 : PySem.W.nsIn K mainGlobals "_law_mean" = some (some (.ref f27))) (l27 : K.lookup f27 = some ⟨oc27, od27, .func (PySem.W.fnOf "_law_mean" "_law_mean" (defArgs s__law_mean) (defBody s__law_mean) (defScope s__law_mean) .none kV27 dc27 pm27 an27 cd27 ct27), sl27⟩) (c27 : PySem.W.codeIn K cd27 "_law_mean" = true) (k27 : PySem.W.keepIn K (.ref f27) = true)
    {f28 : Addr} {od28 an28 : Option Addr} {sl28 : Array (Option Value)} {oc28 kV28 dc28 pm28 cd28 ct28 : Value}
    (a28 : PySem.W.nsIn K mainGlobals "over" = some (some (.ref f28))) (l28 : K.lookup f28 = some ⟨oc28, od28, .func (PySem.W.fnOf "over" "over" (defArgs s_over) (defBody s_over) (defScope s_over) .none kV28 dc28 pm28 an28 cd28 ct28), sl28⟩) (c28 : PySem.W.codeIn K cd28 "over" = true) (k28 : PySem.W.keepIn K (.ref f28) = true)
    {f29 : Addr} {od29 an29 : Option Addr} {sl29 : Array (Option Value)} {oc29 kV29 dc29 pm29 cd29 ct29 : Value}
    (a29 : PySem.W.nsIn K mainGlobals "mean_told_by" = some (some (.ref f29))) (l29 : K.lookup f29 = some ⟨oc29, od29, .func (PySem.W.fnOf "mean_told_by" "mean_told_by" (defArgs s_mean_told_by) (defBody s_mean_told_by) (defScope s_mean_told_by) .none kV29 dc29 pm29 an29 cd29 ct29), sl29⟩) (c29 : PySem.W.codeIn K cd29 "mean_told_by" = true) (k29 : PySem.W.keepIn K (.ref f29) = true)
    {f30 : Addr} {od30 an30 : Option Addr} {sl30 : Array (Option Value)} {oc30 kV30 dc30 pm30 cd30 ct30 : Value}
    (a30 : PySem.W.nsIn K mainGlobals "_law_second_half" = some (some (.ref f30))) (l30 : K.lookup f30 = some ⟨oc30, od30, .func (PySem.W.fnOf "_law_second_half" "_law_second_half" (defArgs s__law_second_half) (defBody s__law_second_half) (defScope s__law_second_half) .none kV30 dc30 pm30 an30 cd30 ct30), sl30⟩) (c30 : PySem.W.codeIn K cd30 "_law_second_half" = true) (k30 : PySem.W.keepIn K (.ref f30) = true)
    {f31 : Addr} {od31 an31 : Option Addr} {sl31 : Array (Option Value)} {oc31 kV31 dc31 pm31 cd31 ct31 : Value}
    (a31 : PySem.W.nsIn K mainGlobals "law" = some (some (.ref f31))) (l31 : K.lookup f31 = some ⟨oc31, od31, .func (PySem.W.fnOf "law" "law" (defArgs s_law) (defBody s_law) (defScope s_law) .none kV31 dc31 pm31 an31 cd31 ct31), sl31⟩) (c31 : PySem.W.codeIn K cd31 "law" = true) (k31 : PySem.W.keepIn K (.ref f31) = true)
    (y_int : PySem.W.nsIn K mainGlobals "int" = some none)
    (y_len : PySem.W.nsIn K mainGlobals "len" = some none)
    (y_list : PySem.W.nsIn K mainGlobals "list" = some none)
    (y_range : PySem.W.nsIn K mainGlobals "range" = some none)
    (y_abs : PySem.W.nsIn K mainGlobals "abs" = some none)
    (y_max : PySem.W.nsIn K mainGlobals "max" = some none)
    (y_min : PySem.W.nsIn K mainGlobals "min" = some none)
    (y_tuple : PySem.W.nsIn K mainGlobals "tuple" = some none)
    (y_isinstance : PySem.W.nsIn K mainGlobals "isinstance" = some none)
    (y_bool : PySem.W.nsIn K mainGlobals "bool" = some none)
    (y_str : PySem.W.nsIn K mainGlobals "str" = some none)
    (y_gcd : PySem.W.nsIn K mainGlobals "gcd" = some (some (.builtin "math.gcd")))
    (y_enumerate : PySem.W.nsIn K mainGlobals "enumerate" = some none)
    (y_sum : PySem.W.nsIn K mainGlobals "sum" = some none)
    : ∃ fd : FuncData, (∀ (s : Shared) (v : Value), BindsTo s fd ⟨[v], []⟩ [("script", v)]) ∧ ∀ base : Heap, K.In base → base.Ns mainGlobals mg → FnOk l.prog w K mg base CX0 10 fa fd ["script"] (spM K none 1 m_law) := by
  have e := hfa.symm.trans (PySem.W.mg_of X G a31)
  cases e
  have F0 := fun_mk (st := s__law_draws) l0 c0 k0
  have F1 := fun_mk (st := s__law_take) l1 c1 k1
  have F2 := fun_mk (st := s__law_pick) l2 c2 k2
  have F3 := fun_mk (st := s__law_gcd) l3 c3 k3
  have F4 := fun_mk (st := s__law_frac) l4 c4 k4
  have F5 := fun_mk (st := s__law_joined_chances) l5 c5 k5
  have F6 := fun_mk (st := s__law_same) l6 c6 k6
  have F7 := fun_mk (st := s_fraction) l7 c7 k7
  have F8 := fun_mk (st := s_times) l8 c8 k8
  have F9 := fun_mk (st := s_plus) l9 c9 k9
  have F10 := fun_mk (st := s_minus) l10 c10 k10
  have F11 := fun_mk (st := s_gone_on) l11 c11 k11
  have F12 := fun_mk (st := s_joined_chances) l12 c12 k12
  have F13 := fun_mk (st := s__law_choice) l13 c13 k13
  have F14 := fun_mk (st := s_choice) l14 c14 k14
  have F15 := fun_mk (st := s__law_sets) l15 c15 k15
  have F16 := fun_mk (st := s_powers_to) l16 c16 k16
  have F17 := fun_mk (st := s_parts_behind) l17 c17 k17
  have F18 := fun_mk (st := s_mean_choice) l18 c18 k18
  have F19 := fun_mk (st := s_chances_by) l19 c19 k19
  have F20 := fun_mk (st := s_chances) l20 c20 k20
  have F21 := fun_mk (st := s__law_power) l21 c21 k21
  have F22 := fun_mk (st := s__law_chances) l22 c22 k22
  have F23 := fun_mk (st := s__law_plus) l23 c23 k23
  have F24 := fun_mk (st := s__law_product) l24 c24 k24
  have F25 := fun_mk (st := s_chances_of_joined) l25 c25 k25
  have F26 := fun_mk (st := s__law_first_half) l26 c26 k26
  have F27 := fun_mk (st := s__law_mean) l27 c27 k27
  have F28 := fun_mk (st := s_over) l28 c28 k28
  have F29 := fun_mk (st := s_mean_told_by) l29 c29 k29
  have F30 := fun_mk (st := s__law_second_half) l30 c30 k30
  have F31 := fun_mk (st := s_law) l31 c31 k31
  have b0 := F0.binds (ps := ["script", "many"]) fun _ _ _ _ _ _ us hl => match us, hl with | [_, _], _ => rfl
  have b1 := F1.binds (ps := ["draws", "many"]) fun _ _ _ _ _ _ us hl => match us, hl with | [_, _], _ => rfl
  have b2 := F2.binds (ps := ["draws", "row"]) fun _ _ _ _ _ _ us hl => match us, hl with | [_, _], _ => rfl
  have b3 := F3.binds (ps := ["one", "other"]) fun _ _ _ _ _ _ us hl => match us, hl with | [_, _], _ => rfl
  have b4 := F4.binds (ps := ["n", "d"]) fun _ _ _ _ _ _ us hl => match us, hl with | [_, _], _ => rfl
  have b5 := F5.binds (ps := ["x", "y"]) fun _ _ _ _ _ _ us hl => match us, hl with | [_, _], _ => rfl
  have b6 := F6.binds (ps := ["actual", "due"]) fun _ _ _ _ _ _ us hl => match us, hl with | [_, _], _ => rfl
  have b7 := F7.binds (ps := ["n", "d"]) fun _ _ _ _ _ _ us hl => match us, hl with | [_, _], _ => rfl
  have b8 := F8.binds (ps := ["f", "g"]) fun _ _ _ _ _ _ us hl => match us, hl with | [_, _], _ => rfl
  have b9 := F9.binds (ps := ["f", "g"]) fun _ _ _ _ _ _ us hl => match us, hl with | [_, _], _ => rfl
  have b10 := F10.binds (ps := ["f", "g"]) fun _ _ _ _ _ _ us hl => match us, hl with | [_, _], _ => rfl
  have b11 := F11.binds (ps := ["row", "j"]) fun _ _ _ _ _ _ us hl => match us, hl with | [_, _], _ => rfl
  have b12 := F12.binds (ps := ["x", "y"]) fun _ _ _ _ _ _ us hl => match us, hl with | [_, _], _ => rfl
  have b13 := F13.binds (ps := ["x", "r"]) fun _ _ _ _ _ _ us hl => match us, hl with | [_, _], _ => rfl
  have b14 := F14.binds (ps := ["x", "r"]) fun _ _ _ _ _ _ us hl => match us, hl with | [_, _], _ => rfl
  have b15 := F15.binds (ps := ["n", "r"]) fun _ _ _ _ _ _ us hl => match us, hl with | [_, _], _ => rfl
  have b16 := F16.binds (ps := ["base", "n"]) fun _ _ _ _ _ _ us hl => match us, hl with | [_, _], _ => rfl
  have b17 := F17.binds (ps := ["n", "b"]) fun _ _ _ _ _ _ us hl => match us, hl with | [_, _], _ => rfl
  have b18 := F18.binds (ps := ["n", "r"]) fun _ _ _ _ _ _ us hl => match us, hl with | [_, _], _ => rfl
  have b19 := F19.binds (ps := ["n", "b"]) fun _ _ _ _ _ _ us hl => match us, hl with | [_, _], _ => rfl
  have b20 := F20.binds (ps := ["n"]) fun _ _ _ _ _ _ us hl => match us, hl with | [_], _ => rfl
  have b21 := F21.binds (ps := ["base", "many"]) fun _ _ _ _ _ _ us hl => match us, hl with | [_, _], _ => rfl
  have b22 := F22.binds (ps := ["n", "c", "d"]) fun _ _ _ _ _ _ us hl => match us, hl with | [_, _, _], _ => rfl
  have b23 := F23.binds (ps := ["one", "other"]) fun _ _ _ _ _ _ us hl => match us, hl with | [_, _], _ => rfl
  have b24 := F24.binds (ps := ["one", "other"]) fun _ _ _ _ _ _ us hl => match us, hl with | [_, _], _ => rfl
  have b25 := F25.binds (ps := ["n", "other"]) fun _ _ _ _ _ _ us hl => match us, hl with | [_, _], _ => rfl
  have b26 := F26.binds (ps := ["script"]) fun _ _ _ _ _ _ us hl => match us, hl with | [_], _ => rfl
  have b27 := F27.binds (ps := ["told", "c", "d"]) fun _ _ _ _ _ _ us hl => match us, hl with | [_, _, _], _ => rfl
  have b28 := F28.binds (ps := ["f", "g"]) fun _ _ _ _ _ _ us hl => match us, hl with | [_, _], _ => rfl
  have b29 := F29.binds (ps := ["n", "b"]) fun _ _ _ _ _ _ us hl => match us, hl with | [_, _], _ => rfl
  have b30 := F30.binds (ps := ["script"]) fun _ _ _ _ _ _ us hl => match us, hl with | [_], _ => rfl
  have z_int := PySem.W.mg_none_of X G y_int
  have z_len := PySem.W.mg_none_of X G y_len
  have z_list := PySem.W.mg_none_of X G y_list
  have z_range := PySem.W.mg_none_of X G y_range
  have z_abs := PySem.W.mg_none_of X G y_abs
  have z_max := PySem.W.mg_none_of X G y_max
  have z_min := PySem.W.mg_none_of X G y_min
  have z_tuple := PySem.W.mg_none_of X G y_tuple
  have z_isinstance := PySem.W.mg_none_of X G y_isinstance
  have z_bool := PySem.W.mg_none_of X G y_bool
  have z_str := PySem.W.mg_none_of X G y_str
  have z_gcd := PySem.W.mg_of X G y_gcd
  have z_enumerate := PySem.W.mg_none_of X G y_enumerate
  have z_sum := PySem.W.mg_none_of X G y_sum
  refine ⟨PySem.W.fnOf "law" "law" (defArgs s_law) (defBody s_law) (defScope s_law) .none kV31 dc31 pm31 an31 cd31 ct31, fun s v => .of_eq rfl, fun base _ _ => ?_⟩
  have o__law_draws : Ok l.prog w K mg base 1 "_law_draws" ["script", "many"] none 2 m__law_draws := ⟨f0, _, ok__law_draws z_int z_len z_list z_range F0, PySem.W.mg_of X G a0, F0.kp, b0⟩
  have o__law_take : Ok l.prog w K mg base 1 "_law_take" ["draws", "many"] (some 0) 2 m__law_take := ⟨f1, _, ok__law_take z_len z_int F1, PySem.W.mg_of X G a1, F1.kp, b1⟩
  have o__law_pick : Ok l.prog w K mg base 2 "_law_pick" ["draws", "row"] (some 0) 2 m__law_pick := ⟨f2, _, ok__law_pick z_len (o__law_take.mono (by decide)) F2, PySem.W.mg_of X G a2, F2.kp, b2⟩
  have o__law_gcd : Ok l.prog w K mg base 1 "_law_gcd" ["one", "other"] none 2 m__law_gcd := ⟨f3, _, ok__law_gcd z_abs z_range z_int F3, PySem.W.mg_of X G a3, F3.kp, b3⟩
  have o__law_frac : Ok l.prog w K mg base 2 "_law_frac" ["n", "d"] none 2 m__law_frac := ⟨f4, _, ok__law_frac z_max (o__law_gcd.mono (by decide)) F4, PySem.W.mg_of X G a4, F4.kp, b4⟩
  have o__law_joined_chances : Ok l.prog w K mg base 3 "_law_joined_chances" ["x", "y"] none 2 m__law_joined_chances := ⟨f5, _, ok__law_joined_chances z_max z_range z_min z_tuple (o__law_frac.mono (by decide)) F5, PySem.W.mg_of X G a5, F5.kp, b5⟩
  have o__law_same : Ok l.prog w K mg base 8 "_law_same" ["actual", "due"] none 2 (m__law_same 8) := ⟨f6, _, ok__law_same z_list z_tuple z_isinstance z_len z_range z_bool z_int z_str F6 (PySem.W.mg_of X G a6) b6 8, PySem.W.mg_of X G a6, F6.kp, b6⟩
  have o_fraction : Ok l.prog w K mg base 1 "fraction" ["n", "d"] none 2 m_fraction := ⟨f7, _, ok_fraction z_gcd F7, PySem.W.mg_of X G a7, F7.kp, b7⟩
  have o_times : Ok l.prog w K mg base 2 "times" ["f", "g"] none 2 m_times := ⟨f8, _, ok_times (o_fraction.mono (by decide)) F8, PySem.W.mg_of X G a8, F8.kp, b8⟩
  have o_plus : Ok l.prog w K mg base 2 "plus" ["f", "g"] none 2 m_plus := ⟨f9, _, ok_plus (o_fraction.mono (by decide)) F9, PySem.W.mg_of X G a9, F9.kp, b9⟩
  have o_minus : Ok l.prog w K mg base 2 "minus" ["f", "g"] none 2 m_minus := ⟨f10, _, ok_minus (o_fraction.mono (by decide)) F10, PySem.W.mg_of X G a10, F10.kp, b10⟩
  have o_gone_on : Ok l.prog w K mg base 3 "gone_on" ["row", "j"] none 2 m_gone_on := ⟨f11, _, ok_gone_on z_range z_len z_enumerate (o_times.mono (by decide)) (o_fraction.mono (by decide)) (o_plus.mono (by decide)) (o_minus.mono (by decide)) F11, PySem.W.mg_of X G a11, F11.kp, b11⟩
  have o_joined_chances : Ok l.prog w K mg base 4 "joined_chances" ["x", "y"] none 2 m_joined_chances := ⟨f12, _, ok_joined_chances z_min z_range z_max z_tuple (o_gone_on.mono (by decide)) F12, PySem.W.mg_of X G a12, F12.kp, b12⟩
  have o__law_choice : Ok l.prog w K mg base 1 "_law_choice" ["x", "r"] none 2 m__law_choice := ⟨f13, _, ok__law_choice z_range F13, PySem.W.mg_of X G a13, F13.kp, b13⟩
  have o_choice : Ok l.prog w K mg base 1 "choice" ["x", "r"] none 2 m_choice := ⟨f14, _, ok_choice z_range F14, PySem.W.mg_of X G a14, F14.kp, b14⟩
  have o__law_sets : Ok l.prog w K mg base 1 "_law_sets" ["n", "r"] none 2 m__law_sets := ⟨f15, _, ok__law_sets z_range z_len F15, PySem.W.mg_of X G a15, F15.kp, b15⟩
  have o_powers_to : Ok l.prog w K mg base 1 "powers_to" ["base", "n"] none 2 m_powers_to := ⟨f16, _, ok_powers_to z_range F16, PySem.W.mg_of X G a16, F16.kp, b16⟩
  have o_parts_behind : Ok l.prog w K mg base 2 "parts_behind" ["n", "b"] none 2 m_parts_behind := ⟨f17, _, ok_parts_behind z_range z_enumerate (o_powers_to.mono (by decide)) F17, PySem.W.mg_of X G a17, F17.kp, b17⟩
  have o_mean_choice : Ok l.prog w K mg base 3 "mean_choice" ["n", "r"] none 2 m_mean_choice := ⟨f18, _, ok_mean_choice z_enumerate z_sum (o_parts_behind.mono (by decide)) (o_fraction.mono (by decide)) (o_choice.mono (by decide)) F18, PySem.W.mg_of X G a18, F18.kp, b18⟩
  have o_chances_by : Ok l.prog w K mg base 3 "chances_by" ["n", "b"] none 2 m_chances_by := ⟨f19, _, ok_chances_by z_tuple (o_parts_behind.mono (by decide)) (o_fraction.mono (by decide)) F19, PySem.W.mg_of X G a19, F19.kp, b19⟩
  have o_chances : Ok l.prog w K mg base 4 "chances" ["n"] none 1 m_chances := ⟨f20, _, ok_chances (o_chances_by.mono (by decide)) F20, PySem.W.mg_of X G a20, F20.kp, b20⟩
  have o__law_power : Ok l.prog w K mg base 1 "_law_power" ["base", "many"] none 2 m__law_power := ⟨f21, _, ok__law_power z_range F21, PySem.W.mg_of X G a21, F21.kp, b21⟩
  have o__law_chances : Ok l.prog w K mg base 3 "_law_chances" ["n", "c", "d"] none 3 m__law_chances := ⟨f22, _, ok__law_chances z_range z_len z_tuple (o__law_power.mono (by decide)) (o__law_frac.mono (by decide)) F22, PySem.W.mg_of X G a22, F22.kp, b22⟩
  have o__law_plus : Ok l.prog w K mg base 3 "_law_plus" ["one", "other"] none 2 m__law_plus := ⟨f23, _, ok__law_plus (o__law_frac.mono (by decide)) F23, PySem.W.mg_of X G a23, F23.kp, b23⟩
  have o__law_product : Ok l.prog w K mg base 3 "_law_product" ["one", "other"] none 2 m__law_product := ⟨f24, _, ok__law_product (o__law_frac.mono (by decide)) F24, PySem.W.mg_of X G a24, F24.kp, b24⟩
  have o_chances_of_joined : Ok l.prog w K mg base 5 "chances_of_joined" ["n", "other"] none 2 m_chances_of_joined := ⟨f25, _, ok_chances_of_joined z_range z_enumerate z_tuple (o_chances.mono (by decide)) (o_times.mono (by decide)) (o_joined_chances.mono (by decide)) (o_plus.mono (by decide)) F25, PySem.W.mg_of X G a25, F25.kp, b25⟩
  have o__law_first_half : Ok l.prog w K mg base 9 "_law_first_half" ["script"] none 1 m__law_first_half := ⟨f26, _, ok__law_first_half z_range (o__law_draws.mono (by decide)) (o__law_take.mono (by decide)) (o__law_pick.mono (by decide)) (o__law_joined_chances.mono (by decide)) (o__law_same.mono (by decide)) (o_joined_chances.mono (by decide)) (o__law_choice.mono (by decide)) (o_choice.mono (by decide)) (o__law_sets.mono (by decide)) (o_mean_choice.mono (by decide)) (o_chances.mono (by decide)) (o__law_chances.mono (by decide)) (o__law_plus.mono (by decide)) (o__law_product.mono (by decide)) (o_chances_of_joined.mono (by decide)) F26, PySem.W.mg_of X G a26, F26.kp, b26⟩
  have o__law_mean : Ok l.prog w K mg base 4 "_law_mean" ["told", "c", "d"] none 3 m__law_mean := ⟨f27, _, ok__law_mean z_range z_len (o__law_power.mono (by decide)) (o__law_plus.mono (by decide)) (o__law_product.mono (by decide)) (o__law_frac.mono (by decide)) F27, PySem.W.mg_of X G a27, F27.kp, b27⟩
  have o_over : Ok l.prog w K mg base 2 "over" ["f", "g"] none 2 m_over := ⟨f28, _, ok_over (o_fraction.mono (by decide)) F28, PySem.W.mg_of X G a28, F28.kp, b28⟩
  have o_mean_told_by : Ok l.prog w K mg base 3 "mean_told_by" ["n", "b"] none 2 m_mean_told_by := ⟨f29, _, ok_mean_told_by z_enumerate z_sum (o_parts_behind.mono (by decide)) (o_powers_to.mono (by decide)) (o_fraction.mono (by decide)) (o_over.mono (by decide)) (o_minus.mono (by decide)) F29, PySem.W.mg_of X G a29, F29.kp, b29⟩
  have o__law_second_half : Ok l.prog w K mg base 9 "_law_second_half" ["script"] none 1 m__law_second_half := ⟨f30, _, ok__law_second_half z_range (o__law_draws.mono (by decide)) (o__law_take.mono (by decide)) (o__law_pick.mono (by decide)) (o__law_frac.mono (by decide)) (o_chances_by.mono (by decide)) (o__law_same.mono (by decide)) (o__law_chances.mono (by decide)) (o__law_mean.mono (by decide)) (o_mean_told_by.mono (by decide)) (o_chances.mono (by decide)) F30, PySem.W.mg_of X G a30, F30.kp, b30⟩
  exact ok_law (o__law_first_half.mono (by decide)) (o__law_second_half.mono (by decide)) F31
end
end K72
open PySem PySem.W PyProof.Rows
set_option maxHeartbeats 0 in
theorem PySem.Challenge.cw_sketchkeep_k72_joined_counters_and_choic_holds : PySem.Challenge.rw_sketchkeep_k72_joined_counters_and_choic.Holds := by
  w_on; o_law; k_head; (case hw => w_witness2)
  k_fill
  refine L2.walk_of (l := PySem.Challenge.rw_sketchkeep_k72_joined_counters_and_choic) (n := 63) (k := 10) (x := "script") (CX := fun _ => L2.CX0) (sp := fun w => Zk.spM _ none 1 K72.m_law) rfl (by decide) rfl ⟨rfl, by decide, by decide⟩ (fun w h Y => PySem.W.kIn_of Y) ?F (fun _ _ a ns hl hO hS => Zk.law_sp (fun ns hl => K72.law_true ns hl) hl hO hS) (fun _ _ _ _ _ h => h)
  case F =>
    intro w mg fa h KX G hmg
    refine' K72.all_mk KX G hmg ?a0 ?l0 ?c0 ?k0 ?a1 ?l1 ?c1 ?k1 ?a2 ?l2 ?c2 ?k2 ?a3 ?l3 ?c3 ?k3 ?a4 ?l4 ?c4 ?k4 ?a5 ?l5 ?c5 ?k5 ?a6 ?l6 ?c6 ?k6 ?a7 ?l7 ?c7 ?k7 ?a8 ?l8 ?c8 ?k8 ?a9 ?l9 ?c9 ?k9 ?a10 ?l10 ?c10 ?k10 ?a11 ?l11 ?c11 ?k11 ?a12 ?l12 ?c12 ?k12 ?a13 ?l13 ?c13 ?k13 ?a14 ?l14 ?c14 ?k14 ?a15 ?l15 ?c15 ?k15 ?a16 ?l16 ?c16 ?k16 ?a17 ?l17 ?c17 ?k17 ?a18 ?l18 ?c18 ?k18 ?a19 ?l19 ?c19 ?k19 ?a20 ?l20 ?c20 ?k20 ?a21 ?l21 ?c21 ?k21 ?a22 ?l22 ?c22 ?k22 ?a23 ?l23 ?c23 ?k23 ?a24 ?l24 ?c24 ?k24 ?a25 ?l25 ?c25 ?k25 ?a26 ?l26 ?c26 ?k26 ?a27 ?l27 ?c27 ?k27 ?a28 ?l28 ?c28 ?k28 ?a29 ?l29 ?c29 ?k29 ?a30 ?l30 ?c30 ?k30 ?a31 ?l31 ?c31 ?k31 ?y_int ?y_len ?y_list ?y_range ?y_abs ?y_max ?y_min ?y_tuple ?y_isinstance ?y_bool ?y_str ?y_gcd ?y_enumerate ?y_sum
    (case a0 => k_is); (case l0 => k_is); (case c0 => k_is); (case k0 => k_is); (case a1 => k_is); (case l1 => k_is); (case c1 => k_is); (case k1 => k_is); (case a2 => k_is); (case l2 => k_is); (case c2 => k_is); (case k2 => k_is); (case a3 => k_is); (case l3 => k_is); (case c3 => k_is); (case k3 => k_is); (case a4 => k_is); (case l4 => k_is); (case c4 => k_is); (case k4 => k_is); (case a5 => k_is); (case l5 => k_is); (case c5 => k_is); (case k5 => k_is); (case a6 => k_is); (case l6 => k_is); (case c6 => k_is); (case k6 => k_is); (case a7 => k_is); (case l7 => k_is); (case c7 => k_is); (case k7 => k_is); (case a8 => k_is); (case l8 => k_is); (case c8 => k_is); (case k8 => k_is); (case a9 => k_is); (case l9 => k_is); (case c9 => k_is); (case k9 => k_is); (case a10 => k_is); (case l10 => k_is); (case c10 => k_is); (case k10 => k_is); (case a11 => k_is); (case l11 => k_is); (case c11 => k_is); (case k11 => k_is); (case a12 => k_is); (case l12 => k_is); (case c12 => k_is); (case k12 => k_is); (case a13 => k_is); (case l13 => k_is); (case c13 => k_is); (case k13 => k_is); (case a14 => k_is); (case l14 => k_is); (case c14 => k_is); (case k14 => k_is); (case a15 => k_is); (case l15 => k_is); (case c15 => k_is); (case k15 => k_is); (case a16 => k_is); (case l16 => k_is); (case c16 => k_is); (case k16 => k_is); (case a17 => k_is); (case l17 => k_is); (case c17 => k_is); (case k17 => k_is); (case a18 => k_is); (case l18 => k_is); (case c18 => k_is); (case k18 => k_is); (case a19 => k_is); (case l19 => k_is); (case c19 => k_is); (case k19 => k_is); (case a20 => k_is); (case l20 => k_is); (case c20 => k_is); (case k20 => k_is); (case a21 => k_is); (case l21 => k_is); (case c21 => k_is); (case k21 => k_is); (case a22 => k_is); (case l22 => k_is); (case c22 => k_is); (case k22 => k_is); (case a23 => k_is); (case l23 => k_is); (case c23 => k_is); (case k23 => k_is); (case a24 => k_is); (case l24 => k_is); (case c24 => k_is); (case k24 => k_is); (case a25 => k_is); (case l25 => k_is); (case c25 => k_is); (case k25 => k_is); (case a26 => k_is); (case l26 => k_is); (case c26 => k_is); (case k26 => k_is); (case a27 => k_is); (case l27 => k_is); (case c27 => k_is); (case k27 => k_is); (case a28 => k_is); (case l28 => k_is); (case c28 => k_is); (case k28 => k_is); (case a29 => k_is); (case l29 => k_is); (case c29 => k_is); (case k29 => k_is); (case a30 => k_is); (case l30 => k_is); (case c30 => k_is); (case k30 => k_is); (case a31 => k_is); (case l31 => k_is); (case c31 => k_is); (case k31 => k_is); (case y_int => k_is); (case y_len => k_is); (case y_list => k_is); (case y_range => k_is); (case y_abs => k_is); (case y_max => k_is); (case y_min => k_is); (case y_tuple => k_is); (case y_isinstance => k_is); (case y_bool => k_is); (case y_str => k_is); (case y_gcd => k_is); (case y_enumerate => k_is); (case y_sum => k_is)

