import PyProof.Rows.All
import Wide.All
import OpenK.AllK
import Wide.FinOn
import HandS.ForMost
import HandS.ForExc
import HandS.More
import HandS.Wide
import HandS.Deep
import HandS.IsInst
import HandS.Style
import HandS.ExcIs
import HandS.ExcField
import HandS.TupAny
import HandS.EndBits
import HandS.Conv
import HandS.SortInts
import HandS.TupLe
import HandS.Flt
import KE.DatumOrd
import KE.LtSeq
import HandS.SortRule
import HandS.DictTup
import HandS.ExcValue
import HandS.ExcOwn
import HandS.SetKeys
import HandS.TupLen
import KE.SortData
import HandS.SetFor
import KE.DataMinMax
import HandS.ExcInit
import HandS.WordsExc
import KE.KExcIs
import PySem.Challenge.RW_plait_k17_refusals
set_option Elab.async false
set_option linter.all false
set_option maxRecDepth 100000
set_option maxHeartbeats 4000000
namespace VL
open PySem PySem.Spec PyProof.Rows L2
abbrev D := PyData
structure Kp (A : Addr → Prop) (H H' : Hp) : Prop where
  at_ : ∀ b o, A b → H b = some o → H' b = some o
  tup : ∀ b xs, H b = some (.tup xs) → H' b = some (.tup xs)
  frz : ∀ b o u, H b = some (.frz o u) → H' b = some (.frz o u)
theorem Kp.same {A : Addr → Prop} {H H' : Hp} (s : Same H H') : Kp A H H' := ⟨fun b o _ h => s b o h, fun b xs h => s b _ h, fun b o u h => s b _ h⟩
theorem Kp.mono {A A' : Addr → Prop} {H H' : Hp} (k : Kp A' H H') (h : ∀ b, A b → A' b) : Kp A H H' := ⟨fun b o a e => k.at_ b o (h b a) e, k.tup, k.frz⟩
theorem Kp.trans {A : Addr → Prop} {H H1 H2 : Hp} (a : Kp A H H1) (b : Kp A H1 H2) : Kp A H H2 := ⟨fun c o x h => b.at_ c o x (a.at_ c o x h), fun c xs h => b.tup c xs (a.tup c xs h), fun c o u h => b.frz c o u (a.frz c o u h)⟩
def mutO : HO → Prop
  | .lst _ => True | .dK _ => True | .dT _ => True | .ins _ _ _ => True | .set _ _ => True
  | _ => False
theorem Kp.write {A : Addr → Prop} {H : Hp} {a : Addr} {o o' : HO} (h : H a = some o) (m : mutO o) (n : ¬ A a) : Kp A H (upd H a o') :=
  ⟨fun b u x e => by rw [upd_ne (fun z => by subst z; exact n x)]; exact e,
   fun b xs e => by
    rw [upd_ne (fun z => by subst z; rw [h] at e; cases e; exact m)]; exact e,
   fun b u w e => by
    rw [upd_ne (fun z => by subst z; rw [h] at e; cases e; exact m)]; exact e⟩
def SqF (K : PySem.W.Frag) (H : Hp) (a : Addr) (xs : List V) : Prop :=
  (∃ o, H a = some (.frz o (.lst xs))) ∨
    ∃ (o : Obj) (its : Array Value) (n : Nat), K.lookup a = some o ∧ o.cls = .type "list" ∧ o.dict = none ∧ o.data = .seq its n ∧ its.size ≤ sizeLine ∧ Vals xs its.toList
theorem SqF.seq {K : PySem.W.Frag} {H : Hp} {a : Addr} {xs : List V} (h : SqF K H a xs) : SqL K H a xs := by
  rcases h with ⟨o, h⟩ | h
  · exact .inl (.inr ⟨o, h⟩)
  · exact .inr h
theorem sqf_keep {K : PySem.W.Frag} {A : Addr → Prop} {H H' : Hp} {a : Addr} {xs : List V} (k : Kp A H H') (h : SqF K H a xs) : SqF K H' a xs := by
  rcases h with ⟨o, h⟩ | h
  · exact .inl ⟨o, k.frz _ _ _ h⟩
  · exact .inr h
def kD : Key → D
  | .inl i => .int i
  | .inr x => .str x
def mkDict (t : Bool) (ds : List (D × D)) : D := .dict (if t then (.none, .none) :: ds else ds)
def scriptD (ns : List Int) : D := .dict [(.list [], .list (ns.map .int))]
def opD (a : Addr) : D := .dict [(.list [.none], .int (a : Nat))]
def DictAt (H : Hp) (a : Addr) (kvs : List (D × V)) (t : Bool) : Prop :=
  (t = false ∧ ∃ k' : List (Key × V), H a = some (.dK k') ∧ kvs = k'.map fun p => (kD p.1, p.2)) ∨
  (t = true ∧ ∃ k' : List (List Key × V), H a = some (.dT k') ∧ kvs = k'.map fun p => (.tuple (p.1.map kD), p.2))
theorem DictAt.at {H H' : Hp} {a : Addr} {kvs : List (D × V)} {t : Bool} (h : DictAt H a kvs t) (e : ∀ o, H a = some o → H' a = some o) : DictAt H' a kvs t := by
  rcases h with ⟨ht, k', h, q⟩ | ⟨ht, k', h, q⟩
  · exact .inl ⟨ht, k', e _ h, q⟩
  · exact .inr ⟨ht, k', e _ h, q⟩
theorem DictAt.mut {H : Hp} {a : Addr} {kvs : List (D × V)} {t : Bool} (h : DictAt H a kvs t) : ∃ o, H a = some o ∧ mutO o := by
  rcases h with ⟨_, k', h, _⟩ | ⟨_, k', h, _⟩
  · exact ⟨_, h, trivial⟩
  · exact ⟨_, h, trivial⟩
mutual
def flatD : D → Bool
  | .list _ => false
  | .dict _ => false
  | .tuple ds => flatAll ds
  | _ => true
def flatAll : List D → Bool
  | [] => true
  | d :: ds => flatD d && flatAll ds
end
mutual
inductive RS (K : PySem.W.Frag) (A : Addr → Prop) (H : Hp) : V → D → Prop
  | non : RS K A H .non .none
  | bl (b : Bool) : RS K A H (.bl b) (.bool b)
  | int (i : Int) : RS K A H (.int i) (.int i)
  | str (x : Str) : RS K A H (.str x) (.str x)
  | lst {a : Addr} {xs : List V} {ds : List D} : H a = some (.lst xs) → A a → RSs K A H xs ds → RS K A H (.ref a) (.list ds)
  | tup {a : Addr} {xs : List V} {ds : List D} : H a = some (.tup xs) → RSs K A H xs ds → RS K A H (.ref a) (.tuple ds)
  | dct {a : Addr} {kvs : List (D × V)} {t : Bool} {ds : List (D × D)} : DictAt H a kvs t → A a → kvs.map (·.1) = ds.map (·.1) → RSs K A H (kvs.map (·.2)) (ds.map (·.2)) → RS K A H (.ref a) (mkDict t ds)
  | scr {a : Addr} {ns : List Int} : SqF K H a (ns.map V.int) → RS K A H (.ref a) (scriptD ns)
  | opq (a : Addr) : RS K A H (.ref a) (opD a)
inductive RSs (K : PySem.W.Frag) (A : Addr → Prop) (H : Hp) : List V → List D → Prop
  | nil : RSs K A H [] []
  | cons {v : V} {vs : List V} {d : D} {ds : List D} : RS K A H v d → RSs K A H vs ds → RSs K A H (v :: vs) (d :: ds)
end
def popM : Option Nat → Option (Option Nat)
  | none => some none
  | some 0 => none
  | some (n + 1) => some (some n)
def succM : Option Nat → Option Nat
  | none => none
  | some n => some (n + 1)
theorem pop_succ (m : Option Nat) : popM (succM m) = some m := by cases m <;> rfl
mutual
inductive RO (K : PySem.W.Frag) (A : Addr → Prop) (H : Hp) : Option Nat → V → D → List Addr → Prop
  | sh {v : V} {d : D} : RS K A H v d → RO K A H (some 0) v d []
  | flat {m : Option Nat} {v : V} {d : D} : RS K A H v d → flatD d = true → RO K A H m v d []
  | lst {m n : Option Nat} {a : Addr} {xs : List V} {ds : List D} {l : List Addr} : popM m = some n → H a = some (.lst xs) → ROs K A H n xs ds l → RO K A H m (.ref a) (.list ds) (a :: l)
  | tup {m : Option Nat} {a : Addr} {xs : List V} {ds : List D} {l : List Addr} : H a = some (.tup xs) → ROs K A H m xs ds l → RO K A H m (.ref a) (.tuple ds) l
  | dct {m n : Option Nat} {a : Addr} {kvs : List (D × V)} {t : Bool} {ds : List (D × D)} {l : List Addr} : popM m = some n → DictAt H a kvs t → kvs.map (·.1) = ds.map (·.1) → ROs K A H n (kvs.map (·.2)) (ds.map (·.2)) l → RO K A H m (.ref a) (mkDict t ds) (a :: l)
inductive ROs (K : PySem.W.Frag) (A : Addr → Prop) (H : Hp) : Option Nat → List V → List D → List Addr → Prop
  | nil {m : Option Nat} : ROs K A H m [] [] []
  | cons {m : Option Nat} {v : V} {vs : List V} {d : D} {ds : List D} {l1 l2 : List Addr} : RO K A H m v d l1 → ROs K A H m vs ds l2 → ROs K A H m (v :: vs) (d :: ds) (l1 ++ l2)
end
section
variable {K : PySem.W.Frag} {A A' : Addr → Prop} {H H' : Hp}
mutual
theorem RS.keep (k : Kp A H H') : ∀ {v : V} {d : D}, RS K A H v d → RS K A H' v d
  | _, _, .non => .non
  | _, _, .bl b => .bl b
  | _, _, .int i => .int i
  | _, _, .str x => .str x
  | _, _, .lst h a r => .lst (k.at_ _ _ a h) a (RSs.keep k r)
  | _, _, .tup h r => .tup (k.tup _ _ h) (RSs.keep k r)
  | _, _, .dct h a e r => .dct (h.at fun o q => k.at_ _ _ a q) a e (RSs.keep k r)
  | _, _, .scr h => .scr (sqf_keep k h)
  | _, _, .opq a => .opq a
theorem RSs.keep (k : Kp A H H') : ∀ {v : List V} {d : List D}, RSs K A H v d → RSs K A H' v d
  | _, _, .nil => .nil
  | _, _, .cons h r => .cons (RS.keep k h) (RSs.keep k r)
end
mutual
theorem RS.mono (k : ∀ b o, A b → H b = some o → A' b) : ∀ {v : V} {d : D}, RS K A H v d → RS K A' H v d
  | _, _, .non => .non
  | _, _, .bl b => .bl b
  | _, _, .int i => .int i
  | _, _, .str x => .str x
  | _, _, .lst h a r => .lst h (k _ _ a h) (RSs.mono k r)
  | _, _, .tup h r => .tup h (RSs.mono k r)
  | _, _, .dct h a e r => .dct h (let ⟨_, q, _⟩ := h.mut; k _ _ a q) e (RSs.mono k r)
  | _, _, .scr h => .scr h
  | _, _, .opq a => .opq a
theorem RSs.mono (k : ∀ b o, A b → H b = some o → A' b) : ∀ {v : List V} {d : List D}, RSs K A H v d → RSs K A' H v d
  | _, _, .nil => .nil
  | _, _, .cons h r => .cons (RS.mono k h) (RSs.mono k r)
end
theorem flat_dict {t : Bool} {ds : List (D × D)} : flatD (mkDict t ds) = false := by cases t <;> simp [mkDict, flatD]
theorem flat_script {ns : List Int} : flatD (scriptD ns) = false := by simp [scriptD, flatD]
mutual
theorem RS.flat : ∀ {v : V} {d : D}, RS K A H v d → flatD d = true → RS K A' H v d
  | _, _, .non, _ => .non
  | _, _, .bl b, _ => .bl b
  | _, _, .int i, _ => .int i
  | _, _, .str x, _ => .str x
  | _, _, .lst h a r, f => by simp [flatD] at f
  | _, _, .tup h r, f => .tup h (RSs.flat r (by simpa [flatD] using f))
  | _, _, .dct h a e r, f => by rw [flat_dict] at f; cases f
  | _, _, .scr h, f => by rw [flat_script] at f; cases f
  | _, _, .opq a, f => by simp [opD, flatD] at f
theorem RSs.flat : ∀ {v : List V} {d : List D}, RSs K A H v d → flatAll d = true → RSs K A' H v d
  | _, _, .nil, _ => .nil
  | _, _, .cons h r, f => by
    simp only [flatAll, Bool.and_eq_true] at f
    exact .cons (RS.flat h f.1) (RSs.flat r f.2)
end
theorem RSs.len : ∀ {vs : List V} {ds : List D}, RSs K A H vs ds → vs.length = ds.length
  | _, _, .nil => rfl
  | _, _, .cons _ r => by simp [RSs.len r]
theorem RSs.get : ∀ {vs : List V} {ds : List D} {i : Nat} {d : D}, RSs K A H vs ds → ds[i]? = some d → ∃ v, vs[i]? = some v ∧ RS K A H v d
  | _, _, _, _, .nil, e => by simp at e
  | _, _, 0, _, .cons h _, e => by simp at e; subst e; exact ⟨_, rfl, h⟩
  | _, _, i + 1, d, .cons _ r, e => by
    obtain ⟨v, h1, h2⟩ := RSs.get (i := i) r (by simpa using e)
    exact ⟨v, by simpa using h1, h2⟩
theorem RSs.append : ∀ {xs ys : List V} {ds es : List D}, RSs K A H xs ds → RSs K A H ys es → RSs K A H (xs ++ ys) (ds ++ es)
  | _, _, _, _, .nil, s => s
  | _, _, _, _, .cons h r, s => .cons h (RSs.append r s)
theorem RSs.take : ∀ {xs : List V} {ds : List D} (n : Nat), RSs K A H xs ds → RSs K A H (xs.take n) (ds.take n)
  | _, _, 0, _ => .nil
  | _, _, _ + 1, .nil => .nil
  | _, _, n + 1, .cons h r => .cons h (RSs.take n r)
theorem RSs.drop : ∀ {xs : List V} {ds : List D} (n : Nat), RSs K A H xs ds → RSs K A H (xs.drop n) (ds.drop n)
  | _, _, 0, r => r
  | _, _, _ + 1, .nil => .nil
  | _, _, n + 1, .cons h r => RSs.drop n r
theorem RSs.rep {xs : List V} {ds : List D} (h : RSs K A H xs ds) : ∀ k : Nat, RSs K A H (List.replicate k xs).flatten (List.replicate k ds).flatten
  | 0 => .nil
  | k + 1 => by
    simp only [List.replicate_succ, List.flatten_cons]
    exact RSs.append h (RSs.rep h k)
mutual
theorem RS.dp : ∀ {v : V} {d : D}, RS K A H v d → d.canLay0 = true → Dp K H v d
  | _, _, .non, _ => .non
  | _, _, .bl b, _ => .bl b
  | _, _, .int i, _ => .int i
  | _, _, .str x, _ => .str x
  | _, _, .lst h a r, f => .lst (SqL.of h) (RSs.dp r (by simpa [PyData.canLay0] using f))
  | _, _, .tup h r, f => .tup (SqT.of h) (RSs.dp r (by simpa [PyData.canLay0] using f))
  | _, _, .dct h a e r, f => by simp [mkDict, PyData.canLay0] at f
  | _, _, .scr h, f => by simp [scriptD, PyData.canLay0] at f
  | _, _, .opq a, f => by simp [opD, PyData.canLay0] at f
theorem RSs.dp : ∀ {v : List V} {d : List D}, RSs K A H v d → PyData.canLayAll0 d = true → DpAll K H v d
  | _, _, .nil, _ => .nil
  | _, _, .cons h r, f => by
    simp only [PyData.canLayAll0, Bool.and_eq_true] at f
    exact .cons (RS.dp h f.1) (RSs.dp r f.2)
end
mutual
theorem RO.keep {m : Option Nat} (k : Kp A H H') : ∀ {v : V} {d : D} {l : List Addr}, RO K A H m v d l → (∀ b ∈ l, ∀ o, H b = some o → H' b = some o) → RO K A H' m v d l
  | _, _, _, .sh r, _ => .sh (r.keep k)
  | _, _, _, .flat r f, _ => .flat (r.keep k) f
  | _, _, _, .lst p h r, q => .lst p (q _ List.mem_cons_self _ h) (ROs.keep k r fun b hb => q b (List.mem_cons_of_mem _ hb))
  | _, _, _, .tup h r, q => .tup (k.tup _ _ h) (ROs.keep k r q)
  | _, _, _, .dct p h e r, q => .dct p (h.at (q _ List.mem_cons_self)) e (ROs.keep k r fun b hb => q b (List.mem_cons_of_mem _ hb))
theorem ROs.keep {m : Option Nat} (k : Kp A H H') : ∀ {v : List V} {d : List D} {l : List Addr}, ROs K A H m v d l → (∀ b ∈ l, ∀ o, H b = some o → H' b = some o) → ROs K A H' m v d l
  | _, _, _, .nil, _ => .nil
  | _, _, _, .cons h r, q => .cons (RO.keep k h fun b hb => q b (List.mem_append_left _ hb)) (ROs.keep k r fun b hb => q b (List.mem_append_right _ hb))
end
mutual
theorem RO.mono {m : Option Nat} (k : ∀ b o, A b → H b = some o → A' b) : ∀ {v : V} {d : D} {l : List Addr}, RO K A H m v d l → RO K A' H m v d l
  | _, _, _, .sh r => .sh (r.mono k)
  | _, _, _, .flat r f => .flat (r.mono k) f
  | _, _, _, .lst p h r => .lst p h (ROs.mono k r)
  | _, _, _, .tup h r => .tup h (ROs.mono k r)
  | _, _, _, .dct p h e r => .dct p h e (ROs.mono k r)
theorem ROs.mono {m : Option Nat} (k : ∀ b o, A b → H b = some o → A' b) : ∀ {v : List V} {d : List D} {l : List Addr}, ROs K A H m v d l → ROs K A' H m v d l
  | _, _, _, .nil => .nil
  | _, _, _, .cons h r => .cons (RO.mono k h) (ROs.mono k r)
end
theorem ROs.toSh : ∀ {v : List V} {d : List D}, RSs K A H v d → ROs K A H (some 0) v d []
  | _, _, .nil => .nil
  | _, _, .cons h r => .cons (.sh h) (ROs.toSh r)
mutual
theorem RO.all {m : Option Nat} (hm : m = none) : ∀ {v : V} {d : D} {l : List Addr}, RO K A H m v d l → RO K A' H m v d l
  | _, _, _, .sh r => by cases hm
  | _, _, _, .flat r f => .flat (r.flat f) f
  | _, _, _, .lst p h r => .lst p h (ROs.all (by subst hm; cases p; rfl) r)
  | _, _, _, .tup h r => .tup h (ROs.all hm r)
  | _, _, _, .dct p h e r => .dct p h e (ROs.all (by subst hm; cases p; rfl) r)
theorem ROs.all {m : Option Nat} (hm : m = none) : ∀ {v : List V} {d : List D} {l : List Addr}, ROs K A H m v d l → ROs K A' H m v d l
  | _, _, _, .nil => .nil
  | _, _, _, .cons h r => .cons (RO.all hm h) (ROs.all hm r)
end
mutual
theorem RO.share {m : Option Nat} : ∀ {v : V} {d : D} {l : List Addr}, RO K A H m v d l → (∀ b ∈ l, A b) → RS K A H v d
  | _, _, _, .sh r, _ => r
  | _, _, _, .flat r f, _ => r
  | _, _, _, .lst p h r, q => .lst h (q _ List.mem_cons_self) (ROs.share r fun b hb => q b (List.mem_cons_of_mem _ hb))
  | _, _, _, .tup h r, q => .tup h (ROs.share r q)
  | _, _, _, .dct p h e r, q => .dct h (q _ List.mem_cons_self) e (ROs.share r fun b hb => q b (List.mem_cons_of_mem _ hb))
theorem ROs.share {m : Option Nat} : ∀ {v : List V} {d : List D} {l : List Addr}, ROs K A H m v d l → (∀ b ∈ l, A b) → RSs K A H v d
  | _, _, _, .nil, _ => .nil
  | _, _, _, .cons h r, q => .cons (RO.share h fun b hb => q b (List.mem_append_left _ hb)) (ROs.share r fun b hb => q b (List.mem_append_right _ hb))
end
mutual
theorem RO.zero : ∀ {v : V} {d : D} {l : List Addr}, RO K A H (some 0) v d l → RS K A H v d
  | _, _, _, .sh r => r
  | _, _, _, .flat r _ => r
  | _, _, _, .tup h r => .tup h (ROs.zero r)
theorem ROs.zero : ∀ {vs : List V} {ds : List D} {l : List Addr}, ROs K A H (some 0) vs ds l → RSs K A H vs ds
  | _, _, _, .nil => .nil
  | _, _, _, .cons h r => .cons (RO.zero h) (ROs.zero r)
end
def AT (B : Addr → Prop) (T : List Addr) : Addr → Prop := fun b => B b ∧ b ∉ T
def leM : Option Nat → Option Nat → Bool
  | some a, some b => decide (a ≤ b)
  | _, none => true
  | none, some _ => false
theorem leM_refl (m : Option Nat) : leM m m = true := by cases m <;> simp [leM]
theorem leM_pop {m' m n : Option Nat} (h : leM m' m = true) (p : popM m = some n) (z : m' ≠ some 0) : ∃ n', popM m' = some n' ∧ leM n' n = true := by
  match m', m, z, h, p with
  | none, none, _, _, p => exact ⟨none, rfl, by cases p; rfl⟩
  | some (k + 1), none, _, _, p => exact ⟨some k, rfl, by cases p; rfl⟩
  | some (k + 1), some (j + 1), _, h, p => exact ⟨some k, rfl, by cases p; simpa [leM] using h⟩
theorem AT.less {B : Addr → Prop} {T T' : List Addr} (h : ∀ b ∈ T', b ∈ T) {b : Addr} (a : AT B T b) : AT B T' b := ⟨a.1, fun z => a.2 (h _ z)⟩
section
variable {B : Addr → Prop} {T : List Addr}
mutual
theorem RO.weak {m m' : Option Nat} {v : V} {d : D} {l : List Addr} (hm : leM m' m = true) (z : m' ≠ some 0) (r : RO K (AT B T) H m v d l) (nd : l.Nodup) (hb : ∀ b ∈ l, B b) :
    ∃ l' : List Addr, l'.Sublist l ∧ ∀ T' : List Addr, (∀ b ∈ T', b ∈ T) → (∀ b ∈ l, b ∈ T' → b ∈ l') → RO K (AT B T') H m' v d l' := by
  match r with
  | .sh r => cases m' with
    | none => cases hm
    | some k => cases k with
      | zero => exact absurd rfl z
      | succ k => simp [leM] at hm
  | .flat r f => exact ⟨[], List.Sublist.refl _, fun T' _ _ => .flat (r.flat f) f⟩
  | .lst (a := a) (l := l1) p h r =>
    obtain ⟨n', p', hn⟩ := leM_pop hm p z
    have nd' := List.nodup_cons.mp nd
    by_cases z' : n' = some 0
    · subst z'
      refine ⟨[a], List.Sublist.cons_cons a (List.nil_sublist _), fun T' h1 h2 => .lst p' h ?_⟩
      exact ROs.toSh (ROs.share (ROs.mono (fun b o x _ => AT.less h1 x) r) fun b hb' => ⟨hb _ (List.mem_cons_of_mem _ hb'), fun q => by
        have := h2 b (List.mem_cons_of_mem _ hb') q
        simp at this; subst this; exact nd'.1 hb'⟩)
    · obtain ⟨l', hs, q⟩ := ROs.weak hn z' r nd'.2 (fun b hb' => hb _ (List.mem_cons_of_mem _ hb'))
      refine ⟨a :: l', hs.cons_cons a, fun T' h1 h2 => .lst p' h (q T' h1 fun b hb' ht => ?_)⟩
      rcases List.mem_cons.mp (h2 b (List.mem_cons_of_mem _ hb') ht) with e | e
      · subst e; exact absurd hb' nd'.1
      · exact e
  | .tup h r =>
    obtain ⟨l', hs, q⟩ := ROs.weak hm z r nd hb
    exact ⟨l', hs, fun T' h1 h2 => .tup h (q T' h1 h2)⟩
  | .dct (a := a) (l := l1) p h e r =>
    obtain ⟨n', p', hn⟩ := leM_pop hm p z
    have nd' := List.nodup_cons.mp nd
    by_cases z' : n' = some 0
    · subst z'
      refine ⟨[a], List.Sublist.cons_cons a (List.nil_sublist _), fun T' h1 h2 => .dct p' h e ?_⟩
      exact ROs.toSh (ROs.share (ROs.mono (fun b o x _ => AT.less h1 x) r) fun b hb' => ⟨hb _ (List.mem_cons_of_mem _ hb'), fun q => by
        have := h2 b (List.mem_cons_of_mem _ hb') q
        simp at this; subst this; exact nd'.1 hb'⟩)
    · obtain ⟨l', hs, q⟩ := ROs.weak hn z' r nd'.2 (fun b hb' => hb _ (List.mem_cons_of_mem _ hb'))
      refine ⟨a :: l', hs.cons_cons a, fun T' h1 h2 => .dct p' h e (q T' h1 fun b hb' ht => ?_)⟩
      rcases List.mem_cons.mp (h2 b (List.mem_cons_of_mem _ hb') ht) with e | e
      · subst e; exact absurd hb' nd'.1
      · exact e
theorem ROs.weak {m m' : Option Nat} {v : List V} {d : List D} {l : List Addr} (hm : leM m' m = true) (z : m' ≠ some 0) (r : ROs K (AT B T) H m v d l) (nd : l.Nodup) (hb : ∀ b ∈ l, B b) :
    ∃ l' : List Addr, l'.Sublist l ∧ ∀ T' : List Addr, (∀ b ∈ T', b ∈ T) → (∀ b ∈ l, b ∈ T' → b ∈ l') → ROs K (AT B T') H m' v d l' := by
  match r with
  | .nil => exact ⟨[], List.Sublist.refl _, fun _ _ _ => .nil⟩
  | .cons (l1 := l1) (l2 := l2) h r =>
    have nd' := List.nodup_append.mp nd
    obtain ⟨k1, s1, q1⟩ := RO.weak hm z h nd'.1 (fun b hb' => hb _ (List.mem_append_left _ hb'))
    obtain ⟨k2, s2, q2⟩ := ROs.weak hm z r nd'.2.1 (fun b hb' => hb _ (List.mem_append_right _ hb'))
    refine ⟨k1 ++ k2, s1.append s2, fun T' h1 h2 => .cons (q1 T' h1 fun b hb' ht => ?_) (q2 T' h1 fun b hb' ht => ?_)⟩
    · rcases List.mem_append.mp (h2 b (List.mem_append_left _ hb') ht) with e | e
      · exact e
      · exact absurd rfl (nd'.2.2 b hb' b (s2.subset e))
    · rcases List.mem_append.mp (h2 b (List.mem_append_right _ hb') ht) with e | e
      · exact absurd rfl (nd'.2.2 b (s1.subset e) b hb')
      · exact e
end
end
end
end VL
set_option maxRecDepth 100000
set_option maxHeartbeats 4000000
namespace VL
open PySem PySem.Spec PyProof.Rows L2
inductive Md where
  | b
  | o (m : Option Nat)
  deriving DecidableEq
abbrev mA : Md := .o none
abbrev mS : Md := .o (some 0)
structure R where
  d : D
  m : Md
structure Exn where
  cls : Str
  fld : Option (Str × D)
abbrev Sg := L2.St
abbrev VEnv := List (Option (D × Md))
structure Cn where
  K : PySem.W.Frag
  P0 : Addr → Prop
  H0 : Hp
  rw : List Addr
  cl : Str → Option Addr
  hd : List (V × D) := []
  pin : List (Nat × V) := []
def Cn.Own (c : Cn) (a : Addr) : Prop := c.H0 a = none ∨ a ∈ c.rw
def Cn.B (c : Cn) (a : Addr) : Prop := c.P0 a ∨ c.Own a
inductive Slots (c : Cn) (T : List Addr) (H : Hp) : VEnv → Sg → List (List Addr) → Prop
  | nil : Slots c T H [] [] []
  | non {e : VEnv} {x : Option V} {σ : Sg} {L : List (List Addr)} : Slots c T H e σ L → Slots c T H (none :: e) (x :: σ) ([] :: L)
  | bor {e : VEnv} {d : D} {v : V} {σ : Sg} {L : List (List Addr)} : RS c.K (fun _ => True) H v d → Slots c T H e σ L → Slots c T H (some (d, .b) :: e) (some v :: σ) ([] :: L)
  | own {e : VEnv} {d : D} {m : Option Nat} {v : V} {l : List Addr} {σ : Sg} {L : List (List Addr)} : RO c.K (AT c.B T) H m v d l → Slots c T H e σ L → Slots c T H (some (d, .o m) :: e) (some v :: σ) (l :: L)
structure Sim (c : Cn) (L : List (List Addr)) (Tm : List Addr) (env : VEnv) (σ : Sg) (H : Hp) : Prop where
  sl : Slots c (L.flatten ++ Tm) H env σ L
  nd : (L.flatten ++ Tm).Nodup
  own : ∀ a ∈ L.flatten ++ Tm, c.Own a ∧ ∃ o, H a = some o
  fr : ∀ b o, c.H0 b = some o → b ∉ c.rw → H b = some o
  hd : ∀ p ∈ c.hd, RS c.K (AT c.B (L.flatten ++ Tm)) H p.1 p.2
  pin : ∀ p ∈ c.pin, σ[p.1]? = some (some p.2)
def Res (c : Cn) (T : List Addr) (H : Hp) (r : R) (v : V) (l : List Addr) : Prop :=
  match r.m with
  | .b => RS c.K (fun _ => True) H v r.d ∧ l = []
  | .o m => RO c.K (AT c.B T) H m v r.d l
theorem Res.dep {c : Cn} {T : List Addr} {H : Hp} {d : D} {m : Option Nat} {v : V} {l : List Addr} (h : Res c T H ⟨d, .o m⟩ v l) : RO c.K (AT c.B T) H m v d l := h
theorem Res.bor {c : Cn} {T : List Addr} {H : Hp} {d : D} {v : V} {l : List Addr} (h : Res c T H ⟨d, .b⟩ v l) : RS c.K (fun _ => True) H v d := h.1
theorem Res.read {c : Cn} {T : List Addr} {H : Hp} {r : R} {v : V} {l : List Addr} (h : Res c T H r v l) : RS c.K (fun _ => True) H v r.d := by
  obtain ⟨d, m⟩ := r
  cases m with
  | b => exact h.1
  | o m => exact RO.share (RO.mono (fun _ _ _ _ => trivial) h.dep) fun _ _ => trivial
theorem Res.flat {c : Cn} {T : List Addr} {H : Hp} {d : D} {m : Option Nat} {v : V} {A : Addr → Prop} (h : RS c.K A H v d) (f : flatD d = true) : Res c T H ⟨d, .o m⟩ v [] := RO.flat (h.flat f) f
theorem Res.keep {c : Cn} {T T' : List Addr} {H H' : Hp} {r : R} {v : V} {l : List Addr} (h : Res c T H r v l) (s : Same H H') (g : ∀ b ∈ T', b ∈ T ∨ H b = none) : Res c T' H' r v l := by
  obtain ⟨d, m⟩ := r
  cases m with
  | b => exact ⟨h.1.keep (Kp.same s), h.2⟩
  | o m => exact (RO.mono (fun b o a e => ⟨a.1, fun z => (g b z).elim a.2 fun n => by rw [e] at n; cases n⟩) h.dep).keep (Kp.same s) fun b _ o e => s b o e
section
variable {c : Cn} {L L' : List (List Addr)} {T T' Tm l : List Addr} {env env' : VEnv} {σ : Sg} {H H' H1 H2 : Hp}
theorem Slots.keep (h : Slots c T H env σ L) (s : Same H H') (g : ∀ b ∈ T', b ∈ T ∨ H b = none) : Slots c T' H' env σ L := by
  induction h with
  | nil => exact .nil
  | non _ ih => exact .non ih
  | bor r _ ih => exact .bor (r.keep (Kp.same s)) ih
  | own r _ ih => exact .own (Res.keep (r := ⟨_, .o _⟩) r s g) ih
theorem Slots.len (h : Slots c T H env σ L) : env.length = σ.length ∧ env.length = L.length := by
  induction h with
  | nil => exact ⟨rfl, rfl⟩
  | non _ ih => simp [ih.1, ← ih.2]
  | bor r _ ih => simp [ih.1, ← ih.2]
  | own r _ ih => simp [ih.1, ← ih.2]
theorem Slots.get {i : Nat} {d : D} {m : Md} (h : Slots c T H env σ L) (e : env[i]? = some (some (d, m))) : ∃ v l, σ[i]? = some (some v) ∧ L[i]? = some l ∧ Res c T H ⟨d, m⟩ v l := by
  induction h generalizing i with
  | nil => simp at e
  | non _ ih => cases i with
    | zero => simp at e
    | succ i => simpa using ih (by simpa using e)
  | bor r _ ih => cases i with
    | zero => simp at e; obtain ⟨rfl, rfl⟩ := e; exact ⟨_, _, rfl, rfl, r, rfl⟩
    | succ i => simpa using ih (by simpa using e)
  | own r _ ih => cases i with
    | zero => simp at e; obtain ⟨rfl, rfl⟩ := e; exact ⟨_, _, rfl, rfl, r⟩
    | succ i => simpa using ih (by simpa using e)
structure Step (c : Cn) (H H' : Hp) (G : List Addr) (Tm : List Addr) (L' : List (List Addr)) (l : List Addr) (env' : VEnv) (σ : Sg) : Prop where
  same : Same H H'
  sim : Sim c L' (Tm ++ l) env' σ H'
  gr : ∀ b ∈ L'.flatten ++ (Tm ++ l), b ∈ G ∨ H b = none
theorem Sim.less {Tm' : List Addr} (h : Sim c L Tm env σ H) (s : Tm'.Sublist Tm) : Sim c L Tm' env σ H := by
  have sub : (L.flatten ++ Tm').Sublist (L.flatten ++ Tm) := (List.Sublist.refl _).append s
  exact ⟨h.sl.keep (Same.refl H) fun b hb => .inl (sub.subset hb), h.nd.sublist sub, fun a ha => h.own a (sub.subset ha), h.fr, fun p hp => (h.hd p hp).mono fun b o a _ => AT.less (fun b hb => sub.subset hb) a, h.pin⟩
theorem Sim.drop (h : Sim c L (Tm ++ l) env σ H) : Sim c L Tm env σ H := h.less (List.sublist_append_left _ _)
theorem Step.refl {G : List Addr} (h : Sim c L Tm env σ H) (g : ∀ b ∈ L.flatten ++ Tm, b ∈ G := by exact fun _ hb => hb) : Step c H H G Tm L [] env σ := ⟨Same.refl H, by rw [List.append_nil]; exact h, fun b hb => .inl (by rw [List.append_nil] at hb; exact g b hb)⟩
theorem Step.wider {G G' : List Addr} (h : Step c H H' G Tm L' l env σ) (g : ∀ b ∈ G, b ∈ G') : Step c H H' G' Tm L' l env σ := ⟨h.same, h.sim, fun b hb => (h.gr b hb).imp (g b) id⟩
theorem mem_less {A B C D : List Addr} (s : ∀ b ∈ C, b ∈ D) : ∀ b ∈ A ++ (B ++ C), b ∈ A ++ (B ++ D) := fun b hb => by
  rcases List.mem_append.mp hb with z | z
  · exact List.mem_append_left _ z
  · rcases List.mem_append.mp z with z | z
    · exact List.mem_append_right _ (List.mem_append_left _ z)
    · exact List.mem_append_right _ (List.mem_append_right _ (s b z))
theorem Step.sub {G l' : List Addr} (h : Step c H H' G Tm L' l env σ) (s : l'.Sublist l) : Step c H H' G Tm L' l' env σ :=
  ⟨h.same, h.sim.less ((List.Sublist.refl _).append s), fun b hb => h.gr b (mem_less (fun b hb => s.subset hb) b hb)⟩
theorem Step.drop {G : List Addr} (h : Step c H H' G Tm L' l env σ) : Step c H H' G Tm L' [] env σ := h.sub (List.nil_sublist _)
theorem Step.sim0 {G : List Addr} (h : Step c H H' G Tm L' l env σ) : Sim c L' Tm env σ H' := h.sim.drop
theorem Step.perm {G l' : List Addr} (h : Step c H H' G Tm L' l env σ) (p : l'.Perm l) : Step c H H' G Tm L' l' env σ := by
  have pp : (L'.flatten ++ (Tm ++ l')).Perm (L'.flatten ++ (Tm ++ l)) := (p.append_left _).append_left _
  have mem : ∀ b, b ∈ L'.flatten ++ (Tm ++ l') → b ∈ L'.flatten ++ (Tm ++ l) := fun b hb => pp.mem_iff.mp hb
  exact ⟨h.same, ⟨h.sim.sl.keep (Same.refl _) fun b hb => .inl (mem b hb), pp.nodup_iff.mpr h.sim.nd, fun a ha => h.sim.own a (mem a ha), h.sim.fr, fun p hp => (h.sim.hd p hp).mono fun b o a _ => AT.less mem a, h.sim.pin⟩, fun b hb => h.gr b (mem b hb)⟩
theorem Step.trans {G l1 l2 : List Addr} {L1 L2 : List (List Addr)} {env1 env2 : VEnv} (a : Step c H H1 G Tm L1 l1 env1 σ) (b : Step c H1 H2 (L1.flatten ++ (Tm ++ l1)) (Tm ++ l1) L2 l2 env2 σ) : Step c H H2 G Tm L2 (l1 ++ l2) env2 σ :=
  ⟨a.same.trans b.same, by rw [← List.append_assoc]; exact b.sim, fun x hx => by
    rw [← List.append_assoc Tm] at hx
    rcases b.gr x hx with z | z
    · exact a.gr x z
    · exact .inr (a.same.free z)⟩
theorem Step.then {G l1 l2 : List Addr} {L1 L2 : List (List Addr)} {env1 env2 : VEnv} (a : Step c H H1 G Tm L1 l1 env1 σ) (b : Step c H1 H2 (L1.flatten ++ (Tm ++ l1)) Tm L2 l2 env2 σ) : Step c H H2 G Tm L2 l2 env2 σ :=
  ⟨a.same.trans b.same, b.sim, fun x hx => by
    rcases b.gr x hx with z | z
    · exact a.gr x z
    · exact .inr (a.same.free z)⟩
theorem Sim.nowhere (S : Sim c L Tm env σ H) {b : Addr} (n : H b = none) : c.Own b ∧ b ∉ L.flatten ++ Tm := by
  refine ⟨?_, fun z => ?_⟩
  · by_cases z : b ∈ c.rw
    · exact .inr z
    · cases q : c.H0 b with
      | none => exact .inl q
      | some u => have := S.fr b u q z; rw [n] at this; cases this
  · obtain ⟨_, o', e⟩ := S.own b z
    rw [n] at e; cases e
theorem Step.news (h : Sim c L Tm env σ H) (sm : Same H H') (nd : l.Nodup) (hl : ∀ b ∈ l, H b = none ∧ ∃ o, H' b = some o) : Step c H H' (L.flatten ++ Tm) Tm L l env σ := by
  have gr : ∀ b ∈ L.flatten ++ (Tm ++ l), b ∈ L.flatten ++ Tm ∨ H b = none := fun b hb => by
    rw [← List.append_assoc] at hb
    rcases List.mem_append.mp hb with z | z
    · exact .inl z
    · exact .inr (hl b z).1
  refine ⟨sm, ⟨h.sl.keep sm gr, ?_, fun a ha => ?_, fun b u e r => sm b u (h.fr b u e r), fun p hp => ((h.hd p hp).mono fun b o a e => ⟨a.1, fun z => (gr b z).elim a.2 fun n => by rw [e] at n; cases n⟩).keep (Kp.same sm), h.pin⟩, gr⟩
  · rw [← List.append_assoc, List.nodup_append]
    exact ⟨h.nd, nd, fun a ha b hb z => by subst z; exact (h.nowhere (hl a hb).1).2 ha⟩
  · rw [← List.append_assoc] at ha
    rcases List.mem_append.mp ha with z | z
    · obtain ⟨q, u, e⟩ := h.own a z
      exact ⟨q, u, sm a u e⟩
    · exact ⟨(h.nowhere (hl a z).1).1, (hl a z).2⟩
theorem same_new {p : Addr} {o : HO} (n : H p = none) : Same H (upd H p o) := fun b u e => by rw [upd_ne (ne_of_none e n)]; exact e
theorem Step.new {p : Addr} {o : HO} (h : Sim c L Tm env σ H) (n : H p = none) : Step c H (upd H p o) (L.flatten ++ Tm) Tm L [p] env σ :=
  Step.news h (same_new n) (by simp) fun b hb => by simp at hb; subst hb; exact ⟨n, o, upd_same⟩
theorem Sim.tmp (S : Sim c L (Tm ++ l) env σ H) : l.Nodup ∧ (∀ b ∈ l, c.B b) ∧ ∀ b ∈ l, b ∉ L.flatten ++ Tm := by
  have nd := S.nd
  rw [← List.append_assoc] at nd
  have nd' := List.nodup_append.mp nd
  exact ⟨nd'.2.1, fun b hb => .inr (S.own b (by simp [hb])).1, fun b hb z => nd'.2.2 b z b hb rfl⟩
theorem Res.shared {r : R} {v : V} {m : Option Nat} {la : List Addr} (h : Res c (L.flatten ++ (Tm ++ la)) H r v l) (hm : r.m = .o m) (S : Sim c L (Tm ++ la) env σ H) (hl : ∀ b ∈ l, b ∈ la) : RS c.K (AT c.B (L.flatten ++ Tm)) H v r.d := by
  obtain ⟨d, m'⟩ := r
  cases hm
  obtain ⟨_, hb, hx⟩ := S.tmp
  refine RO.share (RO.mono (fun b o a _ => AT.less (fun b hb => ?_) a) h.dep) fun b hb' => ⟨hb b (hl b hb'), hx b (hl b hb')⟩
  rw [← List.append_assoc]
  exact List.mem_append_left _ hb
end
def ExR (c : Cn) (H : Hp) (ex : Exn) (cls : Value) (d : Option Addr) : Prop :=
  ∃ C, c.cl ex.cls = some C ∧ cls = .ref C ∧ match ex.fld with
    | none => d = none
    | some (f, dt) => ∃ dd v, d = some dd ∧ H dd = some (.xd [(f, v)]) ∧ RS c.K (fun _ => True) H v dt
def Kont (c : Cn) (σ : Sg) (L : List (List Addr)) (Tm : List Addr) (H : Hp) (Qv : R → VEnv → Prop) (Q : VK) : Prop :=
  ∀ r v l L' env' H', Qv r env' → Step c H H' (L.flatten ++ Tm) Tm L' l env' σ → Res c (L'.flatten ++ (Tm ++ l)) H' r v l → Q v H'
def KontX (c : Cn) (σ : Sg) (L : List (List Addr)) (Tm : List Addr) (H : Hp) (X : Exn → VEnv → Prop) (W : WX) : Prop :=
  ∀ ex cls d L' env' H', X ex env' → Step c H H' (L.flatten ++ Tm) Tm L' [] env' σ → ExR c H' ex cls d → W cls d σ H'
abbrev WE := VEnv → (R → VEnv → Prop) → (Exn → VEnv → Prop) → Prop
def rdE (c : Cn) (W : WX) (w : WE) : TE := fun σ H Q => ∃ env L Tm Qv X, Sim c L Tm env σ H ∧ w env Qv X ∧ Kont c σ L Tm H Qv Q ∧ KontX c σ L Tm H X W
abbrev WT := VEnv → (Bool → VEnv → Prop) → (Exn → VEnv → Prop) → Prop
def rdT (c : Cn) (W : WX) (w : WT) : TT := fun σ H Q => ∃ env L Tm Qv X, Sim c L Tm env σ H ∧ w env Qv X ∧
  (∀ b L' env' H', Qv b env' → Step c H H' (L.flatten ++ Tm) Tm L' [] env' σ → Q b H') ∧ KontX c σ L Tm H X W
inductive Ress (c : Cn) (T : List Addr) (H : Hp) : List R → List V → List Addr → Prop
  | nil : Ress c T H [] [] []
  | cons {r : R} {rs : List R} {v : V} {vs : List V} {l1 l2 : List Addr} : Res c T H r v l1 → Ress c T H rs vs l2 → Ress c T H (r :: rs) (v :: vs) (l1 ++ l2)
abbrev WA := VEnv → (List R → VEnv → Prop) → (Exn → VEnv → Prop) → Prop
def rdA (c : Cn) (W : WX) (w : WA) : TA := fun σ H Q => ∃ env L Tm Qv X, Sim c L Tm env σ H ∧ w env Qv X ∧
  (∀ rs vs l L' env' H', Qv rs env' → Step c H H' (L.flatten ++ Tm) Tm L' l env' σ → Ress c (L'.flatten ++ (Tm ++ l)) H' rs vs l → Q vs H') ∧ KontX c σ L Tm H X W
theorem PE.imp {X : Cx} {e : Expr} {t t' : TE} (h : PE X e t) (q : ∀ σ H Q, t' σ H Q → t σ H Q) : PE X e t' := ⟨fun pins s σ H Q I w => h.run pins s σ H Q I (q _ _ _ w)⟩
theorem PT.imp {X : Cx} {e : Expr} {t t' : TT} (h : PT X e t) (q : ∀ σ H Q, t' σ H Q → t σ H Q) : PT X e t' := ⟨fun pins s σ H Q I w => h.run pins s σ H Q I (q _ _ _ w)⟩
theorem PW.imp {X : Cx} {e : Expr} {t t' : TT} (h : PW X e t) (q : ∀ σ H Q, t' σ H Q → t σ H Q) : PW X e t' := ⟨fun wh pins s σ H Q I w => h.run wh pins s σ H Q I (q _ _ _ w)⟩
theorem PA.imp {X : Cx} {e : List Expr} {t t' : TA} (h : PA X e t) (q : ∀ σ H Q, t' σ H Q → t σ H Q) : PA X e t' := ⟨fun pos pins s σ H Q I w => h.run pos pins s σ H Q I (q _ _ _ w)⟩
theorem PS.imp {X : Cx} {e : Stmt} {t t' : TS} (h : PS X e t) (q : ∀ D σ H, t' D σ H → t D σ H) : PS X e t' := ⟨fun pins s σ H D I w => h.run pins s σ H D I (q _ _ _ w)⟩
theorem PSs.imp {X : Cx} {e : List Stmt} {t t' : TS} (h : PSs X e t) (q : ∀ D σ H, t' D σ H → t D σ H) : PSs X e t' := ⟨fun pins s σ H D I w => h.run pins s σ H D I (q _ _ _ w)⟩
def readR (d : D) (m : Md) : R := if flatD d then ⟨d, mA⟩ else match m with
  | .o (some 0) => ⟨d, mS⟩
  | _ => ⟨d, .b⟩
theorem Res.ofRead {c : Cn} {T : List Addr} {H : Hp} {d : D} {m : Md} {v : V} {l : List Addr} (h : Res c T H ⟨d, m⟩ v l) : Res c T H (readR d m) v [] := by
  unfold readR
  by_cases f : flatD d = true
  · rw [if_pos f]; exact Res.flat h.read f
  · rw [if_neg f]
    match m, h with
    | .b, h => exact ⟨h.read, rfl⟩
    | .o none, h => exact ⟨h.read, rfl⟩
    | .o (some (n + 1)), h => exact ⟨h.read, rfl⟩
    | .o (some 0), h =>
      have h' := h.dep
      generalize hm : (some 0 : Option Nat) = m0 at h'
      cases h' with
      | sh r => exact .sh r
      | flat r f' => exact absurd f' f
      | lst p _ _ => subst hm; cases p
      | dct p _ _ _ => subst hm; cases p
      | tup hs r => subst hm; exact .sh (.tup hs (ROs.zero r))
end VL
set_option maxRecDepth 100000
set_option maxHeartbeats 4000000
namespace VL
open PySem PySem.Spec PyProof.Rows L2
section
variable {c : Cn} {W : WX} {L L' : List (List Addr)} {T T' Tm l : List Addr} {env env' : VEnv} {σ : Sg} {H H' H1 H2 : Hp}
def wVar (i : Nat) : WE := fun env Q _ => ∃ d m, env[i]? = some (some (d, m)) ∧ Q (readR d m) env
def wMv (i : Nat) : WE := fun env Q _ => ∃ d m, env[i]? = some (some (d, m)) ∧ if flatD d = true then Q ⟨d, mA⟩ env else match m with
  | .b => Q ⟨d, .b⟩ env
  | .o m => Q ⟨d, .o m⟩ (env.set i none)
def wC (d : D) : WE := fun env Q _ => Q ⟨d, mA⟩ env
theorem rd_var {i : Nat} {σ : Sg} {H : Hp} {Q : VK} (h : rdE c W (wVar i) σ H Q) : tVar i σ H Q := by
  obtain ⟨env, L, Tm, Qv, X, S, ⟨d, m, e, q⟩, k, _⟩ := h
  obtain ⟨v, l, hv, hl, r⟩ := S.sl.get e
  refine ⟨v, hv, k _ _ [] _ _ _ q (Step.refl S) ?_⟩
  rw [List.append_nil]
  exact r.ofRead
theorem flatten_set {L : List (List Addr)} {i : Nat} {l : List Addr} (e : L[i]? = some l) : ((L.set i []).flatten ++ l).Perm L.flatten := by
  induction L generalizing i with
  | nil => simp at e
  | cons a L ih => cases i with
    | zero => simp at e; subst e; simp; exact List.perm_append_comm
    | succ i =>
      simp at e
      simp only [List.set_cons_succ, List.flatten_cons, List.append_assoc]
      exact (ih e).append_left a
theorem Slots.kill {i : Nat} (h : Slots c T H env σ L) : Slots c T H (env.set i none) σ (L.set i []) := by
  induction h generalizing i with
  | nil => exact .nil
  | non h ih => cases i with
    | zero => exact .non h
    | succ i => exact .non ih
  | bor r h ih => cases i with
    | zero => exact .non h
    | succ i => exact .bor r ih
  | own r h ih => cases i with
    | zero => exact .non h
    | succ i => exact .own r ih
theorem perm_mid {a b t : List Addr} {x : List Addr} (p : (a ++ x).Perm b) : (a ++ (t ++ x)).Perm (b ++ t) := by
  have : (a ++ (t ++ x)).Perm ((a ++ x) ++ t) := by
    rw [List.append_assoc]; exact List.perm_append_comm.append_left a
  exact this.trans (p.append_right t)
theorem Sim.move {i : Nat} (S : Sim c L Tm env σ H) (e : L[i]? = some l) : Step c H H (L.flatten ++ Tm) Tm (L.set i []) l (env.set i none) σ := by
  have p := perm_mid (t := Tm) (flatten_set e)
  have mem : ∀ b, b ∈ (L.set i []).flatten ++ (Tm ++ l) ↔ b ∈ L.flatten ++ Tm := fun b => p.mem_iff
  refine ⟨Same.refl H, ⟨(S.sl.kill).keep (Same.refl H) fun b hb => .inl ((mem b).mp hb), p.nodup_iff.mpr S.nd, fun a ha => S.own a ((mem a).mp ha), S.fr, fun p hp => (S.hd p hp).mono fun b o a _ => AT.less (fun b hb => (mem b).mp hb) a, S.pin⟩, fun b hb => .inl ((mem b).mp hb)⟩
theorem rd_mv {i : Nat} {σ : Sg} {H : Hp} {Q : VK} (h : rdE c W (wMv i) σ H Q) : tVar i σ H Q := by
  obtain ⟨env, L, Tm, Qv, X, S, ⟨d, m, e, q⟩, k, _⟩ := h
  obtain ⟨v, l, hv, hl, r⟩ := S.sl.get e
  refine ⟨v, hv, ?_⟩
  by_cases f : flatD d = true
  · rw [if_pos f] at q
    refine k _ _ [] _ _ _ q (Step.refl S) ?_
    exact Res.flat r.read f
  · rw [if_neg f] at q
    cases m with
    | b =>
      refine k _ _ [] _ _ _ q (Step.refl S) ?_
      exact ⟨r.read, rfl⟩
    | o m =>
      have st := S.move hl
      refine k _ _ l _ _ _ q st ?_
      exact Res.keep r (Same.refl H) fun b hb => st.gr b hb
theorem rd_C {v : V} {d : D} (hr : ∀ K A H, RS K A H v d) (f : flatD d = true) {σ : Sg} {H : Hp} {Q : VK} (h : rdE c W (wC d) σ H Q) : tC v σ H Q := by
  obtain ⟨env, L, Tm, Qv, X, S, q, k, _⟩ := h
  exact k _ _ [] _ _ _ q (Step.refl S) (Res.flat (hr c.K (fun _ => True) H) f)
end
section
variable {X : Cx} {c : Cn} {W : WX} {pos : Pos}
theorem ve_var (i : Nat) {x : Str} (hN : X.N[i]? = some x := by rfl) (hv : Vis X.env.scope x := by first | exact Or.inl rfl | exact Or.inr (Or.inl rfl) | exact Or.inr (Or.inr rfl)) (hd : (x == ("__debug__" : Str)) = false := by decide)
    (hcd : (x == ("__classdict__" : Str)) = false := by decide) : PE X (.Name x pos) (rdE c W (wVar i)) := PE.imp (pe_var hN hv hd hcd) fun _ _ _ => rd_var
theorem ve_mv (i : Nat) {x : Str} (hN : X.N[i]? = some x := by rfl) (hv : Vis X.env.scope x := by first | exact Or.inl rfl | exact Or.inr (Or.inl rfl) | exact Or.inr (Or.inr rfl)) (hd : (x == ("__debug__" : Str)) = false := by decide)
    (hcd : (x == ("__classdict__" : Str)) = false := by decide) : PE X (.Name x pos) (rdE c W (wMv i)) := PE.imp (pe_var hN hv hd hcd) fun _ _ _ => rd_mv
theorem ve_int {i : Int} {j} : PE X (.Constant (.int i) j pos) (rdE c W (wC (.int i))) := PE.imp pe_int fun _ _ _ => rd_C (fun _ _ _ => .int i) rfl
theorem ve_bl {b : Bool} {j} : PE X (.Constant (.bool b) j pos) (rdE c W (wC (.bool b))) := PE.imp pe_bl fun _ _ _ => rd_C (fun _ _ _ => .bl b) rfl
theorem ve_non {j} : PE X (.Constant .none j pos) (rdE c W (wC .none)) := PE.imp pe_non fun _ _ _ => rd_C (fun _ _ _ => .non) rfl
theorem ve_str {x : Str} {j} : PE X (.Constant (.str x) j pos) (rdE c W (wC (.str x))) := PE.imp pe_str fun _ _ _ => rd_C (fun _ _ _ => .str x) rfl
end
abbrev WO := R → R → (R → Prop) → Prop
def wBin (wo : WO) (wa wb : WE) : WE := fun env Q X => wa env (fun ra e1 => wb e1 (fun rb e2 => wo ra rb fun r => Q r e2) X) X
def OpS (c : Cn) (r2 : R2) (wo : WO) : Prop :=
  ∀ (L : List (List Addr)) (Tm la lb : List Addr) (env : VEnv) (σ : Sg) (H : Hp) (ra rb : R) (x y : V) (Qv : R → Prop) (Q : VK),
    Sim c L (Tm ++ (la ++ lb)) env σ H → Res c (L.flatten ++ (Tm ++ (la ++ lb))) H ra x la → Res c (L.flatten ++ (Tm ++ (la ++ lb))) H rb y lb → wo ra rb Qv →
    (∀ r v l H', Qv r → Step c H H' (L.flatten ++ (Tm ++ (la ++ lb))) Tm L l env σ → Res c (L.flatten ++ (Tm ++ l)) H' r v l → Q v H') → r2 x y H Q
theorem OpS.or {c : Cn} {r r' : R2} {w w' : WO} (h : OpS c r w) (h' : OpS c r' w') : OpS c (fun x y H Q => r x y H Q ∨ r' x y H Q) (fun a b Q => w a b Q ∨ w' a b Q) := by
  intro L Tm la lb env σ H ra rb x y Qv Q S h1 h2 hw k
  rcases hw with hw | hw
  · exact .inl (h L Tm la lb env σ H ra rb x y Qv Q S h1 h2 hw k)
  · exact .inr (h' L Tm la lb env σ H ra rb x y Qv Q S h1 h2 hw k)
section
variable {X : Cx} {c : Cn} {W : WX} {pos : Pos} {wa wb : WE} {wo : WO} {r2 : R2} {a b : Expr}
theorem KontX.step {c : Cn} {σ : Sg} {L L1 : List (List Addr)} {Tm la : List Addr} {H H1 : Hp} {env1 : VEnv} {X : Exn → VEnv → Prop} {W : WX} (k : KontX c σ L Tm H X W) (st : Step c H H1 (L.flatten ++ Tm) Tm L1 la env1 σ) : KontX c σ L1 (Tm ++ la) H1 X W :=
  fun ex cls d L' env' H' hx s e => k ex cls d L' env' H' hx (by
    have z := st.trans s
    exact z.drop) e
theorem rd_bin (hs : OpS c r2 wo) {σ : Sg} {H : Hp} {Q : VK} (h : rdE c W (wBin wo wa wb) σ H Q) : tOp r2 (rdE c W wa) (rdE c W wb) σ H Q := by
  obtain ⟨env, L, Tm, Qv, X, S, w, k, kx⟩ := h
  refine ⟨env, L, Tm, _, X, S, w, fun ra x la L1 env1 H1 h1 st1 r1 => ?_, kx⟩
  refine ⟨env1, L1, Tm ++ la, _, X, st1.sim, h1, fun rb y lb L2 env2 H2 h2 st2 r2' => ?_, kx.step st1⟩
  have r1' := r1.keep st2.same st2.gr
  have st12 := st1.trans st2
  rw [List.append_assoc] at r1' r2'
  exact hs L2 Tm la lb env2 σ H2 ra rb x y (fun r => Qv r env2) Q st12.sim r1' r2' h2 fun r v l H' q st3 r3 => k r v l L2 env2 H' q (Step.then st12 st3) r3
theorem ve_op {op : Operator} (ho : OpR X (binaryOp op) r2) (hs : OpS c r2 wo) (ha : PE X a (rdE c W wa)) (hb : PE X b (rdE c W wb)) : PE X (.BinOp a op b pos) (rdE c W (wBin wo wa wb)) :=
  PE.imp (pe_op ho ha hb) fun _ _ _ => rd_bin hs
theorem ve_cmp {op : CmpOp} (ho : OpR X (compareOp op) r2) (hs : OpS c r2 wo) (ha : PE X a (rdE c W wa)) (hb : PE X b (rdE c W wb)) (hm : behindInMarks op b = false := by first | exact nomark _ | with_unfolding_all rfl) : PE X (.Compare a [op] [b] pos) (rdE c W (wBin wo wa wb)) :=
  PE.imp (pe_cmpR ho ha hb hm) fun _ _ _ => rd_bin hs
def wTest (w : WE) : WT := fun env Q X => w env (fun r e => ∃ k, r.d = .bool k ∧ Q k e) X
theorem rd_test' {t : TE} {w : WE} (ht : ∀ σ H Q, rdE c W w σ H Q → t σ H Q) {σ : Sg} {H : Hp} {Q : Bool → Hp → Prop} (h : rdT c W (wTest w) σ H Q) : t σ H fun x H' => ∃ k, x = .bl k ∧ Q k H' := by
  obtain ⟨env, L, Tm, Qv, X, S, w, k, kx⟩ := h
  refine ht _ _ _ ⟨env, L, Tm, _, X, S, w, fun r v l L1 env1 H1 ⟨b, e, q⟩ st r1 => ?_, kx⟩
  obtain ⟨d, m⟩ := r
  cases e
  have := r1.read
  cases this
  exact ⟨b, rfl, k b L1 env1 H1 q st.drop⟩
theorem vt_cmp {op : CmpOp} (ho : OpR X (compareOp op) r2) (hs : OpS c r2 wo) (ha : PE X a (rdE c W wa)) (hb : PE X b (rdE c W wb)) (hm : behindInMarks op b = false := by first | exact nomark _ | with_unfolding_all rfl) : PT X (.Compare a [op] [b] pos) (rdT c W (wTest (wBin wo wa wb))) :=
  PT.imp (pt_cmpR ho ha hb hm) fun _ _ _ => rd_test' fun _ _ _ => rd_bin hs
theorem vt_val {e : Expr} {w : WE} (h : PE X e (rdE c W w)) (he : ∀ whole, isTrue e X.env whole = (do let v ← whole; standAt e.pos; holding [v] (truthy v)) := by intro _; rfl) : PT X e (rdT c W (wTest w)) :=
  PT.imp (pt_val h he) fun _ _ _ => rd_test' fun _ _ _ z => z
end
section
variable {c : Cn}
theorem flat_end1 {L : List (List Addr)} {Tm l : List Addr} {env : VEnv} {σ : Sg} {H : Hp} {d : D} {v : V} {Qv : R → Prop} {Q : VK} (S : Sim c L (Tm ++ l) env σ H) (q : Qv ⟨d, mA⟩) (r : RS c.K (fun _ => True) H v d) (f : flatD d = true)
    (k : ∀ r v l' H', Qv r → Step c H H' (L.flatten ++ (Tm ++ l)) Tm L l' env σ → Res c (L.flatten ++ (Tm ++ l')) H' r v l' → Q v H') : Q v H :=
  k _ _ [] _ q (Step.refl S.drop fun b hb => by rw [← List.append_assoc]; exact List.mem_append_left _ hb) (Res.flat r f)
def woI (C : Int → Int → Prop) (g : Int → Int → D) : WO := fun ra rb Q => ∃ i j, ra.d = .int i ∧ rb.d = .int j ∧ C i j ∧ Q ⟨g i j, mA⟩
theorem ops_I {C : Int → Int → Prop} {g : Int → Int → V} {gd : Int → Int → D} (hg : ∀ K A H i j, RS K A H (g i j) (gd i j)) (hf : ∀ i j, flatD (gd i j) = true) : OpS c (rI C g) (woI C gd) := by
  intro L Tm la lb env σ H ra rb x y Qv Q S h1 h2 ⟨i, j, e1, e2, hc, q⟩ k
  obtain ⟨d1, m1⟩ := ra; obtain ⟨d2, m2⟩ := rb
  cases e1; cases e2
  have a1 := h1.read; have a2 := h2.read
  cases a1; cases a2
  exact ⟨i, j, rfl, rfl, hc, flat_end1 S q (hg c.K _ H i j) (hf i j) k⟩
def woI0 (g : Int → Int → D) : WO := fun ra rb Q => ∃ i j, ra.d = .int i ∧ rb.d = .int j ∧ Q ⟨g i j, mA⟩
theorem ops_I0 {g : Int → Int → V} {gd : Int → Int → D} (hg : ∀ K A H i j, RS K A H (g i j) (gd i j)) (hf : ∀ i j, flatD (gd i j) = true) : OpS c (rI0 g) (woI0 gd) := by
  intro L Tm la lb env σ H ra rb x y Qv Q S h1 h2 ⟨i, j, e1, e2, q⟩ k
  obtain ⟨d1, m1⟩ := ra; obtain ⟨d2, m2⟩ := rb
  cases e1; cases e2
  have a1 := h1.read; have a2 := h2.read
  cases a1; cases a2
  exact ⟨i, j, rfl, rfl, flat_end1 S q (hg c.K _ H i j) (hf i j) k⟩
end
end VL
set_option maxRecDepth 100000
set_option maxHeartbeats 4000000
namespace VL
open PySem PySem.Spec PyProof.Rows L2
def wNil : WA := fun env Q _ => Q [] env
def wCons (w : WE) (wa : WA) : WA := fun env Q X => w env (fun r e => wa e (fun rs e' => Q (r :: rs) e') X) X
section
variable {c : Cn} {T T' l : List Addr} {H H' : Hp}
theorem Ress.keep {rs : List R} {vs : List V} (h : Ress c T H rs vs l) (s : Same H H') (g : ∀ b ∈ T', b ∈ T ∨ H b = none) : Ress c T' H' rs vs l := by
  induction h with
  | nil => exact .nil
  | cons r _ ih => exact .cons (r.keep s g) ih
theorem Ress.read {rs : List R} {vs : List V} (h : Ress c T H rs vs l) : RSs c.K (fun _ => True) H vs (rs.map (·.d)) := by
  induction h with
  | nil => exact .nil
  | cons r _ ih => exact .cons r.read ih
theorem Ress.len {rs : List R} {vs : List V} (h : Ress c T H rs vs l) : rs.length = vs.length := by
  induction h with
  | nil => rfl
  | cons r _ ih => simp [ih]
end
section
variable {X : Cx} {c : Cn} {W : WX} {pos : Pos} {w : WE} {wa : WA} {e : Expr} {es : List Expr}
theorem va_nil : PA X [] (rdA c W wNil) := PA.imp pa_nil fun σ H Q h => by
  obtain ⟨env, L, Tm, Qv, X, S, q, k, _⟩ := h
  exact k [] [] [] L env H q (Step.refl S) .nil
theorem va_cons (he : PE X e (rdE c W w)) (hr : PA X es (rdA c W wa)) (hs : starEach (e :: es) X.env = (false, eval e X.env) :: starEach es X.env := by rfl) : PA X (e :: es) (rdA c W (wCons w wa)) := PA.imp (pa_cons he hr hs) fun σ H Q h => by
  obtain ⟨env, L, Tm, Qv, X, S, q, k, kx⟩ := h
  refine ⟨env, L, Tm, _, X, S, q, fun r x la L1 env1 H1 h1 st1 r1 => ?_, kx⟩
  refine ⟨env1, L1, Tm ++ la, _, X, st1.sim, h1, fun rs vs lb L2 env2 H2 h2 st2 r2 => ?_, kx.step st1⟩
  have e := r1.keep st2.same st2.gr
  rw [List.append_assoc] at e r2
  exact k (r :: rs) (x :: vs) (la ++ lb) L2 env2 H2 h2 (st1.trans st2) (.cons e r2)
end
abbrev FSpec := List D → (R → Prop) → (Exn → Prop) → Prop
def spOf (K : PySem.W.Frag) (cl : Str → Option Addr) (S : FSpec) : Sp := fun vs H Q E => ∃ ds P0 Qv X, RSs K P0 H vs ds ∧ S ds Qv X ∧
  (∀ r v l H', Qv r → Same H H' → l.Nodup → (∀ b ∈ l, H b = none ∧ ∃ o, H' b = some o) → Res ⟨K, P0, H, [], cl, [], []⟩ l H' r v l → Q v H') ∧
  (∀ ex cls d H', X ex → Same H H' → ExR ⟨K, P0, H, [], cl, [], []⟩ H' ex cls d → E cls d H')
structure Def (P : Program) (w : World) (K : PySem.W.Frag) (mg : Str → Option Value) (base : Heap) (cl : Str → Option Addr) (x : Str) (n : Nat) (S : FSpec) (k : Nat) : Prop where
  ex : ∃ (f : Addr) (fd : FuncData) (ps : List Str), ps.length = n ∧ FnOk P w K mg base (L2.CX P w) k f fd ps (spOf K cl S) ∧ mg x = some (.ref f) ∧ PySem.W.keepIn K (.ref f) = true ∧ Binds K fd ps []
def isB : Md → Bool
  | .b => true
  | .o _ => false
def outR (rs : List R) (r : R) : R := if rs.any (fun r => isB r.m) = true then (match r.m with | .o none => r | _ => ⟨r.d, .b⟩) else r
def wCall (S : FSpec) (wa : WA) : WE := fun env Q X => wa env (fun rs e => S (rs.map (·.d)) (fun r => Q (outR rs r) e) (fun ex => X ex e)) X
section
variable {c : Cn} {L : List (List Addr)} {Tm l : List Addr} {env : VEnv} {σ : Sg} {H : Hp}
theorem Ress.shared {rs : List R} {vs : List V} {la : List Addr} (h : Ress c (L.flatten ++ (Tm ++ la)) H rs vs l) (hm : rs.any (fun r => isB r.m) = false) (S : Sim c L (Tm ++ la) env σ H) (hl : ∀ b ∈ l, b ∈ la) : RSs c.K (AT c.B (L.flatten ++ Tm)) H vs (rs.map (·.d)) := by
  induction h with
  | nil => exact .nil
  | @cons r rs v vs l1 l2 hr _ ih =>
    simp only [List.any_cons, Bool.or_eq_false_iff] at hm
    obtain ⟨d, m⟩ := r
    cases m with
    | b => simp [isB] at hm
    | o m => exact .cons (hr.shared rfl S fun b hb => hl b (List.mem_append_left _ hb)) (ih hm.2 fun b hb => hl b (List.mem_append_right _ hb))
theorem Res.come {P0 : Addr → Prop} {cl : Str → Option Addr} {H1 : Hp} {r : R} {v : V} (S : Sim c L Tm env σ H) (h : Res ⟨c.K, P0, H, [], cl, [], []⟩ l H1 r v l) (nl : ∀ b ∈ l, H b = none)
    (hp : ∀ b, P0 b → AT c.B (L.flatten ++ Tm) b) : Res c (L.flatten ++ (Tm ++ l)) H1 r v l := by
  obtain ⟨d, m⟩ := r
  cases m with
  | b => exact h
  | o m =>
    refine RO.mono (fun b o a e => ?_) h.dep
    obtain ⟨a1, a2⟩ := a
    have fin : ∀ {x : Addr}, AT c.B (L.flatten ++ Tm) x → x ∉ l → AT c.B (L.flatten ++ (Tm ++ l)) x := fun {x} q n => ⟨q.1, fun z => by
      rw [← List.append_assoc] at z
      exact (List.mem_append.mp z).elim q.2 n⟩
    rcases a1 with a1 | a1 | a1
    · exact fin (hp b a1) a2
    · obtain ⟨o1, o2⟩ := S.nowhere a1
      exact fin ⟨.inr o1, o2⟩ a2
    · cases a1
theorem Res.toAll {P0 : Addr → Prop} {cl : Str → Option Addr} {H0 H1 : Hp} {T T' : List Addr} {d : D} {v : V} (h : Res ⟨c.K, P0, H0, [], cl, [], []⟩ T H1 ⟨d, .o none⟩ v l) : Res c T' H1 ⟨d, .o none⟩ v l := RO.all rfl h.dep
end
section
variable {X : Cx} {c : Cn} {W : WX} {pos p : Pos} {wa : WA} {e : Expr} {es : List Expr} {x : Str} {n k : Nat} {S : FSpec}
theorem rd_call {σ : Sg} {H : Hp} {Q : VK} {K : PySem.W.Frag} {cl : Str → Option Addr} (hK : c.K = K) (hcl : c.cl = cl) (h : rdE c W (wCall S wa) σ H Q) : tCallS (spOf K cl S) (L2.WE W) (rdA c W wa) σ H Q := by
  subst hK; subst hcl
  obtain ⟨env, L, Tm, Qv, X, S0, q, k, kx⟩ := h
  refine ⟨env, L, Tm, _, X, S0, q, fun rs vs l L1 env1 H1 h1 st1 r1 => ?_, kx⟩
  have S1 : Sim c L1 Tm env1 σ H1 := st1.sim0
  have up : ∀ {H' : Hp} {l' : List Addr}, Step c H1 H' (L1.flatten ++ Tm) Tm L1 l' env1 σ → Step c H H' (L.flatten ++ Tm) Tm L1 l' env1 σ := fun z => Step.then st1 (z.wider fun b hb => by rw [← List.append_assoc]; exact List.mem_append_left _ hb)
  have kx' : ∀ ex cls d H', X ex env1 → Same H1 H' → ExR c H' ex cls d → W cls d σ H' := fun ex cls d H' hx s ee => by
    refine kx ex cls d L1 env1 H' hx ?_ ee
    exact up (Step.news (l := []) S1 s List.nodup_nil (fun b hb => by cases hb))
  by_cases hb : rs.any (fun r => isB r.m) = true
  · refine ⟨_, fun _ => True, _, _, r1.read, h1, fun r v l' H' hq s nd nl rr => ?_, fun ex cls d H' hx s ee => kx' ex cls d H' hx s ee⟩
    unfold outR at hq
    rw [if_pos hb] at hq
    obtain ⟨d, m⟩ := r
    match m with
    | .o none => exact k _ v l' L1 env1 H' hq (up (Step.news S1 s nd nl)) rr.toAll
    | .o (some j) => exact k _ v [] L1 env1 H' hq (up (Step.news S1 s nd nl).drop) ⟨rr.read, rfl⟩
    | .b => exact k _ v [] L1 env1 H' hq (up (Step.news S1 s nd nl).drop) ⟨rr.read, rfl⟩
  · have hb' : rs.any (fun r => isB r.m) = false := by simpa using hb
    refine ⟨_, AT c.B (L1.flatten ++ Tm), _, _, r1.shared hb' st1.sim (fun _ z => z), h1, fun r v l' H' hq s nd nl rr => ?_, fun ex cls d H' hx s ee => kx' ex cls d H' hx s ee⟩
    unfold outR at hq
    rw [if_neg hb] at hq
    exact k _ v l' L1 env1 H' hq (up (Step.news S1 s nd nl)) (rr.come S1 (fun b hb => (nl b hb).1) fun _ z => z)
theorem ve_call (hd : Def X.prog X.w X.K X.mg X.base c.cl x n S k) (hr : Room k X.A) (tk : Takes X W) (ha : PA X (e :: es) (rdA c W wa)) (hK : c.K = X.K := by rfl) (hg : Gl X x := by rfl)
    (hdb : (x == ("__debug__" : Str)) = false := by decide) (he : starEach (e :: es) X.env = (false, eval e X.env) :: starEach es X.env := by rfl) (hpl : (backTo pos (starEach es X.env)).any (·.1) = false := by rfl) :
    PE X (.Call (.Name x p) (e :: es) [] pos) (rdE c W (wCall S wa)) := by
  obtain ⟨f, fd, ps, hl, F, hm, hk, hb⟩ := hd.ex
  exact PE.imp (pe_callS F hr hg hm hk hb (fun σ => passAt tk σ) ha hdb he hpl) fun σ H Q => rd_call hK rfl
end
abbrev WF := List R → (R → Prop) → Prop
def CallS (c : Cn) (r : List V → Hp → VK → Prop) (wf : WF) : Prop :=
  ∀ (L : List (List Addr)) (Tm l : List Addr) (env : VEnv) (σ : Sg) (H : Hp) (rs : List R) (vs : List V) (Qv : R → Prop) (Q : VK),
    Sim c L (Tm ++ l) env σ H → Ress c (L.flatten ++ (Tm ++ l)) H rs vs l → wf rs Qv →
    (∀ r v l' H', Qv r → Step c H H' (L.flatten ++ (Tm ++ l)) Tm L l' env σ → Res c (L.flatten ++ (Tm ++ l')) H' r v l' → Q v H') → r vs H Q
def wCB (wf : WF) (wa : WA) : WE := fun env Q X => wa env (fun rs e => wf rs fun r => Q r e) X
section
variable {X : Cx} {c : Cn} {W : WX} {pos p : Pos} {wa : WA} {wf : WF} {e : Expr} {es : List Expr} {x : Str} {r : List V → Hp → VK → Prop}
theorem CallS.or {r r' : List V → Hp → VK → Prop} {w w' : WF} (h : CallS c r w) (h' : CallS c r' w') : CallS c (fun xs H Q => r xs H Q ∨ r' xs H Q) (fun rs Q => w rs Q ∨ w' rs Q) := by
  intro L Tm l env σ H rs vs Qv Q S h1 hw k
  rcases hw with hw | hw
  · exact .inl (h L Tm l env σ H rs vs Qv Q S h1 hw k)
  · exact .inr (h' L Tm l env σ H rs vs Qv Q S h1 hw k)
theorem CallS.imp {w w' : WF} (h : CallS c r w) (q : ∀ rs Q, w' rs Q → w rs Q) : CallS c r w' := fun L Tm l env σ H rs vs Qv Q S h1 hw k => h L Tm l env σ H rs vs Qv Q S h1 (q _ _ hw) k
theorem OpS.imp {r2 : R2} {w w' : WO} (h : OpS c r2 w) (q : ∀ a b Q, w' a b Q → w a b Q) : OpS c r2 w' := fun L Tm la lb env σ H ra rb x y Qv Q S h1 h2 hw k => h L Tm la lb env σ H ra rb x y Qv Q S h1 h2 (q _ _ _ hw) k
theorem rd_cb (hs : CallS c r wf) {σ : Sg} {H : Hp} {Q : VK} (h : rdE c W (wCB wf wa) σ H Q) : tCB r (rdA c W wa) σ H Q := by
  obtain ⟨env, L, Tm, Qv, X, S0, q, k, kx⟩ := h
  refine ⟨env, L, Tm, _, X, S0, q, fun rs vs l L1 env1 H1 h1 st1 r1 => ?_, kx⟩
  exact hs L1 Tm l env1 σ H1 rs vs _ Q st1.sim r1 h1 fun r v l' H' hq st2 r2 => k r v l' L1 env1 H' hq (Step.then st1 st2) r2
theorem ve_callB {id : String} (hc : CallR X (.builtin id) r) (hs : CallS c r wf) (hm : X.mg x = none) (hv : bootBuiltins x = some (.builtin id)) (ha : PA X (e :: es) (rdA c W wa)) (hg : Gl X x := by rfl) (hn : x ≠ "__name__" := by decide) (hdb : (x == ("__debug__" : Str)) = false := by decide)
    (he : starEach (e :: es) X.env = (false, eval e X.env) :: starEach es X.env := by rfl) (hpl : (backTo pos (starEach es X.env)).any (·.1) = false := by rfl) : PE X (.Call (.Name x p) (e :: es) [] pos) (rdE c W (wCB wf wa)) :=
  PE.imp (pe_callB hc hg hm hv ha hn hdb he hpl) fun _ _ _ => rd_cb hs
end
section
variable {c : Cn}
theorem ress1 {T l : List Addr} {H : Hp} {r : R} {vs : List V} (h : Ress c T H [r] vs l) : ∃ v, vs = [v] ∧ Res c T H r v l := by
  cases h with
  | cons h1 h2 => cases h2; exact ⟨_, rfl, by rw [List.append_nil]; exact h1⟩
def wLen : WF := fun rs Q => ∃ r, rs = [r] ∧ match r.d with
  | .list ds => Q ⟨.int ds.length, mA⟩
  | .tuple ds => Q ⟨.int ds.length, mA⟩
  | .str z => z.length ≤ sizeLine ∧ Q ⟨.int z.length, mA⟩
  | .dict [(.list [], .list ns)] => Q ⟨.int ns.length, mA⟩
  | _ => False
theorem len_R {X : Cx} : CallR X (.builtin "len") (fun xs H Q => (∃ p ys, xs = [.ref p] ∧ (SqL X.K H p ys ∨ SqT X.K H p ys) ∧ Q (.int ys.length) H) ∨ (∃ z, xs = [.str z] ∧ z.length ≤ sizeLine ∧ Q (.int z.length) H)) := call_len_seq.or call_len_str
theorem script_inv {ds : List (D × D)} {t : Bool} {q : List D} {y : D} {kvs : List (D × V)} {H : Hp} {a : Addr} (h : DictAt H a kvs t) (e : kvs.map (·.1) = ds.map (·.1)) (z : mkDict t ds = .dict [(.list q, y)]) : False := by
  unfold mkDict at z
  cases t with
  | true => simp at z
  | false =>
    simp at z
    subst z
    rcases h with ⟨_, k', _, q⟩ | ⟨q, _⟩
    · subst q
      cases k' with
      | nil => simp at e
      | cons p k' =>
        simp at e
        obtain ⟨p1, p3⟩ := p
        cases p1 with
        | inl i => exact nomatch e.1
        | inr i => exact nomatch e.1
    · cases q
theorem s_len : CallS c (fun xs H Q => (∃ p ys, xs = [.ref p] ∧ (SqL c.K H p ys ∨ SqT c.K H p ys) ∧ Q (.int ys.length) H) ∨ (∃ z, xs = [.str z] ∧ z.length ≤ sizeLine ∧ Q (.int z.length) H)) wLen := by
  intro L Tm l env σ H rs vs Qv Q S h ⟨r, e, q⟩ k
  subst e
  obtain ⟨v, rfl, hr⟩ := ress1 h
  obtain ⟨d, m⟩ := r
  have hr' := hr.read
  simp only at q hr'
  generalize hd : d = d0 at hr'
  cases hr' with
  | non => subst hd; exact q.elim
  | bl b => subst hd; exact q.elim
  | int i => subst hd; exact q.elim
  | str z => subst hd; exact .inr ⟨z, rfl, q.1, flat_end1 S q.2 (.int _) rfl k⟩
  | lst ha _ r => subst hd; refine .inl ⟨_, _, rfl, .inl (SqL.of ha), ?_⟩; rw [r.len]; exact flat_end1 S q (.int _) rfl k
  | tup ha r => subst hd; refine .inl ⟨_, _, rfl, .inr (SqT.of ha), ?_⟩; rw [r.len]; exact flat_end1 S q (.int _) rfl k
  | dct ha _ e r =>
    subst hd
    split at q
    · rename_i z; exact absurd z (by simp [mkDict])
    · rename_i z; exact absurd z (by simp [mkDict])
    · rename_i z; exact absurd z (by simp [mkDict])
    · rename_i z; exact (script_inv ha e z).elim
    · exact q.elim
  | opq a =>
    subst hd
    split at q
    · rename_i z; exact absurd z (by simp [opD])
    · rename_i z; exact absurd z (by simp [opD])
    · rename_i z; exact absurd z (by simp [opD])
    · rename_i z; simp [opD] at z
    · exact q.elim
  | @scr a ns ha =>
    subst hd
    refine .inl ⟨_, _, rfl, .inl ha.seq, ?_⟩
    simp only [scriptD, List.length_map] at q ⊢
    exact flat_end1 S q (.int _) rfl k
end
end VL
set_option maxRecDepth 100000
set_option maxHeartbeats 4000000
namespace VL
open PySem PySem.Spec PyProof.Rows L2
def minM : Option Nat → Option Nat → Option Nat
  | none, b => b
  | a, none => a
  | some a, some b => some (min a b)
theorem minM_l (a b : Option Nat) : leM (minM a b) a = true := by
  cases a <;> cases b <;> simp [minM, leM] <;> omega
theorem minM_r (a b : Option Nat) : leM (minM a b) b = true := by
  cases a <;> cases b <;> simp [minM, leM] <;> omega
theorem leM_trans {a b c : Option Nat} (h : leM a b = true) (g : leM b c = true) : leM a c = true := by
  cases a <;> cases b <;> cases c <;> simp [leM] at * <;> omega
def joinM : List R → Option (Option Nat)
  | [] => some none
  | r :: rs => if flatD r.d = true then joinM rs else match r.m with
    | .b => none
    | .o m => (joinM rs).map (minM m)
def kidOk (n : Option Nat) (r : R) : Prop := flatD r.d = true ∨ ∃ m, r.m = .o m ∧ leM n m = true
theorem joinM_ok {rs : List R} {n : Option Nat} (h : joinM rs = some n) : ∀ r ∈ rs, kidOk n r := by
  induction rs generalizing n with
  | nil => intro r hr; cases hr
  | cons r rs ih =>
    unfold joinM at h
    intro r' hr'
    by_cases f : flatD r.d = true
    · rw [if_pos f] at h
      rcases List.mem_cons.mp hr' with rfl | z
      · exact .inl f
      · exact ih h _ z
    · rw [if_neg f] at h
      obtain ⟨d, m⟩ := r
      cases m with
      | b => cases h
      | o m =>
        obtain ⟨k, hk, e⟩ := Option.map_eq_some_iff.mp h
        subst e
        rcases List.mem_cons.mp hr' with rfl | z
        · exact .inr ⟨m, rfl, minM_l m k⟩
        · rcases ih hk _ z with f' | ⟨m', e', q⟩
          · exact .inl f'
          · exact .inr ⟨m', e', leM_trans (minM_r m k) q⟩
section
variable {c : Cn} {T T' l : List Addr} {H H' : Hp}
theorem RO.lower {m n : Option Nat} {v : V} {d : D} (h : RO c.K (AT c.B T) H m v d l) (hn : leM n m = true) (nd : l.Nodup) (hb : ∀ b ∈ l, c.B b) :
    ∃ l' : List Addr, l'.Sublist l ∧ ∀ T' : List Addr, (∀ b ∈ T', b ∈ T) → (∀ b ∈ l, b ∈ T' → b ∈ l') → RO c.K (AT c.B T') H n v d l' := by
  by_cases z : n = some 0
  · subst z
    exact ⟨[], List.nil_sublist _, fun T' h1 h2 => .sh (RO.share (RO.mono (fun b o a _ => AT.less h1 a) h) fun b hb' => ⟨hb b hb', fun q => by have := h2 b hb' q; cases this⟩)⟩
  · exact RO.weak hn z h nd hb
theorem Ress.kids {rs : List R} {vs : List V} {n : Option Nat} (h : Ress c T H rs vs l) (hk : ∀ r ∈ rs, kidOk n r) (nd : l.Nodup) (hb : ∀ b ∈ l, c.B b) :
    ∃ l' : List Addr, l'.Sublist l ∧ ∀ T' : List Addr, (∀ b ∈ T', b ∈ T) → (∀ b ∈ l, b ∈ T' → b ∈ l') → ROs c.K (AT c.B T') H n vs (rs.map (·.d)) l' := by
  induction h with
  | nil => exact ⟨[], List.Sublist.refl _, fun _ _ _ => .nil⟩
  | @cons r rs v vs l1 l2 hr _ ih =>
    have nd' := List.nodup_append.mp nd
    obtain ⟨k2, s2, q2⟩ := ih (fun r hr => hk r (List.mem_cons_of_mem _ hr)) nd'.2.1 fun b hb' => hb b (List.mem_append_right _ hb')
    have h1 : ∃ k1 : List Addr, k1.Sublist l1 ∧ ∀ T' : List Addr, (∀ b ∈ T', b ∈ T) → (∀ b ∈ l1, b ∈ T' → b ∈ k1) → RO c.K (AT c.B T') H n v r.d k1 := by
      rcases hk r List.mem_cons_self with f | ⟨m, e, q⟩
      · exact ⟨[], List.nil_sublist _, fun T' _ _ => .flat (hr.read.flat f) f⟩
      · obtain ⟨d, m'⟩ := r
        cases e
        exact RO.lower hr.dep q nd'.1 fun b hb' => hb b (List.mem_append_left _ hb')
    obtain ⟨k1, s1, q1⟩ := h1
    refine ⟨k1 ++ k2, s1.append s2, fun T' g1 g2 => .cons (q1 T' g1 fun b hb' ht => ?_) (q2 T' g1 fun b hb' ht => ?_)⟩
    · rcases List.mem_append.mp (g2 b (List.mem_append_left _ hb') ht) with e | e
      · exact e
      · exact absurd rfl (nd'.2.2 b hb' b (s2.subset e))
    · rcases List.mem_append.mp (g2 b (List.mem_append_right _ hb') ht) with e | e
      · exact absurd rfl (nd'.2.2 b (s1.subset e) b hb')
      · exact e
theorem ROs.keepT {m : Option Nat} {vs : List V} {ds : List D} (h : ROs c.K (AT c.B T) H m vs ds l) (s : Same H H') (g : ∀ b ∈ T', b ∈ T ∨ H b = none) : ROs c.K (AT c.B T') H' m vs ds l :=
  (ROs.mono (fun b o a e => ⟨a.1, fun z => (g b z).elim a.2 fun n => by rw [e] at n; cases n⟩) h).keep (Kp.same s) fun b _ o e => s b o e
end
section
variable {c : Cn} {L L' : List (List Addr)} {Tm l l' : List Addr} {env : VEnv} {σ : Sg} {H H' : Hp}
theorem kids_ready {rs : List R} {vs : List V} {n : Option Nat} (S : Sim c L (Tm ++ l) env σ H) (h : Ress c (L.flatten ++ (Tm ++ l)) H rs vs l) (hn : joinM rs = some n) :
    ∃ l' : List Addr, l'.Sublist l ∧ ROs c.K (AT c.B (L.flatten ++ (Tm ++ l'))) H n vs (rs.map (·.d)) l' := by
  obtain ⟨nd, hb, hx⟩ := S.tmp
  obtain ⟨l', s, q⟩ := h.kids (joinM_ok hn) nd hb
  refine ⟨l', s, q _ (fun b hb' => ?_) fun b hb1 hb2 => ?_⟩
  · rcases List.mem_append.mp hb' with z | z
    · exact List.mem_append_left _ z
    · rcases List.mem_append.mp z with z | z
      · exact List.mem_append_right _ (List.mem_append_left _ z)
      · exact List.mem_append_right _ (List.mem_append_right _ (s.subset z))
  · rw [← List.append_assoc] at hb2
    exact (List.mem_append.mp hb2).elim (fun z => absurd z (hx b hb1)) id
end
def wLst : WF := fun rs Q => rs.length ≤ 1000 ∧ match joinM rs with
  | some n => Q ⟨.list (rs.map (·.d)), .o (succM n)⟩
  | none => Q ⟨.list (rs.map (·.d)), .b⟩
def wTup : WF := fun rs Q => rs.length ≤ 1000 ∧ match joinM rs with
  | some n => Q ⟨.tuple (rs.map (·.d)), .o n⟩
  | none => Q ⟨.tuple (rs.map (·.d)), .b⟩
section
variable {c : Cn} {W : WX} {X : Cx} {wa : WA} {es : List Expr} {pos : Pos}
theorem le_line {n : Nat} (h : n ≤ 1000) : n ≤ sizeLine := Nat.le_of_lt (small1000 h)
theorem new_end {L : List (List Addr)} {Tm l l' : List Addr} {env : VEnv} {σ : Sg} {H : Hp} {p : Addr} {o : HO} (S : Sim c L (Tm ++ l) env σ H) (np : H p = none) (s : l'.Sublist l) : Step c H (upd H p o) (L.flatten ++ (Tm ++ l)) Tm L (p :: l') env σ := by
  have S' : Sim c L (Tm ++ l') env σ H := S.less ((List.Sublist.refl _).append s)
  have st' := Step.new (o := o) S' np
  refine Step.perm (l := l' ++ [p]) ⟨st'.same, by rw [← List.append_assoc]; exact st'.sim, fun b hb => ?_⟩ (List.perm_append_singleton p l').symm
  rw [← List.append_assoc Tm] at hb
  rcases st'.gr b hb with z | z
  · exact .inl (mem_less (fun b hb => s.subset hb) b z)
  · exact .inr z
theorem s_lst : CallS c (fun xs H Q => xs.length ≤ sizeLine ∧ ∀ p, H p = none → Q (.ref p) (upd H p (.lst xs))) wLst := by
  intro L Tm l env σ H rs vs Qv Q S h ⟨hz, q⟩ k
  refine ⟨by rw [← h.len]; exact le_line hz, fun p np => ?_⟩
  cases hj : joinM rs with
  | none =>
    rw [hj] at q
    exact k _ _ [] _ q (new_end S np (List.nil_sublist _)).drop ⟨.lst upd_same trivial (h.read.keep (Kp.same (same_new np))), rfl⟩
  | some n =>
    rw [hj] at q
    obtain ⟨l', s, r⟩ := kids_ready S h hj
    refine k _ _ (p :: l') _ q (new_end S np s) (RO.lst (pop_succ n) upd_same (ROs.keepT r (same_new np) fun b hb => ?_))
    rcases List.mem_append.mp hb with z | z
    · exact .inl (List.mem_append_left _ z)
    · rcases List.mem_append.mp z with z | z
      · exact .inl (List.mem_append_right _ (List.mem_append_left _ z))
      · rcases List.mem_cons.mp z with z | z
        · subst z; exact .inr np
        · exact .inl (List.mem_append_right _ (List.mem_append_right _ z))
theorem s_tup : CallS c (fun xs H Q => xs.length ≤ sizeLine ∧ ∀ p, H p = none → Q (.ref p) (upd H p (.tup xs))) wTup := by
  intro L Tm l env σ H rs vs Qv Q S h ⟨hz, q⟩ k
  refine ⟨by rw [← h.len]; exact le_line hz, fun p np => ?_⟩
  have tp : (upd H p (.tup vs)) p = some (.tup vs) := upd_same
  cases hj : joinM rs with
  | none =>
    rw [hj] at q
    exact k _ _ [] _ q (new_end S np (List.nil_sublist _)).drop ⟨.tup tp (h.read.keep (Kp.same (same_new np))), rfl⟩
  | some n =>
    rw [hj] at q
    obtain ⟨l', s, r⟩ := kids_ready S h hj
    refine k _ _ l' _ q ((new_end S np s).sub (List.sublist_cons_self p l')) (RO.tup tp (ROs.keepT r (same_new np) fun b hb => .inl hb))
theorem ve_lst (ha : PA X es (rdA c W wa)) : PE X (.List es pos) (rdE c W (wCB wLst wa)) := PE.imp (pe_lst ha) fun _ _ _ => rd_cb s_lst
theorem ve_tup {x1} (ha : PA X es (rdA c W wa)) : PE X (.Tuple es x1 pos) (rdE c W (wCB wTup wa)) := PE.imp (pe_tup ha) fun _ _ _ => rd_cb s_tup
end
end VL
set_option maxRecDepth 100000
set_option maxHeartbeats 4000000
namespace VL
open PySem PySem.Spec PyProof.Rows L2
def kidM : Md → Md
  | .b => .b
  | .o none => .o none
  | .o (some 0) => .o (some 0)
  | .o (some (k + 1)) => .o (some k)
def subL (m : Md) (d : D) : R := if flatD d = true then ⟨d, mA⟩ else ⟨d, kidM m⟩
def subT (m : Md) (d : D) : R := if flatD d = true then ⟨d, mA⟩ else ⟨d, m⟩
section
variable {K : PySem.W.Frag} {A : Addr → Prop} {c : Cn} {T l : List Addr} {H : Hp}
theorem ROs.get : ∀ {m : Option Nat} {vs : List V} {ds : List D} {l : List Addr} {i : Nat} {d : D}, ROs K A H m vs ds l → ds[i]? = some d → ∃ v l', vs[i]? = some v ∧ RO K A H m v d l' ∧ l'.Sublist l
  | _, _, _, _, _, _, .nil, e => by simp at e
  | _, _, _, _, 0, _, .cons h _, e => by simp at e; subst e; exact ⟨_, _, rfl, h, List.sublist_append_left _ _⟩
  | _, _, _, _, i + 1, d, .cons _ r, e => by
    obtain ⟨v, l', h1, h2, h3⟩ := ROs.get (i := i) r (by simpa using e)
    exact ⟨v, l', by simpa using h1, h2, h3.trans (List.sublist_append_right _ _)⟩
theorem ROs.len : ∀ {m : Option Nat} {vs : List V} {ds : List D} {l : List Addr}, ROs K A H m vs ds l → vs.length = ds.length
  | _, _, _, _, .nil => rfl
  | _, _, _, _, .cons _ r => by simp [ROs.len r]
theorem RS.lst_inv {v : V} {ds : List D} (h : RS K A H v (.list ds)) : ∃ a xs, v = .ref a ∧ H a = some (.lst xs) ∧ A a ∧ RSs K A H xs ds := by
  generalize e : PyData.list ds = d at h
  cases h with
  | lst ha a r => cases e; exact ⟨_, _, rfl, ha, a, r⟩
  | dct _ _ _ _ => simp [mkDict] at e
  | scr _ => simp [scriptD] at e
  | opq _ => simp [opD] at e
  | _ => cases e
theorem RS.tup_inv {v : V} {ds : List D} (h : RS K A H v (.tuple ds)) : ∃ a xs, v = .ref a ∧ H a = some (.tup xs) ∧ RSs K A H xs ds := by
  generalize e : PyData.tuple ds = d at h
  cases h with
  | tup ha r => cases e; exact ⟨_, _, rfl, ha, r⟩
  | dct _ _ _ _ => simp [mkDict] at e
  | scr _ => simp [scriptD] at e
  | opq _ => simp [opD] at e
  | _ => cases e
theorem RO.lst_inv {m : Option Nat} {v : V} {ds : List D} (h : RO K A H m v (.list ds) l) : (m = some 0 ∧ l = [] ∧ RS K A H v (.list ds)) ∨ ∃ n a xs l', popM m = some n ∧ v = .ref a ∧ H a = some (.lst xs) ∧ ROs K A H n xs ds l' ∧ l = a :: l' := by
  generalize e : PyData.list ds = d at h
  cases h with
  | sh r => exact .inl ⟨rfl, rfl, r⟩
  | flat r f => subst e; simp [flatD] at f
  | lst p ha r => cases e; exact .inr ⟨_, _, _, _, p, rfl, ha, r, rfl⟩
  | dct _ _ _ _ => simp [mkDict] at e
  | tup _ _ => cases e
theorem Res.kidL {m : Md} {ds : List D} {v : V} (h : Res c T H ⟨.list ds, m⟩ v l) : ∃ a xs, v = .ref a ∧ H a = some (.lst xs) ∧ xs.length = ds.length ∧
    ∀ (i : Nat) (d : D), ds[i]? = some d → ∃ v' l', xs[i]? = some v' ∧ l'.Sublist l ∧ Res c T H ⟨d, kidM m⟩ v' l' := by
  have sh : ∀ {A : Addr → Prop} {v : V}, RS c.K A H v (.list ds) → ∃ a xs, v = .ref a ∧ H a = some (.lst xs) ∧ xs.length = ds.length ∧ ∀ (i : Nat) (d : D), ds[i]? = some d → ∃ v', xs[i]? = some v' ∧ RS c.K A H v' d := fun {A v} h => by
    obtain ⟨a, xs, e, ha, _, r⟩ := h.lst_inv
    exact ⟨a, xs, e, ha, r.len, fun i d e => r.get e⟩
  cases m with
  | b =>
    obtain ⟨a, xs, e, ha, hl, q⟩ := sh h.1
    exact ⟨a, xs, e, ha, hl, fun i d e => let ⟨v', e', r⟩ := q i d e; ⟨v', [], e', List.nil_sublist _, r, rfl⟩⟩
  | o m =>
    rcases RO.lst_inv h.dep with ⟨rfl, rfl, r⟩ | ⟨n, a, xs, l', p, e, ha, r, rfl⟩
    · obtain ⟨a, xs, e, ha, hl, q⟩ := sh r
      exact ⟨a, xs, e, ha, hl, fun i d e => let ⟨v', e', r⟩ := q i d e; ⟨v', [], e', List.nil_sublist _, RO.sh r⟩⟩
    · refine ⟨a, xs, e, ha, r.len, fun i d e => ?_⟩
      obtain ⟨v', l1, h1, h2, h3⟩ := r.get e
      refine ⟨v', l1, h1, h3.trans (List.sublist_cons_self _ _), ?_⟩
      match m, p with
      | none, p => cases p; exact h2
      | some (k + 1), p => cases p; exact h2
theorem Res.kidT {m : Md} {ds : List D} {v : V} (h : Res c T H ⟨.tuple ds, m⟩ v l) : ∃ a xs, v = .ref a ∧ H a = some (.tup xs) ∧ xs.length = ds.length ∧
    ∀ (i : Nat) (d : D), ds[i]? = some d → ∃ v' l', xs[i]? = some v' ∧ l'.Sublist l ∧ Res c T H ⟨d, m⟩ v' l' := by
  cases m with
  | b =>
    obtain ⟨a, xs, e, ha, r⟩ := h.1.tup_inv
    exact ⟨a, xs, e, ha, r.len, fun i d e => let ⟨v', e', r'⟩ := r.get e; ⟨v', [], e', List.nil_sublist _, r', rfl⟩⟩
  | o m =>
    have h' := h.dep
    generalize e : PyData.tuple ds = d at h'
    cases h' with
    | sh r =>
      subst e
      obtain ⟨a, xs, e, ha, r⟩ := r.tup_inv
      exact ⟨a, xs, e, ha, r.len, fun i d e => let ⟨v', e', r'⟩ := r.get e; ⟨v', [], e', List.nil_sublist _, RO.sh r'⟩⟩
    | flat r f =>
      subst e
      obtain ⟨a, xs, e, ha, r⟩ := r.tup_inv
      have f' : flatAll ds = true := by simpa [flatD] using f
      exact ⟨a, xs, e, ha, r.len, fun i d e => let ⟨v', e', r'⟩ := r.get e; ⟨v', [], e', List.nil_sublist _, RO.flat r' (flat_get f' e)⟩⟩
    | tup ha r =>
      cases e
      exact ⟨_, _, rfl, ha, r.len, fun i d e => let ⟨v', l1, h1, h2, h3⟩ := r.get e; ⟨v', l1, h1, h3, h2⟩⟩
    | lst _ _ _ => cases e
    | dct _ _ _ _ => simp [mkDict] at e
where
  flat_get : ∀ {ds : List D} {i : Nat} {d : D}, flatAll ds = true → ds[i]? = some d → flatD d = true
    | [], _, _, _, e => by simp at e
    | x :: ds, 0, d, f, e => by simp [flatAll] at f e; subst e; exact f.1
    | x :: ds, i + 1, d, f, e => by simp [flatAll] at f e; exact flat_get f.2 e
theorem Res.ofSub {m : Md} {d : D} {v : V} (h : Res c T H ⟨d, m⟩ v l) : ∃ l', l'.Sublist l ∧ Res c T H (if flatD d = true then ⟨d, mA⟩ else ⟨d, m⟩) v l' := by
  by_cases f : flatD d = true
  · rw [if_pos f]; exact ⟨[], List.nil_sublist _, Res.flat h.read f⟩
  · rw [if_neg f]; exact ⟨l, List.Sublist.refl _, h⟩
theorem atI_tr {α β : Type} {xs : List α} {ys : List β} {i : Int} {y : β} (hl : xs.length = ys.length) (h : atI ys i = some y) : ∃ j : Nat, ys[j]? = some y ∧ ∀ x, xs[j]? = some x → atI xs i = some x := by
  unfold atI at h ⊢
  rw [← hl] at h
  cases hj : ixN xs.length i with
  | none => rw [hj] at h; cases h
  | some j => rw [hj] at h; exact ⟨j, h, fun x e => e⟩
end
def wIx : WO := fun ra rb Q => ∃ i, rb.d = .int i ∧ match ra.d with
  | .list ds => ∃ d, atI ds i = some d ∧ Q (subL ra.m d)
  | .tuple ds => ∃ d, atI ds i = some d ∧ Q (subT ra.m d)
  | .str z => z.length ≤ sizeLine ∧ ∃ k, atI z.cps.toList i = some k ∧ Q ⟨.str ⟨#[k]⟩, mA⟩
  | _ => False
section
variable {X : Cx} {c : Cn} {W : WX} {pos : Pos} {wa wb : WE} {a b : Expr}
theorem temp_end {L : List (List Addr)} {Tm l l' : List Addr} {env : VEnv} {σ : Sg} {H : Hp} {r : R} {v : V} {Qv : R → Prop} {Q : VK} (S : Sim c L (Tm ++ l) env σ H) (s : l'.Sublist l) (q : Qv r) (h : Res c (L.flatten ++ (Tm ++ l)) H r v l')
    (k : ∀ r v l' H', Qv r → Step c H H' (L.flatten ++ (Tm ++ l)) Tm L l' env σ → Res c (L.flatten ++ (Tm ++ l')) H' r v l' → Q v H') : Q v H :=
  k r v l' H q ⟨Same.refl H, S.less ((List.Sublist.refl _).append s), fun b hb => .inl (mem_less (fun b hb => s.subset hb) b hb)⟩ (h.keep (Same.refl H) fun b hb => .inl (mem_less (fun b hb => s.subset hb) b hb))
theorem s_ix : OpS c (rIx c.K) wIx := by
  intro L Tm la lb env σ H ra rb x y Qv Q S h1 h2 ⟨i, e2, q⟩ k
  obtain ⟨d, m⟩ := ra
  obtain ⟨d2, m2⟩ := rb
  cases e2
  have r2 := h2.read
  cases r2
  have sub : ∀ {l' : List Addr}, l'.Sublist la → l'.Sublist (la ++ lb) := fun s => s.trans (List.sublist_append_left _ _)
  match d, q with
  | .list ds, ⟨d, e, q⟩ =>
    obtain ⟨a, xs, rfl, ha, hl, g⟩ := Res.kidL (ds := ds) (m := m) h1
    obtain ⟨j, e1, e2⟩ := atI_tr hl e
    obtain ⟨v', l', e3, s, r⟩ := g j d e1
    obtain ⟨l'', s', r'⟩ := r.ofSub
    exact .inl ⟨a, xs, i, v', rfl, rfl, SqL.of ha, e2 v' e3, temp_end S (sub (s'.trans s)) q r' k⟩
  | .tuple ds, ⟨d, e, q⟩ =>
    obtain ⟨a, xs, rfl, ha, hl, g⟩ := Res.kidT (ds := ds) (m := m) h1
    obtain ⟨j, e1, e2⟩ := atI_tr hl e
    obtain ⟨v', l', e3, s, r⟩ := g j d e1
    obtain ⟨l'', s', r'⟩ := r.ofSub
    exact .inr (.inl ⟨a, xs, i, v', rfl, rfl, SqT.of ha, e2 v' e3, temp_end S (sub (s'.trans s)) q r' k⟩)
  | .str z, ⟨hz, kk, e, q⟩ =>
    have := h1.read
    cases this
    exact .inr (.inr ⟨z, i, kk, rfl, rfl, hz, e, flat_end1 S q (.str _) rfl k⟩)
theorem ve_ix (ha : PE X a (rdE c W wa)) (hb : PE X b (rdE c W wb)) (hK : c.K = X.K := by rfl) (hs : PlainIx b := by exact fun _ _ => rfl) : PE X (.Subscript a b pos) (rdE c W (wBin wIx wa wb)) :=
  PE.imp (pe_ix ix_seq ha hb hs) fun _ _ _ => by rw [← hK]; exact rd_bin s_ix
end
def cpR (ds : List D) (b : Bool) : R := ⟨.list ds, if flatAll ds = true then mA else if b = true then .b else .o (some 1)⟩
section
variable {c : Cn} {L : List (List Addr)} {Tm l : List Addr} {env : VEnv} {σ : Sg} {H : Hp} {Qv : R → Prop} {Q : VK}
theorem flat_kids {K : PySem.W.Frag} {A A' : Addr → Prop} {xs : List V} {ds : List D} (h : RSs K A H xs ds) (f : flatAll ds = true) : ROs K A' H none xs ds [] := by
  induction xs generalizing ds with
  | nil => cases h; exact .nil
  | cons x xs ih =>
    cases h with
    | cons h r =>
      simp only [flatAll, Bool.and_eq_true] at f
      exact .cons (l1 := []) (l2 := []) (.flat (h.flat f.1) f.1) (ih r f.2)
theorem cp_end {p : Addr} {xs : List V} {ds : List D} {b : Bool} (S : Sim c L (Tm ++ l) env σ H) (np : H p = none) (h : RSs c.K (fun _ => True) H xs ds) (h' : b = false → RSs c.K (AT c.B (L.flatten ++ Tm)) H xs ds) (q : Qv (cpR ds b))
    (k : ∀ r v l' H', Qv r → Step c H H' (L.flatten ++ (Tm ++ l)) Tm L l' env σ → Res c (L.flatten ++ (Tm ++ l')) H' r v l' → Q v H') : Q (.ref p) (upd H p (.lst xs)) := by
  have s := same_new (o := .lst xs) np
  unfold cpR at q
  have st := new_end (o := .lst xs) S np (List.nil_sublist l)
  by_cases f : flatAll ds = true
  · rw [if_pos f] at q
    exact k _ _ [p] _ q st (RO.lst (by rfl) upd_same (flat_kids (h.keep (Kp.same s)) f))
  · rw [if_neg f] at q
    cases b with
    | true => exact k _ _ [] _ q st.drop ⟨.lst upd_same trivial (h.keep (Kp.same s)), rfl⟩
    | false =>
      refine k _ _ [p] _ q st (RO.lst (n := some 0) (by rfl) upd_same (ROs.toSh (((h' rfl).mono fun b o a e => ⟨a.1, fun z => ?_⟩).keep (Kp.same s))))
      rw [← List.append_assoc] at z
      rcases List.mem_append.mp z with z | z
      · exact a.2 z
      · simp at z; subst z; rw [np] at e; cases e
end
end VL
set_option maxRecDepth 100000
set_option maxHeartbeats 4000000
namespace VL
open PySem PySem.Spec PyProof.Rows L2
section
variable {c : Cn}
def woAdd : WO := fun ra rb Q => match ra.d, rb.d with
  | .int i, .int j => Q ⟨.int (i + j), mA⟩
  | .str x, .str y => x.length + y.length ≤ sizeLine ∧ Q ⟨.str (x ++ y), mA⟩
  | .list xs, .list ys => xs.length + ys.length ≤ sizeLine ∧ Q (cpR (xs ++ ys) (isB ra.m || isB rb.m))
  | _, _ => False
def rAdd : R2 := fun x y H Q => rI0 (fun i j => .int (i + j)) x y H Q ∨ (∃ i j, x = .str i ∧ y = .str j ∧ i.length + j.length ≤ sizeLine ∧ Q (.str (i ++ j)) H) ∨ rCat x y H Q
theorem op_add3 {X : Cx} : OpR X (binaryOp .Add) rAdd := op_add.or (op_add_str.or op_cat)
theorem Res.lstS {L : List (List Addr)} {Tm l la : List Addr} {env : VEnv} {σ : Sg} {H : Hp} {ds : List D} {m : Md} {v : V} (h : Res c (L.flatten ++ (Tm ++ la)) H ⟨.list ds, m⟩ v l) (hm : isB m = false) (S : Sim c L (Tm ++ la) env σ H) (hl : ∀ b ∈ l, b ∈ la) :
    ∃ a xs, v = .ref a ∧ H a = some (.lst xs) ∧ RSs c.K (AT c.B (L.flatten ++ Tm)) H xs ds := by
  cases m with
  | b => cases hm
  | o m =>
    obtain ⟨a, xs, e, ha, _, r⟩ := (Res.shared (m := m) h rfl S hl).lst_inv
    exact ⟨a, xs, e, ha, r⟩
theorem s_add : OpS c rAdd woAdd := by
  intro L Tm la lb env σ H ra rb x y Qv Q S h1 h2 q k
  obtain ⟨d1, m1⟩ := ra
  obtain ⟨d2, m2⟩ := rb
  have r1 := h1.read
  have r2 := h2.read
  unfold woAdd at q
  simp only at q r1 r2
  split at q
  · cases r1; cases r2
    exact .inl ⟨_, _, rfl, rfl, flat_end1 S q (.int _) rfl k⟩
  · cases r1; cases r2
    exact .inr (.inl ⟨_, _, rfl, rfl, q.1, flat_end1 S q.2 (.str _) rfl k⟩)
  · rename_i xs ys
    obtain ⟨a, us, rfl, ha, _, r1'⟩ := r1.lst_inv
    obtain ⟨b, ws, rfl, hb, _, r2'⟩ := r2.lst_inv
    refine .inr (.inr ⟨a, b, us, ws, rfl, rfl, ha, hb, by rw [r1'.len, r2'.len]; exact q.1, fun p np => ?_⟩)
    refine cp_end S np (RSs.append r1' r2') (fun hm => ?_) q.2 k
    simp only [Bool.or_eq_false_iff] at hm
    obtain ⟨a', us', e1, ha', s1⟩ := Res.lstS (m := m1) h1 hm.1 S fun b hb => List.mem_append_left _ hb
    obtain ⟨b', ws', e2, hb', s2⟩ := Res.lstS (m := m2) h2 hm.2 S fun b hb => List.mem_append_right _ hb
    cases e1; cases e2
    rw [ha] at ha'; cases ha'
    rw [hb] at hb'; cases hb'
    exact RSs.append s1 s2
  · exact q.elim
def woMul : WO := fun ra rb Q => match ra.d, rb.d with
  | .int i, .int j => (CMul i j ∨ CMulW i j) ∧ Q ⟨.int (i * j), mA⟩
  | .list xs, .int k => -(2 ^ 63) ≤ k ∧ k < 2 ^ 63 ∧ xs.length * k.toNat ≤ sizeLine ∧ Q (cpR (List.replicate k.toNat xs).flatten (isB ra.m))
  | _, _ => False
def rMul : R2 := fun x y H Q => rI CMul (fun i j => .int (i * j)) x y H Q ∨ rI CMulW (fun i j => .int (i * j)) x y H Q ∨ rRep x y H Q
theorem op_mul3 {X : Cx} : OpR X (binaryOp .Mult) rMul := op_mul.or (op_mulW.or op_rep)
theorem s_mul : OpS c rMul woMul := by
  intro L Tm la lb env σ H ra rb x y Qv Q S h1 h2 q k
  obtain ⟨d1, m1⟩ := ra
  obtain ⟨d2, m2⟩ := rb
  have r1 := h1.read
  have r2 := h2.read
  unfold woMul at q
  simp only at q r1 r2
  split at q
  · cases r1; cases r2
    rcases q.1 with z | z
    · exact .inl ⟨_, _, rfl, rfl, z, flat_end1 S q.2 (.int _) rfl k⟩
    · exact .inr (.inl ⟨_, _, rfl, rfl, z, flat_end1 S q.2 (.int _) rfl k⟩)
  · rename_i xs kk
    cases r2
    obtain ⟨a, us, rfl, ha, _, r1'⟩ := r1.lst_inv
    refine .inr (.inr ⟨a, kk, us, rfl, rfl, ha, q.1, q.2.1, by rw [r1'.len]; exact q.2.2.1, fun p np => ?_⟩)
    refine cp_end S np (RSs.rep r1' _) (fun hm => ?_) q.2.2.2 k
    obtain ⟨a', us', e1, ha', s1⟩ := Res.lstS (m := m1) h1 hm S fun b hb => List.mem_append_left _ hb
    cases e1
    rw [ha] at ha'; cases ha'
    exact RSs.rep s1 _
  · exact q.elim
end
section
variable {X : Cx} {c : Cn} {W : WX} {pos : Pos} {wa wb : WE} {a b : Expr}
theorem ve_add (ha : PE X a (rdE c W wa)) (hb : PE X b (rdE c W wb)) : PE X (.BinOp a .Add b pos) (rdE c W (wBin woAdd wa wb)) := ve_op op_add3 s_add ha hb
theorem ve_mul (ha : PE X a (rdE c W wa)) (hb : PE X b (rdE c W wb)) : PE X (.BinOp a .Mult b pos) (rdE c W (wBin woMul wa wb)) := ve_op op_mul3 s_mul ha hb
def woMod : WO := woI (fun _ j => 0 < j) fun i j => .int (i % j)
theorem ve_mod (ha : PE X a (rdE c W wa)) (hb : PE X b (rdE c W wb)) : PE X (.BinOp a .Mod b pos) (rdE c W (wBin woMod wa wb)) := ve_op op_mod (ops_I (fun _ _ _ _ _ => .int _) fun _ _ => rfl) ha hb
def woFd : WO := woI (fun i j => CDiv i j ∨ CDivW i j) fun i j => .int (i / j)
theorem op_fd {X : Cx} : OpR X (binaryOp .FloorDiv) (rI (fun i j => CDiv i j ∨ CDivW i j) fun i j => .int (i / j)) := by
  intro pins s σ H x y v u Q I rx ry ⟨i, j, e1, e2, hc, q⟩
  rcases hc with hc | hc
  · exact op_fdiv pins s σ H x y v u Q I rx ry ⟨i, j, e1, e2, hc, q⟩
  · exact op_fdivW pins s σ H x y v u Q I rx ry ⟨i, j, e1, e2, hc, q⟩
theorem ve_fd (ha : PE X a (rdE c W wa)) (hb : PE X b (rdE c W wb)) : PE X (.BinOp a .FloorDiv b pos) (rdE c W (wBin woFd wa wb)) := ve_op op_fd (ops_I (fun _ _ _ _ _ => .int _) fun _ _ => rfl) ha hb
def woPow : WO := woI CPow fun i j => .int (i ^ j.toNat)
theorem ve_pow (ha : PE X a (rdE c W wa)) (hb : PE X b (rdE c W wb)) : PE X (.BinOp a .Pow b pos) (rdE c W (wBin woPow wa wb)) := ve_op op_pow (ops_I (fun _ _ _ _ _ => .int _) fun _ _ => rfl) ha hb
end
def scalD : D → D → Option Bool
  | .int i, .int j => some (decide (i = j))
  | .str x, .str y => some (decide (x = y))
  | .bool a, .bool b => some (decide (a = b))
  | .none, .none => some true
  | .none, .int _ => some false | .int _, .none => some false
  | .none, .bool _ => some false | .bool _, .none => some false
  | .none, .str _ => some false | .str _, .none => some false
  | .int _, .str _ => some false | .str _, .int _ => some false
  | .bool _, .str _ => some false | .str _, .bool _ => some false
  | _, _ => none
def woEq : WO := fun ra rb Q => match scalD ra.d rb.d with
  | some b => Q ⟨.bool b, mA⟩
  | none => SeqAt.shaped ra.d = true ∧ SeqAt.shaped rb.d = true ∧ Q ⟨.bool (PyData.eqv ra.d rb.d), mA⟩
def woNe : WO := fun ra rb Q => match scalD ra.d rb.d with
  | some b => Q ⟨.bool (!b), mA⟩
  | none => SeqAt.shaped ra.d = true ∧ SeqAt.shaped rb.d = true ∧ Q ⟨.bool (!PyData.eqv ra.d rb.d), mA⟩
section
variable {c : Cn}
theorem scal_sound {K : PySem.W.Frag} {A : Addr → Prop} {H : Hp} {x y : V} {d e : D} {b : Bool} (h1 : RS K A H x d) (h2 : RS K A H y e) (h : scalD d e = some b) : scal x y = true ∧ decide (x = y) = b := by
  unfold scalD at h
  split at h <;> first | (cases h1; cases h2; cases h; simp [scal]; done) | cases h
theorem s_eq : OpS c (fun x y H Q => rEq x y H Q ∨ rEqD c.K x y H Q) woEq := by
  intro L Tm la lb env σ H ra rb x y Qv Q S h1 h2 q k
  unfold woEq at q
  cases hs : scalD ra.d rb.d with
  | some b =>
    rw [hs] at q
    obtain ⟨e1, e2⟩ := scal_sound h1.read h2.read hs
    refine .inl ⟨e1, ?_⟩
    rw [e2]
    exact flat_end1 S q (.bl _) rfl k
  | none =>
    rw [hs] at q
    obtain ⟨s1, s2, q⟩ := q
    exact .inr ⟨ra.d, rb.d, h1.read.dp (SeqAt.canLay_of_shaped s1), h2.read.dp (SeqAt.canLay_of_shaped s2), s1, s2, flat_end1 S q (.bl _) rfl k⟩
theorem s_ne : OpS c (fun x y H Q => rNe x y H Q ∨ rNeD c.K x y H Q) woNe := by
  intro L Tm la lb env σ H ra rb x y Qv Q S h1 h2 q k
  unfold woNe at q
  cases hs : scalD ra.d rb.d with
  | some b =>
    rw [hs] at q
    obtain ⟨e1, e2⟩ := scal_sound h1.read h2.read hs
    refine .inl ⟨e1, ?_⟩
    rw [e2]
    exact flat_end1 S q (.bl _) rfl k
  | none =>
    rw [hs] at q
    obtain ⟨s1, s2, q⟩ := q
    exact .inr ⟨ra.d, rb.d, h1.read.dp (SeqAt.canLay_of_shaped s1), h2.read.dp (SeqAt.canLay_of_shaped s2), s1, s2, flat_end1 S q (.bl _) rfl k⟩
end
section
variable {X : Cx} {c : Cn} {W : WX} {pos : Pos} {wa wb : WE} {a b : Expr}
def woLt : WO := woI0 fun i j => .bool (decide (i < j))
def woGt : WO := woI0 fun i j => .bool (decide (j < i))
theorem s_lt : OpS c (rI0 fun i j => .bl (decide (i < j))) woLt := ops_I0 (fun _ _ _ _ _ => .bl _) fun _ _ => rfl
theorem s_gt : OpS c (rI0 fun i j => .bl (decide (j < i))) woGt := ops_I0 (fun _ _ _ _ _ => .bl _) fun _ _ => rfl
structure CmpOk (X : Cx) (c : Cn) (op : CmpOp) (wo : WO) : Prop where
  ok : ∃ r2, OpR X (compareOp op) r2 ∧ OpS c r2 wo
theorem c_lt : CmpOk X c .Lt woLt := ⟨_, op_lt, s_lt⟩
theorem c_gt : CmpOk X c .Gt woGt := ⟨_, op_gt, s_gt⟩
theorem c_eq {k : Nat} (hr : Room k X.A) (hK : c.K = X.K := by rfl) : CmpOk X c .Eq woEq := ⟨_, op_eq.or (op_eqD hr.units), by rw [← hK]; exact s_eq⟩
theorem c_ne {k : Nat} (hr : Room k X.A) (hK : c.K = X.K := by rfl) : CmpOk X c .NotEq woNe := ⟨_, op_ne.or (op_neD hr.units), by rw [← hK]; exact s_ne⟩
theorem ve_c {op : CmpOp} {wo : WO} (h : CmpOk X c op wo) (ha : PE X a (rdE c W wa)) (hb : PE X b (rdE c W wb)) (hm : behindInMarks op b = false := by first | exact nomark _ | with_unfolding_all rfl) : PE X (.Compare a [op] [b] pos) (rdE c W (wBin wo wa wb)) := by
  obtain ⟨r2, ho, hs⟩ := h.ok
  exact ve_cmp ho hs ha hb hm
theorem vt_c {op : CmpOp} {wo : WO} (h : CmpOk X c op wo) (ha : PE X a (rdE c W wa)) (hb : PE X b (rdE c W wb)) (hm : behindInMarks op b = false := by first | exact nomark _ | with_unfolding_all rfl) : PT X (.Compare a [op] [b] pos) (rdT c W (wTest (wBin wo wa wb))) := by
  obtain ⟨r2, ho, hs⟩ := h.ok
  exact vt_cmp ho hs ha hb hm
end
def wOr (w u : WT) : WT := fun env Q X => w env (fun b e => if b = true then Q true e else u e Q X) X
def wNot (w : WT) : WT := fun env Q X => w env (fun b e => Q (!b) e) X
def wAndV (wa wb : WE) : WE := fun env Q X => wa env (fun r e => ∃ b, r.d = .bool b ∧ if b = true then wb e Q X else Q ⟨.bool false, mA⟩ e) X
def wNotV (wa : WE) : WE := fun env Q X => wa env (fun r e => ∃ b, r.d = .bool b ∧ Q ⟨.bool (!b), mA⟩ e) X
section
variable {X : Cx} {c : Cn} {W : WX} {pos : Pos} {wa wb : WE} {w u : WT} {a b : Expr} {rest : List Expr}
theorem Kont.next {σ : Sg} {L L1 : List (List Addr)} {Tm la : List Addr} {H H1 : Hp} {env1 : VEnv} {Qv : R → VEnv → Prop} {Q : VK} (k : Kont c σ L Tm H Qv Q) (st : Step c H H1 (L.flatten ++ Tm) Tm L1 la env1 σ) : Kont c σ L1 Tm H1 Qv Q :=
  fun r v l L' env' H' q s r' => k r v l L' env' H' q (Step.then st (s.wider fun b hb => by rw [← List.append_assoc]; exact List.mem_append_left _ hb)) r'
theorem KontX.next {σ : Sg} {L L1 : List (List Addr)} {Tm la : List Addr} {H H1 : Hp} {env1 : VEnv} {X : Exn → VEnv → Prop} {W : WX} (k : KontX c σ L Tm H X W) (st : Step c H H1 (L.flatten ++ Tm) Tm L1 la env1 σ) : KontX c σ L1 Tm H1 X W :=
  fun ex cls d L' env' H' hx s e => k ex cls d L' env' H' hx (Step.then st (s.wider fun b hb => by rw [← List.append_assoc]; exact List.mem_append_left _ hb)) e
theorem vw_or1 (ha : PT X a (rdT c W w)) : PW X (.BoolOp .Or [a] pos) (rdT c W w) := pw_or1 ha
theorem vw_or (ha : PT X a (rdT c W w)) (hb : PW X (.BoolOp .Or (b :: rest) pos) (rdT c W u)) : PW X (.BoolOp .Or (a :: b :: rest) pos) (rdT c W (wOr w u)) := PW.imp (pw_or ha hb) fun σ H Q h => by
  obtain ⟨env, L, Tm, Qv, X, S, q, k, kx⟩ := h
  refine ⟨env, L, Tm, _, X, S, q, fun b L1 env1 H1 h1 st => ?_, kx⟩
  cases b with
  | false => exact ⟨env1, L1, Tm, Qv, X, st.sim0, h1, fun b L2 env2 H2 h2 st2 => k b L2 env2 H2 h2 (Step.then st (st2.wider fun b hb => by rw [← List.append_assoc]; exact List.mem_append_left _ hb)), kx.next st⟩
  | true => exact k true L1 env1 H1 h1 st
theorem vt_not (ha : PT X a (rdT c W w)) : PT X (.UnaryOp .Not a pos) (rdT c W (wNot w)) := PT.imp (pt_not ha) fun σ H Q h => by
  obtain ⟨env, L, Tm, Qv, X, S, q, k, kx⟩ := h
  exact ⟨env, L, Tm, _, X, S, q, fun b L1 env1 H1 h1 st => k (!b) L1 env1 H1 h1 st, kx⟩
theorem ve_one {op} (ha : PE X a (rdE c W wa)) : PE X (.BoolOp op [a] pos) (rdE c W wa) := pe_one ha
theorem ve_and (ha : PE X a (rdE c W wa)) (hb : PE X (.BoolOp .And (b :: rest) pos) (rdE c W wb)) : PE X (.BoolOp .And (a :: b :: rest) pos) (rdE c W (wAndV wa wb)) := PE.imp (pe_and ha hb) fun σ H Q h => by
  obtain ⟨env, L, Tm, Qv, X, S, q, k, kx⟩ := h
  refine ⟨env, L, Tm, _, X, S, q, fun r v l L1 env1 H1 ⟨b, e, h1⟩ st hr => ?_, kx⟩
  obtain ⟨d, m⟩ := r
  cases e
  have := hr.read
  cases this
  refine ⟨b, rfl, ?_⟩
  cases b with
  | true => exact ⟨env1, L1, Tm, Qv, X, st.sim0, h1, k.next st, kx.next st⟩
  | false => exact k _ _ [] L1 env1 H1 h1 st.drop (Res.flat (A := fun _ => True) (.bl _) rfl)
theorem ve_not (ha : PE X a (rdE c W wa)) : PE X (.UnaryOp .Not a pos) (rdE c W (wNotV wa)) := PE.imp (pe_not ha) fun σ H Q h => by
  obtain ⟨env, L, Tm, Qv, X, S, q, k, kx⟩ := h
  refine ⟨env, L, Tm, _, X, S, q, fun r v l L1 env1 H1 ⟨b, e, h1⟩ st hr => ?_, kx⟩
  obtain ⟨d, m⟩ := r
  cases e
  have := hr.read
  cases this
  exact ⟨b, rfl, k _ _ [] L1 env1 H1 h1 st.drop (Res.flat (A := fun _ => True) (.bl _) rfl)⟩
end
end VL
set_option maxRecDepth 100000
set_option maxHeartbeats 4000000
namespace VL
open PySem PySem.Spec PyProof.Rows L2
def NavP (H : Hp) : V → List Int → V → Prop
  | v, [], w => w = v
  | v, i :: p, w => ∃ a xs u, v = .ref a ∧ (H a = some (.lst xs) ∨ H a = some (.tup xs)) ∧ atI xs i = some u ∧ NavP H u p w
def depP : Option Nat → D → List Int → Option (Option Nat)
  | m, _, [] => some m
  | m, .list ds, i :: p => (popM m).bind fun n => (atI ds i).bind fun d => depP n d p
  | m, .tuple ds, i :: p => (atI ds i).bind fun d => depP m d p
  | _, _, _ => none
def getP : D → List Int → Option D
  | d, [] => some d
  | .list ds, i :: p => (atI ds i).bind fun d => getP d p
  | .tuple ds, i :: p => (atI ds i).bind fun d => getP d p
  | _, _ => none
def setP : D → List Int → D → Option D
  | _, [], e => some e
  | .list ds, i :: p, e => (ixN ds.length i).bind fun j => (ds[j]?).bind fun d => (setP d p e).map fun d' => .list (ds.set j d')
  | .tuple ds, i :: p, e => (ixN ds.length i).bind fun j => (ds[j]?).bind fun d => (setP d p e).map fun d' => .tuple (ds.set j d')
  | _, _, _ => none
section
variable {K : PySem.W.Frag} {A A' : Addr → Prop} {H H' : Hp}
theorem flat_kidsM {m : Option Nat} {xs : List V} {ds : List D} (h : RSs K A H xs ds) (f : flatAll ds = true) : ROs K A' H m xs ds [] := by
  induction xs generalizing ds with
  | nil => cases h; exact .nil
  | cons x xs ih =>
    cases h with
    | cons h r =>
      simp only [flatAll, Bool.and_eq_true] at f
      exact .cons (l1 := []) (l2 := []) (.flat (h.flat f.1) f.1) (ih r f.2)
theorem RO.tup_inv {m : Option Nat} {v : V} {ds : List D} {l : List Addr} (h : RO K A H m v (.tuple ds) l) : ∃ a xs, v = .ref a ∧ H a = some (.tup xs) ∧ ROs K A H m xs ds l := by
  generalize e : PyData.tuple ds = d at h
  cases h with
  | sh r => subst e; obtain ⟨a, xs, q, ha, r⟩ := r.tup_inv; exact ⟨a, xs, q, ha, ROs.toSh r⟩
  | flat r f => subst e; obtain ⟨a, xs, q, ha, r⟩ := r.tup_inv; exact ⟨a, xs, q, ha, flat_kidsM r (by simpa [flatD] using f)⟩
  | tup ha r => cases e; exact ⟨_, _, rfl, ha, r⟩
  | lst _ _ _ => cases e
  | dct _ _ _ _ => simp [mkDict] at e
theorem ROs.split : ∀ {m : Option Nat} {xs : List V} {ds : List D} {l : List Addr} {j : Nat} {d : D}, ROs K A H m xs ds l → ds[j]? = some d →
    ∃ u lj lr, xs[j]? = some u ∧ l.Perm (lr ++ lj) ∧ RO K A H m u d lj ∧
      ∀ (A' : Addr → Prop) (H' : Hp) (u' : V) (d' : D) (l' : List Addr), Kp A' H H' → (∀ b ∈ lr, ∀ o, H b = some o → H' b = some o) → (∀ b o, A b → H b = some o → A' b) → RO K A' H' m u' d' l' →
        ∃ l'', l''.Perm (lr ++ l') ∧ ROs K A' H' m (xs.set j u') (ds.set j d') l''
  | _, _, _, _, _, _, .nil, e => by simp at e
  | m, _, _, _, 0, _, .cons (l1 := l1) (l2 := l2) h r, e => by
    simp at e; subst e
    refine ⟨_, l1, l2, rfl, List.perm_append_comm, h, fun A' H' u' d' l' k q hA n => ⟨l' ++ l2, List.perm_append_comm, .cons n ?_⟩⟩
    exact ROs.keep k (ROs.mono hA r) q
  | m, _, _, _, j + 1, d, .cons (l1 := l1) (l2 := l2) h r, e => by
    obtain ⟨u, lj, lr, h1, h2, h3, h4⟩ := ROs.split (j := j) r (by simpa using e)
    refine ⟨u, lj, l1 ++ lr, by simpa using h1, ?_, h3, fun A' H' u' d' l' k q hA n => ?_⟩
    · rw [List.append_assoc]; exact h2.append_left _
    · obtain ⟨l'', p, n'⟩ := h4 A' H' u' d' l' k (fun b hb => q b (List.mem_append_right _ hb)) hA n
      refine ⟨l1 ++ l'', ?_, .cons (RO.keep k (RO.mono hA h) fun b hb => q b (List.mem_append_left _ hb)) n'⟩
      rw [List.append_assoc]; exact p.append_left _
theorem set_same {α : Type} : ∀ {xs : List α} {j : Nat} {u : α}, xs[j]? = some u → xs.set j u = xs
  | [], _, _, e => by simp at e
  | x :: xs, 0, u, e => by simp at e; subst e; rfl
  | x :: xs, j + 1, u, e => by simp at e; simp [set_same e]
theorem atI_ix {α : Type} {xs : List α} {i : Int} {x : α} (h : atI xs i = some x) : ∃ j, ixN xs.length i = some j ∧ xs[j]? = some x := by
  unfold atI at h
  cases hj : ixN xs.length i with
  | none => rw [hj] at h; cases h
  | some j => rw [hj] at h; exact ⟨j, rfl, h⟩
theorem atI_of {α : Type} {xs : List α} {i : Int} {x : α} {j n : Nat} (hn : xs.length = n) (h : ixN n i = some j) (e : xs[j]? = some x) : atI xs i = some x := by
  unfold atI
  rw [hn, h]
  exact e
theorem RO.path : ∀ (p : List Int) {m mp : Option Nat} {v : V} {d dp : D} {l : List Addr}, RO K A H m v d l → depP m d p = some mp → getP d p = some dp →
    ∃ vp lp lr, NavP H v p vp ∧ l.Perm (lr ++ lp) ∧ RO K A H mp vp dp lp ∧
      ∀ (A' : Addr → Prop) (H' : Hp) (dn : D) (ln : List Addr), Kp A' H H' → (∀ b ∈ lr, ∀ o, H b = some o → H' b = some o) → (∀ b o, A b → H b = some o → A' b) → RO K A' H' mp vp dn ln →
        ∃ d' l', setP d p dn = some d' ∧ l'.Perm (lr ++ ln) ∧ RO K A' H' m v d' l'
  | [], m, mp, v, d, dp, l, h, e, g => by
    simp only [depP, getP, Option.some.injEq] at e g
    subst e g
    exact ⟨v, l, [], rfl, by simp, h, fun A' H' dn ln _ _ _ n => ⟨dn, ln, rfl, by simp, n⟩⟩
  | i :: p, m, mp, v, .list ds, dp, l, h, e, g => by
    simp only [depP, Option.bind_eq_some_iff] at e
    simp only [getP, Option.bind_eq_some_iff] at g
    obtain ⟨n, hn, d, hd, e⟩ := e
    obtain ⟨d2, hd2, g⟩ := g
    rw [hd] at hd2; cases hd2
    obtain ⟨j, hj, hdj⟩ := atI_ix hd
    rcases h.lst_inv with ⟨rfl, _, _⟩ | ⟨n', a, xs, l', hn', rfl, ha, r, rfl⟩
    · cases hn
    · rw [hn] at hn'; cases hn'
      obtain ⟨u, lj, lr, h1, h2, h3, h4⟩ := r.split hdj
      obtain ⟨vp, lp, lr2, q1, q2, q3, q4⟩ := RO.path p h3 e g
      refine ⟨vp, lp, a :: (lr ++ lr2), ⟨a, xs, u, rfl, .inl ha, atI_of r.len hj h1, q1⟩, ?_, q3, fun A' H' dn ln k q hA n => ?_⟩
      · have := h2.trans (q2.append_left lr)
        rw [← List.append_assoc] at this
        exact this.cons a
      · obtain ⟨d', l1, s1, p1, r1⟩ := q4 A' H' dn ln k (fun b hb => q b (List.mem_cons_of_mem _ (List.mem_append_right _ hb))) hA n
        obtain ⟨l2, p2, r2⟩ := h4 A' H' u d' l1 k (fun b hb => q b (List.mem_cons_of_mem _ (List.mem_append_left _ hb))) hA r1
        rw [set_same h1] at r2
        refine ⟨.list (ds.set j d'), a :: l2, ?_, ?_, .lst hn (q a List.mem_cons_self _ ha) r2⟩
        · simp only [setP, hj, hdj, s1, Option.bind_some, Option.map_some]
        · have := p2.trans (p1.append_left lr)
          rw [← List.append_assoc] at this
          exact this.cons a
  | i :: p, m, mp, v, .tuple ds, dp, l, h, e, g => by
    simp only [depP, Option.bind_eq_some_iff] at e
    simp only [getP, Option.bind_eq_some_iff] at g
    obtain ⟨d, hd, e⟩ := e
    obtain ⟨d2, hd2, g⟩ := g
    rw [hd] at hd2; cases hd2
    obtain ⟨j, hj, hdj⟩ := atI_ix hd
    obtain ⟨a, xs, rfl, ha, r⟩ := h.tup_inv
    obtain ⟨u, lj, lr, h1, h2, h3, h4⟩ := r.split hdj
    obtain ⟨vp, lp, lr2, q1, q2, q3, q4⟩ := RO.path p h3 e g
    refine ⟨vp, lp, lr ++ lr2, ⟨a, xs, u, rfl, .inr ha, atI_of r.len hj h1, q1⟩, ?_, q3, fun A' H' dn ln k q hA n => ?_⟩
    · have := h2.trans (q2.append_left lr)
      rw [← List.append_assoc] at this
      exact this
    · obtain ⟨d', l1, s1, p1, r1⟩ := q4 A' H' dn ln k (fun b hb => q b (List.mem_append_right _ hb)) hA n
      obtain ⟨l2, p2, r2⟩ := h4 A' H' u d' l1 k (fun b hb => q b (List.mem_append_left _ hb)) hA r1
      rw [set_same h1] at r2
      refine ⟨.tuple (ds.set j d'), l2, ?_, ?_, .tup (k.tup _ _ ha) r2⟩
      · simp only [setP, hj, hdj, s1, Option.bind_some, Option.map_some]
      · have := p2.trans (p1.append_left lr)
        rw [← List.append_assoc] at this
        exact this
theorem ROs.append {m : Option Nat} {xs ys : List V} {ds es : List D} {l l' : List Addr} (h : ROs K A H m xs ds l) (r : ROs K A H m ys es l') : ROs K A H m (xs ++ ys) (ds ++ es) (l ++ l') := by
  induction xs generalizing ds l with
  | nil => cases h; exact r
  | cons x xs ih =>
    cases h with
    | cons h1 h2 => rw [List.append_assoc]; exact .cons h1 (ih h2)
theorem NavP.keep (s : Same H H') : ∀ {p : List Int} {v w : V}, NavP H v p w → NavP H' v p w
  | [], _, _, h => h
  | _ :: _, _, _, ⟨a, xs, u, e, h1, h2, h3⟩ => ⟨a, xs, u, e, h1.imp (s _ _) (s _ _), h2, NavP.keep s h3⟩
theorem NavP.inj : ∀ {p : List Int} {v w w' : V}, NavP H v p w → NavP H v p w' → w' = w
  | [], _, _, _, h, h' => by cases h; exact h'
  | _ :: _, _, _, _, ⟨a, xs, u, e, h1, h2, h3⟩, ⟨a', xs', u', e', h1', h2', h3'⟩ => by
    subst e
    cases e'
    have : xs = xs' := by
      rcases h1 with h1 | h1 <;> rcases h1' with h1' | h1' <;> rw [h1] at h1' <;> cases h1' <;> rfl
    subst this
    rw [h2] at h2'; cases h2'
    exact NavP.inj h3 h3'
theorem NavP.snoc : ∀ {p : List Int} {v w u : V} {a : Addr} {xs : List V} {i : Int}, NavP H v p w → w = .ref a → (H a = some (.lst xs) ∨ H a = some (.tup xs)) → atI xs i = some u → NavP H v (p ++ [i]) u
  | [], v, w, u, a, xs, i, h, e, h1, h2 => by
    have : w = v := h
    subst this
    exact ⟨a, xs, u, e, h1, h2, rfl⟩
  | _ :: _, v, w, u, a, xs, i, ⟨b, ys, z, e0, g1, g2, g3⟩, e, h1, h2 => ⟨b, ys, z, e0, g1, g2, NavP.snoc g3 e h1 h2⟩
theorem RS.nav : ∀ {p : List Int} {v : V} {d dp : D}, RS K A H v d → getP d p = some dp → ∃ w, NavP H v p w ∧ RS K A H w dp
  | [], v, d, dp, h, e => by simp [getP] at e; subst e; exact ⟨v, rfl, h⟩
  | i :: p, v, .list ds, dp, h, e => by
    simp only [getP, Option.bind_eq_some_iff] at e
    obtain ⟨d, hd, e⟩ := e
    obtain ⟨a, xs, rfl, ha, _, r⟩ := h.lst_inv
    obtain ⟨j, hj, hdj⟩ := atI_ix hd
    obtain ⟨u, hu, ru⟩ := r.get hdj
    obtain ⟨w, n, rw⟩ := RS.nav ru e
    exact ⟨w, ⟨a, xs, u, rfl, .inl ha, atI_of r.len hj hu, n⟩, rw⟩
  | i :: p, v, .tuple ds, dp, h, e => by
    simp only [getP, Option.bind_eq_some_iff] at e
    obtain ⟨d, hd, e⟩ := e
    obtain ⟨a, xs, rfl, ha, r⟩ := h.tup_inv
    obtain ⟨j, hj, hdj⟩ := atI_ix hd
    obtain ⟨u, hu, ru⟩ := r.get hdj
    obtain ⟨w, n, rw⟩ := RS.nav ru e
    exact ⟨w, ⟨a, xs, u, rfl, .inr ha, atI_of r.len hj hu, n⟩, rw⟩
  | i :: p, v, .none, dp, h, e => by simp [getP] at e
  | i :: p, v, .bool _, dp, h, e => by simp [getP] at e
  | i :: p, v, .int _, dp, h, e => by simp [getP] at e
  | i :: p, v, .str _, dp, h, e => by simp [getP] at e
  | i :: p, v, .dict _, dp, h, e => by simp [getP] at e
end
def killB (env : VEnv) : VEnv := env.map fun s => match s with
  | some (_, .b) => none
  | s => s
section
variable {c : Cn} {L : List (List Addr)} {T T' Tm l : List Addr} {env : VEnv} {σ : Sg} {H H' : Hp} {a : Addr}
theorem Slots.change {i : Nat} {d : D} {m : Option Nat} {v : V} {li : List Addr} (h : Slots c T H env σ L) (hv : σ[i]? = some (some v)) (hL : L[i]? = some l)
    (keep : ∀ (k : Nat) (lk : List Addr) (d : D) (m : Option Nat) (v : V), k ≠ i → L[k]? = some lk → RO c.K (AT c.B T) H m v d lk → RO c.K (AT c.B T') H' m v d lk)
    (new : RO c.K (AT c.B T') H' m v d li) : Slots c T' H' (killB (env.set i (some (d, .o m)))) σ (L.set i li) := by
  induction h generalizing i with
  | nil => simp at hv
  | @non e x σ L h ih => cases i with
    | zero =>
      simp at hv
      subst hv
      exact .own new (rest h fun k lk d m v e r => keep (k + 1) lk d m v (by omega) (by simpa using e) r)
    | succ i => exact .non (ih (by simpa using hv) (by simpa using hL) fun k lk d m v hk e r => keep (k + 1) lk d m v (by omega) (by simpa using e) r)
  | @bor e d0 v0 σ L r h ih => cases i with
    | zero =>
      simp at hv
      subst hv
      exact .own new (rest h fun k lk d m v e r => keep (k + 1) lk d m v (by omega) (by simpa using e) r)
    | succ i => exact .non (ih (by simpa using hv) (by simpa using hL) fun k lk d m v hk e r => keep (k + 1) lk d m v (by omega) (by simpa using e) r)
  | @own e d0 m0 v0 l0 σ L r h ih => cases i with
    | zero =>
      simp at hv
      subst hv
      exact .own new (rest h fun k lk d m v e r => keep (k + 1) lk d m v (by omega) (by simpa using e) r)
    | succ i => exact .own (keep 0 l0 d0 m0 v0 (by omega) rfl r) (ih (by simpa using hv) (by simpa using hL) fun k lk d m v hk e r => keep (k + 1) lk d m v (by omega) (by simpa using e) r)
where
  rest {env : VEnv} {σ : Sg} {L : List (List Addr)} (h : Slots c T H env σ L)
      (keep : ∀ (k : Nat) (lk : List Addr) (d : D) (m : Option Nat) (v : V), L[k]? = some lk → RO c.K (AT c.B T) H m v d lk → RO c.K (AT c.B T') H' m v d lk) : Slots c T' H' (killB env) σ L := by
    induction h with
    | nil => exact .nil
    | non h ih => exact .non (ih fun k lk d m v e r => keep (k + 1) lk d m v (by simpa using e) r)
    | bor r h ih => exact .non (ih fun k lk d m v e r => keep (k + 1) lk d m v (by simpa using e) r)
    | own r h ih => exact .own (keep 0 _ _ _ _ rfl r) (ih fun k lk d m v e r => keep (k + 1) lk d m v (by simpa using e) r)
theorem mem_flatten_of {L : List (List Addr)} {k : Nat} {lk : List Addr} (e : L[k]? = some lk) {b : Addr} (hb : b ∈ lk) : b ∈ L.flatten := List.mem_flatten.mpr ⟨lk, List.mem_of_getElem? e, hb⟩
theorem apart_of {L : List (List Addr)} {i k : Nat} {li lk : List Addr} (nd : L.flatten.Nodup) (hi : L[i]? = some li) (hk : L[k]? = some lk) (n : k ≠ i) {b : Addr} (h1 : b ∈ li) (h2 : b ∈ lk) : False := by
  induction L generalizing i k with
  | nil => simp at hi
  | cons x L ih =>
    rw [List.flatten_cons] at nd
    have nd' := List.nodup_append.mp nd
    cases i with
    | zero =>
      simp at hi; subst hi
      cases k with
      | zero => exact n rfl
      | succ k => exact nd'.2.2 b h1 b (mem_flatten_of (by simpa using hk) h2) rfl
    | succ i =>
      cases k with
      | zero => simp at hk; subst hk; exact nd'.2.2 b h2 b (mem_flatten_of (by simpa using hi) h1) rfl
      | succ k => exact ih nd'.2.1 (by simpa using hi) (by simpa using hk) (by omega)
theorem Sim.change {i : Nat} {d : D} {m : Option Nat} {v : V} {li : List Addr} {o o' : HO} (S : Sim c L Tm env σ H) (hv : σ[i]? = some (some v)) (hL : L[i]? = some l) (ha : a ∈ l) (ho : H a = some o) (mo : mutO o)
    (new : RO c.K (AT c.B (L.set i li).flatten) (upd H a o') m v d li) (sub : ∀ b ∈ li, b ∈ l ∨ b ∈ Tm) (nd : li.Nodup) : Sim c (L.set i li) [] (killB (env.set i (some (d, .o m)))) σ (upd H a o') := by
  have ndL := (List.nodup_append.mp S.nd).1
  have haT : a ∈ L.flatten ++ Tm := List.mem_append_left _ (mem_flatten_of hL ha)
  have p1 := flatten_set hL
  have p2 : ((L.set i li).flatten).Perm ((L.set i []).flatten ++ li) := by
    have hi : i < L.length := (List.getElem?_eq_some_iff.mp hL).1
    have := flatten_set (L := L.set i li) (i := i) (l := li) (by simp [hi])
    rw [List.set_set] at this
    exact this.symm
  have memT : ∀ b ∈ (L.set i li).flatten, b ∈ L.flatten ++ Tm := fun b hb => by
    rcases List.mem_append.mp (p2.mem_iff.mp hb) with z | z
    · exact List.mem_append_left _ (p1.mem_iff.mp (List.mem_append_left _ z))
    · rcases sub b z with z | z
      · exact List.mem_append_left _ (mem_flatten_of hL z)
      · exact List.mem_append_right _ z
  have kp : Kp (AT c.B (L.flatten ++ Tm)) H (upd H a o') := Kp.write ho mo fun z => z.2 haT
  refine ⟨?_, ?_, fun b hb => ?_, fun b u e r => ?_, fun p hp => ((S.hd p hp).keep kp).mono fun b o a _ => AT.less (fun b hb => memT b (by rwa [List.append_nil] at hb)) a, S.pin⟩
  · rw [List.append_nil]
    refine S.sl.change hv hL (fun k lk d m v hk e r => ?_) new
    have r' := RO.keep kp r fun b hb u q => by rw [upd_ne (fun z => by subst z; exact apart_of ndL hL e hk ha hb)]; exact q
    exact RO.mono (fun b u x _ => AT.less memT x) r'
  · rw [List.append_nil]
    refine p2.nodup_iff.mpr (List.nodup_append.mpr ⟨?_, nd, fun b hb b' hb' z => ?_⟩)
    · exact (List.nodup_append.mp (p1.nodup_iff.mpr ndL)).1
    · subst z
      rcases sub b hb' with z | z
      · exact (List.nodup_append.mp (p1.nodup_iff.mpr ndL)).2.2 b hb b z rfl
      · exact (List.nodup_append.mp S.nd).2.2 b (p1.mem_iff.mp (List.mem_append_left _ hb)) b z rfl
  · rw [List.append_nil] at hb
    obtain ⟨q, u, e⟩ := S.own b (memT b hb)
    refine ⟨q, ?_⟩
    by_cases z : b = a
    · subst z; exact ⟨_, upd_same⟩
    · exact ⟨u, by rw [upd_ne z]; exact e⟩
  · have := S.fr b u e r
    rw [upd_ne (fun z => ?_)]
    · exact this
    · subst z
      rcases (S.own b haT).1 with z | z
      · rw [z] at e; cases e
      · exact r z
end
end VL
set_option maxRecDepth 100000
set_option maxHeartbeats 4000000
namespace VL
open PySem PySem.Spec PyProof.Rows L2
abbrev WP := VEnv → (Nat → List Int → VEnv → Prop) → (Exn → VEnv → Prop) → Prop
def rdP (c : Cn) (W : WX) (w : WP) : TE := fun σ H Q => ∃ env L Tm Qv X, Sim c L Tm env σ H ∧ w env Qv X ∧
  (∀ i p v v0 L' env' H', Qv i p env' → Step c H H' (L.flatten ++ Tm) Tm L' [] env' σ → σ[i]? = some (some v0) → NavP H' v0 p v → Q v H') ∧ KontX c σ L Tm H X W
def wPVar (i : Nat) : WP := fun env Q _ => (∃ s, env[i]? = some (some s)) ∧ Q i [] env
section
variable {X : Cx} {c : Cn} {W : WX} {pos : Pos} {wp : WP} {wi : WE} {o i : Expr}
theorem vp_var (i : Nat) {x : Str} (hN : X.N[i]? = some x := by rfl) (hv : Vis X.env.scope x := by first | exact Or.inl rfl | exact Or.inr (Or.inl rfl) | exact Or.inr (Or.inr rfl)) (hd : (x == ("__debug__" : Str)) = false := by decide)
    (hcd : (x == ("__classdict__" : Str)) = false := by decide) : PE X (.Name x pos) (rdP c W (wPVar i)) := PE.imp (pe_var hN hv hd hcd) fun σ H Q h => by
  obtain ⟨env, L, Tm, Qv, X, S, ⟨⟨⟨d, m⟩, e⟩, q⟩, k, _⟩ := h
  obtain ⟨v, l, hv, hl, r⟩ := S.sl.get e
  exact ⟨v, hv, k i [] v v L env H q (Step.refl S) hv rfl⟩
end
structure DV where
  nx : VEnv → Prop
  rt : R → VEnv → Prop
  ex : Exn → VEnv → Prop
abbrev WS := VEnv → DV → Prop
structure Ret (c : Cn) (r : R) (v : V) (l : List Addr) (H : Hp) (env : VEnv) : Prop where
  fr : ∀ b o, c.H0 b = some o → b ∉ c.rw → H b = some o
  nd : l.Nodup
  own : ∀ b ∈ l, c.Own b ∧ ∃ o, H b = some o
  res : Res c l H r v l
  sim : ∃ L σ, Sim c L l env σ H ∧ Res c (L.flatten ++ l) H r v l
def rdS (c : Cn) (W : WX) (w : WS) : TS := fun D σ H => ∃ env L Dv, Sim c L [] env σ H ∧ w env Dv ∧
  (∀ env' L' σ' H', Dv.nx env' → Sim c L' [] env' σ' H' → D.nx σ' H') ∧
  (∀ r v l H' e, Dv.rt r e → Ret c r v l H' e → D.rt v H') ∧
  (∀ ex env' L' σ' H' cls d, Dv.ex ex env' → Sim c L' [] env' σ' H' → ExR c H' ex cls d → W cls d σ' H')
section
variable {X : Cx} {c : Cn} {W : WX} {pos : Pos} {w u : WS} {we : WE} {e : Expr} {st : Stmt} {rest : List Stmt}
theorem rd_first {σ : Sg} {H : Hp} {Q : VK} {env : VEnv} {L : List (List Addr)} {Dv : DV} {Qv : R → VEnv → Prop} (S : Sim c L [] env σ H) (hw : we env Qv (fun ex e => Dv.ex ex e))
    (hx : ∀ ex env' L' σ' H' cls d, Dv.ex ex env' → Sim c L' [] env' σ' H' → ExR c H' ex cls d → W cls d σ' H')
    (k : ∀ r v l L' env' H', Qv r env' → Sim c L' l env' σ H' → Res c (L'.flatten ++ l) H' r v l → Q v H') : rdE c W we σ H Q :=
  ⟨env, L, [], Qv, _, S, hw, fun r v l L' env' H' q st hr => k r v l L' env' H' q st.sim hr, fun ex cls d L' env' H' hq st he => hx ex env' L' σ H' cls d hq st.sim0 he⟩
def wNext : WS := fun env Dv => Dv.nx env
def wSeq (w u : WS) : WS := fun env Dv => w env { Dv with nx := fun e => u e Dv }
theorem vss_nil : PSs X [] (rdS c W wNext) := PSs.imp pss_nil fun D σ H h => by
  obtain ⟨env, L, Dv, S, q, k, _, _⟩ := h
  exact k env L σ H q S
theorem vss_cons (h1 : PS X st (rdS c W w)) (h2 : PSs X rest (rdS c W u)) : PSs X (st :: rest) (rdS c W (wSeq w u)) := PSs.imp (pss_cons h1 h2) fun D σ H h => by
  obtain ⟨env, L, Dv, S, q, k, kr, kx⟩ := h
  exact ⟨env, L, _, S, q, fun env' L' σ' H' h' S' => ⟨env', L', Dv, S', h', k, kr, kx⟩, kr, kx⟩
theorem Slots.put {T T' : List Addr} {H : Hp} {env : VEnv} {σ : Sg} {L : List (List Addr)} {i : Nat} {d : D} {m : Md} {v : V} {l : List Addr} (h : Slots c T H env σ L) (r : Res c T H ⟨d, m⟩ v l) (s : ∀ b ∈ T', b ∈ T) : Slots c T' H (env.set i (some (d, m))) (σ.set i (some v)) (L.set i l) := by
  have hk := h.keep (T' := T') (Same.refl H) fun b hb => .inl (s b hb)
  have rk := r.keep (T' := T') (Same.refl H) fun b hb => .inl (s b hb)
  clear h r
  induction hk generalizing i with
  | nil => exact .nil
  | non h ih => cases i with
    | zero => exact fin rk h
    | succ i => exact .non ih
  | bor r0 h ih => cases i with
    | zero => exact fin rk h
    | succ i => exact .bor r0 ih
  | own r0 h ih => cases i with
    | zero => exact fin rk h
    | succ i => exact .own r0 ih
where
  fin {T : List Addr} {H : Hp} {env : VEnv} {σ : Sg} {L : List (List Addr)} {d : D} {m : Md} {v : V} {l : List Addr} (r : Res c T H ⟨d, m⟩ v l) (h : Slots c T H env σ L) : Slots c T H (some (d, m) :: env) (some v :: σ) (l :: L) := by
    cases m with
    | b => obtain ⟨r, e⟩ := r; subst e; exact .bor r h
    | o m => exact .own r h
theorem flatten_put {L : List (List Addr)} {i : Nat} {l l0 : List Addr} (e : L[i]? = some l0) : ((L.set i l).flatten).Perm ((L.set i []).flatten ++ l) := by
  have hi : i < L.length := (List.getElem?_eq_some_iff.mp e).1
  have := flatten_set (L := L.set i l) (i := i) (l := l) (by simp [hi])
  rw [List.set_set] at this
  exact this.symm
def PinF (c : Cn) (is : List Nat) : Prop := ∀ p ∈ c.pin, p.1 ∉ is
theorem pinF_nil {c : Cn} {is : List Nat} (h : c.pin = []) : PinF c is := fun p hp => by rw [h] at hp; cases hp
theorem pinF_one {c : Cn} {is : List Nat} {j : Nat} {v : V} (h : c.pin = [(j, v)]) (hj : j ∉ is) : PinF c is := fun p hp => by
  rw [h] at hp
  rw [List.mem_singleton.mp hp]; exact hj
theorem PinF.sub {c : Cn} {is js : List Nat} (h : PinF c is) (s : ∀ i ∈ js, i ∈ is) : PinF c js := fun p hp z => h p hp (s _ z)
theorem PinF.set {c : Cn} {i : Nat} {σ : Sg} {x : Option V} (h : PinF c [i]) (s : ∀ p ∈ c.pin, σ[p.1]? = some (some p.2)) : ∀ p ∈ c.pin, (σ.set i x)[p.1]? = some (some p.2) := fun p hp => by
  rw [List.getElem?_set_ne (fun e => h p hp (by rw [e]; exact List.mem_singleton.mpr rfl))]
  exact s p hp
theorem Sim.put {σ : Sg} {H : Hp} {env : VEnv} {L : List (List Addr)} {i : Nat} {r : R} {v : V} {l Tm : List Addr} (S : Sim c L (Tm ++ l) env σ H) (hr : Res c (L.flatten ++ (Tm ++ l)) H r v l) (pf : PinF c [i]) : ∃ L', Sim c L' Tm (env.set i (some (r.d, r.m))) (σ.set i (some v)) H ∧ ∀ b ∈ L'.flatten ++ Tm, b ∈ L.flatten ++ (Tm ++ l) := by
  obtain ⟨d, m⟩ := r
  obtain ⟨len1, len2⟩ := S.sl.len
  by_cases hi : i < L.length
  · obtain ⟨l0, e0⟩ : ∃ l0, L[i]? = some l0 := ⟨L[i], List.getElem?_eq_getElem hi⟩
    have p1 := flatten_set e0
    have p2 := flatten_put (l := l) e0
    have sub : ∀ b ∈ (L.set i l).flatten ++ Tm, b ∈ L.flatten ++ (Tm ++ l) := fun b hb => by
      rcases List.mem_append.mp hb with z | z
      · rcases List.mem_append.mp (p2.mem_iff.mp z) with z | z
        · exact List.mem_append_left _ (p1.mem_iff.mp (List.mem_append_left _ z))
        · exact List.mem_append_right _ (List.mem_append_right _ z)
      · exact List.mem_append_right _ (List.mem_append_left _ z)
    refine ⟨L.set i l, ⟨S.sl.put hr sub, ?_, fun a ha => S.own a (sub a ha), S.fr, fun p hp => (S.hd p hp).mono fun b o a _ => AT.less sub a, pf.set S.pin⟩, sub⟩
    have nd := S.nd
    have nd1 : (L.flatten ++ (Tm ++ l)).Perm (((L.set i []).flatten ++ l0) ++ (l ++ Tm)) := p1.symm.append List.perm_append_comm
    have nd2 := nd1.nodup_iff.mp nd
    have sl : ((L.set i []).flatten ++ (l ++ Tm)).Sublist (((L.set i []).flatten ++ l0) ++ (l ++ Tm)) := (List.sublist_append_left _ _).append (List.Sublist.refl _)
    have nd3 := nd2.sublist sl
    refine (List.Perm.nodup_iff ?_).mpr nd3
    rw [← List.append_assoc]
    exact p2.append_right Tm
  · have e1 : env.set i (some (d, m)) = env := List.set_eq_of_length_le (by omega)
    have e2 : σ.set i (some v) = σ := List.set_eq_of_length_le (by omega)
    rw [e1, e2]
    exact ⟨L, S.drop, fun b hb => by rw [← List.append_assoc]; exact List.mem_append_left _ hb⟩
def wSet (i : Nat) (we : WE) : WS := fun env Dv => we env (fun r e => Dv.nx (e.set i (some (r.d, r.m)))) Dv.ex
theorem vs_set {i : Nat} {x : Str} {pos' : Pos} (he : PE X e (rdE c W we)) (hN : X.N.Nodup) (hi : X.N[i]? = some x := by rfl) (hx : Loc X.env.scope x := by first | exact .inl rfl | exact .inr rfl) (hs : swapsWith e (some (.Name x pos')) pos.line X.env = pure false := by rfl)
    (hf : X.fn x = true ∨ X.env.scope.names.lookup x = some .local := by first | exact .inl rfl | exact .inr rfl | assumption) (pf : PinF c [i] := by first | exact pinF_nil rfl | exact pinF_one rfl (by decide) | assumption) : PS X (.Assign [.Name x pos'] e pos) (rdS c W (wSet i we)) := PS.imp (ps_set hN hi hx he hs hf) fun D σ H h => by
  obtain ⟨env, L, Dv, S, q, k, kr, kx⟩ := h
  refine rd_first S q kx fun r v l L' env' H' hq S' hr => ?_
  obtain ⟨L2, S2, _⟩ := Sim.put (Tm := []) (i := i) (l := l) (r := r) S' hr pf
  exact k _ L2 _ H' hq S2
def wRet (we : WE) : WS := fun env Dv => we env (fun r e => isB r.m = false ∧ Dv.rt r e) Dv.ex
theorem vs_ret (he : PE X e (rdE c W we)) : PS X (.Return (some e) pos) (rdS c W (wRet we)) := PS.imp (ps_ret he) fun D σ H h => by
  obtain ⟨env, L, Dv, S, q, k, kr, kx⟩ := h
  refine rd_first S q kx fun r v l L' env' H' ⟨hb, hq⟩ S' hr => ?_
  refine kr r v l H' env' hq ⟨S'.fr, ?_, fun b hb => S'.own b (List.mem_append_right _ hb), ?_, L', σ, S', hr⟩
  · exact (List.nodup_append.mp S'.nd).2.1
  · exact hr.keep (Same.refl _) fun b hb => .inl (List.mem_append_right _ hb)
def wExpr (we : WE) : WS := fun env Dv => we env (fun _ e => Dv.nx e) Dv.ex
theorem vs_expr (he : PE X e (rdE c W we)) (hs : swapsWith e none pos.line X.env = pure false := by rfl) : PS X (.Expr e pos) (rdS c W (wExpr we)) := PS.imp (ps_expr he hs) fun D σ H h => by
  obtain ⟨env, L, Dv, S, q, k, kr, kx⟩ := h
  exact rd_first S q kx fun r v l L' env' H' hq S' hr => k _ L' _ H' hq (Sim.drop (Tm := []) (l := l) S')
def wIf (t : WT) (w u : WS) : WS := fun env Dv => t env (fun b e => if b = true then w e Dv else u e Dv) Dv.ex
theorem vs_if {t : Expr} {a b : List Stmt} {wt : WT} (ht : PT X t (rdT c W wt)) (ha : PSs X a (rdS c W w)) (hb : PSs X b (rdS c W u)) : PS X (.If t a b pos) (rdS c W (wIf wt w u)) := PS.imp (ps_if ht ha hb) fun D σ H h => by
  obtain ⟨env, L, Dv, S, q, k, kr, kx⟩ := h
  refine ⟨env, L, [], _, _, S, q, fun b L' env' H' hq st => ?_, fun ex cls d L' env' H' hq st he => kx ex env' L' σ H' cls d hq st.sim0 he⟩
  cases b with
  | true => exact ⟨env', L', Dv, st.sim0, hq, k, kr, kx⟩
  | false => exact ⟨env', L', Dv, st.sim0, hq, k, kr, kx⟩
end
end VL
set_option maxRecDepth 100000
set_option maxHeartbeats 4000000
namespace VL
open PySem PySem.Spec PyProof.Rows L2
section
variable {c : Cn} {L : List (List Addr)} {l : List Addr} {env : VEnv} {σ : Sg} {H : Hp}
theorem Sim.mutL {i : Nat} {p : List Int} {d : D} {m mp n : Option Nat} {v v0 : V} {ds : List D} (S : Sim c L l env σ H) (e : env[i]? = some (some (d, .o m))) (hv : σ[i]? = some (some v0)) (nav : NavP H v0 p v)
    (g : getP d p = some (.list ds)) (dp : depP m d p = some mp) (pn : popM mp = some n) :
    ∃ a xs, v = .ref a ∧ H a = some (.lst xs) ∧ xs.length = ds.length ∧ RSs c.K (fun _ => True) H xs ds ∧
      ∀ xs' ds' d', (∀ lk, ROs c.K (AT c.B (L.flatten ++ l)) H n xs ds lk → lk.Nodup → (∀ b ∈ lk, c.B b ∧ b ∉ l) → ∃ lk', (∀ b ∈ lk', b ∈ lk ∨ b ∈ l) ∧ lk'.Nodup ∧
            ∀ T', (∀ b ∈ T', b ∈ L.flatten ++ l) → (∀ b ∈ l ++ lk, b ∈ T' → b ∈ lk') → ∃ lk2 : List Addr, lk2.Perm lk' ∧ ROs c.K (AT c.B T') H n xs' ds' lk2) →
        setP d p (.list ds') = some d' → ∃ L', Sim c L' [] (killB (env.set i (some (d', .o m)))) σ (upd H a (.lst xs')) := by
  obtain ⟨v1, li, hv1, hL, r⟩ := S.sl.get e
  rw [hv] at hv1; cases hv1
  obtain ⟨vp, lp, lr, nav', pm, rp, up⟩ := RO.path p r.dep dp g
  have := nav'.inj nav
  subst this
  rcases rp.lst_inv with ⟨rfl, _, _⟩ | ⟨n', a, xs, lk, hn', rfl, ha, rk, rfl⟩
  · cases pn
  rw [pn] at hn'; cases hn'
  refine ⟨a, xs, rfl, ha, rk.len, ROs.share (ROs.mono (fun _ _ _ _ => trivial) rk) fun _ _ => trivial, fun xs' ds' d' hk hs => ?_⟩
  have ndT := S.nd
  have ndL : L.flatten.Nodup := (List.nodup_append.mp ndT).1
  have liT : ∀ b ∈ li, b ∈ L.flatten := fun b hb => mem_flatten_of hL hb
  have ndli : li.Nodup := by
    have p1 := flatten_set hL
    exact (List.nodup_append.mp (p1.nodup_iff.mpr ndL)).2.1
  have nd2 : (lr ++ (a :: lk)).Nodup := pm.nodup_iff.mp ndli
  have nd3 := List.nodup_append.mp nd2
  have nd4 := List.nodup_cons.mp nd3.2.1
  have inli : ∀ b ∈ lr ++ (a :: lk), b ∈ li := fun b hb => pm.mem_iff.mpr hb
  have notl : ∀ b ∈ li, b ∉ l := fun b hb z => (List.nodup_append.mp ndT).2.2 b (liT b hb) b z rfl
  obtain ⟨lk', sub, ndk, mk⟩ := hk lk rk nd4.2 fun b hb => by
    have hb' := inli b (List.mem_append_right _ (List.mem_cons_of_mem _ hb))
    exact ⟨.inr (S.own b (List.mem_append_left _ (liT b hb'))).1, notl b hb'⟩
  have ali : a ∈ li := inli a (by simp)
  have hi : i < L.length := (List.getElem?_eq_some_iff.mp hL).1
  have ndn : (lr ++ (a :: lk')).Nodup := by
    refine List.nodup_append.mpr ⟨nd3.1, List.nodup_cons.mpr ⟨fun z => ?_, ndk⟩, fun b hb b' hb' z => ?_⟩
    · rcases sub a z with z | z
      · exact nd4.1 z
      · exact notl a ali z
    · subst z
      rcases List.mem_cons.mp hb' with z | z
      · subst z; exact nd3.2.2 b hb b (by simp) rfl
      · rcases sub b z with z | z
        · exact nd3.2.2 b hb b (by simp [z]) rfl
        · exact notl b (inli b (List.mem_append_left _ hb)) z
  have memT : ∀ b ∈ (L.set i (lr ++ (a :: lk'))).flatten, b ∈ L.flatten ++ l := fun b hb => by
    rcases List.mem_append.mp ((flatten_put hL).mem_iff.mp hb) with z | z
    · exact List.mem_append_left _ ((flatten_set hL).mem_iff.mp (List.mem_append_left _ z))
    · rcases List.mem_append.mp z with z | z
      · exact List.mem_append_left _ (liT b (inli b (List.mem_append_left _ z)))
      · rcases List.mem_cons.mp z with z | z
        · subst z; exact List.mem_append_left _ (liT b ali)
        · rcases sub b z with z | z
          · exact List.mem_append_left _ (liT b (inli b (by simp [z])))
          · exact List.mem_append_right _ z
  have aT : a ∈ (L.set i (lr ++ (a :: lk'))).flatten := (flatten_put hL).mem_iff.mpr (by simp)
  obtain ⟨lk2, pk, kids⟩ := mk _ memT fun b hb hb' => by
    rcases List.mem_append.mp ((flatten_put hL).mem_iff.mp hb') with z | z
    · -- in another slot
      exfalso
      rcases List.mem_append.mp hb with y | y
      · exact (List.nodup_append.mp ndT).2.2 b ((flatten_set hL).mem_iff.mp (List.mem_append_left _ z)) b y rfl
      · have p1 := flatten_set hL
        exact (List.nodup_append.mp (p1.nodup_iff.mpr ndL)).2.2 b z b (inli b (by simp [y])) rfl
    · rcases List.mem_append.mp hb with y | y
      · rcases List.mem_append.mp z with z | z
        · exact absurd y (notl b (inli b (List.mem_append_left _ z)))
        · rcases List.mem_cons.mp z with z | z
          · subst z; exact absurd y (notl b ali)
          · exact z
      · rcases List.mem_append.mp z with z | z
        · exact absurd rfl (nd3.2.2 b z b (by simp [y]))
        · rcases List.mem_cons.mp z with z | z
          · subst z; exact absurd y nd4.1
          · exact z
  have kp : Kp (AT c.B (L.set i (lr ++ (a :: lk'))).flatten) H (upd H a (.lst xs')) := Kp.write ha trivial fun z => z.2 aT
  have ne : ∀ b, b ≠ a → ∀ o, H b = some o → (upd H a (.lst xs')) b = some o := fun b hb o q => by rw [upd_ne hb]; exact q
  have kids' : ROs c.K (AT c.B (L.set i (lr ++ (a :: lk'))).flatten) (upd H a (.lst xs')) n xs' ds' lk2 := kids.keep kp fun b hb => ne b fun z => by
    subst z
    rcases sub b (pk.mem_iff.mp hb) with z | z
    · exact nd4.1 z
    · exact notl b ali z
  obtain ⟨d2, l2, hs2, pm2, r2⟩ := up (AT c.B (L.set i (lr ++ (a :: lk'))).flatten) (upd H a (.lst xs')) (.list ds') (a :: lk2) kp (fun b hb => ne b fun z => by subst z; exact nd3.2.2 b hb b (by simp) rfl)
    (fun b o x _ => AT.less memT x) (RO.lst pn upd_same kids')
  rw [hs] at hs2; cases hs2
  replace pm2 : l2.Perm (lr ++ (a :: lk')) := pm2.trans ((pk.cons a).append_left lr)
  have mem2 : ∀ b, b ∈ (L.set i l2).flatten ↔ b ∈ (L.set i (lr ++ (a :: lk'))).flatten := fun b => by
    rw [(flatten_put (l := l2) hL).mem_iff, (flatten_put (l := lr ++ (a :: lk')) hL).mem_iff, List.mem_append, List.mem_append, pm2.mem_iff]
  refine ⟨L.set i l2, S.change hv hL ali ha trivial (RO.mono (fun b o x _ => AT.less (fun b hb => (mem2 b).mp hb) x) r2) (fun b hb => ?_) (pm2.nodup_iff.mpr ndn)⟩
  rcases List.mem_append.mp (pm2.mem_iff.mp hb) with z | z
  · exact .inl (inli b (List.mem_append_left _ z))
  · rcases List.mem_cons.mp z with z | z
    · subst z; exact .inl ali
    · rcases sub b z with z | z
      · exact .inl (inli b (by simp [z]))
      · exact .inr z
theorem Res.item {r : R} {v : V} {n : Option Nat} (S : Sim c L l env σ H) (h : Res c (L.flatten ++ l) H r v l) (hk : kidOk n r) :
    ∃ k : List Addr, k.Sublist l ∧ ∀ T', (∀ b ∈ T', b ∈ L.flatten ++ l) → (∀ b ∈ l, b ∈ T' → b ∈ k) → RO c.K (AT c.B T') H n v r.d k := by
  rcases hk with f | ⟨m, e, q⟩
  · exact ⟨[], List.nil_sublist _, fun T' _ _ => .flat (h.read.flat f) f⟩
  · obtain ⟨d, m'⟩ := r
    cases e
    have nd := List.nodup_append.mp S.nd
    exact RO.lower h.dep q nd.2.1 fun b hb => .inr (S.own b (List.mem_append_right _ hb)).1
end
def isL (env : VEnv) (i : Nat) (p : List Int) : Prop := ∃ d m ds, env[i]? = some (some (d, m)) ∧ getP d p = some (.list ds)
theorem isL.ty {c : Cn} {L : List (List Addr)} {l : List Addr} {env : VEnv} {σ : Sg} {H : Hp} {i : Nat} {p : List Int} {v v0 : V} (h : isL env i p) (S : Sim c L l env σ H) (hv : σ[i]? = some (some v0)) (nav : NavP H v0 p v) {K : PySem.W.Frag} : ∃ a xs, v = .ref a ∧ H a = some (.lst xs) ∧ tyV K "list" v H := by
  obtain ⟨d, m, ds, e, g⟩ := h
  obtain ⟨v1, li, hv1, _, r⟩ := S.sl.get e
  rw [hv] at hv1; cases hv1
  obtain ⟨w, n, rw⟩ := RS.nav r.read g
  have := n.inj nav
  subst this
  obtain ⟨a, xs, rfl, ha, _, _⟩ := rw.lst_inv
  exact ⟨a, xs, rfl, ha, Or.inl ⟨rfl, _, Or.inl (Or.inl ha)⟩⟩
structure OwnL (env : VEnv) (i : Nat) (p : List Int) (ds : List D) (d : D) (m n : Option Nat) : Prop where
  at_ : env[i]? = some (some (d, .o m))
  get : getP d p = some (.list ds)
  dep : ∃ mp, depP m d p = some mp ∧ popM mp = some n
def wApp (wp : WP) (we : WE) : WS := fun env Dv => wp env (fun i p e => isL e i p ∧ we e (fun r e' => ∃ d m ds n d', OwnL e' i p ds d m n ∧ kidOk n r ∧ ds.length < 1000000 ∧
  setP d p (.list (ds ++ [r.d])) = some d' ∧ Dv.nx (killB (e'.set i (some (d', .o m))))) Dv.ex) Dv.ex
section
variable {X : Cx} {c : Cn} {W : WX} {pos apos cpos : Pos} {wp : WP} {we : WE} {o e : Expr}
theorem line_big {n : Nat} (h : n < 1000000) : n < sizeLine := Nat.lt_of_lt_of_le h (by rw [sizeLine_eq]; omega)
theorem rd_tgt {σ : Sg} {H : Hp} {Q : V → Hp → Prop} {env : VEnv} {L : List (List Addr)} {Dv : DV} {Qv : Nat → List Int → VEnv → Prop} (S : Sim c L [] env σ H) (hw : wp env Qv Dv.ex)
    (hx : ∀ ex env' L' σ' H' cls d, Dv.ex ex env' → Sim c L' [] env' σ' H' → ExR c H' ex cls d → W cls d σ' H')
    (k : ∀ i p v v0 L' env' H', Qv i p env' → Sim c L' [] env' σ H' → σ[i]? = some (some v0) → NavP H' v0 p v → Q v H') : rdP c W wp σ H Q :=
  ⟨env, L, [], Qv, _, S, hw, fun i p v v0 L' env' H' q st hv nav => k i p v v0 L' env' H' q st.sim0 hv nav, fun ex cls d L' env' H' hq st he => hx ex env' L' σ H' cls d hq st.sim0 he⟩
theorem rd_arg {σ : Sg} {H : Hp} {Q : VK} {env : VEnv} {L : List (List Addr)} {Dv : DV} {Qv : R → VEnv → Prop} (S : Sim c L [] env σ H) (hw : we env Qv Dv.ex)
    (hx : ∀ ex env' L' σ' H' cls d, Dv.ex ex env' → Sim c L' [] env' σ' H' → ExR c H' ex cls d → W cls d σ' H')
    (k : ∀ r v l L' env' H', Qv r env' → Same H H' → Sim c L' l env' σ H' → Res c (L'.flatten ++ l) H' r v l → Q v H') : rdE c W we σ H Q :=
  ⟨env, L, [], Qv, _, S, hw, fun r v l L' env' H' q st hr => k r v l L' env' H' q st.same st.sim hr, fun ex cls d L' env' H' hq st he => hx ex env' L' σ H' cls d hq st.sim0 he⟩
theorem vs_app (ho : PE X o (rdP c W wp)) (he : PE X e (rdE c W we))
    (hb : PE X o (rdP c W wp) → PE X e (rdE c W we) → PE X (.Call (.Attribute o "append" apos) [e] [] cpos) (tBM X.K "list" rAppend (rdP c W wp) (tCons (rdE c W we) tNil)) := by exact fun ho he => pe_bm PySem.F.plainAttrs_list PySem.F.slot_list_append PySem.F.type_list_append mt_append ho (pa_cons he pa_nil)) :
    PS X (.Expr (.Call (.Attribute o "append" apos) [e] [] cpos) pos) (rdS c W (wApp wp we)) := PS.imp (ps_expr (hb ho he)) fun D σ H h => by
  obtain ⟨env, L, Dv, S, q, k, kr, kx⟩ := h
  refine rd_tgt S q kx fun i p v v0 L1 env1 H1 ⟨h0, h1⟩ S1 hv nav => ?_
  obtain ⟨_, _, _, _, ty⟩ := h0.ty S1 hv nav (K := X.K)
  refine ⟨ty, rd_arg S1 h1 kx fun r y l L2 env2 H2 ⟨d, m, ds, n, d', ⟨e1, e2, mp, e3, e4⟩, e5, e6, e7, h2⟩ sm S2 hr => ?_⟩
  obtain ⟨a, xs, rfl, ha, hl, _, up⟩ := S2.mutL e1 hv (nav.keep sm) e2 e3 e4
  obtain ⟨kk, ks, kq⟩ := Res.item S2 hr e5
  suffices hk : _ by
    obtain ⟨L3, S3⟩ := up (xs ++ [y]) _ d' hk e7
    exact ⟨a, xs, y, rfl, rfl, ha, by rw [hl]; exact line_big e6, k _ L3 σ _ h2 S3⟩
  · refine fun lk rk nd hlk => ⟨lk ++ kk, fun b hb => (List.mem_append.mp hb).imp id fun z => ks.subset z, List.nodup_append.mpr ⟨nd, (List.nodup_append.mp S2.nd).2.1.sublist ks, fun b hb b' hb' z => by subst z; exact (hlk b hb).2 (ks.subset hb')⟩, fun T' h1 h2 => ⟨_, List.Perm.refl _, ?_⟩⟩
    have rk' : ROs c.K (AT c.B T') H2 n xs ds lk := ROs.mono (fun b o x _ => AT.less h1 x) rk
    have ri := kq T' h1 fun b hb hb' => by
      rcases List.mem_append.mp (h2 b (List.mem_append_left _ hb) hb') with z | z
      · exact absurd hb (hlk b z).2
      · exact z
    have := ROs.append rk' (.cons ri .nil)
    simpa using this
end
def wPut (wp : WP) (wi we : WE) : WS := fun env Dv => we env (fun r e => wp e (fun i p e1 => wi e1 (fun rk e2 => ∃ d m ds n k j d', rk.d = .int k ∧ OwnL e2 i p ds d m n ∧ kidOk n r ∧ ixN ds.length k = some j ∧
  setP d p (.list (ds.set j r.d)) = some d' ∧ Dv.nx (killB (e2.set i (some (d', .o m))))) Dv.ex) Dv.ex) Dv.ex
section
variable {X : Cx} {c : Cn} {W : WX} {pos tpos : Pos} {wp : WP} {wi we : WE} {o i e : Expr}
theorem ixN_lt {n : Nat} {k : Int} {j : Nat} (h : ixN n k = some j) : j < n := (ixN_seq h).2.1
theorem vs_put (ho : PE X o (rdP c W wp)) (hi : PE X i (rdE c W wi)) (he : PE X e (rdE c W we)) (ha : ∀ v, assign (.Subscript o i tpos) X.env v = (do
      let ov ← holding [v] (eval o X.env)
      let iv ← holding [v, ov] (eval i X.env)
      standAt tpos
      holding [v, ov, iv] (setItem ov iv v)
      release [v, ov, iv] []) := by intro _; rfl) (hs : swapsWithSole [.Subscript o i tpos] e pos.line X.env = pure false := by rfl) (hw : swappedStores [.Subscript o i tpos] e X.env = pure none := by rfl) :
    PS X (.Assign [.Subscript o i tpos] e pos) (rdS c W (wPut wp wi we)) := PS.imp (ps_asg he (pg_sub ho hi set_list ha) hs hw) fun D σ H h => by
  obtain ⟨env, L, Dv, S, q, k, kr, kx⟩ := h
  refine rd_first S q kx fun r y l L1 env1 H1 h1 S1 hr => ?_
  refine ⟨env1, L1, l, _, _, S1, h1, fun s p v v0 L2 env2 H2 h2 st2 hv nav => ?_, fun ex cls d L' env' H' hq st he => kx ex env' L' σ H' cls d hq (Sim.drop (Tm := []) st.sim0) he⟩
  refine ⟨env2, L2, l, _, _, st2.sim0, h2, fun rk w l3 L3 env3 H3 ⟨d, m, ds, n, kk, j, d', e0, ⟨e1, e2, mp, e3, e4⟩, e5, e6, e7, h3⟩ st3 hrk => ?_, fun ex cls d L' env' H' hq st he => kx ex env' L' σ H' cls d hq (Sim.drop (Tm := []) st.sim0) he⟩
  obtain ⟨dk, mk⟩ := rk
  cases e0
  have hrk' := hrk.read
  cases hrk'
  have S3 := st3.sim0
  have g2 : ∀ b ∈ L2.flatten ++ l, b ∈ L1.flatten ++ l ∨ H1 b = none := fun b hb => st2.drop.gr b (by rw [List.append_nil]; exact hb)
  have hr2 := hr.keep st2.same g2
  have g3 : ∀ b ∈ L3.flatten ++ l, b ∈ L2.flatten ++ l ∨ H2 b = none := fun b hb => st3.drop.gr b (by rw [List.append_nil]; exact hb)
  have hr3 := hr2.keep st3.same g3
  obtain ⟨a, xs, rfl, ha, hl, _, up⟩ := S3.mutL e1 hv (nav.keep st3.same) e2 e3 e4
  obtain ⟨kk', ks, kq⟩ := Res.item S3 hr3 e5
  have hj : j < ds.length := ixN_lt e6
  suffices hk : _ by
    obtain ⟨L4, S4⟩ := up (xs.set j y) _ d' hk e7
    exact ⟨a, xs, kk, j, rfl, rfl, ha, by rw [hl]; exact e6, k _ L4 σ _ h3 S4⟩
  · intro lk rk nd hlk
    obtain ⟨u, lj, lr, q1, q2, q3, q4⟩ := rk.split (List.getElem?_eq_getElem hj)
    have nd2 := List.nodup_append.mp (q2.nodup_iff.mp nd)
    have nd3 : (lr ++ kk').Nodup := List.nodup_append.mpr ⟨nd2.1, (List.nodup_append.mp S3.nd).2.1.sublist ks, fun b hb b' hb' z => by subst z; exact (hlk b (q2.mem_iff.mpr (List.mem_append_left _ hb))).2 (ks.subset hb')⟩
    refine ⟨lr ++ kk', fun b hb => (List.mem_append.mp hb).imp (fun z => q2.mem_iff.mpr (List.mem_append_left _ z)) fun z => ks.subset z, nd3, fun T' h1 h2 => ?_⟩
    have ri := kq T' h1 fun b hb hb' => by
      rcases List.mem_append.mp (h2 b (List.mem_append_left _ hb) hb') with z | z
      · exact absurd hb (hlk b (q2.mem_iff.mpr (List.mem_append_left _ z))).2
      · exact z
    obtain ⟨l'', p'', r''⟩ := q4 (AT c.B T') H3 y r.d kk' (Kp.same (Same.refl _)) (fun b _ o z => z) (fun b o x _ => AT.less h1 x) ri
    exact ⟨l'', p'', r''⟩
end
end VL
set_option maxRecDepth 100000
set_option maxHeartbeats 4000000
namespace VL
open PySem PySem.Spec PyProof.Rows L2
def slLe : Option (D × Md) → Option (D × Md) → Prop
  | none, _ => True
  | some (d, .b), some (d', _) => d = d'
  | some (d, .o m), some (d', .o m') => d = d' ∧ leM m m' = true
  | _, _ => False
def envLe : VEnv → VEnv → Prop
  | [], [] => True
  | s :: e, s' :: e' => slLe s s' ∧ envLe e e'
  | _, _ => False
theorem slLe.refl (s : Option (D × Md)) : slLe s s := by
  match s with
  | none => exact True.intro
  | some (d, .b) => exact rfl
  | some (d, .o m) => exact ⟨rfl, leM_refl m⟩
theorem envLe.refl : ∀ e : VEnv, envLe e e
  | [] => True.intro
  | s :: e => ⟨slLe.refl s, envLe.refl e⟩
section
variable {c : Cn} {T : List Addr} {H : Hp}
theorem Slots.lower : ∀ {e e0 : VEnv} {σ : Sg} {L : List (List Addr)}, Slots c T H e σ L → envLe e0 e → L.flatten.Nodup → (∀ b ∈ L.flatten, c.B b) →
    ∃ L0 : List (List Addr), L0.flatten.Sublist L.flatten ∧ ∀ T', (∀ b ∈ T', b ∈ T) → (∀ b ∈ L.flatten, b ∈ T' → b ∈ L0.flatten) → Slots c T' H e0 σ L0 := by
  intro e e0 σ L h
  induction h generalizing e0 with
  | nil =>
    intro le nd hb
    cases e0 with
    | nil => exact ⟨[], List.Sublist.refl _, fun _ _ _ => .nil⟩
    | cons _ _ => exact le.elim
  | @non e x σ L h ih =>
    intro le nd hb
    cases e0 with
    | nil => exact le.elim
    | cons s e0 =>
      obtain ⟨L0, sb, q⟩ := ih le.2 (by simpa using nd) (by simpa using hb)
      have hs : s = none := by
        match s, le.1 with
        | none, _ => rfl
        | some (_, .b), z => exact z.elim
        | some (_, .o _), z => exact z.elim
      subst hs
      exact ⟨[] :: L0, by simpa using sb, fun T' h1 h2 => .non (q T' h1 (by simpa using h2))⟩
  | @bor e d v σ L r h ih =>
    intro le nd hb
    cases e0 with
    | nil => exact le.elim
    | cons s e0 =>
      obtain ⟨L0, sb, q⟩ := ih le.2 (by simpa using nd) (by simpa using hb)
      refine ⟨[] :: L0, by simpa using sb, fun T' h1 h2 => ?_⟩
      have hr := q T' h1 (by simpa using h2)
      match s, le.1 with
      | none, _ => exact .non hr
      | some (_, .b), z => cases z; exact .bor r hr
      | some (_, .o _), z => exact z.elim
  | @own e d m v l σ L r h ih =>
    intro le nd hb
    cases e0 with
    | nil => exact le.elim
    | cons s e0 =>
      rw [List.flatten_cons] at nd hb
      have nd' := List.nodup_append.mp nd
      obtain ⟨L0, sb, q⟩ := ih le.2 nd'.2.1 (fun b hb' => hb b (List.mem_append_right _ hb'))
      match s, le.1 with
      | none, _ =>
        refine ⟨[] :: L0, by simpa using sb.trans (List.sublist_append_right _ _), fun T' h1 h2 => .non (q T' h1 fun b hb1 hb2 => by simpa using h2 b (by simp [hb1]) hb2)⟩
      | some (_, .b), z =>
        cases z
        refine ⟨[] :: L0, by simpa using sb.trans (List.sublist_append_right _ _), fun T' h1 h2 => .bor ?_ (q T' h1 fun b hb1 hb2 => by simpa using h2 b (by simp [hb1]) hb2)⟩
        exact RO.share (RO.mono (fun _ _ _ _ => trivial) r) fun _ _ => trivial
      | some (_, .o m0), z =>
        obtain ⟨z1, z2⟩ := z
        cases z1
        obtain ⟨l0, s0, q0⟩ := RO.lower r z2 nd'.1 fun b hb' => hb b (List.mem_append_left _ hb')
        refine ⟨l0 :: L0, by simpa using s0.append sb, fun T' h1 h2 => .own (q0 T' h1 fun b hb1 hb2 => ?_) (q T' h1 fun b hb1 hb2 => ?_)⟩
        · rcases List.mem_append.mp (by simpa using h2 b (by simp [hb1]) hb2 : b ∈ l0 ++ L0.flatten) with z | z
          · exact z
          · exact absurd rfl (nd'.2.2 b hb1 b (sb.subset z))
        · rcases List.mem_append.mp (by simpa using h2 b (by simp [hb1]) hb2 : b ∈ l0 ++ L0.flatten) with z | z
          · exact absurd rfl (nd'.2.2 b (s0.subset z) b hb1)
          · exact z
theorem Sim.lower {L : List (List Addr)} {Tm : List Addr} {e e0 : VEnv} {σ : Sg} (S : Sim c L Tm e σ H) (le : envLe e0 e) : ∃ L0, Sim c L0 Tm e0 σ H := by
  have nd := List.nodup_append.mp S.nd
  obtain ⟨L0, sb, q⟩ := S.sl.lower le nd.1 fun b hb => .inr (S.own b (List.mem_append_left _ hb)).1
  have sb' : (L0.flatten ++ Tm).Sublist (L.flatten ++ Tm) := sb.append (List.Sublist.refl _)
  refine ⟨L0, q _ (fun b hb => sb'.subset hb) fun b h1 h2 => ?_, S.nd.sublist sb', fun a ha => S.own a (sb'.subset ha), S.fr, fun p hp => (S.hd p hp).mono fun b o a _ => AT.less (fun b hb => sb'.subset hb) a, S.pin⟩
  rcases List.mem_append.mp h2 with z | z
  · exact z
  · exact absurd rfl (nd.2.2 b h1 b z)
end
section
variable {X : Cx} {c : Cn} {W : WX} {w : WS} {st : Stmt}
end
def putAll : VEnv → List Nat → List R → VEnv
  | e, i :: is, r :: rs => putAll (e.set i (some (r.d, r.m))) is rs
  | e, _, _ => e
def setAll : Sg → List Nat → List V → Sg
  | σ, i :: is, v :: vs => setAll (σ.set i (some v)) is vs
  | σ, _, _ => σ
section
variable {c : Cn} {H : Hp}
theorem Sim.putAllG {Tm : List Addr} : ∀ {is : List Nat} {rs : List R} {vs : List V} {l : List Addr} {L : List (List Addr)} {env : VEnv} {σ : Sg} {T : List Addr}, Ress c T H rs vs l → Sim c L (Tm ++ l) env σ H → (∀ b ∈ L.flatten ++ (Tm ++ l), b ∈ T) → PinF c is →
    ∃ L', Sim c L' Tm (VL.putAll env is rs) (setAll σ is vs) H ∧ ∀ b ∈ L'.flatten ++ Tm, b ∈ L.flatten ++ (Tm ++ l) := by
  intro is rs vs l L env σ T h
  induction h generalizing is L env σ with
  | nil => intro S _ _; cases is <;> exact ⟨L, by simpa [VL.putAll, setAll] using S, fun b hb => by simpa using hb⟩
  | @cons r rs v vs l1 l2 hr _ ih =>
    intro S g pf
    cases is with
    | nil => exact ⟨L, S.drop, fun b hb => by rw [← List.append_assoc]; exact List.mem_append_left _ hb⟩
    | cons i is =>
      have pm : (Tm ++ (l1 ++ l2)).Perm ((Tm ++ l2) ++ l1) := by
        rw [List.append_assoc]; exact List.perm_append_comm.append_left _
      have S' : Sim c L ((Tm ++ l2) ++ l1) env σ H := by
        have mem : ∀ b, b ∈ L.flatten ++ ((Tm ++ l2) ++ l1) → b ∈ L.flatten ++ (Tm ++ (l1 ++ l2)) := fun b hb => (pm.append_left _).mem_iff.mpr hb
        exact ⟨S.sl.keep (Same.refl _) fun b hb => .inl (mem b hb), (pm.append_left _).nodup_iff.mp S.nd, fun a ha => S.own a (mem a ha), S.fr, fun p hp => (S.hd p hp).mono fun b o a _ => AT.less mem a, S.pin⟩
      have hr' : Res c (L.flatten ++ ((Tm ++ l2) ++ l1)) H r v l1 := hr.keep (Same.refl _) fun b hb => .inl (g b ((pm.append_left _).mem_iff.mpr hb))
      obtain ⟨L1, S1, g1⟩ := Sim.put (i := i) S' hr' (pf.sub fun j hj => by rw [List.mem_singleton.mp hj]; exact List.mem_cons_self)
      obtain ⟨L2, S2, g2⟩ := ih (is := is) S1 (fun b hb => g b ((pm.append_left _).mem_iff.mpr (g1 b hb))) (pf.sub fun j hj => List.mem_cons_of_mem _ hj)
      exact ⟨L2, S2, fun b hb => (pm.append_left _).mem_iff.mpr (g1 b (g2 b hb))⟩
theorem Sim.putAll {Tm : List Addr} {is : List Nat} {rs : List R} {vs : List V} {l : List Addr} {L : List (List Addr)} {env : VEnv} {σ : Sg} {T : List Addr} (h : Ress c T H rs vs l) (S : Sim c L (Tm ++ l) env σ H) (g : ∀ b ∈ L.flatten ++ (Tm ++ l), b ∈ T) (pf : PinF c is) :
    ∃ L', Sim c L' Tm (VL.putAll env is rs) (setAll σ is vs) H := let ⟨L', S', _⟩ := Sim.putAllG h S g pf; ⟨L', S'⟩
theorem Ress.keepT {T T' l : List Addr} {rs : List R} {vs : List V} (h : Ress c T H rs vs l) (g : ∀ b ∈ T', b ∈ T) : Ress c T' H rs vs l := h.keep (Same.refl H) fun b hb => .inl (g b hb)
end
structure Tg where
  is : List Nat
  f : R → Option (List R)
def tgN (i : Nat) : Tg := ⟨[i], fun r => some [r]⟩
structure TgOk (X : Cx) (tg : Expr) (g : Tg) : Prop where
  ok : ∃ t, PG X tg t ∧ ∀ (c : Cn) (T : List Addr) (H : Hp) (r : R) (v : V) (l : List Addr) (rs : List R), c.K = X.K → Res c T H r v l → g.f r = some rs →
    ∃ vs l', l'.Sublist l ∧ Ress c T H rs vs l' ∧ vs.length = g.is.length ∧ ∀ σ Q, Q (setAll σ g.is vs) H → t v σ H Q
section
variable {X : Cx} {c : Cn} {pos : Pos} {t t' : TG}
theorem tg_name {i : Nat} {x : Str} (hN : X.N.Nodup) (hi : X.N[i]? = some x := by rfl) (hx : Loc X.env.scope x := by first | exact .inl rfl | exact .inr rfl) (hf : X.fn x = true ∨ X.env.scope.names.lookup x = some .local := by first | exact .inl rfl | exact .inr rfl | assumption) : TgOk X (.Name x pos) (tgN i) :=
  ⟨_, pg_name hN hi hx hf, fun c T H r v l rs _ hr e => by
    cases e
    exact ⟨[v], l, List.Sublist.refl _, by simpa using Ress.cons hr .nil, rfl, fun σ Q q => q⟩⟩
inductive NamesAt (X : Cx) : List Expr → List Nat → TGs → Prop
  | nil : NamesAt X [] [] gNil
  | cons {e : Expr} {es : List Expr} {i : Nat} {is : List Nat} {u : TGs} : PG X e (gName i) → NamesAt X es is u → ((assignEach (e :: es) X.env).map (·.2) = assign e X.env :: (assignEach es X.env).map (·.2)) → NamesAt X (e :: es) (i :: is) (gCons (gName i) u)
theorem NamesAt.run {es : List Expr} {is : List Nat} {u : TGs} (h : NamesAt X es is u) : ∀ {vs : List V} {σ : Sg} {H : Hp} {Q : Sg → Hp → Prop}, vs.length = is.length → Q (setAll σ is vs) H → u vs σ H Q := by
  induction h with
  | nil =>
    intro vs σ H Q hl q
    cases vs with
    | nil => exact ⟨rfl, q⟩
    | cons _ _ => cases hl
  | cons _ _ _ ih =>
    intro vs σ H Q hl q
    cases vs with
    | nil => cases hl
    | cons v vs => exact ⟨v, vs, rfl, ih (by simpa using hl) q⟩
end
section
variable {X : Cx} {c : Cn} {W : WX} {pos : Pos} {we : WE} {g : Tg} {tg e : Expr}
theorem rd_args {σ : Sg} {H : Hp} {Q : List V → Hp → Prop} {wa : WA} {env : VEnv} {L : List (List Addr)} {Dv : DV} {Qv : List R → VEnv → Prop} (S : Sim c L [] env σ H) (hw : wa env Qv Dv.ex)
    (hx : ∀ ex env' L' σ' H' cls d, Dv.ex ex env' → Sim c L' [] env' σ' H' → ExR c H' ex cls d → W cls d σ' H')
    (k : ∀ rs vs l L' env' H', Qv rs env' → Sim c L' l env' σ H' → Ress c (L'.flatten ++ l) H' rs vs l → Q vs H') : rdA c W wa σ H Q :=
  ⟨env, L, [], Qv, _, S, hw, fun rs vs l L' env' H' q st hr => k rs vs l L' env' H' q st.sim hr, fun ex cls d L' env' H' hq st he => hx ex env' L' σ H' cls d hq st.sim0 he⟩
end
section
variable {X : Cx} {c : Cn} {W : WX} {pos : Pos} {t : WT} {w : WS} {te : Expr} {body : List Stmt}
end
end VL
set_option maxRecDepth 100000
set_option maxHeartbeats 4000000
namespace VL
open PySem PySem.Spec PyProof.Rows L2
theorem PI.imp {X : Cx} {tg iter : Expr} {w w' : TI} (h : PI X tg iter w) (q : ∀ σ H R, w' σ H R → w σ H R) : PI X tg iter w' := ⟨fun pins s σ H R I hw => h.run pins s σ H R I (q _ _ _ hw)⟩
theorem PI.or {X : Cx} {tg iter : Expr} {w w' : TI} (h : PI X tg iter w) (h' : PI X tg iter w') : PI X tg iter (fun σ H R => w σ H R ∨ w' σ H R) := ⟨fun pins s σ H R I hw => hw.elim (fun z => h.run pins s σ H R I z) fun z => h'.run pins s σ H R I z⟩
def iSeq (K : PySem.W.Frag) (tl : TE) : TI := fun σ H R => tl σ H fun x H1 => ∃ a, x = .ref a ∧ (((∃ xs, SqL K H1 a xs) ∧ R (Itl K a) H1) ∨ ((∃ xs, SqT K H1 a xs) ∧ R (Itt K a) H1))
theorem pi_seq {X : Cx} {tg l : Expr} {tl : TE} (hl : PE X l tl) : PI X tg l (iSeq X.K tl) := by
  refine ⟨fun pins s σ H R I h => ?_⟩
  refine thn (hl.run pins s σ H _ I h) fun v s1 ⟨x, H1, I1, r1, q1⟩ => ?_
  obtain ⟨a, e, q⟩ := q1
  subst e
  cases r1
  rcases q with ⟨⟨xs, hq⟩, q⟩ | ⟨⟨xs, hq⟩, q⟩
  · obtain ⟨its, rv, p, hz⟩ := I1.list hq
    refine wpAny_pyIter_list p.isList ?_
    refine ⟨s1.heap.objs.size, [s1.heap.objs.size], _, _, H1, rfl, I1.kept (t' := s1.toks) fun b o e => Heap.get?_push_of_some _ e, turn_list a _, ⟨_, Heap.get?_push_size _ rfl, rfl, rfl⟩, fun b hb => ?_, q⟩
    have e : b = s1.heap.objs.size := by simpa using hb
    subst e
    exact I1.fpOk (Nat.le_refl _) (I1.hok.fresh (Nat.le_refl _))
  · obtain ⟨its, rv, p, hz⟩ := I1.tuple hq
    refine wpAny_pyIter_tuple (show s1.heap.IsTuple a its.toArray from p) ?_
    refine ⟨s1.heap.objs.size, [s1.heap.objs.size], _, _, H1, rfl, I1.kept (t' := s1.toks) fun b o e => Heap.get?_push_of_some _ e, turn_tuple a _, ⟨_, Heap.get?_push_size _ rfl, rfl, rfl⟩, fun b hb => ?_, q⟩
    have e : b = s1.heap.objs.size := by simpa using hb
    subst e
    exact I1.fpOk (Nat.le_refl _) (I1.hok.fresh (Nat.le_refl _))
def seqOf : D → Option (List D)
  | .list ds => some ds
  | .tuple ds => some ds
  | _ => none
def itemR (m : Md) (d : D) : R := if flatD d = true then ⟨d, mA⟩ else match m with
  | .b => ⟨d, .b⟩
  | .o _ => ⟨d, mS⟩
section
variable {c : Cn} {L : List (List Addr)} {Tm l T : List Addr} {env : VEnv} {σ : Sg} {H H' : Hp}
theorem seq_run {K : PySem.W.Frag} {A : Addr → Prop} {v : V} {d : D} {ds : List D} (h : RS K A H v d) (e : seqOf d = some ds) :
    ∃ a xs, v = .ref a ∧ RSs K A H xs ds ∧ ((d = .list ds ∧ H a = some (.lst xs)) ∨ (d = .tuple ds ∧ H a = some (.tup xs))) := by
  match d, e with
  | .list ds', e =>
    cases e
    obtain ⟨a, xs, q, ha, _, r⟩ := h.lst_inv
    exact ⟨a, xs, q, r, .inl ⟨rfl, ha⟩⟩
  | .tuple ds', e =>
    cases e
    obtain ⟨a, xs, q, ha, r⟩ := h.tup_inv
    exact ⟨a, xs, q, r, .inr ⟨rfl, ha⟩⟩
end
def wFor (g : Tg) (we : WE) (w : WS) : WS := fun env Dv => we env (fun r e => ∃ ds, seqOf r.d = some ds ∧ isB r.m = false ∧ ∃ (I : Nat → VEnv → Prop) (e0 : VEnv), envLe e0 e ∧ I 0 e0 ∧
  (∀ i d e, ds[i]? = some d → I i e → ∃ rs, g.f (itemR mS d) = some rs ∧ w (putAll e g.is rs) { Dv with nx := fun e2 => ∃ e3, envLe e3 e2 ∧ I (i + 1) e3 }) ∧ (∀ e, I ds.length e → Dv.nx e)) Dv.ex
def Cn.with (c : Cn) (hd : List (V × D)) : Cn := { c with hd := hd }
section
variable {X : Cx} {c : Cn} {W : WX} {pos : Pos} {g : Tg} {we : WE} {w : WS} {tg iter : Expr} {body : List Stmt}
theorem Sim.unhd {c : Cn} {p : V × D} {L : List (List Addr)} {Tm : List Addr} {e : VEnv} {σ : Sg} {H : Hp} (S : Sim (c.with (p :: c.hd)) L Tm e σ H) : Sim c L Tm e σ H :=
  ⟨(by
    have := S.sl
    exact un this), S.nd, S.own, S.fr, fun q hq => S.hd q (List.mem_cons_of_mem _ hq), S.pin⟩
where
  un {c : Cn} {hd : List (V × D)} {T : List Addr} {H : Hp} {e : VEnv} {σ : Sg} {L : List (List Addr)} (h : Slots (c.with hd) T H e σ L) : Slots c T H e σ L := by
    induction h with
    | nil => exact .nil
    | non _ ih => exact .non ih
    | bor r _ ih => exact .bor r ih
    | own r _ ih => exact .own r ih
theorem Sim.addhd {c : Cn} {v : V} {d : D} {L : List (List Addr)} {Tm : List Addr} {e : VEnv} {σ : Sg} {H : Hp} (S : Sim c L Tm e σ H) (h : RS c.K (AT c.B (L.flatten ++ Tm)) H v d) : Sim (c.with ((v, d) :: c.hd)) L Tm e σ H :=
  ⟨up S.sl, S.nd, S.own, S.fr, fun q hq => by
    rcases List.mem_cons.mp hq with z | z
    · subst z; exact h
    · exact S.hd q z, S.pin⟩
where
  up {c : Cn} {hd : List (V × D)} {T : List Addr} {H : Hp} {e : VEnv} {σ : Sg} {L : List (List Addr)} (h : Slots c T H e σ L) : Slots (c.with hd) T H e σ L := by
    induction h with
    | nil => exact .nil
    | non _ ih => exact .non ih
    | bor r _ ih => exact .bor r ih
    | own r _ ih => exact .own r ih
theorem Res.share0 {r : R} {v : V} {l : List Addr} {L : List (List Addr)} {env : VEnv} {σ : Sg} {H : Hp} (h : Res c (L.flatten ++ l) H r v l) (hb : isB r.m = false) (S : Sim c L l env σ H) : RS c.K (AT c.B (L.flatten ++ [])) H v r.d := by
  obtain ⟨d, m⟩ := r
  cases m with
  | b => cases hb
  | o m => exact Res.shared (Tm := []) (la := l) (m := m) h rfl S fun b hb => hb
structure Walked (J : It) (xs : List V) (H : Hp) : Prop where
  go : ∀ (i : Nat) x, xs[i]? = some x → J.go i H
  stop : ∀ (i : Nat), xs.length ≤ i → J.stop i H
  yld : ∀ (i : Nat) x y H', xs[i]? = some x → J.yld i H y H' → H' = H ∧ y = x
theorem walked_l {K : PySem.W.Frag} {a : Addr} {xs : List V} {H : Hp} (p : H a = some (.lst xs)) : Walked (Itl K a) xs H :=
  ⟨fun i x e => ⟨xs, x, SqL.of p, e⟩, fun i e => ⟨xs, SqL.of p, e⟩, fun i x y H' e ⟨h1, h2⟩ => ⟨h1, Option.some.inj ((h2 xs (SqL.of p)).symm.trans e)⟩⟩
theorem walked_t {K : PySem.W.Frag} {a : Addr} {xs : List V} {H : Hp} (p : H a = some (.tup xs)) : Walked (Itt K a) xs H :=
  ⟨fun i x e => ⟨xs, x, SqT.of p, e⟩, fun i e => ⟨xs, SqT.of p, e⟩, fun i x y H' e ⟨h1, h2⟩ => ⟨h1, Option.some.inj ((h2 xs (SqT.of p)).symm.trans e)⟩⟩
theorem Res.ofItem {T : List Addr} {H : Hp} {v : V} {d : D} (h : RS c.K (AT c.B T) H v d) : Res c T H (itemR mS d) v [] := by
  unfold itemR
  by_cases f : flatD d = true
  · rw [if_pos f]; exact Res.flat h f
  · rw [if_neg f]; exact RO.sh h
theorem vs_for (hp : PassesOwn (model X.prog X.w) X.A X.env X.xe) (hc : X.calm = true) (he : PE X iter (rdE c W we)) (hg : TgOk X tg g) (hb : ∀ hd, PSs X body (rdS (c.with hd) W w)) (hK : c.K = X.K := by rfl)
    (hs : ∀ x, foldedSetIterable iter X.env x = pure x := by intro _; rfl) (pf : PinF c g.is := by first | exact pinF_nil rfl | exact pinF_one rfl (by decide) | assumption) : PS X (.For tg iter body [] pos) (rdS c W (wFor g we w)) := by
  obtain ⟨t, hpg, run⟩ := hg.ok
  refine PS.imp (ps_for (tb := fun D σ H => ∃ hd, rdS (c.with hd) W w D σ H) hp hc (pi_seq he) hpg ⟨fun pins s σ H D I hh => hh.elim fun hd z => (hb hd).run pins s σ H D I z⟩ hs) fun D σ H h => ?_
  obtain ⟨env, L, Dv, S, q, k, kr, kx⟩ := h
  refine rd_first S q kx fun r v l L1 e1 H1 ⟨ds, hd, hm, I, e0, le, i0, step, last⟩ S1 hr => ?_
  have sh := hr.share0 hm S1
  have S2 : Sim c L1 [] e1 σ H1 := Sim.drop (Tm := []) (l := l) S1
  obtain ⟨L0, S0⟩ := (S2.addhd sh).lower le
  have go : ∀ (J : It), (∀ L e σ H, Sim (c.with ((v, r.d) :: c.hd)) L [] e σ H → ∃ xs, Walked J xs H ∧ RSs c.K (AT c.B (L.flatten ++ [])) H xs ds) →
      ∃ Wv : Nat → Nat → Sg → Hp → Prop, (∃ m, Wv 0 m σ H1) ∧ ∀ i m σ H, Wv i m σ H → (J.stop i H ∧ D.nx σ H) ∨ (J.go i H ∧ ∃ N : Sg → Hp → Prop, (∀ σ' H', N σ' H' → ∃ m', m' < m ∧ Wv (i + 1) m' σ' H') ∧ ∀ x H', J.yld i H x H' → t x σ H' fun σ2 H2 => ∃ hd, rdS (c.with hd) W w { D with nx := N, ct := N, bk := D.nx } σ2 H2) := by
    intro J hP
    refine ⟨fun i m σ H => m = ds.length - i ∧ i ≤ ds.length ∧ ∃ e L, Sim (c.with ((v, r.d) :: c.hd)) L [] e σ H ∧ I i e, ⟨ds.length, by simp, Nat.zero_le _, e0, L0, S0, i0⟩, ?_⟩
    rintro i m σ2 H2 ⟨rfl, hi, e, L, S, ii⟩
    obtain ⟨xs, wk, rs⟩ := hP L e σ2 H2 S
    by_cases hlt : i < ds.length
    · obtain ⟨x, hx, rx⟩ := rs.get (List.getElem?_eq_getElem hlt)
      refine .inr ⟨wk.go i x hx, fun σ' H' => ∃ e L, Sim (c.with ((v, r.d) :: c.hd)) L [] e σ' H' ∧ I (i + 1) e, fun σ' H' ⟨e, L, S, ii⟩ => ⟨ds.length - (i + 1), by omega, rfl, hlt, e, L, S, ii⟩, fun y H' hy => ?_⟩
      obtain ⟨rfl, rfl⟩ := wk.yld i x y H' hx hy
      obtain ⟨qs, hq, hw⟩ := step i _ e (List.getElem?_eq_getElem hlt) ii
      have hit : Res (c.with ((v, r.d) :: c.hd)) (L.flatten ++ []) H' (itemR mS ds[i]) y [] := Res.ofItem (c := c.with ((v, r.d) :: c.hd)) rx
      obtain ⟨vs, l', s, rr, hl', go⟩ := run (c.with ((v, r.d) :: c.hd)) _ H' _ y _ qs hK hit hq
      have el : l' = [] := List.sublist_nil.mp s
      subst el
      obtain ⟨L3, S3⟩ := Sim.putAll (is := g.is) (Tm := []) (l := []) rr (by simpa using S) (fun b hb => by simpa using hb) pf
      refine go σ2 _ ⟨(v, r.d) :: c.hd, _, L3, _, S3, hw, fun env' L' σ' H'' ⟨e3, le3, i3⟩ S' => ?_, fun r v l H' e h hr => kr r v l H' e h ⟨hr.fr, hr.nd, hr.own, hr.res, let ⟨L, σ, q, z⟩ := hr.sim; ⟨L, σ, q.unhd, z⟩⟩, fun ex env' L' σ' H' cls d hx S' he => kx ex env' L' σ' H' cls d hx S'.unhd he⟩
      obtain ⟨L4, S4⟩ := S'.lower le3
      exact ⟨e3, L4, S4, i3⟩
    · have e' : i = ds.length := by omega
      subst e'
      exact   .inl ⟨wk.stop _ (by rw [rs.len]; omega), k e L σ2 H2 (last e ii) S.unhd⟩
  obtain ⟨a, xs, rfl, rs, hk⟩ := seq_run sh hd
  rcases hk with ⟨hd2, ha⟩ | ⟨hd2, ha⟩
  · refine ⟨a, rfl, .inl ⟨⟨xs, SqL.of ha⟩, go _ fun L e σ H S => ?_⟩⟩
    have := S.hd _ List.mem_cons_self
    rw [hd2] at this
    obtain ⟨a', xs', ea, ha', _, r'⟩ := this.lst_inv
    cases ea
    exact ⟨xs', walked_l ha', r'⟩
  · refine ⟨a, rfl, .inr ⟨⟨xs, SqT.of ha⟩, go _ fun L e σ H S => ?_⟩⟩
    have := S.hd _ List.mem_cons_self
    rw [hd2] at this
    obtain ⟨a', xs', ea, ha', r'⟩ := this.tup_inv
    cases ea
    exact ⟨xs', walked_t ha', r'⟩
end
def rangeOf : List R → Option (Int × Int)
  | [⟨.int j, _⟩] => some (0, j)
  | [⟨.int i, _⟩, ⟨.int j, _⟩] => some (i, j)
  | _ => none
theorem range1 {rs : List R} {lo hi : Int} (h : rangeOf rs = some (lo, hi)) (hl : rs.length = 1) : ∃ m, rs = [⟨.int hi, m⟩] ∧ lo = 0 := by
  unfold rangeOf at h
  split at h
  · cases h; exact ⟨_, rfl, rfl⟩
  · cases hl
  · cases h
def small (i : Int) : Prop := -(2 ^ 62) ≤ i ∧ i < 2 ^ 62
def wForR (n i : Nat) (wa : WA) (w : WS) : WS := fun env Dv => wa env (fun rs e => ∃ lo hi, rs.length = n ∧ rangeOf rs = some (lo, hi) ∧ small lo ∧ small hi ∧ ∃ (I : Nat → VEnv → Prop) (e0 : VEnv), envLe e0 e ∧ I 0 e0 ∧
  (∀ (k : Nat) e, k < (hi - lo).toNat → I k e → w (e.set i (some (.int (lo + k), mA))) { Dv with nx := fun e2 => ∃ e3, envLe e3 e2 ∧ I (k + 1) e3 }) ∧ (∀ e, I (hi - lo).toNat e → Dv.nx e)) Dv.ex
section
variable {X : Cx} {c : Cn} {W : WX} {pos p cpos ppos : Pos} {wa : WA} {w : WS} {tg : Expr} {body : List Stmt}
theorem rd_forR {i : Nat} {lo : Int} {n : Nat} {I : Nat → VEnv → Prop} {e0 e1 : VEnv} {σ : Sg} {H1 : Hp} {D : Ends} {Dv : DV} {L1 : List (List Addr)} (S1 : Sim c L1 [] e1 σ H1) (le : envLe e0 e1) (i0 : I 0 e0)
    (step : ∀ (k : Nat) e, k < n → I k e → w (e.set i (some (.int (lo + k), mA))) { Dv with nx := fun e2 => ∃ e3, envLe e3 e2 ∧ I (k + 1) e3 }) (last : ∀ e, I n e → Dv.nx e)
    (k : ∀ env' L' σ' H', Dv.nx env' → Sim c L' [] env' σ' H' → D.nx σ' H') (kr : ∀ r v l H' e, Dv.rt r e → Ret c r v l H' e → D.rt v H')
    (kx : ∀ ex env' L' σ' H' cls d, Dv.ex ex env' → Sim c L' [] env' σ' H' → ExR c H' ex cls d → W cls d σ' H') (pf : PinF c [i]) :
    ∃ Wv : Nat → Nat → Sg → Hp → Prop, (∃ m, Wv 0 m σ H1) ∧ ∀ j m σ H, Wv j m σ H → ((Itr lo n).stop j H ∧ D.nx σ H) ∨ ((Itr lo n).go j H ∧ ∃ N : Sg → Hp → Prop, (∀ σ' H', N σ' H' → ∃ m', m' < m ∧ Wv (j + 1) m' σ' H') ∧ ∀ x H', (Itr lo n).yld j H x H' → gName i x σ H' fun σ2 H2 => rdS c W w { D with nx := N, ct := N, bk := D.nx } σ2 H2) := by
  obtain ⟨L0, S0⟩ := S1.lower le
  refine ⟨fun j m σ H => m = n - j ∧ j ≤ n ∧ ∃ e L, Sim c L [] e σ H ∧ I j e, ⟨n, by simp, Nat.zero_le _, e0, L0, S0, i0⟩, ?_⟩
  rintro j m σ2 H2 ⟨rfl, hj, e, L, S, ii⟩
  by_cases hlt : j < n
  · refine .inr ⟨hlt, fun σ' H' => ∃ e L, Sim c L [] e σ' H' ∧ I (j + 1) e, fun σ' H' ⟨e, L, S, ii⟩ => ⟨n - (j + 1), by omega, rfl, hlt, e, L, S, ii⟩, fun y H' hy => ?_⟩
    obtain ⟨rfl, rfl⟩ := hy
    have hr : Res c (L.flatten ++ ([] ++ [])) H' ⟨.int (lo + j), mA⟩ (.int (lo + j)) [] := Res.flat (A := fun _ => True) (.int _) rfl
    obtain ⟨L3, S3, _⟩ := Sim.put (i := i) (Tm := []) (l := []) S hr pf
    refine ⟨_, L3, _, S3, step j e hlt ii, fun env' L' σ' H'' ⟨e3, le3, i3⟩ S' => ?_, kr, kx⟩
    obtain ⟨L4, S4⟩ := S'.lower le3
    exact ⟨e3, L4, S4, i3⟩
  · have e' : j = n := by omega
    subst e'
    exact .inl ⟨Nat.le_refl _, k e L σ2 H2 (last e ii) S⟩
theorem vs_forR1 {i : Nat} {x : Str} {a : Expr} (hp : PassesOwn (model X.prog X.w) X.A X.env X.xe) (hc : X.calm = true) (hm : X.mg "range" = none) (ha : PA X [a] (rdA c W wa)) (hb : PSs X body (rdS c W w)) (hN : X.N.Nodup) (hi : X.N[i]? = some x := by rfl) (hx : Loc X.env.scope x := by first | exact .inl rfl | exact .inr rfl) (hf : X.fn x = true ∨ X.env.scope.names.lookup x = some .local := by first | exact .inl rfl | exact .inr rfl | assumption)
    (hg : Gl X "range" := by rfl) (hs1 : starEach [a] X.env = [(false, eval a X.env)] := by rfl) (hs : ∀ x, foldedSetIterable (.Call (.Name "range" p) [a] [] cpos) X.env x = pure x := by intro _; rfl) (pf : PinF c [i] := by first | exact pinF_nil rfl | exact pinF_one rfl (by decide) | assumption) :
    PS X (.For (.Name x ppos) (.Call (.Name "range" p) [a] [] cpos) body [] pos) (rdS c W (wForR 1 i wa w)) := PS.imp (ps_for hp hc (pi_range1 hg hm ha hs1) (pg_name hN hi hx hf) hb hs) fun D σ H h => by
  obtain ⟨env, L, Dv, S, q, k, kr, kx⟩ := h
  refine rd_args S q kx fun rs vs l L1 e1 H1 ⟨lo, hi, hl, hr, s1, s2, I, e0, le, i0, step, last⟩ S1 hrs => ?_
  obtain ⟨m, rfl, rfl⟩ := range1 hr hl
  obtain ⟨v', e, r⟩ := ress1 hrs
  subst e
  have := r.read
  cases this
  refine ⟨hi, rfl, s2.1, s2.2, ?_⟩
  have e : (hi - 0).toNat = hi.toNat := by rw [Int.sub_zero]
  rw [e] at step last
  exact rd_forR (Sim.drop (Tm := []) (l := l) S1) le i0 step last k kr kx pf
end
end VL
set_option maxRecDepth 100000
set_option maxHeartbeats 4000000
namespace VL
open PySem PySem.Spec PyProof.Rows L2
def bS : Option (D × Md) → Option (D × Md)
  | some (d, .o (some 0)) => some (d, .o (some 0))
  | some (d, .o m) => if flatD d = true then some (d, .o m) else some (d, .b)
  | s => s
def bEnv (e : VEnv) : VEnv := e.map bS
def wipeE (e : VEnv) : List Nat → VEnv
  | [] => e
  | v :: vs => (wipeE e vs).set v none
section
variable {c : Cn} {L : List (List Addr)} {Tm T : List Addr} {env : VEnv} {σ : Sg} {H H1 : Hp}
theorem flatten_nils {α β : Type} (L : List α) : (L.map fun _ => ([] : List β)).flatten = [] := by
  induction L with
  | nil => rfl
  | cons _ _ ih => simpa using ih
theorem Slots.borrow (h : Slots c T H env σ L) : Slots c T H (bEnv env) σ (L.map fun _ => []) := by
  induction h with
  | nil => exact .nil
  | non _ ih => exact .non ih
  | bor r _ ih => exact .bor r ih
  | @own e d m v l σ L r _ ih =>
    have rd : RS c.K (fun _ => True) H v d := RO.share (RO.mono (fun _ _ _ _ => trivial) r) fun _ _ => trivial
    match m, r with
    | some 0, r => exact .own (.sh (RO.zero r)) ih
    | none, r =>
      show Slots c T H ((if flatD d = true then some (d, .o none) else some (d, .b)) :: bEnv e) _ _
      by_cases f : flatD d = true
      · rw [if_pos f]; exact .own (.flat (rd.flat f) f) ih
      · rw [if_neg f]; exact .bor rd ih
    | some (k + 1), r =>
      show Slots c T H ((if flatD d = true then some (d, .o (some (k + 1))) else some (d, .b)) :: bEnv e) _ _
      by_cases f : flatD d = true
      · rw [if_pos f]; exact .own (.flat (rd.flat f) f) ih
      · rw [if_neg f]; exact .bor rd ih
theorem Slots.kill2 {i : Nat} {x : Option V} (h : Slots c T H env σ L) : Slots c T H (env.set i none) (σ.set i x) (L.set i []) := by
  induction h generalizing i with
  | nil => exact .nil
  | non h ih => cases i with
    | zero => exact .non h
    | succ i => exact .non ih
  | bor r h ih => cases i with
    | zero => exact .non h
    | succ i => exact .bor r ih
  | own r h ih => cases i with
    | zero => exact .non h
    | succ i => exact .own r ih
theorem set_nil {α β : Type} (L : List α) (i : Nat) : (L.map fun _ => ([] : List β)).set i [] = L.map fun _ => [] := by
  induction L generalizing i with
  | nil => rfl
  | cons _ _ ih => cases i with
    | zero => rfl
    | succ i => simp [ih]
theorem Slots.wiped (h : Slots c T H env σ (L.map fun _ => [])) : ∀ vs : List Nat, Slots c T H (wipeE env vs) (wipe σ vs) (L.map fun _ => [])
  | [] => h
  | v :: vs => by
    have := (Slots.wiped h vs).kill2 (i := v) (x := none)
    rw [set_nil] at this
    exact this
theorem wipe_get (σ : Sg) (vs : List Nat) (i : Nat) : (wipe σ vs)[i]? = if i ∈ vs then (σ[i]?).map (fun _ => none) else σ[i]? := by
  induction vs with
  | nil => simp [wipe]
  | cons v vs ih =>
    unfold wipe
    rw [List.getElem?_set, ih, wipe_length]
    by_cases e : v = i
    · subst e
      simp only [List.mem_cons, true_or, if_true]
      by_cases h : v < σ.length
      · simp [h]
      · simp [h]
    · rw [if_neg e]
      have : (i ∈ v :: vs) ↔ i ∈ vs := by simp [Ne.symm e]
      simp only [this]
theorem Sim.block {K : List Addr} (S : Sim c L Tm env σ H1) (sm : Same H1 H) (nk : K.Nodup) (hk : ∀ b ∈ K, H1 b = none ∧ ∃ o, H b = some o) (vs : List Nat) (pf : PinF c vs) :
    Sim c (L.map fun _ => []) (L.flatten ++ (Tm ++ K)) (wipeE (bEnv env) vs) (wipe σ vs) H := by
  have S' := (Step.news S sm nk hk).sim
  refine ⟨?_, ?_, fun a ha => S'.own a ?_, S'.fr, fun p hp => (S'.hd p hp).mono fun b o a _ => AT.less (fun b hb => ?_) a, fun p hp => by rw [wipe_get, if_neg (pf p hp)]; exact S.pin p hp⟩
  · rw [flatten_nils, List.nil_append]
    exact (S'.sl.borrow).wiped vs
  · rw [flatten_nils, List.nil_append]; exact S'.nd
  · rw [flatten_nils, List.nil_append] at ha; exact ha
  · rw [flatten_nils, List.nil_append] at hb; exact hb
theorem setAll_len : ∀ (is : List Nat) (xs : List V) (σ : Sg), (setAll σ is xs).length = σ.length
  | [], _, _ => by simp [setAll]
  | i :: is, [], _ => by simp [setAll]
  | i :: is, x :: xs, σ => by simp only [setAll]; rw [setAll_len is xs]; simp
theorem setAll_get {σ : Sg} : ∀ (is : List Nat) (xs : List V) (σ : Sg) (j : Nat), j ∉ is → (setAll σ is xs)[j]? = σ[j]?
  | [], _, _, _, _ => by simp [setAll]
  | i :: is, [], _, _, _ => by simp [setAll]
  | i :: is, x :: xs, σ, j, h => by
    simp only [setAll]
    rw [setAll_get (σ := σ) is xs _ j (fun z => h (List.mem_cons_of_mem _ z)), List.getElem?_set_ne (fun z => h (by simp [z]))]
theorem wipe_setAll {σ : Sg} {is vs : List Nat} {xs : List V} (h : ∀ i ∈ is, i ∈ vs) : wipe (setAll (wipe σ vs) is xs) vs = wipe σ vs := by
  apply List.ext_getElem?
  intro j
  rw [wipe_get, wipe_get]
  by_cases hj : j ∈ vs
  · rw [if_pos hj, if_pos hj]
    have l1 : (setAll (wipe σ vs) is xs).length = σ.length := by rw [setAll_len, wipe_length]
    by_cases hl : j < σ.length
    · rw [List.getElem?_eq_getElem (by omega), List.getElem?_eq_getElem hl]; rfl
    · rw [List.getElem?_eq_none (by omega), List.getElem?_eq_none (by omega)]
  · rw [if_neg hj, if_neg hj, setAll_get (σ := σ) is xs _ j (fun z => hj (h j z)), wipe_get, if_neg hj]
end
abbrev W0 : WX := fun _ _ _ _ => False
def wYes : WT := fun env Q _ => Q true env
section
variable {X : Cx} {c : Cn} {W : WX}
theorem PTs.imp {es : List Expr} {t t' : TT} (h : PTs X es t) (q : ∀ σ H Q, t' σ H Q → t σ H Q) : PTs X es t' := ⟨fun pins s σ H Q I w => h.run pins s σ H Q I (q _ _ _ w)⟩
theorem vts_nil : PTs X [] (rdT c W wYes) := PTs.imp pts_nil fun σ H Q h => by
  obtain ⟨env, L, Tm, Qv, X, S, q, k, _⟩ := h
  exact k true L env H q (Step.refl S)
end
def wTurn (wt : WT) (wl : WE) (km : Option Nat) (e : VEnv) (yes : D → Prop) (no : Prop) : Prop :=
  wt e (fun b e2 => if b = true then wl e2 (fun r' _ => kidOk km r' ∧ yes r'.d) (fun _ _ => False) else no) (fun _ _ => False)
structure Acc (c : Cn) (L : List (List Addr)) (Tm : List Addr) (H1 : Hp) (Dn : Addr) (km : Option Nat) (acc : List V) (accD : List D) (lk : List Addr) (H : Hp) : Prop where
  same : Same H1 H
  nd : (Dn :: lk).Nodup
  new : ∀ b ∈ Dn :: lk, H1 b = none ∧ ∃ o, H b = some o
  at_ : H Dn = some (.lst acc)
  kids : ROs c.K (AT c.B (L.flatten ++ (Tm ++ (Dn :: lk)))) H km acc accD lk
section
variable {c : Cn} {L : List (List Addr)} {Tm : List Addr} {env : VEnv} {σ : Sg} {H H1 : Hp} {Dn : Addr} {km : Option Nat} {acc : List V} {accD : List D} {lk : List Addr} {tt : WT} {wl : WE}
theorem Acc.start (S : Sim c L Tm env σ H1) (n : H1 Dn = none) : Acc c L Tm H1 Dn km [] [] [] (upd H1 Dn (.lst [])) :=
  ⟨same_new n, by simp, fun b hb => by simp at hb; subst hb; exact ⟨n, _, upd_same⟩, upd_same, .nil⟩
theorem Acc.sim (A : Acc c L Tm H1 Dn km acc accD lk H) (S : Sim c L Tm env σ H1) (vs : List Nat) (pf : PinF c vs) : Sim c (L.map fun _ => []) (L.flatten ++ (Tm ++ (Dn :: lk))) (wipeE (bEnv env) vs) (wipe σ vs) H := S.block A.same A.nd A.new vs pf
theorem Acc.add {H4 : Hp} {r : R} {y : V} {l : List Addr} {L' : List (List Addr)} {env' : VEnv} {σ' : Sg} (A : Acc c L Tm H1 Dn km acc accD lk H) (S : Sim c L Tm env σ H1)
    (st : Step c H H4 ((L.map fun _ => ([] : List Addr)).flatten ++ (L.flatten ++ (Tm ++ (Dn :: lk)))) (L.flatten ++ (Tm ++ (Dn :: lk))) L' l env' σ') (hr : Res c (L'.flatten ++ ((L.flatten ++ (Tm ++ (Dn :: lk))) ++ l)) H4 r y l) (hk : kidOk km r) :
    H4 Dn = some (.lst acc) ∧ ∃ lk', Acc c L Tm H1 Dn km (acc ++ [y]) (accD ++ [r.d]) lk' (upd H4 Dn (.lst (acc ++ [y]))) := by
  have hD : H4 Dn = some (.lst acc) := st.same _ _ A.at_
  refine ⟨hD, ?_⟩
  have nd4 := st.sim.nd
  rw [← List.append_assoc] at nd4
  have ndl := List.nodup_append.mp nd4
  have fresh : ∀ b ∈ l, H b = none := fun b hb => by
    rcases st.gr b (by simp [hb]) with z | z
    · exact absurd rfl (ndl.2.2 b (by rw [flatten_nils, List.nil_append] at z; exact List.mem_append_right _ z) b hb)
    · exact z
  have own4 : ∀ b ∈ l, c.B b := fun b hb => .inr (st.sim.own b (by simp [hb])).1
  have item : ∃ kk : List Addr, kk.Sublist l ∧ RO c.K (AT c.B (L.flatten ++ (Tm ++ (Dn :: (lk ++ kk))))) H4 km y r.d kk := by
    rcases hk with f | ⟨m, e, q⟩
    · exact ⟨[], List.nil_sublist _, .flat (hr.read.flat f) f⟩
    · obtain ⟨d, m'⟩ := r
      cases e
      obtain ⟨kk, ks, kq⟩ := RO.lower hr.dep q ndl.2.1 own4
      refine ⟨kk, ks, kq _ (fun b hb => ?_) fun b hb hb' => ?_⟩
      · simp only [List.mem_append, List.mem_cons] at hb ⊢
        rcases hb with z | z | z | z | z
        · exact .inr (.inl (.inl z))
        · exact .inr (.inl (.inr (.inl z)))
        · exact .inr (.inl (.inr (.inr (.inl z))))
        · exact .inr (.inl (.inr (.inr (.inr z))))
        · exact .inr (.inr (ks.subset z))
      · simp only [List.mem_append, List.mem_cons] at hb'
        have no : ∀ {P : Prop}, b ∈ L.flatten ++ (Tm ++ (Dn :: lk)) → P := fun z => absurd rfl (ndl.2.2 b (List.mem_append_right _ z) b hb)
        rcases hb' with z | z | z | z | z
        · exact no (List.mem_append_left _ z)
        · exact no (by simp [z])
        · exact no (by simp [z])
        · exact no (by simp [z])
        · exact z
  obtain ⟨kk, ks, ki⟩ := item
  have kkl : ∀ b ∈ kk, H b = none := fun b hb => fresh b (ks.subset hb)
  have ndn : (Dn :: (lk ++ kk)).Nodup := by
    rw [← List.cons_append]
    refine List.nodup_append.mpr ⟨A.nd, ndl.2.1.sublist ks, fun b hb b' hb' z => ?_⟩
    subst z
    obtain ⟨_, o, e⟩ := A.new b hb
    rw [kkl b hb'] at e; cases e
  have ndn' := List.nodup_cons.mp ndn
  have grow : ∀ b ∈ L.flatten ++ (Tm ++ (Dn :: (lk ++ kk))), b ∈ L.flatten ++ (Tm ++ (Dn :: lk)) ∨ H b = none := fun b hb => by
    simp only [List.mem_append, List.mem_cons] at hb ⊢
    rcases hb with z | z | z | z | z
    · exact .inl (.inl z)
    · exact .inl (.inr (.inl z))
    · exact .inl (.inr (.inr (.inl z)))
    · exact .inl (.inr (.inr (.inr z)))
    · exact .inr (kkl b z)
  have DT : Dn ∈ L.flatten ++ (Tm ++ (Dn :: (lk ++ kk))) := by simp
  have kp : Kp (AT c.B (L.flatten ++ (Tm ++ (Dn :: (lk ++ kk))))) H4 (upd H4 Dn (.lst (acc ++ [y]))) := Kp.write hD trivial fun z => z.2 DT
  have ne : ∀ b ∈ lk ++ kk, ∀ o, H4 b = some o → (upd H4 Dn (.lst (acc ++ [y]))) b = some o := fun b hb o q => by
    rw [upd_ne (fun z => by subst z; exact ndn'.1 hb)]; exact q
  have hn : H1 Dn = none := (A.new Dn List.mem_cons_self).1
  refine ⟨lk ++ kk, fun b o e => ?_, ndn, fun b hb => ?_, upd_same, ?_⟩
  · rw [upd_ne (ne_of_none e hn)]; exact st.same _ _ (A.same _ _ e)
  · rcases List.mem_cons.mp hb with z | z
    · subst z; exact ⟨hn, _, upd_same⟩
    · rcases List.mem_append.mp z with y' | y'
      · obtain ⟨n, o, e⟩ := A.new b (List.mem_cons_of_mem _ y')
        exact ⟨n, o, ne b z o (st.same _ _ e)⟩
      · obtain ⟨_, o, e⟩ := st.sim.own b (by simp [ks.subset y'])
        exact ⟨A.same.free (kkl b y'), o, ne b z o e⟩
  · have k1 := ROs.keepT A.kids st.same grow
    have k2 := k1.keep kp fun b hb => ne b (List.mem_append_left _ hb)
    have k3 := ki.keep kp fun b hb => ne b (List.mem_append_right _ hb)
    have := ROs.append k2 (.cons k3 .nil)
    simpa using this
theorem Acc.skip {H3 : Hp} {l : List Addr} {L' : List (List Addr)} {env' : VEnv} {σ' : Sg} (A : Acc c L Tm H1 Dn km acc accD lk H)
    (st : Step c H H3 ((L.map fun _ => ([] : List Addr)).flatten ++ (L.flatten ++ (Tm ++ (Dn :: lk)))) (L.flatten ++ (Tm ++ (Dn :: lk))) L' l env' σ') : Acc c L Tm H1 Dn km acc accD lk H3 :=
  ⟨A.same.trans st.same, A.nd, fun b hb => let ⟨n, o, e⟩ := A.new b hb; ⟨n, o, st.same _ _ e⟩, st.same _ _ A.at_, ROs.keepT A.kids st.same fun b hb => .inl hb⟩
theorem Acc.done {Qv : R → VEnv → Prop} {Q : VK} {Hs : Hp} {Ls : List (List Addr)} {la : List Addr} (A : Acc c L Tm H1 Dn km acc accD lk H) (st : Step c Hs H1 (Ls.flatten ++ Tm) Tm L la env σ) (k : Kont c σ Ls Tm Hs Qv Q) (q : Qv ⟨.list accD, .o (succM km)⟩ env) : Q (.ref Dn) H := by
  have S : Sim c L Tm env σ H1 := st.sim0
  have st2 := Step.news S A.same A.nd A.new
  refine k _ _ (Dn :: lk) L env H q (Step.then st (st2.wider fun b hb => by rw [← List.append_assoc]; exact List.mem_append_left _ hb)) ?_
  exact RO.lst (pop_succ km) A.at_ A.kids
theorem turn_run {is vs : List Nat} {rs : List R} {xs : List V} {yes : D → Prop} {no : Prop} {t : TG} {x : V} {Nx : Hp → Prop} (A : Acc c L Tm H1 Dn km acc accD lk H) (S : Sim c L Tm env σ H1) (his : ∀ i ∈ is, i ∈ vs) (pf : PinF c vs)
    (rr : Ress c ((L.map fun _ => ([] : List Addr)).flatten ++ (L.flatten ++ (Tm ++ (Dn :: lk)))) H rs xs []) (go : ∀ σ Q, Q (setAll σ is xs) H → t x σ H Q) (hz : acc.length < 1000000)
    (hw : wTurn tt wl km (putAll (wipeE (bEnv env) vs) is rs) yes no) (hy : ∀ y d lk' H', yes d → Acc c L Tm H1 Dn km (acc ++ [y]) (accD ++ [d]) lk' H' → Nx H') (hn : ∀ H', no → Acc c L Tm H1 Dn km acc accD lk H' → Nx H') :
    t x (wipe σ vs) H fun σ2 H2 => wipe σ2 vs = wipe σ vs ∧ rdT c W0 tt σ2 H2 fun b H3 =>
      if b = true then rdE c W0 wl σ2 H3 fun y H4 => ∃ acc', H4 Dn = some (.lst acc') ∧ acc'.length < sizeLine ∧ Nx (upd H4 Dn (.lst (acc' ++ [y]))) else Nx H3 := by
  refine go _ _ ⟨wipe_setAll his, ?_⟩
  have B := A.sim S vs pf
  obtain ⟨L2, S2, g2⟩ := Sim.putAllG (is := is) (Tm := L.flatten ++ (Tm ++ (Dn :: lk))) (l := []) rr (by simpa using B) (fun b hb => by simpa using hb) (pf.sub his)
  have stA : Step c H H ((L.map fun _ => ([] : List Addr)).flatten ++ (L.flatten ++ (Tm ++ (Dn :: lk)))) (L.flatten ++ (Tm ++ (Dn :: lk))) L2 [] (putAll (wipeE (bEnv env) vs) is rs) (setAll (wipe σ vs) is xs) :=
    ⟨Same.refl H, by simpa using S2, fun b hb => .inl (by simpa using g2 b (by simpa using hb))⟩
  refine ⟨_, L2, _, _, _, S2, hw, fun b L3 e3 H3 h3 st3 => ?_, fun ex cls d L' env' H' hx _ _ => hx.elim⟩
  have st13 := Step.then stA (st3.wider fun b hb => by simpa using hb)
  cases b with
  | false => exact hn H3 h3 (A.skip st13)
  | true =>
    refine ⟨e3, L3, _, _, _, st3.sim0, h3, fun r y l L4 e4 H4 ⟨hk, h4⟩ st4 hr => ?_, fun ex cls d L' env' H' hx _ _ => hx.elim⟩
    have st14 := Step.then st13 (st4.wider fun b hb => by simpa using hb)
    obtain ⟨h5, lk', A5⟩ := A.add S st14 hr hk
    exact ⟨acc, h5, line_big hz, hy y r.d lk' _ h4 A5⟩
end
end VL
set_option maxRecDepth 100000
set_option maxHeartbeats 4000000
namespace VL
open PySem PySem.Spec PyProof.Rows L2
def wLcR (n : Nat) (vs : List Nat) (i : Nat) (wa : WA) (tt : WT) (wl : WE) : WE := fun env Q X => wa env (fun rs e => ∃ lo hi, rs.length = n ∧ rangeOf rs = some (lo, hi) ∧ small lo ∧ small hi ∧ hi - lo ≤ 1000000 ∧ ∃ (km : Option Nat) (I : Nat → List D → Prop), I 0 [] ∧
  (∀ (k : Nat) acc, k < (hi - lo).toNat → I k acc → acc.length ≤ k ∧ wTurn tt wl km ((wipeE (bEnv e) vs).set i (some (.int (lo + k), mA))) (fun y => I (k + 1) (acc ++ [y])) (I (k + 1) acc)) ∧
  (∀ acc, I (hi - lo).toNat acc → Q ⟨.list acc, .o (succM km)⟩ e)) X
section
variable {X : Cx} {c : Cn} {W : WX} {we wl : WE} {tt : WT} {g : Tg} {vs : List Nat}
theorem rd_lcR {n i : Nat} {wa : WA} {Q : VK} (his : i ∈ vs) (pf : PinF c vs) {σ : Sg} {H : Hp} {lo hi : Int} {km : Option Nat} {I : Nat → List D → Prop} {L L1 : List (List Addr)} {Tm la : List Addr} {e1 : VEnv} {H1 : Hp} {Qv : R → VEnv → Prop} (st : Step c H H1 (L.flatten ++ Tm) Tm L1 la e1 σ) (k : Kont c σ L Tm H Qv Q)
    (hsm : hi - lo ≤ 1000000) (i0 : I 0 []) (step : ∀ (k : Nat) acc, k < (hi - lo).toNat → I k acc → acc.length ≤ k ∧ wTurn tt wl km ((wipeE (bEnv e1) vs).set i (some (.int (lo + k), mA))) (fun y => I (k + 1) (acc ++ [y])) (I (k + 1) acc))
    (last : ∀ acc, I (hi - lo).toNat acc → Qv ⟨.list acc, .o (succM km)⟩ e1) : ∀ Dn, H1 Dn = none → ∃ Wv : Nat → Nat → Hp → Prop, (∃ m, Wv 0 m (upd H1 Dn (.lst []))) ∧ ∀ j m H, Wv j m H →
        ((Itr lo (hi - lo).toNat).stop j H ∧ Q (.ref Dn) H) ∨ ((Itr lo (hi - lo).toNat).go j H ∧ ∃ Nx : Hp → Prop, (∀ H', Nx H' → ∃ m', m' < m ∧ Wv (j + 1) m' H') ∧ ∀ x H', (Itr lo (hi - lo).toNat).yld j H x H' → gName i x (wipe σ vs) H' fun σ2 H2 => wipe σ2 vs = wipe σ vs ∧ rdT c W0 tt σ2 H2 fun b H3 =>
          if b = true then rdE c W0 wl σ2 H3 fun y H4 => ∃ acc, H4 Dn = some (.lst acc) ∧ acc.length < sizeLine ∧ Nx (upd H4 Dn (.lst (acc ++ [y]))) else Nx H3) := by
  have S1 : Sim c L1 Tm e1 σ H1 := st.sim0
  intro Dn nD
  refine ⟨fun j m H => m = (hi - lo).toNat - j ∧ j ≤ (hi - lo).toNat ∧ ∃ acc accD lk, Acc c L1 Tm H1 Dn km acc accD lk H ∧ I j accD, ⟨_, rfl, Nat.zero_le _, [], [], [], Acc.start S1 nD, i0⟩, ?_⟩
  rintro j m H2 ⟨rfl, hj, acc, accD, lk, A, ii⟩
  by_cases hlt : j < (hi - lo).toNat
  · refine .inr ⟨hlt, fun H' => ∃ acc accD lk, Acc c L1 Tm H1 Dn km acc accD lk H' ∧ I (j + 1) accD, fun H' ⟨acc, accD, lk, A, ii⟩ => ⟨(hi - lo).toNat - (j + 1), by omega, rfl, hlt, acc, accD, lk, A, ii⟩, fun y H' hy => ?_⟩
    obtain ⟨rfl, rfl⟩ := hy
    obtain ⟨hle, hw⟩ := step j accD hlt ii
    have rr : Ress c ((L1.map fun _ => ([] : List Addr)).flatten ++ (L1.flatten ++ (Tm ++ (Dn :: lk)))) H' [⟨.int (lo + j), mA⟩] [.int (lo + j)] [] := .cons (l1 := []) (l2 := []) (Res.flat (A := fun _ => True) (.int _) rfl) .nil
    have la : acc.length = accD.length := A.kids.len
    exact turn_run (is := [i]) A S1 (by simpa using his) pf rr (fun σ Q q => q) (by omega) hw (fun y d lk' H' hy A' => ⟨_, _, lk', A', hy⟩) fun H' hn A' => ⟨_, _, _, A', hn⟩
  · have e' : j = (hi - lo).toNat := by omega
    subst e'
    exact .inl ⟨Nat.le_refl _, A.done st k (last accD ii)⟩
end
abbrev Blk (X : Cx) (scope : Scope) (P : Cx → Prop) : Prop := ∀ (s : Shared) (H : Hp) (C : Addr) (cl : List (Str × Addr)) (fp : List Addr), P (X.blk s H scope (compEnvC scope cl C X.env) fp)
section
variable {X : Cx} {c : Cn} {W : WX} {we wl : WE} {wa : WA} {tt : WT} {tg iter elt : Expr} {ifs : List Expr} {scope : Scope} {own : List (Str × Nat)} {pos : Pos}
theorem rd_lcR1 {i : Nat} (his : i ∈ own.map (·.2)) (pf : PinF c (own.map (·.2))) {σ : Sg} {H : Hp} {Q : VK} (h : rdE c W (wLcR 1 (own.map (·.2)) i wa tt wl) σ H Q) : tLc (iRng1 (rdA c W wa)) (gName i) (rdT c W0 tt) (rdE c W0 wl) (own.map (·.2)) σ H Q := by
  obtain ⟨env, L, Tm, Qv, X, S, q, k, kx⟩ := h
  refine ⟨env, L, Tm, _, X, S, q, fun rs vs l L1 e1 H1 ⟨lo, hi, hl, hr, s1, s2, hsm, km, I, i0, step, last⟩ st hrs => ?_, kx⟩
  obtain ⟨m, rfl, rfl⟩ := range1 hr hl
  obtain ⟨v', e, r⟩ := ress1 hrs
  subst e
  have := r.read
  cases this
  refine ⟨hi, rfl, s2.1, s2.2, ?_⟩
  have := rd_lcR (n := 1) (wa := wa) his pf st k hsm i0 step last
  have e : (hi - 0).toNat = hi.toNat := by rw [Int.sub_zero]
  rw [e] at this
  exact this
theorem ve_lcR1 {i : Nat} {a : Expr} {p cpos : Pos} (hc : X.calm = true) (hN : X.N.Nodup) (own : List (Str × Nat)) (hm : X.mg "range" = none) (ha : PA X [a] (rdA c W wa)) (hg : Blk X scope fun Y => PG Y tg (gName i)) (ht : Blk X scope fun Y => PTs Y ifs (rdT c W0 tt)) (he : Blk X scope fun Y => PE Y elt (rdE c W0 wl))
    (hgl : Gl X "range" := by rfl) (hs1 : starEach [a] X.env = [(false, eval a X.env)] := by rfl) (ok : BlkOk X.N X.env.scope scope own := by first | exact blkOk_by (by decide +kernel) | exact blkOk_by (by rfl) | exact blkOk_by (by with_unfolding_all rfl)) (his : i ∈ own.map (·.2) := by decide) (hs : ∀ x, foldedSetIterable (.Call (.Name "range" p) [a] [] cpos) X.env x = pure x := by intro _; rfl) (pf : PinF c (own.map (·.2)) := by first | exact pinF_nil rfl | exact pinF_one rfl (by decide) | assumption) :
    PE X (.ListComp elt [⟨tg, .Call (.Name "range" p) [a] [] cpos, ifs, 0⟩] scope pos) (rdE c W (wLcR 1 (own.map (·.2)) i wa tt wl)) :=
  PE.imp (pe_lc hc hN (pi_range1 hgl hm ha hs1) ok hg ht he hs) fun σ H Q => rd_lcR1 his pf
end
end VL
set_option maxRecDepth 100000
set_option maxHeartbeats 4000000
namespace VL
open PySem PySem.Spec PyProof.Rows L2
def argS (d : D) : Option (D × Md) := some (d, if flatD d = true then mA else mS)
def startE (N : List Str) (ds : List D) : VEnv := ds.map argS ++ List.replicate (N.length - ds.length) none
abbrev cnOf (K : PySem.W.Frag) (cl : Str → Option Addr) (P0 : Addr → Prop) (H : Hp) : Cn := ⟨K, P0, H, [], cl, [], []⟩
abbrev WXE (E : XK) : WX := fun cls d _ H => E cls d H
theorem start_sim {K : PySem.W.Frag} {cl : Str → Option Addr} {P0 : Addr → Prop} {H : Hp} {vs : List V} {ds : List D} {N : List Str} (r : RSs K P0 H vs ds) : ∃ L, Sim (cnOf K cl P0 H) L [] (startE N ds) (L2.start N vs) H := by
  have tail : ∀ n : Nat, ∀ T, Slots (cnOf K cl P0 H) T H (List.replicate n none) (List.replicate n none) (List.replicate n []) := by
    intro n T
    induction n with
    | zero => exact .nil
    | succ n ih => exact .non ih
  have hl := r.len
  have rep : ∀ n : Nat, (List.replicate n ([] : List Addr)).flatten = [] := by intro n; induction n with
    | zero => rfl
    | succ n ih => simpa [List.replicate_succ] using ih
  have body : ∀ {vs : List V} {ds : List D} (n : Nat), RSs K P0 H vs ds → Slots (cnOf K cl P0 H) [] H (ds.map argS ++ List.replicate n none) (vs.map some ++ List.replicate n none) (List.replicate ds.length [] ++ List.replicate n []) := by
    intro vs ds n r
    induction vs generalizing ds with
    | nil => cases r; simpa using tail n []
    | cons v vs ih =>
      cases r with
      | @cons _ _ d ds h r =>
        have ih' := ih r
        simp only [List.map_cons, List.cons_append, List.length_cons, List.replicate_succ]
        unfold argS
        by_cases f : flatD d = true
        · rw [if_pos f]; exact .own (.flat (h.flat f) f) ih'
        · rw [if_neg f]
          exact .own (.sh (h.mono fun b o a _ => ⟨.inl a, by simp⟩)) ih'
  have fl : (List.replicate ds.length ([] : List Addr) ++ List.replicate (N.length - ds.length) []).flatten = [] := by
    rw [List.flatten_append, rep, rep]; rfl
  refine ⟨List.replicate ds.length [] ++ List.replicate (N.length - ds.length) [], ?_, by rw [fl]; simp, fun a ha => by rw [fl] at ha; simp at ha, fun b o e _ => e, fun p hp => (by cases hp), fun p hp => (by cases hp)⟩
  rw [fl]
  have := body (N.length - ds.length) r
  unfold startE L2.start
  rw [hl]
  exact this
abbrev cxV (P : Program) (w : World) (K : PySem.W.Frag) (mg : Str → Option Value) (base : Heap) (N : List Str) (x : Str) (st : Stmt) (f : Addr) (cdv : Value) (A : Around) (outer : List Env) (s : Shared) (H : Hp) (E : XK) : Cx := cxOf (L2.CX P w) P w K mg base N x (defScope st) f cdv A outer s H E
section
variable {P : Program} {w : World} {K : PySem.W.Frag} {mg : Str → Option Value} {base : Heap} {cl : Str → Option Addr}
end
structure Err (K : PySem.W.Frag) (mg : Str → Option Value) (cl : Str → Option Addr) (x : Str) (C : Addr) : Prop where
  at_ : cl x = some C
  gC : mg x = some (.ref C)
  xP : PySem.W.excIn K C [.type "ValueError", .type "Exception", .type "BaseException", .type "object"] "ValueError.__new__" = true
  kP : PySem.W.keepIn K (.ref C) = true
  bP : PySem.W.subIn K (.ref C) (.type "BaseException") = some true
  tP : PySem.W.typeIn K (.ref C) = some (.type "type")
def wRaise (x : Str) : WS := fun env Dv => Dv.ex ⟨x, none⟩ env
section
variable {X : Cx} {c : Cn} {W : WX} {pos p p2 pos2 : Pos} {x m : Str} {j : Nat} {C : Addr}
theorem vs_raise (T : Err X.K X.mg c.cl x C) (hc : X.calm = true) (tk : Takes X W) (hg : Gl X x := by rfl) (hdb : (x == ("__debug__" : Str)) = false := by decide) :
    PS X (.Raise (some (.Call (.Name x p) [.Constant (.str m) j p2] [] pos2)) none pos) (rdS c W (wRaise x)) :=
  PS.imp (ps_raise hc tk (pmk_own PySem.F.excBase_ValueError T.xP T.gC T.kP (raises_own T.bP T.tP) hg hdb)) fun D σ H h => by
    obtain ⟨env, L, Dv, S, q, k, kr, kx⟩ := h
    exact kx _ env L σ H _ _ q S ⟨C, T.at_, rfl, rfl⟩
end
def tyIs (T : String) : D → Bool
  | .none => false
  | .bool _ => T == "bool" || T == "int"
  | .int _ => T == "int"
  | .str _ => T == "str"
  | .list _ => T == "list"
  | .tuple _ => T == "tuple"
  | .dict _ => T == "dict"
def noDict : D → Prop
  | .dict _ => False
  | _ => True
def wIsi (T : String) (we : WE) : WE := fun env Q X => we env (fun r e => noDict r.d ∧ Q ⟨.bool (tyIs T r.d), mA⟩ e) X
section
variable {X : Cx} {c : Cn} {W : WX} {pos p p2 : Pos} {we : WE} {e : Expr} {T : String} {y : Str}
structure TyAsk (T : String) : Prop where
  non : kitB "NoneType" T = some (tyIs T .none)
  bl : ∀ b, kitB "bool" T = some (tyIs T (.bool b))
  int : ∀ i, kitB "int" T = some (tyIs T (.int i))
  str : ∀ s, kitB "str" T = some (tyIs T (.str s))
  lst : ∀ ds, kitB "list" T = some (tyIs T (.list ds))
  tup : ∀ ds, kitB "tuple" T = some (tyIs T (.tuple ds))
theorem ta_int : TyAsk "int" := ⟨by decide +kernel, fun b => (by decide +kernel : kitB "bool" "int" = some true), fun _ => (by decide +kernel : kitB "int" "int" = some true), fun _ => (by decide +kernel : kitB "str" "int" = some false), fun _ => (by decide +kernel : kitB "list" "int" = some false), fun _ => (by decide +kernel : kitB "tuple" "int" = some false)⟩
theorem ta_bool : TyAsk "bool" := ⟨by decide +kernel, fun b => (by decide +kernel : kitB "bool" "bool" = some true), fun _ => (by decide +kernel : kitB "int" "bool" = some false), fun _ => (by decide +kernel : kitB "str" "bool" = some false), fun _ => (by decide +kernel : kitB "list" "bool" = some false), fun _ => (by decide +kernel : kitB "tuple" "bool" = some false)⟩
theorem ta_tuple : TyAsk "tuple" := ⟨by decide +kernel, fun b => (by decide +kernel : kitB "bool" "tuple" = some false), fun _ => (by decide +kernel : kitB "int" "tuple" = some false), fun _ => (by decide +kernel : kitB "str" "tuple" = some false), fun _ => (by decide +kernel : kitB "list" "tuple" = some false), fun _ => (by decide +kernel : kitB "tuple" "tuple" = some true)⟩
theorem rs_type {A : Addr → Prop} {H : Hp} {v : V} {d : D} {K : PySem.W.Frag} (ta : TyAsk T) (h : RS K A H v d) (nd : noDict d) : ∃ t, TyX K H v t ∧ PySem.W.kitOne K t (.type T) = some (tyIs T d) := by
  cases h with
  | non => exact ⟨_, .base .non, kit_ty ta.non⟩
  | bl b => exact ⟨_, .base (.bl b), kit_ty (ta.bl b)⟩
  | int i => exact ⟨_, .base (.int i), kit_ty (ta.int i)⟩
  | str s => exact ⟨_, .base (.str s), kit_ty (ta.str s)⟩
  | lst ha _ r => exact ⟨_, .base (.lst ha), kit_ty (ta.lst _)⟩
  | tup ha r => exact ⟨_, .base (.tup ha), kit_ty (ta.tup _)⟩
  | dct _ _ _ _ => exact absurd nd (by simp [mkDict, noDict])
  | scr _ => exact absurd nd (by simp [scriptD, noDict])
  | opq _ => exact absurd nd (by simp [opD, noDict])
theorem ve_isi (ta : TyAsk T) (hm : X.mg "isinstance" = none) (hmy : X.mg y = none) (hv : bootBuiltins y = some (.type T)) (he : PE X e (rdE c W we)) (hK : c.K = X.K := by rfl) (hg : Gl X "isinstance" := by rfl) (hgy : Gl X y := by rfl) (hny : y ≠ "__name__" := by decide) (hdy : (y == ("__debug__" : Str)) = false := by decide)
    (hs : starEach [e, .Name y p2] X.env = (false, eval e X.env) :: starEach [.Name y p2] X.env := by rfl) (hpl : (backTo pos (starEach [.Name y p2] X.env)).any (·.1) = false := by rfl) :
    PE X (.Call (.Name "isinstance" p) [e, .Name y p2] [] pos) (rdE c W (wIsi T we)) :=
  PE.imp (pe_callB call_isi hg hm (by decide +kernel) (pa_cons he (pa_cons (pe_bltn (v := .ty T) hgy hmy hv rfl hny hdy) pa_nil) hs) (by decide) (by decide) hs hpl) fun σ H Q h => by
    obtain ⟨env, L, Tm, Qv, X, S, q, k, kx⟩ := h
    refine ⟨env, L, Tm, _, X, S, q, fun r v l L1 e1 H1 ⟨nd, h1⟩ st hr => ?_, kx⟩
    obtain ⟨t, tx, kt⟩ := rs_type (K := c.K) ta hr.read nd
    rw [← hK]
    exact ⟨v, .ty T, t, .type T, _, rfl, .ty T, tx, kt, k _ _ [] L1 e1 H1 h1 st.drop (Res.flat (A := fun _ => True) (.bl _) rfl)⟩
end
def Catches (K : PySem.W.Frag) (cl : Str → Option Addr) (C : Value) (catch_ : Exn → Bool) : Prop := ∀ ex D, cl ex.cls = some D → PySem.W.exmOne K (.ref D) C = some (catch_ ex)
theorem Sim.kill {c : Cn} {L : List (List Addr)} {Tm : List Addr} {env : VEnv} {σ : Sg} {H : Hp} {i : Nat} (S : Sim c L Tm env σ H) (pf : PinF c [i]) : ∃ L', Sim c L' Tm (env.set i none) (σ.set i none) H := by
  have sub : ((L.set i []).flatten ++ Tm).Sublist (L.flatten ++ Tm) := by
    refine List.Sublist.append ?_ (List.Sublist.refl _)
    have : ∀ (L : List (List Addr)) (i : Nat), (L.set i []).flatten.Sublist L.flatten := by
      intro L
      induction L with
      | nil => intro i; simp
      | cons x L ih => intro i; cases i with
        | zero => simp
        | succ i => simpa using (List.Sublist.refl x).append (ih i)
    exact this L i
  exact ⟨L.set i [], (S.sl.kill2 (x := none)).keep (Same.refl _) fun b hb => .inl (sub.subset hb), S.nd.sublist sub, fun a ha => S.own a (sub.subset ha), S.fr, fun p hp => (S.hd p hp).mono fun b o a _ => AT.less (fun b hb => sub.subset hb) a, pf.set S.pin⟩
section
variable {X : Cx} {c : Cn} {W : WX} {pos np pos' : Pos} {w : WS} {catch_ : Exn → Bool} {i : Nat} {x n : Str} {C : Value} {body suite : List Stmt} {b₀ : Stmt} {ws : Addr → Exn → WS}
def wIsE (i : Nat) (a : Addr) (b : Bool) : WE := fun env Q _ => (∃ m, env[i]? = some (some (opD a, m))) ∧ Q ⟨.bool b, mA⟩ env
theorem RS.opq_inv {K : PySem.W.Frag} {A : Addr → Prop} {H : Hp} {v : V} {a : Addr} (h : RS K A H v (opD a)) : v = .ref a := by
  generalize e : opD a = d at h
  cases h with
  | opq b =>
    simp only [opD, PyData.dict.injEq, List.cons.injEq, Prod.mk.injEq, PyData.int.injEq, and_true, true_and] at e
    have : a = b := Int.natCast_inj.mp e
    subst this; rfl
  | dct hd _ ek _ => exact (script_inv hd ek e.symm).elim
  | scr _ => simp [opD, scriptD] at e
  | _ => cases e
end
end VL
set_option maxRecDepth 100000
set_option maxHeartbeats 4000000
namespace VL
open PySem PySem.Spec PyProof.Rows L2
theorem scriptD_inj {ns ms : List Int} (h : scriptD ns = scriptD ms) : ns = ms := by
  simp only [scriptD, PyData.dict.injEq, List.cons.injEq, Prod.mk.injEq, PyData.list.injEq, and_true, true_and] at h
  have : ∀ {ns ms : List Int}, ns.map PyData.int = ms.map PyData.int → ns = ms := by
    intro ns
    induction ns with
    | nil => intro ms h; cases ms with
      | nil => rfl
      | cons _ _ => simp at h
    | cons n ns ih => intro ms h; cases ms with
      | nil => simp at h
      | cons m ms =>
        simp at h
        rw [h.1, ih (by simpa using h.2)]
  exact this h
theorem RS.scr_inv {K : PySem.W.Frag} {A : Addr → Prop} {H : Hp} {v : V} {ns : List Int} (h : RS K A H v (scriptD ns)) : ∃ a, v = .ref a ∧ SqF K H a (ns.map V.int) := by
  generalize e : scriptD ns = d at h
  cases h with
  | scr h => rw [scriptD_inj e]; exact ⟨_, rfl, h⟩
  | dct hd _ ek _ => exact (script_inv hd ek e.symm).elim
  | opq _ => simp [opD, scriptD] at e
  | _ => cases e
def wIxS : WO := fun ra rb Q => ∃ ns i k, ra.d = scriptD ns ∧ rb.d = .int i ∧ atI ns i = some k ∧ Q ⟨.int k, mA⟩
section
variable {X : Cx} {c : Cn} {W : WX} {pos p2 : Pos} {wa wb : WE} {a b : Expr}
theorem s_ixS : OpS c (rIx c.K) wIxS := by
  intro L Tm la lb env σ H ra rb x y Qv Q S h1 h2 ⟨ns, i, kk, e1, e2, e3, q⟩ k
  obtain ⟨d, m⟩ := ra
  obtain ⟨d2, m2⟩ := rb
  cases e1
  cases e2
  have r2 := h2.read
  cases r2
  obtain ⟨a, rfl, hq⟩ := h1.read.scr_inv
  obtain ⟨j, g1, g2⟩ := atI_tr (xs := ns.map V.int) (ys := ns) (by simp) e3
  exact .inl ⟨a, _, i, .int kk, rfl, rfl, hq.seq, g2 _ (by rw [List.getElem?_map, g1]; rfl), flat_end1 S q (.int _) rfl k⟩
theorem ve_ixS (ha : PE X a (rdE c W wa)) (hb : PE X b (rdE c W wb)) (hK : c.K = X.K := by rfl) (hs : PlainIx b := by exact fun _ _ => rfl) : PE X (.Subscript a b pos) (rdE c W (wBin wIxS wa wb)) :=
  PE.imp (pe_ix ix_seq ha hb hs) fun _ _ _ => by rw [← hK]; exact rd_bin s_ixS
end
def cutL {α : Type} (xs : List α) (lo hi : Option Int) : List α := (xs.drop (HT.sIx xs.length 0 lo)).take (HT.sIx xs.length xs.length hi - HT.sIx xs.length 0 lo)
abbrev WPt := VEnv → (Option Int → VEnv → Prop) → (Exn → VEnv → Prop) → Prop
def wNoP : WPt := fun env Q _ => Q none env
def wPt (w : WE) : WPt := fun env Q X => w env (fun r e => ∃ i, r.d = .int i ∧ Q (some i) e) X
def rdO (c : Cn) (W : WX) (w : WPt) : TO := fun σ H Q => ∃ env L Tm Qv X, Sim c L Tm env σ H ∧ w env Qv X ∧
  (∀ o L' env' H', Qv o env' → Step c H H' (L.flatten ++ Tm) Tm L' [] env' σ → Q o H') ∧ KontX c σ L Tm H X W
theorem PO.imp {X : Cx} {e : Option Expr} {t t' : TO} (h : PO X e t) (q : ∀ σ H Q, t' σ H Q → t σ H Q) : PO X e t' := ⟨fun pins s σ H Q I w => h.run pins s σ H Q I (q _ _ _ w)⟩
section
variable {X : Cx} {c : Cn} {W : WX} {pos p2 : Pos} {wa wb : WE} {a e : Expr} {lo hi : Option Expr} {wl wh : WPt}
theorem vo_none : PO X none (rdO c W wNoP) := PO.imp po_none fun σ H Q h => by
  obtain ⟨env, L, Tm, Qv, X, S, q, k, kx⟩ := h
  exact k none L env H q (Step.refl S)
theorem vo_some (h : PE X e (rdE c W wa)) : PO X (some e) (rdO c W (wPt wa)) := PO.imp (po_some h) fun σ H Q h => by
  obtain ⟨env, L, Tm, Qv, X, S, q, k, kx⟩ := h
  refine ⟨env, L, Tm, _, X, S, q, fun r v l L1 env1 H1 ⟨i, e, q⟩ st hr => ?_, kx⟩
  obtain ⟨d, m⟩ := r
  cases e
  have := hr.read
  cases this
  exact ⟨i, rfl, k (some i) L1 env1 H1 q st.drop⟩
def slR (ra : R) (lo hi : Option Int) (Q : R → Prop) : Prop := match ra.d with
  | .list ds => Q (cpR (cutL ds lo hi) (isB ra.m))
  | .str z => z.length ≤ sizeLine ∧ Q ⟨.str (cutS z lo hi), mA⟩
  | .dict [(.list [], .list ns)] => Q (cpR (cutL ns lo hi) false)
  | .tuple ds => flatAll ds = true ∧ Q ⟨.tuple (cutL ds lo hi), mA⟩
  | _ => False
def wSl (w : WE) (wl wh : WPt) : WE := fun env Q X => w env (fun r e => wl e (fun lo e1 => wh e1 (fun hi e2 => slR r lo hi fun r' => Q r' e2) X) X) X
def rSlAll (K : PySem.W.Frag) : V → Option Int → Option Int → Hp → VK → Prop := fun x lo hi H Q => rSlL K x lo hi H Q ∨ rSlS x lo hi H Q ∨ (∃ a xs, x = .ref a ∧ SqT K H a xs ∧
  (HT.sIx xs.length 0 lo = 0 ∧ HT.sIx xs.length xs.length hi = xs.length → Q (.ref a) H) ∧ (¬ (HT.sIx xs.length 0 lo = 0 ∧ HT.sIx xs.length xs.length hi = xs.length) → ∀ p, H p = none → Q (.ref p) (upd H p (.tup (cutV xs lo hi)))))
theorem RSs.cut {K : PySem.W.Frag} {A : Addr → Prop} {H : Hp} {xs : List V} {ds : List D} (h : RSs K A H xs ds) (lo hi : Option Int) : RSs K A H (cutV xs lo hi) (cutL ds lo hi) := by
  unfold cutV cutL
  rw [h.len]
  exact RSs.take _ (drop _ h)
where
  drop {K : PySem.W.Frag} {A : Addr → Prop} {H : Hp} : ∀ {xs : List V} {ds : List D} (n : Nat), RSs K A H xs ds → RSs K A H (xs.drop n) (ds.drop n)
    | _, _, 0, h => h
    | _, _, _ + 1, .nil => .nil
    | _, _, n + 1, .cons _ r => drop n r
theorem flatAll_cut {ds : List D} (lo hi : Option Int) (h : flatAll ds = true) : flatAll (cutL ds lo hi) = true := by
  unfold cutL
  have d1 : ∀ (n : Nat) (ds : List D), flatAll ds = true → flatAll (ds.drop n) = true := by
    intro n
    induction n with
    | zero => intro ds h; exact h
    | succ n ih => intro ds h; cases ds with
      | nil => exact h
      | cons d ds => simp only [flatAll, Bool.and_eq_true] at h; exact ih ds h.2
  have d2 : ∀ (n : Nat) (ds : List D), flatAll ds = true → flatAll (ds.take n) = true := by
    intro n
    induction n with
    | zero => intro ds h; simp [flatAll]
    | succ n ih => intro ds h; cases ds with
      | nil => exact h
      | cons d ds => simp only [flatAll, Bool.and_eq_true, List.take_succ_cons] at h ⊢; exact ⟨h.1, ih ds h.2⟩
  exact d2 _ _ (d1 _ _ h)
theorem rs_ints {K : PySem.W.Frag} {A : Addr → Prop} {H : Hp} : ∀ ns : List Int, RSs K A H (ns.map V.int) (ns.map PyData.int)
  | [] => .nil
  | n :: ns => .cons (.int n) (rs_ints ns)
theorem slr_end {L : List (List Addr)} {Tm l : List Addr} {env : VEnv} {σ : Sg} {H : Hp} {ra : R} {x : V} {lo hi : Option Int} {Qv : R → Prop} {Q : VK} (S : Sim c L (Tm ++ l) env σ H) (h1 : Res c (L.flatten ++ (Tm ++ l)) H ra x l) (q : slR ra lo hi Qv)
    (k : ∀ r v l' H', Qv r → Step c H H' (L.flatten ++ (Tm ++ l)) Tm L l' env σ → Res c (L.flatten ++ (Tm ++ l')) H' r v l' → Q v H') : rSlAll c.K x lo hi H Q := by
  obtain ⟨d1, m1⟩ := ra
  have r1 := h1.read
  unfold slR at q
  simp only at q r1
  split at q
  · rename_i ds
    obtain ⟨a, us, rfl, ha, _, r1'⟩ := r1.lst_inv
    refine .inl ⟨a, us, rfl, SqL.of ha, fun p np => ?_⟩
    refine cp_end S np (r1'.cut lo hi) (fun hm => ?_) q k
    obtain ⟨a', us', e1, ha', s1⟩ := Res.lstS (m := m1) h1 hm S fun b hb => hb
    cases e1
    rw [ha] at ha'; cases ha'
    exact s1.cut lo hi
  · cases r1
    exact .inr (.inl ⟨_, rfl, q.1, flat_end1 S q.2 (.str _) rfl k⟩)
  · rename_i ns
    generalize hd : PyData.dict [(.list [], .list ns)] = d at r1
    cases r1 with
    | dct h _ e _ => exact (script_inv h e hd.symm).elim
    | opq a => simp [opD] at hd
    | @scr a ms ha =>
      have e : ns = ms.map PyData.int := by
        simp only [scriptD, PyData.dict.injEq, List.cons.injEq, Prod.mk.injEq, PyData.list.injEq, and_true, true_and] at hd
        exact hd
      subst e
      refine .inl ⟨a, _, rfl, ha.seq, fun p np => ?_⟩
      exact cp_end S np ((rs_ints ms).cut lo hi) (fun _ => (rs_ints ms).cut lo hi) q k
    | _ => cases hd
  · rename_i ds
    obtain ⟨a, us, rfl, ha, r1'⟩ := r1.tup_inv
    have fc := flatAll_cut lo hi q.1
    refine .inr (.inr ⟨a, us, rfl, SqT.of ha, fun z => ?_, fun z p np => ?_⟩)
    · have e : cutL ds lo hi = ds := by
        unfold cutL
        rw [r1'.len] at z
        rw [z.1, z.2]; simp
      have q2 := q.2
      rw [e] at q2
      exact flat_end1 S q2 r1 (by simpa [flatD] using q.1) k
    · have sm := same_new (o := .tup (cutV us lo hi)) np
      refine k _ _ [] _ q.2 (new_end S np (List.nil_sublist _)).drop ?_
      exact Res.flat (A := fun _ => True) (.tup upd_same ((r1'.cut lo hi).keep (Kp.same sm))) (by simpa [flatD] using fc)
  · exact q.elim
theorem ve_slice (ha : PE X a (rdE c W wa)) (hl : PO X lo (rdO c W wl)) (hh : PO X hi (rdO c W wh)) (hK : c.K = X.K := by rfl) : PE X (.Subscript a (.Slice lo hi none p2) pos) (rdE c W (wSl wa wl wh)) :=
  PE.imp (pe_slice (sl_list.or (sl_str.or sl_tupA)) ha hl hh) fun σ H Q h => by
    obtain ⟨env, L, Tm, Qv, X, S, q, k, kx⟩ := h
    refine ⟨env, L, Tm, _, X, S, q, fun r v l L1 env1 H1 h1 st1 hr => ?_, kx⟩
    refine ⟨env1, L1, Tm ++ l, _, X, st1.sim, h1, fun o L2 env2 H2 h2 st2 => ?_, kx.step st1⟩
    have st2' := st1.trans st2
    rw [List.append_nil] at st2'
    refine ⟨env2, L2, Tm ++ l, _, X, st2'.sim, h2, fun o2 L3 env3 H3 h3 st3 => ?_, kx.step st2'⟩
    have st3' := st2'.trans st3
    rw [List.append_nil] at st3'
    have r1 := hr.keep st2.same st2.gr
    rw [List.append_nil] at r1
    have r2 := r1.keep st3.same st3.gr
    rw [List.append_nil] at r2
    have := slr_end (Q := Q) st3'.sim r2 h3 fun r v l' H' hq st4 hr4 => k r v l' L3 env3 H' hq (Step.then st3' st4) hr4
    rw [← hK]
    exact this
end
section
variable {X : Cx} {c : Cn} {W : WX} {pos p : Pos} {wa : WA} {e e' : Expr}
theorem ve_len1 (hm : X.mg "len" = none) (ha : PA X [e] (rdA c W wa)) (hK : c.K = X.K := by rfl) (hg : Gl X "len" := by rfl) (he : starEach [e] X.env = (false, eval e X.env) :: starEach [] X.env := by rfl) (hpl : (backTo pos (starEach [] X.env)).any (·.1) = false := by rfl) : PE X (.Call (.Name "len" p) [e] [] pos) (rdE c W (wCB wLen wa)) :=
  ve_callB len_R (by rw [← hK]; exact s_len) hm PySem.boot_len ha hg (by decide) (by decide) he hpl
end
end VL
set_option maxRecDepth 100000
set_option maxHeartbeats 4000000
namespace VL
open PySem PySem.Spec PyProof.Rows L2
def FnAt (K : PySem.W.Frag) (x : Str) (st : Stmt) : Prop := ∃ (f : Addr) (oc : Value) (od an : Option Addr) (osl : Array (Option Value)) (kV doc pm cdv ct : Value),
  PySem.W.nsIn K mainGlobals x = some (some (.ref f)) ∧ K.lookup f = some ⟨oc, od, .func (PySem.W.fnOf x x (defArgs st) (defBody st) (defScope st) .none kV doc pm an cdv ct), osl⟩ ∧ PySem.W.codeIn K cdv x = true ∧ PySem.W.keepIn K (.ref f) = true
def ErrAt (K : PySem.W.Frag) (x : Str) : Prop := ∃ C : Addr, PySem.W.nsIn K mainGlobals x = some (some (.ref C)) ∧
  PySem.W.excIn K C [.type "ValueError", .type "Exception", .type "BaseException", .type "object"] "ValueError.__new__" = true ∧ PySem.W.keepIn K (.ref C) = true ∧ PySem.W.subIn K (.ref C) (.type "BaseException") = some true ∧ PySem.W.typeIn K (.ref C) = some (.type "type")
def ExmAt (K : PySem.W.Frag) (x y : Str) (b : Bool) : Prop := ∃ C D : Addr, PySem.W.nsIn K mainGlobals x = some (some (.ref C)) ∧ PySem.W.nsIn K mainGlobals y = some (some (.ref D)) ∧ PySem.W.exmOne K (.ref C) (.ref D) = some b
def KitAt (K : PySem.W.Frag) (x y : Str) (b : Bool) : Prop := ∃ C D : Addr, PySem.W.nsIn K mainGlobals x = some (some (.ref C)) ∧ PySem.W.nsIn K mainGlobals y = some (some (.ref D)) ∧ PySem.W.kitOne K (.ref C) (.ref D) = some b
def NoAt (K : PySem.W.Frag) (x : Str) : Prop := PySem.W.nsIn K mainGlobals x = some none
def IntAt (K : PySem.W.Frag) (x : Str) (i : Int) : Prop := ∃ t, PySem.W.nsIn K mainGlobals x = some (some (.int i t))
def clOf (names : List Str) (mg : Str → Option Value) : Str → Option Addr := fun x => if names.contains x = true then (match mg x with | some (.ref a) => some a | _ => none) else none
def catch_ (l : List Str) : Exn → Bool := fun ex => l.contains ex.cls
section
variable {P : Program} {w : World} {K : PySem.W.Frag} {mg : Str → Option Value} {base h : Heap} {cl : Str → Option Addr} {names : List Str}
theorem NoAt.out {x : Str} (X : K.In h) (G : h.Ns mainGlobals mg) (a : NoAt K x) : mg x = none := PySem.W.mg_none_of X G a
theorem IntAt.out {x : Str} {i : Int} (X : K.In h) (G : h.Ns mainGlobals mg) (a : IntAt K x i) : ∃ t, mg x = some (.int i t) := let ⟨t, e⟩ := a; ⟨t, PySem.W.mg_of X G e⟩
theorem clOf_at {x : Str} {C : Addr} (hx : names.contains x = true) (e : mg x = some (.ref C)) : clOf names mg x = some C := by
  unfold clOf
  rw [if_pos hx, e]
theorem clOf_inv {x : Str} {C : Addr} (e : clOf names mg x = some C) : names.contains x = true ∧ mg x = some (.ref C) := by
  unfold clOf at e
  split at e
  · rename_i hx
    refine ⟨hx, ?_⟩
    split at e
    · rename_i h; cases e; exact h
    · cases e
  · cases e
theorem ErrAt.err {x : Str} (X : K.In h) (G : h.Ns mainGlobals mg) (a : ErrAt K x) (hx : names.contains x = true) : ∃ C, Err K mg (clOf names mg) x C := by
  obtain ⟨C, e, x1, x2, x3, x4⟩ := a
  have g := PySem.W.mg_of X G e
  exact ⟨C, clOf_at hx g, g, x1, x2, x3, x4⟩
theorem catches_of {y : Str} {D : Addr} {l : List Str} (X : K.In h) (G : h.Ns mainGlobals mg) (hy : mg y = some (.ref D)) (hl : ∀ x, names.contains x = true → ExmAt K x y (l.contains x)) : Catches K (clOf names mg) (.ref D) (catch_ l) := by
  intro ex E e
  obtain ⟨h1, h2⟩ := clOf_inv e
  obtain ⟨C, D', e1, e2, e3⟩ := hl _ h1
  have g1 := PySem.W.mg_of X G e1
  have g2 := PySem.W.mg_of X G e2
  rw [h2] at g1; rw [hy] at g2
  cases g1; cases g2
  exact e3
theorem kit_of {x y : Str} {b : Bool} {C D : Addr} (X : K.In h) (G : h.Ns mainGlobals mg) (a : KitAt K x y b) (hx : mg x = some (.ref C)) (hy : mg y = some (.ref D)) : PySem.W.kitOne K (.ref C) (.ref D) = some b := by
  obtain ⟨C', D', e1, e2, e3⟩ := a
  have g1 := PySem.W.mg_of X G e1
  have g2 := PySem.W.mg_of X G e2
  rw [hx] at g1; rw [hy] at g2
  cases g1; cases g2
  exact e3
theorem def_okF {x : Str} {st : Stmt} {f : Addr} {fd : FuncData} {N ps : List Str} {k : Nat} {wf : WS} {S : FSpec} (F : Fun K x x st f fd) (sc : FnScope N ps (defScope st))
    (body : ∀ (cdv : Value) (A : Around) (outer : List Env) (s : Shared) (H : Hp) (E : XK) (P0 : Addr → Prop), Room k (cxV P w K mg base N x st f cdv A outer s H E).A → PSs (cxV P w K mg base N x st f cdv A outer s H E) (defBody st) (rdS (cnOf K cl P0 H) (WXE E) wf))
    (spec : ∀ ds Qv Xv, S ds Qv Xv → ds.length = ps.length ∧ wf (startE N ds) ⟨fun _ => Qv ⟨.none, mA⟩, fun r _ => Qv r, fun ex _ => Xv ex⟩) : FnOk P w K mg base (L2.CX P w) (k + 1) f fd ps (spOf K cl S) := by
  refine F.okX sc (fun vs H Q E h => ?_) (fun cdv A outer s H vs Q E hr h => ?_)
  · obtain ⟨ds, P0, Qv, X, r, hs, _⟩ := h
    rw [r.len, (spec _ _ _ hs).1]
  · obtain ⟨ds, P0, Qv, X, r, hs, hq, hx⟩ := h
    refine ⟨_, body cdv A outer s H E P0 hr, ?_⟩
    obtain ⟨L, S0⟩ := start_sim (cl := cl) (N := N) r
    refine ⟨_, L, _, S0, (spec _ _ _ hs).2, fun env' L' σ' H' h1 S' => ?_, fun r v l H' e9 h1 rr => ?_, fun ex env' L' σ' H' cls d h1 S' he => ?_⟩
    · exact hq ⟨.none, mA⟩ .non [] H' h1 (fun b o e => S'.fr b o e (by simp)) List.nodup_nil (fun b hb => by cases hb) (Res.flat (A := fun _ => True) .non rfl)
    · refine hq r v l H' h1 (fun b o e => rr.fr b o e (by simp)) rr.nd (fun b hb => ?_) rr.res
      obtain ⟨o1, o2⟩ := rr.own b hb
      exact ⟨o1.elim id fun z => (by cases z), o2⟩
    · exact hx ex cls d H' h1 (fun b o e => S'.fr b o e (by simp)) he
theorem def_at {x : Str} {st : Stmt} {N ps : List Str} {k : Nat} {wf : WS} {S : FSpec} (X : K.In h) (G : h.Ns mainGlobals mg) (a : FnAt K x st) (sc : FnScope N ps (defScope st))
    (hb : ∀ (kV doc pm : Value) (an : Option Addr) (cdv ct : Value) (us : List Value), us.length = ps.length → bindArgs (PySem.W.fnOf x x (defArgs st) (defBody st) (defScope st) .none kV doc pm an cdv ct) ⟨us, []⟩ = pure (ps.zip us))
    (body : ∀ (f : Addr) (cdv : Value) (A : Around) (outer : List Env) (s : Shared) (H : Hp) (E : XK) (P0 : Addr → Prop), Room k (cxV P w K mg base N x st f cdv A outer s H E).A → PSs (cxV P w K mg base N x st f cdv A outer s H E) (defBody st) (rdS (cnOf K cl P0 H) (WXE E) wf))
    (spec : ∀ ds Qv Xv, S ds Qv Xv → ds.length = ps.length ∧ wf (startE N ds) ⟨fun _ => Qv ⟨.none, mA⟩, fun r _ => Qv r, fun ex _ => Xv ex⟩) : Def P w K mg base cl x ps.length S (k + 1) := by
  obtain ⟨f, oc, od, an, osl, kV, doc, pm, cdv, ct, e1, e2, e3, e4⟩ := a
  have F := fun_mk (st := st) e2 e3 e4
  exact ⟨f, _, ps, rfl, def_okF F sc (body f) spec, PySem.W.mg_of X G e1, e4, F.binds (ps := ps) hb⟩
end
def LawS : FSpec := fun ds Qv _ => ∃ ns : List Int, ds = [scriptD ns] ∧ ns.length ≤ 63 ∧ (∀ z ∈ ns, Builtin.Int.intBits z ≤ 1048576) ∧ Qv ⟨.bool true, mA⟩
theorem law_sp {K : PySem.W.Frag} {cl : Str → Option Addr} {H : Hp} {a : Addr} {ns : List Int} (hl : ns.length ≤ 63) (hb : ∀ z ∈ ns, Builtin.Int.intBits z ≤ 1048576) (hO : Only H) (hS : SqL K H a (ns.map V.int)) : spOf K cl LawS [.ref a] H (fun v _ => v = .bl true) fun _ _ _ => False := by
  have hF : SqF K H a (ns.map V.int) := by
    rcases hS with (h | ⟨o, h⟩) | h
    · rcases hO a with z | ⟨o, xs, z⟩
      · rw [z] at h; cases h
      · rw [z] at h; cases h
    · exact .inl ⟨o, h⟩
    · exact .inr h
  refine ⟨[scriptD ns], fun _ => True, fun r => r = ⟨.bool true, mA⟩, fun _ => False, .cons (.scr hF) .nil, ⟨ns, rfl, hl, hb, rfl⟩, fun r v l H' e _ _ _ hr => ?_, fun _ _ _ _ e => e.elim⟩
  subst e
  have := hr.read
  cases this
  rfl
theorem vs_raiseE {X : Cx} {c : Cn} {W : WX} {pos p p2 pos2 : Pos} {x m : Str} {j : Nat} (T : ∃ C, Err X.K X.mg c.cl x C) (hc : X.calm = true) (tk : Takes X W) (hg : Gl X x := by rfl) (hdb : (x == ("__debug__" : Str)) = false := by decide) :
    PS X (.Raise (some (.Call (.Name x p) [.Constant (.str m) j p2] [] pos2)) none pos) (rdS c W (wRaise x)) := let ⟨_, h⟩ := T; vs_raise h hc tk hg hdb
end VL
set_option maxRecDepth 100000
set_option maxHeartbeats 4000000
namespace VL
open PySem PySem.Spec PyProof.Rows L2
def ExcAt (K : PySem.W.Frag) (x : Str) : Prop := ∃ D : Addr, PySem.W.nsIn K mainGlobals x = some (some (.ref D)) ∧
  PySem.W.findIn K (.ref D) "__getattribute__" = some (some (.builtin "BaseException.__getattribute__")) ∧ PySem.W.findIn K (.ref D) "__getattr__" = some none ∧ PySem.W.subIn K (.ref D) (.type "BaseException") = some true ∧ PySem.W.hasDictIn K D = true ∧
  PySem.W.findIn K (.ref D) "__class__" = some (some (.builtin "object.__class__")) ∧ PySem.W.specialIn K (.builtin "object.__class__") "__get__" = some (some (.builtin "getset_descriptor.__get__")) ∧ PySem.W.takesIn K (.builtin "object.__class__") = some true ∧ PySem.W.mroIn K D (.type "object") = some true
def ExcAll (K : PySem.W.Frag) (cl : Str → Option Addr) : Prop := ∀ x D, cl x = some D → ExcC K D
def Clause (K : PySem.W.Frag) (mg : Str → Option Value) (cl : Str → Option Addr) (y : Str) (l : List Str) : Prop := ∃ C : Addr, mg y = some (.ref C) ∧ Catches K cl (.ref C) (catch_ l)
def Asked (K : PySem.W.Frag) (mg : Str → Option Value) (cl : Str → Option Addr) (y : Str) (l : List Str) : Prop := ∃ C : Addr, mg y = some (.ref C) ∧ ∀ x D, cl x = some D → PySem.W.kitOne K (.ref D) (.ref C) = some (l.contains x)
section
variable {P : Program} {w : World} {K : PySem.W.Frag} {mg : Str → Option Value} {base h : Heap} {names : List Str}
theorem excAll_of (X : K.In h) (G : h.Ns mainGlobals mg) (a : ∀ x, names.contains x = true → ExcAt K x) : ExcAll K (clOf names mg) := by
  intro x D e
  obtain ⟨h1, h2⟩ := clOf_inv e
  obtain ⟨D', e1, x1, x2, x3, x4, x5, x6, x7, x8⟩ := a x h1
  have g := PySem.W.mg_of X G e1
  rw [h2] at g
  cases g
  exact ⟨x1, x2, x3, x4, x5, x6, x7, x8⟩
theorem clause_of {y : Str} {l : List Str} (X : K.In h) (G : h.Ns mainGlobals mg) (hy : ∃ C : Addr, PySem.W.nsIn K mainGlobals y = some (some (.ref C))) (hl : ∀ x, names.contains x = true → ExmAt K x y (l.contains x)) : Clause K mg (clOf names mg) y l := by
  obtain ⟨C, e⟩ := hy
  have g := PySem.W.mg_of X G e
  exact ⟨C, g, catches_of X G g hl⟩
theorem asked_of {y : Str} {l : List Str} (X : K.In h) (G : h.Ns mainGlobals mg) (hy : ∃ C : Addr, PySem.W.nsIn K mainGlobals y = some (some (.ref C))) (hl : ∀ x, names.contains x = true → KitAt K x y (l.contains x)) : Asked K mg (clOf names mg) y l := by
  obtain ⟨C, e⟩ := hy
  have g := PySem.W.mg_of X G e
  refine ⟨C, g, fun x D ex => ?_⟩
  obtain ⟨h1, h2⟩ := clOf_inv ex
  exact kit_of X G (hl x h1) h2 g
theorem each_name {p : Str → Prop} {names : List Str} (h : ∀ x ∈ names, p x) : ∀ x, names.contains x = true → p x := fun x hx => h x (by simpa using hx)
end
section
variable {X : Cx} {c : Cn} {W : WX} {pos np pos' : Pos} {w : WS} {l : List Str} {i : Nat} {x n : Str} {body suite : List Stmt} {b₀ : Stmt} {ws : Addr → Exn → WS}
end
end VL
namespace VL
open PySem PySem.Spec PyProof.Rows L2
theorem lawS_cl {K : PySem.W.Frag} {cl : Str → Option Addr} (vs : List V) (H : Hp) (Q : VK) (E : XK) (h : spOf K (fun _ => none) LawS vs H Q E) : spOf K cl LawS vs H Q E := by
  obtain ⟨ds, P0, Qv, X, r, ⟨ns, e, h1, h2, h3⟩, hq, hx⟩ := h
  exact ⟨ds, P0, Qv, fun _ => False, r, ⟨ns, e, h1, h2, h3⟩, hq, fun _ _ _ _ z => z.elim⟩
section
variable {K : PySem.W.Frag} {x y : Str}
theorem FnAt.mk {st : Stmt} {f : Addr} {oc : Value} {od an : Option Addr} {osl : Array (Option Value)} {kV doc pm cdv ct : Value}
  (h1 : PySem.W.nsIn K mainGlobals x = some (some (.ref f))) (h2 : K.lookup f = some ⟨oc, od, .func (PySem.W.fnOf x x (defArgs st) (defBody st) (defScope st) .none kV doc pm an cdv ct), osl⟩) (h3 : PySem.W.codeIn K cdv x = true) (h4 : PySem.W.keepIn K (.ref f) = true) : FnAt K x st := ⟨f, oc, od, an, osl, kV, doc, pm, cdv, ct, h1, h2, h3, h4⟩
theorem ErrAt.mk {C : Addr} (h1 : PySem.W.nsIn K mainGlobals x = some (some (.ref C)))
  (h2 : PySem.W.excIn K C [.type "ValueError", .type "Exception", .type "BaseException", .type "object"] "ValueError.__new__" = true) (h3 : PySem.W.keepIn K (.ref C) = true) (h4 : PySem.W.subIn K (.ref C) (.type "BaseException") = some true) (h5 : PySem.W.typeIn K (.ref C) = some (.type "type")) : ErrAt K x := ⟨C, h1, h2, h3, h4, h5⟩
theorem ExmAt.mk {b : Bool} {C D : Addr} (h1 : PySem.W.nsIn K mainGlobals x = some (some (.ref C))) (h2 : PySem.W.nsIn K mainGlobals y = some (some (.ref D))) (h3 : PySem.W.exmOne K (.ref C) (.ref D) = some b) : ExmAt K x y b := ⟨C, D, h1, h2, h3⟩
theorem KitAt.mk {b : Bool} {C D : Addr} (h1 : PySem.W.nsIn K mainGlobals x = some (some (.ref C))) (h2 : PySem.W.nsIn K mainGlobals y = some (some (.ref D))) (h3 : PySem.W.kitOne K (.ref C) (.ref D) = some b) : KitAt K x y b := ⟨C, D, h1, h2, h3⟩
theorem NoAt.mk (h : PySem.W.nsIn K mainGlobals x = some none) : NoAt K x := h
theorem IntAt.mk {i : Int} {t : Tok} (h : PySem.W.nsIn K mainGlobals x = some (some (.int i t))) : IntAt K x i := ⟨t, h⟩
def RefAt (K : PySem.W.Frag) (x : Str) : Prop := ∃ C : Addr, PySem.W.nsIn K mainGlobals x = some (some (.ref C))
theorem RefAt.mk {C : Addr} (h : PySem.W.nsIn K mainGlobals x = some (some (.ref C))) : RefAt K x := ⟨C, h⟩
theorem ExcAt.mk {D : Addr} (h0 : PySem.W.nsIn K mainGlobals x = some (some (.ref D)))
  (h1 : PySem.W.findIn K (.ref D) "__getattribute__" = some (some (.builtin "BaseException.__getattribute__"))) (h2 : PySem.W.findIn K (.ref D) "__getattr__" = some none) (h3 : PySem.W.subIn K (.ref D) (.type "BaseException") = some true) (h4 : PySem.W.hasDictIn K D = true)
  (h5 : PySem.W.findIn K (.ref D) "__class__" = some (some (.builtin "object.__class__"))) (h6 : PySem.W.specialIn K (.builtin "object.__class__") "__get__" = some (some (.builtin "getset_descriptor.__get__"))) (h7 : PySem.W.takesIn K (.builtin "object.__class__") = some true) (h8 : PySem.W.mroIn K D (.type "object") = some true) : ExcAt K x := ⟨D, h0, h1, h2, h3, h4, h5, h6, h7, h8⟩
end
end VL
set_option maxRecDepth 100000
set_option maxHeartbeats 4000000
namespace VL
open PySem PySem.Spec PyProof.Rows L2
theorem flatAll_ints : ∀ ns : List Int, flatAll (ns.map PyData.int) = true
  | [] => rfl
  | n :: ns => by simp [flatAll, flatD, flatAll_ints ns]
theorem outR_all {rs : List R} {d : D} : outR rs ⟨d, mA⟩ = ⟨d, mA⟩ := by
  unfold outR
  split <;> rfl
theorem wLen_scr {ns : List Int} {m : Md} {Q : R → Prop} : wLen [⟨scriptD ns, m⟩] Q = Q ⟨.int ns.length, mA⟩ := by
  apply propext
  refine ⟨fun ⟨r, e, h⟩ => ?_, fun h => ⟨_, rfl, ?_⟩⟩
  · cases e
    simpa [scriptD] using h
  · simpa [scriptD] using h
theorem envLe.rfl (e : VEnv) : envLe e e := by
  induction e with
  | nil => exact True.intro
  | cons s e ih => exact ⟨slLe.refl s, ih⟩
theorem slr_scr {ns : List Int} {m : Md} {lo hi : Option Int} {Q : R → Prop} : slR ⟨scriptD ns, m⟩ lo hi Q = Q (cpR (cutL (ns.map PyData.int) lo hi) false) := rfl
theorem cutL_map {α β : Type} (f : α → β) (xs : List α) (lo hi : Option Int) : cutL (xs.map f) lo hi = (cutL xs lo hi).map f := by
  unfold cutL
  simp [List.map_take, List.map_drop]
theorem cpR_ints {ns : List Int} {b : Bool} : cpR (ns.map PyData.int) b = ⟨.list (ns.map PyData.int), mA⟩ := by
  unfold cpR
  rw [flatAll_ints, if_pos rfl]
end VL
set_option maxRecDepth 100000
set_option maxHeartbeats 4000000
namespace VL
open PySem PySem.Spec PyProof.Rows L2
theorem atI_nat' {α : Type} {xs : List α} {i : Nat} {x : α} (h : xs[i]? = some x) : atI xs (i : Int) = some x := by
  obtain ⟨hl, e⟩ := List.getElem?_eq_some_iff.mp h
  unfold atI ixN
  simp [hl]; exact e
theorem atI_pos {α : Type} {xs : List α} {i : Int} {x : α} (h0 : 0 ≤ i) (h : xs[i.toNat]? = some x) : atI xs i = some x := by
  have := atI_nat' h
  rwa [Int.toNat_of_nonneg h0] at this
theorem kidOk_A {n : Option Nat} {d : D} : kidOk n ⟨d, mA⟩ := .inr ⟨none, rfl, by cases n <;> rfl⟩
theorem log2_lt {i : Int} {n : Nat} (h : i.natAbs < 2 ^ (n + 1)) : i.natAbs.log2 ≤ n := by
  by_cases z : i.natAbs = 0
  · rw [z]; simp
  · have := (Nat.log2_lt z).mpr h
    omega
theorem divW {i j : Int} (h0 : 0 < j) (n : Nat) (h : j.natAbs < 2 ^ (n + 1)) (hn : n < 9000) : CDiv i j ∨ CDivW i j := .inr ⟨h0, by have := log2_lt h; omega⟩
theorem wApp_inner {e' : VEnv} {i : Nat} {r : R} {Dv : DV} (ds : List D) (m n : Option Nat) (e : e'[i]? = some (some (.list ds, .o m))) (hm : popM m = some n) (hk : kidOk n r) (hl : ds.length < 1000000) (h : Dv.nx (killB (e'.set i (some (.list (ds ++ [r.d]), .o m))))) :
    ∃ d m ds n d', OwnL e' i [] ds d m n ∧ kidOk n r ∧ ds.length < 1000000 ∧ setP d [] (.list (ds ++ [r.d])) = some d' ∧ Dv.nx (killB (e'.set i (some (d', .o m)))) :=
  ⟨_, m, ds, n, _, ⟨e, rfl, ⟨m, rfl, hm⟩⟩, hk, hl, rfl, h⟩
end VL
set_option maxRecDepth 100000
set_option maxHeartbeats 4000000
namespace VL
open PySem PySem.Spec PyProof.Rows L2
section
variable {env e : VEnv} {Dv : DV} {w u : WS} {we wa wb : WE} {wl : WA} {wo : WO} {wf : WF} {t t2 : WT} {i : Nat} {Q : R → VEnv → Prop} {X : Exn → VEnv → Prop} {QA : List R → VEnv → Prop} {QB : Bool → VEnv → Prop} {q : R → Prop} {x y : Int} {m m' : Md} {ds ds' : List D} {s s' : Str} {b b' : Bool} {d d' : D} {n : Option Nat}
theorem i_lt (h : q ⟨.bool (decide (x < y)), mA⟩) : woLt ⟨.int x, m⟩ ⟨.int y, m'⟩ q := ⟨x, y, rfl, rfl, h⟩
theorem i_gt (h : q ⟨.bool (decide (y < x)), mA⟩) : woGt ⟨.int x, m⟩ ⟨.int y, m'⟩ q := ⟨x, y, rfl, rfl, h⟩
theorem i_add (h : q ⟨.int (x + y), mA⟩) : woAdd ⟨.int x, m⟩ ⟨.int y, m'⟩ q := h
theorem i_mul (hc : CMul x y ∨ CMulW x y) (h : q ⟨.int (x * y), mA⟩) : woMul ⟨.int x, m⟩ ⟨.int y, m'⟩ q := ⟨hc, h⟩
theorem i_mod (hc : 0 < y) (h : q ⟨.int (x % y), mA⟩) : woMod ⟨.int x, m⟩ ⟨.int y, m'⟩ q := ⟨x, y, rfl, rfl, hc, h⟩
theorem i_fd (hc : CDiv x y ∨ CDivW x y) (h : q ⟨.int (x / y), mA⟩) : woFd ⟨.int x, m⟩ ⟨.int y, m'⟩ q := ⟨x, y, rfl, rfl, hc, h⟩
theorem i_pow (hc : CPow x y) (h : q ⟨.int (x ^ y.toNat), mA⟩) : woPow ⟨.int x, m⟩ ⟨.int y, m'⟩ q := ⟨x, y, rfl, rfl, hc, h⟩
theorem i_eqI (h : q ⟨.bool (decide (x = y)), mA⟩) : woEq ⟨.int x, m⟩ ⟨.int y, m'⟩ q := h
theorem i_neD (h0 : scalD d d' = none) (h1 : SeqAt.shaped d = true) (h2 : SeqAt.shaped d' = true) (h : q ⟨.bool (!PyData.eqv d d'), mA⟩) : woNe ⟨d, m⟩ ⟨d', m'⟩ q := by
  unfold woNe; simp only [h0]; exact ⟨h1, h2, h⟩
theorem i_lenL (h : q ⟨.int ds.length, mA⟩) : wLen [⟨.list ds, m⟩] q := ⟨_, rfl, h⟩
theorem i_lenS {ns : List Int} (h : q ⟨.int ns.length, mA⟩) : wLen [⟨scriptD ns, m⟩] q := by rw [wLen_scr]; exact h
theorem i_lst {rs : List R} {n : Option Nat} (hj : joinM rs = some n) (hl : rs.length ≤ 1000) (h : q ⟨.list (rs.map (·.d)), .o (succM n)⟩) : wLst rs q := by
  unfold wLst; rw [hj]; exact ⟨hl, h⟩
theorem i_tup {rs : List R} {n : Option Nat} (hj : joinM rs = some n) (hl : rs.length ≤ 1000) (h : q ⟨.tuple (rs.map (·.d)), .o n⟩) : wTup rs q := by
  unfold wTup; rw [hj]; exact ⟨hl, h⟩
end
end VL
namespace VL
open PySem PySem.Spec PyProof.Rows L2
end VL
set_option maxRecDepth 100000
set_option maxHeartbeats 4000000
namespace VL
open PySem PySem.Spec PyProof.Rows L2
section
variable {X : Cx} {c : Cn} {W : WX} {pos p p2 pos2 : Pos} {wa : WA} {we wb wc : WE} {e e' a b cc : Expr}
end
end VL
set_option maxRecDepth 100000
set_option maxHeartbeats 4000000
namespace VL
open PySem PySem.Spec PyProof.Rows L2
section
variable {K : PySem.W.Frag} {A : Addr → Prop} {H : Hp}
end
section
variable {X : Cx} {c : Cn} {W : WX} {pos px py apx apy cpx cpy : Pos} {wk : WE} {k : Expr} {x y : Str}
end
end VL
set_option maxRecDepth 100000
set_option maxHeartbeats 4000000
namespace VL
open PySem PySem.Spec PyProof.Rows L2
theorem atI_ixq {α : Type} {xs : List α} {i : Int} {x : α} (h : atI xs i = some x) : ∃ j, ixN xs.length i = some j ∧ xs[j]? = some x := by
  unfold atI at h
  cases hj : ixN xs.length i with
  | none => rw [hj] at h; cases h
  | some j => rw [hj] at h; exact ⟨j, rfl, h⟩
theorem atI_ofq {α : Type} {xs : List α} {i : Int} {j : Nat} {x : α} (hj : ixN xs.length i = some j) (h : xs[j]? = some x) : atI xs i = some x := by
  unfold atI
  rw [hj]; exact h
def tupP : D → List Int → Prop
  | _, [] => True
  | .tuple ds, i :: p => ∃ d, atI ds i = some d ∧ tupP d p
  | _, _ => False
theorem NavP.tup {K : PySem.W.Frag} {H H' : Hp} (ht : ∀ b xs, H b = some (.tup xs) → H' b = some (.tup xs)) : ∀ {p : List Int} {A : Addr → Prop} {d : D} {v w : V}, RS K A H v d → tupP d p → NavP H v p w → NavP H' v p w
  | [], _, _, _, _, _, _, n => n
  | i :: p, A, d, v, w, r, t, n => by
    match d, t, r with
    | .tuple ds, ⟨d0, a0, t0⟩, r =>
      obtain ⟨a, xs, u, rfl, ha, hu, nn⟩ := n
      obtain ⟨a', xs', ea, ha', rs⟩ := r.tup_inv
      cases ea
      have hx : xs = xs' := by
        rcases ha with ha | ha
        · rw [ha] at ha'; cases ha'
        · rw [ha] at ha'; cases ha'; rfl
      subst hx
      obtain ⟨j, hj, hj2⟩ := atI_ixq a0
      obtain ⟨u', hu', ru⟩ := rs.get hj2
      have : atI xs i = some u' := atI_ofq (by rw [rs.len]; exact hj) hu'
      rw [hu] at this; cases this
      exact ⟨a, xs, u, rfl, .inr (ht _ _ ha'), hu, NavP.tup ht ru t0 nn⟩
end VL
set_option maxRecDepth 100000
set_option maxHeartbeats 4000000
namespace VL
open PySem PySem.Spec PyProof.Rows L2
section
variable {X : Cx} {c : Cn} {W : WX} {pos px ppx apx cpx pos2 p3 : Pos} {wp : WP} {o : Expr} {tx : Str} {z : Int} {j3 : _}
end
end VL
set_option maxRecDepth 100000
set_option maxHeartbeats 4000000
namespace VL
open PySem PySem.Spec PyProof.Rows L2
section
variable {env e : VEnv} {Dv : DV} {wa wb wc we : WE} {wo wo' : WO} {i j t : Nat} {Q : R → VEnv → Prop} {X : Exn → VEnv → Prop} {q : R → Prop} {m m' : Md} {ds : List D} {n : Int} {z : Int}
end
end VL
set_option maxRecDepth 100000
set_option maxHeartbeats 4000000
namespace VL
open PySem PySem.Spec PyProof.Rows L2
section
variable {X : Cx} {c : Cn} {W : WX} {apos cpos : Pos} {wl wx : WE} {o e : Expr} {k : Nat}
end
section
variable {X : Cx} {c : Cn} {k : Nat}
end
end VL
set_option maxRecDepth 100000
set_option maxHeartbeats 4000000
namespace VL
open PySem PySem.Spec PyProof.Rows L2
section
variable {X : Cx} {c : Cn} {W : WX} {pos p p1 p2 p3 : Pos} {wa : WA} {we : WE} {e : Expr} {k : Nat}
end
section
variable {q : R → Prop} {m : Md} {ns : List Int} {ds : List D} {Q : R → VEnv → Prop} {env : VEnv} {X : Exn → VEnv → Prop} {we : WE}
end
end VL
set_option maxRecDepth 100000
set_option maxHeartbeats 4000000
namespace VL
open PySem PySem.Spec PyProof.Rows L2
def wExt (wp : WP) (we : WE) : WS := fun env Dv => wp env (fun i p e => isL e i p ∧ we e (fun r e' => ∃ d m ds n zs d', r.d = .list zs ∧ (flatAll zs = true ∨ (r.m = .o none ∧ n = none)) ∧ OwnL e' i p ds d m n ∧ ds.length + zs.length < 1000000 ∧
  setP d p (.list (ds ++ zs)) = some d' ∧ Dv.nx (killB (e'.set i (some (d', .o m))))) Dv.ex) Dv.ex
section
variable {X : Cx} {c : Cn} {W : WX} {pos apos cpos : Pos} {wp : WP} {we : WE} {o e : Expr}
theorem vs_ext (ho : PE X o (rdP c W wp)) (he : PE X e (rdE c W we))
    (hb : PE X o (rdP c W wp) → PE X e (rdE c W we) → PE X (.Call (.Attribute o "extend" apos) [e] [] cpos) (tBM X.K "list" rExtend (rdP c W wp) (tCons (rdE c W we) tNil)) := by exact fun ho he => pe_bm PySem.F.plainAttrs_list PySem.F.slot_list_extend PySem.F.type_list_extend mt_extend ho (pa_cons he pa_nil)) :
    PS X (.Expr (.Call (.Attribute o "extend" apos) [e] [] cpos) pos) (rdS c W (wExt wp we)) := PS.imp (ps_expr (hb ho he)) fun D σ H h => by
  obtain ⟨env, L, Dv, S, q, k, kr, kx⟩ := h
  refine rd_tgt S q kx fun i p v v0 L1 env1 H1 ⟨h0, h1⟩ S1 hv nav => ?_
  obtain ⟨_, _, _, _, ty⟩ := h0.ty S1 hv nav (K := X.K)
  refine ⟨ty, rd_arg S1 h1 kx fun r y l L2 env2 H2 ⟨d, m, ds, n, zs, d', ez, fz, ⟨e1, e2, mp, e3, e4⟩, e6, e7, h2⟩ sm S2 hr => ?_⟩
  obtain ⟨a, xs, rfl, ha, hl, _, up⟩ := S2.mutL e1 hv (nav.keep sm) e2 e3 e4
  have r1 := hr.read
  rw [ez] at r1
  obtain ⟨b, us, rfl, hb, _, r1'⟩ := r1.lst_inv
  suffices hk : _ by
    obtain ⟨L3, S3⟩ := up (xs ++ us) _ d' hk e7
    exact ⟨a, b, xs, us, rfl, rfl, ha, hb, by rw [hl, r1'.len]; exact Nat.le_of_lt (line_big e6), k _ L3 σ _ h2 S3⟩
  · rcases fz with fz | ⟨fm, fn⟩
    · refine fun lk rk nd hlk => ⟨lk, fun b hb => .inl hb, nd, fun T' h1 h2 => ⟨_, List.Perm.refl _, ?_⟩⟩
      have rk' : ROs c.K (AT c.B T') H2 n xs ds lk := ROs.mono (fun b o x _ => AT.less h1 x) rk
      have := ROs.append rk' (flat_kidsM (A' := AT c.B T') (m := n) r1' fz)
      simpa using this
    · subst fn
      obtain ⟨rd_, rm⟩ := r
      cases fm
      cases ez
      rcases RO.lst_inv hr.dep with ⟨fm, _, _⟩ | ⟨n', b', us', lkk, hn', eb, hb', rkk, el⟩
      · cases fm
      cases hn'
      cases eb
      rw [hb] at hb'
      cases hb'
      subst el
      have ndl := (List.nodup_append.mp S2.nd).2.1
      refine fun lk rk nd hlk => ⟨lk ++ lkk, fun b hb => (List.mem_append.mp hb).imp id fun z => List.mem_cons_of_mem _ z, List.nodup_append.mpr ⟨nd, (List.nodup_cons.mp ndl).2, fun b hb b' hb' z => by subst z; exact (hlk b hb).2 (List.mem_cons_of_mem _ hb')⟩, fun T' h1 h2 => ⟨_, List.Perm.refl _, ?_⟩⟩
      exact ROs.append (ROs.mono (fun b o x _ => AT.less h1 x) rk) (ROs.mono (fun b o x _ => AT.less h1 x) rkk)
end
section
variable {X : Cx} {c : Cn} {W : WX} {pos px py apx apy cpx cpy : Pos} {wk : WE} {k : Expr} {x y : Str}
end
section
variable {X : Cx} {c : Cn} {W : WX} {pos p cpos tpos : Pos} {g : Tg} {wa : WA} {w : WS} {elts : List Expr} {kk : Nat} {a : Expr} {body : List Stmt}
end
end VL
set_option maxRecDepth 100000
set_option maxHeartbeats 4000000
namespace VL
open PySem PySem.Spec PyProof.Rows L2
section
variable {κ α : Type} [DecidableEq κ]
def putKK (kvs : List (κ × α)) (k : κ) (v : α) : List (κ × α) :=
  if (kvs.any fun kv => decide (kv.1 = k)) = true then kvs.map (fun kv => if kv.1 = k then (kv.1, v) else kv) else kvs ++ [(k, v)]
end
def dctI (kvs : List (Int × D)) : D := mkDict false (kvs.map fun p => (.int p.1, p.2))
def dctT (kvs : List (List Int × D)) : D := mkDict true (kvs.map fun p => (.tuple (p.1.map .int), p.2))
def flatKV {κ : Type} (kvs : List (κ × D)) : Prop := ∀ p ∈ kvs, flatD p.2 = true
section
variable {K : PySem.W.Frag} {A A' : Addr → Prop} {H H' : Hp}
inductive PrI (K : PySem.W.Frag) (A : Addr → Prop) (H : Hp) : List (Key × V) → List (Int × D) → Prop
  | nil : PrI K A H [] []
  | cons {i : Int} {v : V} {d : D} {r : List (Key × V)} {s : List (Int × D)} : RS K A H v d → PrI K A H r s → PrI K A H ((.inl i, v) :: r) ((i, d) :: s)
inductive PrT (K : PySem.W.Frag) (A : Addr → Prop) (H : Hp) : List (List Key × V) → List (List Int × D) → Prop
  | nil : PrT K A H [] []
  | cons {i : List Int} {v : V} {d : D} {r : List (List Key × V)} {s : List (List Int × D)} : RS K A H v d → PrT K A H r s → PrT K A H ((i.map .inl, v) :: r) ((i, d) :: s)
theorem kD_int {k : Key} {i : Int} (h : kD k = .int i) : k = .inl i := by
  cases k with
  | inl j => cases h; rfl
  | inr x => cases h
theorem kDs_int : ∀ {k : List Key} {i : List Int}, k.map kD = i.map PyData.int → k = i.map .inl
  | [], [], _ => rfl
  | [], _ :: _, h => by cases h
  | _ :: _, [], h => by cases h
  | k :: ks, i :: is, h => by
    simp only [List.map_cons, List.cons.injEq] at h
    rw [kD_int h.1, kDs_int h.2]; rfl
theorem PrI.of : ∀ {k' : List (Key × V)} {kvs : List (Int × D)}, (k'.map fun p => kD p.1) = (kvs.map fun p => PyData.int p.1) → RSs K A H (k'.map (·.2)) (kvs.map (·.2)) → PrI K A H k' kvs
  | [], [], _, _ => .nil
  | [], _ :: _, h, _ => by cases h
  | _ :: _, [], h, _ => by cases h
  | (k, v) :: r, (i, d) :: s, h, hv => by
    simp only [List.map_cons, List.cons.injEq] at h
    cases hv with
    | cons h1 h2 =>
      rw [kD_int h.1]
      exact .cons h1 (PrI.of h.2 h2)
theorem PrT.of : ∀ {k' : List (List Key × V)} {kvs : List (List Int × D)}, (k'.map fun p => PyData.tuple (p.1.map kD)) = (kvs.map fun p => PyData.tuple (p.1.map PyData.int)) → RSs K A H (k'.map (·.2)) (kvs.map (·.2)) → PrT K A H k' kvs
  | [], [], _, _ => .nil
  | [], _ :: _, h, _ => by cases h
  | _ :: _, [], h, _ => by cases h
  | (k, v) :: r, (i, d) :: s, h, hv => by
    simp only [List.map_cons, List.cons.injEq, PyData.tuple.injEq] at h
    cases hv with
    | cons h1 h2 =>
      have := kDs_int h.1
      rw [this]
      exact .cons h1 (PrT.of h.2 h2)
theorem inls_inj : ∀ {a b : List Int}, a.map (Sum.inl : Int → Key) = b.map Sum.inl → a = b
  | [], [], _ => rfl
  | [], _ :: _, h => by cases h
  | _ :: _, [], h => by cases h
  | a :: as, b :: bs, h => by
    simp only [List.map_cons, List.cons.injEq, Sum.inl.injEq] at h
    rw [h.1, inls_inj h.2]
theorem PrI.any {k' : List (Key × V)} {kvs : List (Int × D)} (h : PrI K A H k' kvs) (i : Int) : (k'.any fun kv => decide (kv.1 = .inl i)) = kvs.any fun kv => decide (kv.1 = i) := by
  induction h with
  | nil => rfl
  | @cons j v d r s h _ ih =>
    rw [List.any_cons, List.any_cons, ih]
    congr 1
    by_cases e : j = i
    · simp [e]
    · have : ¬ (Sum.inl j : Key) = .inl i := fun z => e (Sum.inl.inj z)
      simp [e]
theorem PrT.any {k' : List (List Key × V)} {kvs : List (List Int × D)} (h : PrT K A H k' kvs) (i : List Int) : (k'.any fun kv => decide (kv.1 = i.map .inl)) = kvs.any fun kv => decide (kv.1 = i) := by
  induction h with
  | nil => rfl
  | @cons j v d r s h _ ih =>
    rw [List.any_cons, List.any_cons, ih]
    congr 1
    by_cases e : j = i
    · simp [e]
    · have : ¬ j.map (Sum.inl : Int → Key) = i.map .inl := fun z => e (inls_inj z)
      simp [e, this]
theorem PrI.mapp {k' : List (Key × V)} {kvs : List (Int × D)} (h : PrI K A H k' kvs) (i : Int) {v : V} {d : D} (hv : RS K A H v d) : PrI K A H (k'.map fun kv => if kv.1 = .inl i then (kv.1, v) else kv) (kvs.map fun kv => if kv.1 = i then (kv.1, d) else kv) := by
  induction h with
  | nil => exact .nil
  | @cons j v0 d0 r s h _ ih =>
    rw [List.map_cons, List.map_cons]
    by_cases e : j = i
    · rw [if_pos (show (Sum.inl j : Key) = .inl i by rw [e]), if_pos e]
      exact .cons hv ih
    · rw [if_neg (show ¬ (Sum.inl j : Key) = .inl i from fun z => e (Sum.inl.inj z)), if_neg e]
      exact .cons h ih
theorem PrT.mapp {k' : List (List Key × V)} {kvs : List (List Int × D)} (h : PrT K A H k' kvs) (i : List Int) {v : V} {d : D} (hv : RS K A H v d) : PrT K A H (k'.map fun kv => if kv.1 = i.map .inl then (kv.1, v) else kv) (kvs.map fun kv => if kv.1 = i then (kv.1, d) else kv) := by
  induction h with
  | nil => exact .nil
  | @cons j v0 d0 r s h _ ih =>
    rw [List.map_cons, List.map_cons]
    by_cases e : j = i
    · rw [if_pos (show j.map (Sum.inl : Int → Key) = i.map .inl by rw [e]), if_pos e]
      exact .cons hv ih
    · rw [if_neg (show ¬ j.map (Sum.inl : Int → Key) = i.map .inl from fun z => e (inls_inj z)), if_neg e]
      exact .cons h ih
theorem PrI.snoc {k' : List (Key × V)} {kvs : List (Int × D)} (h : PrI K A H k' kvs) (i : Int) {v : V} {d : D} (hv : RS K A H v d) : PrI K A H (k' ++ [(.inl i, v)]) (kvs ++ [(i, d)]) := by
  induction h with
  | nil => exact .cons hv .nil
  | cons h _ ih => exact .cons h ih
theorem PrT.snoc {k' : List (List Key × V)} {kvs : List (List Int × D)} (h : PrT K A H k' kvs) (i : List Int) {v : V} {d : D} (hv : RS K A H v d) : PrT K A H (k' ++ [(i.map .inl, v)]) (kvs ++ [(i, d)]) := by
  induction h with
  | nil => exact .cons hv .nil
  | cons h _ ih => exact .cons h ih
theorem PrI.put {k' : List (Key × V)} {kvs : List (Int × D)} (h : PrI K A H k' kvs) (i : Int) {v : V} {d : D} (hv : RS K A H v d) : PrI K A H (putK k' (.inl i) v) (putKK kvs i d) := by
  unfold putK putKK
  rw [h.any i]
  split
  · exact h.mapp i hv
  · exact h.snoc i hv
theorem PrT.put {k' : List (List Key × V)} {kvs : List (List Int × D)} (h : PrT K A H k' kvs) (i : List Int) {v : V} {d : D} (hv : RS K A H v d) : PrT K A H (putK k' (i.map .inl) v) (putKK kvs i d) := by
  unfold putK putKK
  rw [h.any i]
  split
  · exact h.mapp i hv
  · exact h.snoc i hv
theorem PrI.len {k' : List (Key × V)} {kvs : List (Int × D)} (h : PrI K A H k' kvs) : k'.length = kvs.length := by
  induction h with
  | nil => rfl
  | cons h _ ih => simp [ih]
theorem PrT.len {k' : List (List Key × V)} {kvs : List (List Int × D)} (h : PrT K A H k' kvs) : k'.length = kvs.length := by
  induction h with
  | nil => rfl
  | cons h _ ih => simp [ih]
theorem PrI.keep {k' : List (Key × V)} {kvs : List (Int × D)} (h : PrI K A H k' kvs) (f : flatKV kvs) (k : Kp (fun _ => False) H H') : PrI K A' H' k' kvs := by
  induction h with
  | nil => exact .nil
  | @cons j v d r s h _ ih =>
    have fd : flatD d = true := f (j, d) List.mem_cons_self
    exact .cons (((h.flat (A' := fun _ => False) fd).keep k).flat fd) (ih fun p hp => f p (List.mem_cons_of_mem _ hp))
theorem PrT.keep {k' : List (List Key × V)} {kvs : List (List Int × D)} (h : PrT K A H k' kvs) (f : flatKV kvs) (k : Kp (fun _ => False) H H') : PrT K A' H' k' kvs := by
  induction h with
  | nil => exact .nil
  | @cons j v d r s h _ ih =>
    have fd : flatD d = true := f (j, d) List.mem_cons_self
    exact .cons (((h.flat (A' := fun _ => False) fd).keep k).flat fd) (ih fun p hp => f p (List.mem_cons_of_mem _ hp))
end
section
variable {X : Cx} {c : Cn} {W : WX} {pos tpos : Pos} {wd wk we : WE} {o i e : Expr} {k : Nat}
end
end VL
set_option maxRecDepth 100000
set_option maxHeartbeats 4000000
namespace VL
open PySem PySem.Spec PyProof.Rows L2
def seedF (ns : List Int) : Int := ns.foldl (fun s c => (s * 48271 + c % 1000003 + 1) % 2147483647) 5
def cellF (ns : List Int) (p : Int) : Int := if p < ns.length then (ns[p.toNat]?).getD 0 else (seedF (cutL ns none (some 63)) + 7919 * p) % 1000003
def mixF (c k : Int) : Int := (((c % 2147483629 + 1013 * k + 7919) ^ 3 % 2147483647) * 40699 + 3793 * k * k + 11) % 2147483399 / 101
def rowSt (ns : List Int) (p c : Int) (sz : List Int) : Nat → Int × List Int
  | 0 => (c, [])
  | k + 1 => if c < 10 ^ 18 then ((rowSt ns p c sz k).1, (rowSt ns p c sz k).2 ++ [mixF c k % (sz[k]?).getD 1])
    else if 0 < (rowSt ns p c sz k).1 then ((rowSt ns p c sz k).1 / (sz[k]?).getD 1, (rowSt ns p c sz k).2 ++ [(rowSt ns p c sz k).1 % (sz[k]?).getD 1])
    else ((rowSt ns p c sz k).1, (rowSt ns p c sz k).2 ++ [mixF (cellF ns ((p + 1 + k) % 63)) k % (sz[k]?).getD 1])
def rowF (ns : List Int) (p : Int) (sz : List Int) : List Int := (rowSt ns p (cellF ns p) sz sz.length).2
def RowIn : List Int → List Int → Prop
  | [], [] => True
  | s :: r, x :: xs => (0 ≤ x ∧ x < s) ∧ RowIn r xs
  | _, _ => False
theorem RowIn.of : ∀ {sz xs : List Int}, xs.length = sz.length → (∀ (i : Nat) s x, sz[i]? = some s → xs[i]? = some x → 0 ≤ x ∧ x < s) → RowIn sz xs
  | [], [], _, _ => True.intro
  | [], _ :: _, h, _ => by cases h
  | _ :: _, [], h, _ => by cases h
  | s :: sz, x :: xs, h, q => ⟨q 0 s x rfl rfl, RowIn.of (by simpa using h) fun i s x h1 h2 => q (i + 1) s x (by simpa using h1) (by simpa using h2)⟩
def sp_law_cell : FSpec := fun ds Q _ => ∃ ns p, ds = [scriptD ns, .int p] ∧ 0 ≤ p ∧ p < 1000 ∧ ns.length ≤ 63 ∧ Q ⟨.int (cellF ns p), mA⟩
def sp_law_mix : FSpec := fun ds Q _ => ∃ c k, ds = [.int c, .int k] ∧ 0 ≤ k ∧ k < 10000 ∧ Q ⟨.int (mixF c k), mA⟩
def sp_law_row : FSpec := fun ds Q _ => ∃ (ns : List Int) (p : Int) (sz : List Int), ds = [scriptD ns, .int p, .list (sz.map .int)] ∧ 0 ≤ p ∧ p < 1000 ∧ ns.length ≤ 63 ∧ sz.length ≤ 500 ∧ (∀ s ∈ sz, 0 < s ∧ s < 2 ^ 5000) ∧ Q ⟨.list ((rowF ns p sz).map .int), mA⟩
end VL
set_option maxRecDepth 100000
set_option maxHeartbeats 4000000
namespace VL
open PySem PySem.Spec PyProof.Rows L2
def ent (t : List (List Int)) (a b : Int) : Int := ((t[a.toNat]?).getD [])[b.toNat]?.getD 0
def sp_law_is_whole : FSpec := fun ds Q _ => ∃ n, ds = [.int n] ∧ Q ⟨.bool true, mA⟩
end VL
set_option maxRecDepth 100000
set_option maxHeartbeats 4000000
namespace VL
open PySem PySem.Spec PyProof.Rows L2
section
variable {env e : VEnv} {Dv : DV} {q : R → Prop} {m m' : Md} {ds : List D} {t : List (List Int)} {r : List Int} {n : Nat} {a b A B v : Int} {i k : Nat} {wi : WE} {X : Exn → VEnv → Prop} {Q : Nat → List Int → VEnv → Prop}
end
section
variable {t : List (List Int)} {r : List Int} {m m' : Md} {q : R → Prop}
end
section
variable {wa : WE} {w : WS} {Dv : DV} {t : List (List Int)} {r : List Int} {m : Md} {i : Nat} {e : VEnv}
end
end VL
set_option maxRecDepth 100000
set_option maxHeartbeats 4000000
namespace VL
open PySem PySem.Spec PyProof.Rows L2
section
variable {env e : VEnv} {Dv : DV} {q : R → Prop} {m m' : Md} {ds : List D} {t : List (List Int)} {r : List Int} {s : List (Int × Int)} {n : Nat} {a b A B v : Int} {i j k : Nat} {wi we wd wk wa wl : WE} {w : WS} {X : Exn → VEnv → Prop} {Q : R → VEnv → Prop}
end
end VL
set_option maxRecDepth 100000
set_option maxHeartbeats 4000000
namespace VL
open PySem PySem.Spec PyProof.Rows L2
def AskedB (K : PySem.W.Frag) (cl : Str → Option Addr) (y : String) (l : List Str) : Prop := ∀ x D, cl x = some D → PySem.W.kitOne K (.ref D) (.type y) = some (l.contains x)
def KitTAt (K : PySem.W.Frag) (x : Str) (y : String) (b : Bool) : Prop := ∃ C : Addr, PySem.W.nsIn K mainGlobals x = some (some (.ref C)) ∧ PySem.W.kitOne K (.ref C) (.type y) = some b
theorem KitTAt.mk {K : PySem.W.Frag} {x : Str} {y : String} {b : Bool} {C : Addr} (h1 : PySem.W.nsIn K mainGlobals x = some (some (.ref C))) (h2 : PySem.W.kitOne K (.ref C) (.type y) = some b) : KitTAt K x y b := ⟨C, h1, h2⟩
section
variable {P : Program} {w : World} {K : PySem.W.Frag} {mg : Str → Option Value} {base h : Heap} {names : List Str}
theorem askedB_of {y : String} {l : List Str} (X : K.In h) (G : h.Ns mainGlobals mg) (hl : ∀ x, names.contains x = true → KitTAt K x y (l.contains x)) : AskedB K (clOf names mg) y l := by
  intro x D ex
  obtain ⟨h1, h2⟩ := clOf_inv ex
  obtain ⟨C, e1, e2⟩ := hl x h1
  have g := PySem.W.mg_of X G e1
  rw [h2] at g
  cases g
  exact e2
end
section
variable {X : Cx} {c : Cn} {W : WX} {pos : Pos}
end
end VL
set_option maxRecDepth 100000
set_option maxHeartbeats 4000000
namespace VL
open PySem PySem.Spec PyProof.Rows L2
section
variable {X : Cx} {c : Cn} {W : WX} {pos p p2 pos2 : Pos} {wa wb : WE} {a b : Expr}
end
end VL
set_option maxRecDepth 100000
set_option maxHeartbeats 4000000
namespace VL
open PySem PySem.Spec PyProof.Rows L2
inductive Out (α : Type) where
  | ok (a : α) | exn (x : Exn) | stuck
namespace Out
variable {α β γ : Type}
def bind (m : Out α) (k : α → Out β) : Out β := match m with | .ok a => k a | .exn x => .exn x | .stuck => .stuck
def map (f : α → β) (m : Out α) : Out β := m.bind fun a => .ok (f a)
@[simp] theorem bind_ok (a : α) (k : α → Out β) : (Out.ok a).bind k = k a := Eq.trans rfl rfl
@[simp] theorem bind_exn (x : Exn) (k : α → Out β) : (Out.exn x).bind k = .exn x := Eq.trans rfl rfl
@[simp] theorem bind_stuck (k : α → Out β) : (Out.stuck : Out α).bind k = .stuck := Eq.trans rfl rfl
@[simp] theorem bind_assoc (m : Out α) (k : α → Out β) (l : β → Out γ) : (m.bind k).bind l = m.bind fun a => (k a).bind l := by cases m <;> rfl
@[simp] theorem map_ok (a : α) (f : α → β) : (Out.ok a).map f = .ok (f a) := Eq.trans rfl rfl
@[simp] theorem bind_id (m : Out α) : (m.bind fun a => .ok a) = m := by cases m <;> rfl
end Out
def lift {α : Type} : Option α → Out α | some a => .ok a | none => .stuck
@[simp] theorem lift_some {α : Type} (a : α) : lift (some a) = .ok a := Eq.trans rfl rfl
@[simp] theorem lift_none {α : Type} : lift (none : Option α) = .stuck := Eq.trans rfl rfl
def noX {α : Type} : Out α → Out α | .exn _ => .stuck | m => m
@[simp] theorem noX_ok {α : Type} (a : α) : noX (.ok a) = .ok a := Eq.trans rfl rfl
def Sat {α : Type} (m : Out α) (Q : α → Prop) (X : Exn → Prop) : Prop := match m with | .ok a => Q a | .exn x => X x | .stuck => False
section
variable {α β : Type} {m : Out α} {k : α → Out β} {Q Q' : α → Prop} {R : β → Prop} {X X' : Exn → Prop}
@[simp] theorem sat_ok {a : α} : Sat (.ok a) Q X ↔ Q a := ⟨fun h => h, fun h => h⟩
@[simp] theorem sat_exn {x : Exn} : Sat (.exn x : Out α) Q X ↔ X x := ⟨fun h => h, fun h => h⟩
@[simp] theorem sat_stuck : Sat (.stuck : Out α) Q X ↔ False := ⟨fun h => h, fun h => h⟩
theorem sat_bind : Sat (m.bind k) R X ↔ Sat m (fun a => Sat (k a) R X) X := by cases m <;> exact Iff.rfl
theorem Sat.mono (h : Sat m Q X) (hq : ∀ a, Q a → Q' a) (hx : ∀ x, X x → X' x) : Sat m Q' X' := by
  cases m with
  | ok a => exact hq _ h
  | exn x => exact hx _ h
  | stuck => exact h
theorem Sat.imp (h : Sat m Q X) (hq : ∀ a, Q a → Q' a) : Sat m Q' X := h.mono hq fun _ h => h
theorem sat_lift {α : Type} {o : Option α} {Q : α → Prop} {X : Exn → Prop} : Sat (lift o) Q X ↔ ∃ a, o = some a ∧ Q a := by cases o <;> simp
theorem sat_noX : Sat (noX m) Q X ↔ Sat m Q fun _ => False := by cases m <;> exact Iff.rfl
theorem Sat.eq (h : Sat m (fun a => a = v) fun _ => False) : m = .ok v := by
  cases m with
  | ok a => exact congrArg _ h
  | exn x => exact h.elim
  | stuck => exact h.elim
end
inductive Fl (ρ σ : Type) where
  | ret (r : ρ) | nxt (s : σ)
def flowT {ρ σ : Type} (k : σ → Out ρ) : Fl ρ σ → Out ρ | .ret r => .ok r | .nxt s => k s
def flowF {ρ σ τ : Type} (k : σ → Out (Fl ρ τ)) : Fl ρ σ → Out (Fl ρ τ) | .ret r => .ok (.ret r) | .nxt s => k s
@[simp] theorem flowT_ret {ρ σ : Type} (k : σ → Out ρ) (r : ρ) : flowT k (.ret r) = .ok r := Eq.trans rfl rfl
@[simp] theorem flowT_nxt {ρ σ : Type} (k : σ → Out ρ) (s : σ) : flowT k (.nxt s) = k s := Eq.trans rfl rfl
@[simp] theorem flowF_ret {ρ σ τ : Type} (k : σ → Out (Fl ρ τ)) (r : ρ) : flowF k (.ret r) = .ok (.ret r) := Eq.trans rfl rfl
@[simp] theorem flowF_nxt {ρ σ τ : Type} (k : σ → Out (Fl ρ τ)) (s : σ) : flowF k (.nxt s) = k s := Eq.trans rfl rfl
section
variable {α β σ ρ : Type}
def forO (f : σ → α → Out σ) : σ → List α → Out σ
  | s, [] => .ok s
  | s, x :: xs => (f s x).bind fun s' => forO f s' xs
def forF (f : σ → α → Out (Fl ρ σ)) : σ → List α → Out (Fl ρ σ)
  | s, [] => .ok (.nxt s)
  | s, x :: xs => (f s x).bind (flowF fun s' => forF f s' xs)
def mapO (f : α → Out β) : List α → Out (List β)
  | [] => .ok []
  | x :: xs => (f x).bind fun y => (mapO f xs).bind fun ys => .ok (y :: ys)
def fmapO (p : α → Out Bool) (f : α → Out β) : List α → Out (List β)
  | [] => .ok []
  | x :: xs => (p x).bind fun b => if b = true then (f x).bind fun y => (fmapO p f xs).bind fun ys => .ok (y :: ys) else fmapO p f xs
end
abbrev Enc (α : Type) := α → D
def eI : Enc Int := PyData.int
def eB : Enc Bool := PyData.bool
def eS : Enc Str := PyData.str
def eN : Enc Unit := fun _ => PyData.none
def eScr : Enc (List Int) := scriptD
section
variable {α β γ δ ε ζ : Type}
def eL (e : Enc α) : Enc (List α) := fun xs => .list (xs.map e)
def eTL (e : Enc α) : Enc (List α) := fun xs => .tuple (xs.map e)
def e2 (a : Enc α) (b : Enc β) : Enc (α × β) := fun p => .tuple [a p.1, b p.2]
def e3 (a : Enc α) (b : Enc β) (c : Enc γ) : Enc (α × β × γ) := fun p => .tuple [a p.1, b p.2.1, c p.2.2]
def e4 (a : Enc α) (b : Enc β) (c : Enc γ) (d : Enc δ) : Enc (α × β × γ × δ) := fun p => .tuple [a p.1, b p.2.1, c p.2.2.1, d p.2.2.2]
def e5 (a : Enc α) (b : Enc β) (c : Enc γ) (d : Enc δ) (e : Enc ε) : Enc (α × β × γ × δ × ε) := fun p => .tuple [a p.1, b p.2.1, c p.2.2.1, d p.2.2.2.1, e p.2.2.2.2]
def e6 (a : Enc α) (b : Enc β) (c : Enc γ) (d : Enc δ) (e : Enc ε) (f : Enc ζ) : Enc (α × β × γ × δ × ε × ζ) := fun p => .tuple [a p.1, b p.2.1, c p.2.2.1, d p.2.2.2.1, e p.2.2.2.2.1, f p.2.2.2.2.2]
def eO (e : Enc α) : Enc (Option α) | none => .none | some a => e a
def eU (a : Enc α) (b : Enc β) : Enc (α ⊕ β) | .inl x => a x | .inr y => b y
def eK (e : Enc α) : Enc (List (Int × α)) := fun kvs => dctI (kvs.map fun p => (p.1, e p.2))
def eKT (e : Enc α) : Enc (List (List Int × α)) := fun kvs => dctT (kvs.map fun p => (p.1, e p.2))
end
class Fl_ {α : Type} (e : Enc α) : Prop where
  fl : ∀ a, flatD (e a) = true
class Nf {α : Type} (e : Enc α) : Prop where
  nf : ∀ a, flatD (e a) = false
section
variable {α β γ δ ε ζ : Type} {a : Enc α} {b : Enc β} {c : Enc γ} {d : Enc δ} {e : Enc ε} {f : Enc ζ}
instance : Fl_ eI := ⟨fun _ => rfl⟩
instance : Fl_ eB := ⟨fun _ => rfl⟩
instance : Fl_ eS := ⟨fun _ => rfl⟩
instance : Fl_ eN := ⟨fun _ => rfl⟩
instance : Nf eScr := ⟨fun _ => flat_script⟩
instance : Nf (eL a) := ⟨fun _ => rfl⟩
instance : Nf (eK a) := ⟨fun _ => by unfold eK dctI; exact flat_dict⟩
instance : Nf (eKT a) := ⟨fun _ => by unfold eKT dctT; exact flat_dict⟩
theorem flatAll_map [h : Fl_ a] (xs : List α) : flatAll (xs.map a) = true := by
  induction xs with
  | nil => rfl
  | cons x xs ih => simp [flatAll, h.fl, ih]
instance [Fl_ a] : Fl_ (eTL a) := ⟨fun xs => by simpa [eTL, flatD] using flatAll_map xs⟩
instance [h : Fl_ a] : Fl_ (eO a) := ⟨fun | none => rfl | some x => h.fl x⟩
instance [h : Fl_ a] [g : Fl_ b] : Fl_ (eU a b) := ⟨fun | .inl x => h.fl x | .inr x => g.fl x⟩
instance [ha : Fl_ a] [hb : Fl_ b] : Fl_ (e2 a b) := ⟨fun p => by simp [e2, flatD, flatAll, ha.fl, hb.fl]⟩
instance [ha : Fl_ a] [hb : Fl_ b] [hc : Fl_ c] : Fl_ (e3 a b c) := ⟨fun p => by simp [e3, flatD, flatAll, ha.fl, hb.fl, hc.fl]⟩
instance [ha : Fl_ a] [hb : Fl_ b] [hc : Fl_ c] [hd : Fl_ d] : Fl_ (e4 a b c d) := ⟨fun p => by simp [e4, flatD, flatAll, ha.fl, hb.fl, hc.fl, hd.fl]⟩
instance [ha : Fl_ a] [hb : Fl_ b] [hc : Fl_ c] [hd : Fl_ d] [he : Fl_ e] : Fl_ (e5 a b c d e) := ⟨fun p => by simp [e5, flatD, flatAll, ha.fl, hb.fl, hc.fl, hd.fl, he.fl]⟩
instance [ha : Fl_ a] [hb : Fl_ b] [hc : Fl_ c] [hd : Fl_ d] [he : Fl_ e] [hf : Fl_ f] : Fl_ (e6 a b c d e f) := ⟨fun p => by simp [e6, flatD, flatAll, ha.fl, hb.fl, hc.fl, hd.fl, he.fl, hf.fl]⟩
instance nf2a [h : Nf a] : Nf (e2 a b) := ⟨fun p => by simp [e2, flatD, flatAll, h.nf]⟩
instance nf2b [h : Nf b] : Nf (e2 a b) := ⟨fun p => by simp [e2, flatD, flatAll, h.nf]⟩
instance nf3a [h : Nf a] : Nf (e3 a b c) := ⟨fun p => by simp [e3, flatD, flatAll, h.nf]⟩
instance nf3b [h : Nf b] : Nf (e3 a b c) := ⟨fun p => by simp [e3, flatD, flatAll, h.nf]⟩
instance nf3c [h : Nf c] : Nf (e3 a b c) := ⟨fun p => by simp [e3, flatD, flatAll, h.nf]⟩
instance nf4d [h : Nf d] : Nf (e4 a b c d) := ⟨fun p => by simp [e4, flatD, flatAll, h.nf]⟩
instance nf4a [h : Nf a] : Nf (e4 a b c d) := ⟨fun p => by simp [e4, flatD, flatAll, h.nf]⟩
instance nf5e [h : Nf e] : Nf (e5 a b c d e) := ⟨fun p => by simp [e5, flatD, flatAll, h.nf]⟩
instance nf5a [h : Nf a] : Nf (e5 a b c d e) := ⟨fun p => by simp [e5, flatD, flatAll, h.nf]⟩
end
section
variable {α β σ ρ τ : Type}
abbrev EG := VEnv → Prop
def RE (G : EG) (w : WE) (env env' : VEnv) (md : Md) (e : Enc α) (m : Out α) : Prop :=
  ∀ (Q : R → VEnv → Prop) (X : Exn → VEnv → Prop) (Xe : Exn → Prop), (∀ x v, G v → Xe x → X x v) → Sat m (fun a => Q ⟨e a, md⟩ env') Xe → w env Q X
def RT (G : EG) (w : WT) (env : VEnv) (m : Out Bool) : Prop :=
  ∀ (Q : Bool → VEnv → Prop) (X : Exn → VEnv → Prop) (Xe : Exn → Prop), (∀ x v, G v → Xe x → X x v) → Sat m (fun a => Q a env) Xe → w env Q X
def RA (G : EG) (w : WA) (env env' : VEnv) (f : τ → List R) (m : Out τ) : Prop :=
  ∀ (Q : List R → VEnv → Prop) (X : Exn → VEnv → Prop) (Xe : Exn → Prop), (∀ x v, G v → Xe x → X x v) → Sat m (fun a => Q (f a) env') Xe → w env Q X
def RB (G : EG) (w : WS) (env : VEnv) (m : Out β) (K : β → DV → Prop) : Prop :=
  ∀ (D : DV) (Xe : Exn → Prop), (∀ x v, G v → Xe x → D.ex x v) → Sat m (fun b => K b D) Xe → w env D
def KN (s : σ → VEnv) : σ → DV → Prop := fun V D => ∀ e, envLe (s V) e → D.nx e
def KT (e : Enc ρ) (md : Md) : ρ → DV → Prop := fun r D => ∀ v, D.rt ⟨e r, md⟩ v
def KF (e : Enc ρ) (md : Md) (s : σ → VEnv) : Fl ρ σ → DV → Prop
  | .ret r, D => ∀ v, D.rt ⟨e r, md⟩ v
  | .nxt V, D => ∀ e, envLe (s V) e → D.nx e
def wCut (w : WS) : WS := fun env D => ∃ J : VEnv → Prop, w env { D with nx := fun e => ∃ e', envLe e' e ∧ J e' } ∧ ∀ e, J e → D.nx e
theorem rdS_cut {c : Cn} {W : WX} {w : WS} : ∀ D σ H, rdS c W (wCut w) D σ H → rdS c W w D σ H := fun D σ H h => by
  obtain ⟨env, L, Dv, S, ⟨J, hw, hJ⟩, hn, hr, hx⟩ := h
  refine ⟨env, L, _, S, hw, fun env' L' σ' H' q S' => ?_, hr, hx⟩
  obtain ⟨e', le, j⟩ := q
  obtain ⟨L0, S0⟩ := S'.lower le
  exact hn e' L0 σ' H' (hJ _ j) S0
theorem vs_cut {X : Cx} {c : Cn} {W : WX} {w : WS} {st : Stmt} (h : PS X st (rdS c W w)) : PS X st (rdS c W (wCut w)) := PS.imp h rdS_cut
end
end VL
set_option maxRecDepth 100000
set_option maxHeartbeats 4000000
namespace VL
open PySem PySem.Spec PyProof.Rows L2
section
variable {α β γ δ σ ρ τ : Type} {G : EG} {env env1 env2 env3 : VEnv} {md m1 m2 m3 : Md} {a : Enc α} {b : Enc β} {c : Enc γ} {d : Enc δ} {wa wb wc we : WE} {wl wl' : WA} {wt wu : WT} {A : Out α} {B : Out β} {C : Out γ} {x : α} {y : β} {z : γ} {wo wo' : WO}
theorem re_c (v : D) (e : Enc α) (x : α) (h : e x = v := by rfl) : RE G (wC v) env env mA e (.ok x) := fun Q X Xe _ hs => by
  subst h; exact hs
theorem re_vF (i : Nat) (e : Enc α) (x : α) {m : Md} [f : Fl_ e] (h : env[i]? = some (some (e x, m)) := by rfl) : RE G (wVar i) env env mA e (.ok x) := fun Q X Xe _ hs => by
  refine ⟨_, _, h, ?_⟩
  unfold readR
  rw [if_pos (f.fl x)]; exact hs
theorem re_vS (i : Nat) (e : Enc α) (x : α) [f : Nf e] (h : env[i]? = some (some (e x, mS)) := by rfl) : RE G (wVar i) env env mS e (.ok x) := fun Q X Xe _ hs => by
  refine ⟨_, _, h, ?_⟩
  unfold readR
  rw [f.nf x]; exact hs
theorem re_vA (i : Nat) (e : Enc α) (x : α) [f : Nf e] (h : env[i]? = some (some (e x, mA)) := by rfl) : RE G (wVar i) env env .b e (.ok x) := fun Q X Xe _ hs => by
  refine ⟨_, _, h, ?_⟩
  unfold readR
  rw [f.nf x]; exact hs
theorem re_mF (i : Nat) (e : Enc α) (x : α) {m : Md} [f : Fl_ e] (h : env[i]? = some (some (e x, m)) := by rfl) : RE G (wMv i) env env mA e (.ok x) := fun Q X Xe _ hs => by
  refine ⟨_, _, h, ?_⟩
  rw [if_pos (f.fl x)]; exact hs
theorem re_mO (i : Nat) (e : Enc α) (x : α) {n : Option Nat} [f : Nf e] (h : env[i]? = some (some (e x, .o n)) := by rfl) : RE G (wMv i) env (env.set i none) (.o n) e (.ok x) := fun Q X Xe _ hs => by
  refine ⟨_, _, h, ?_⟩
  rw [f.nf x]; exact hs
def OpP (wo : WO) (a : Enc α) (m1 : Md) (b : Enc β) (m2 : Md) (op : α → β → γ) (c : Enc γ) (md : Md) : Prop := ∀ x y Q, Q ⟨c (op x y), md⟩ → wo ⟨a x, m1⟩ ⟨b y, m2⟩ Q
def OpO (wo : WO) (a : Enc α) (m1 : Md) (b : Enc β) (m2 : Md) (op : α → β → Option γ) (c : Enc γ) (md : Md) : Prop := ∀ x y z Q, op x y = some z → Q ⟨c z, md⟩ → wo ⟨a x, m1⟩ ⟨b y, m2⟩ Q
theorem re_2P {op : α → β → γ} (ho : OpP wo a m1 b m2 op c md) (ha : RE G wa env env1 m1 a (.ok x)) (hb : RE G wb env1 env2 m2 b (.ok y)) : RE G (wBin wo wa wb) env env2 md c (.ok (op x y)) := fun Q X Xe hX hs =>
  ha _ _ Xe hX (hb _ _ Xe hX (ho x y _ hs))
theorem re_2 {op : α → β → Out γ} (ho : ∀ x y Q Xe, Sat (op x y) (fun z => Q ⟨c z, md⟩) Xe → wo ⟨a x, m1⟩ ⟨b y, m2⟩ Q) (ha : RE G wa env env1 m1 a A) (hb : RE G wb env1 env2 m2 b B) : RE G (wBin wo wa wb) env env2 md c (A.bind fun x => B.bind fun y => op x y) := fun Q X Xe hX hs =>
  ha _ _ Xe hX ((sat_bind.mp hs).imp fun x hs => hb _ _ Xe hX ((sat_bind.mp hs).imp fun y hs => ho x y _ _ hs))
theorem re_2Q {op : α → β → Option γ} (ho : OpO wo a m1 b m2 op c md) (ha : RE G wa env env1 m1 a (.ok x)) (hb : RE G wb env1 env2 m2 b (.ok y)) : RE G (wBin wo wa wb) env env2 md c (lift (op x y)) := fun Q X Xe hX hs =>
  ha _ _ Xe hX (hb _ _ Xe hX (let ⟨_, hz, hs⟩ := sat_lift.mp hs; ho x y _ _ hz hs))
theorem opP_out {op : α → β → γ} (ho : OpP wo a m1 b m2 op c md) : ∀ x y Q Xe, Sat (.ok (op x y)) (fun z => Q ⟨c z, md⟩) Xe → wo ⟨a x, m1⟩ ⟨b y, m2⟩ Q := fun x y Q _ h => ho x y Q h
theorem opO_out {op : α → β → Option γ} (ho : OpO wo a m1 b m2 op c md) : ∀ x y Q Xe, Sat (lift (op x y)) (fun z => Q ⟨c z, md⟩) Xe → wo ⟨a x, m1⟩ ⟨b y, m2⟩ Q := fun x y Q _ h => let ⟨_, hz, hs⟩ := sat_lift.mp h; ho x y _ Q hz hs
theorem re_eq {m m' : Out α} (h : RE G we env env1 md a m) (e : m = m' := by rfl) : RE G we env env1 md a m' := e ▸ h
theorem xo_add : OpP woAdd eI m1 eI m2 (fun x y => x + y) eI mA := fun x y Q h => i_add h
theorem xo_lt : OpP woLt eI m1 eI m2 (fun x y => decide (x < y)) eB mA := fun x y Q h => i_lt h
theorem xo_gt : OpP woGt eI m1 eI m2 (fun x y => decide (x > y)) eB mA := fun x y Q h => i_gt h
theorem xo_eqI : OpP woEq eI m1 eI m2 (fun x y => decide (x = y)) eB mA := fun x y Q h => i_eqI h
open Classical in
@[irreducible] noncomputable def mulO (x y : Int) : Option Int := if CMul x y ∨ CMulW x y then some (x * y) else none
open Classical in
@[irreducible] noncomputable def fdO (x y : Int) : Option Int := if CDiv x y ∨ CDivW x y then some (x / y) else none
@[irreducible] def modO (x y : Int) : Option Int := if 0 < y then some (x % y) else none
@[irreducible] def powO (x y : Int) : Option Int := if 0 ≤ y ∧ y ≤ 1000000 ∧ x.natAbs < 2 ^ 64 then some (x ^ y.toNat) else none
theorem xo_mul : OpO woMul eI m1 eI m2 mulO eI mA := fun x y z Q h q => by
  unfold mulO at h; split at h
  · cases h; exact i_mul (by assumption) q
  · cases h
theorem xo_fd : OpO woFd eI m1 eI m2 fdO eI mA := fun x y z Q h q => by
  unfold fdO at h; split at h
  · cases h; exact i_fd (by assumption) q
  · cases h
theorem xo_mod : OpO woMod eI m1 eI m2 modO eI mA := fun x y z Q h q => by
  unfold modO at h; split at h
  · cases h; exact i_mod (by assumption) q
  · cases h
theorem xo_pow : OpO woPow eI m1 eI m2 powO eI mA := fun x y z Q h q => by
  unfold powO at h; split at h
  · cases h; exact i_pow (by assumption) q
  · cases h
theorem re_mulL {y : Int} (k : Int) (ha : RE G wa env env1 m1 eI (.ok k)) (hb : RE G wb env1 env2 m2 eI (.ok y)) (h : -(2 ^ 64) < k ∧ k < 2 ^ 64 := by decide) : RE G (wBin woMul wa wb) env env2 mA eI (.ok (k * y)) := fun Q X Xe hX hs =>
  ha _ _ Xe hX (hb _ _ Xe hX (sat_ok.mpr (i_mul (.inl (.inl h)) hs)))
theorem re_mulR {x : Int} (k : Int) (ha : RE G wa env env1 m1 eI (.ok x)) (hb : RE G wb env1 env2 m2 eI (.ok k)) (h : -(2 ^ 64) < k ∧ k < 2 ^ 64 := by decide) : RE G (wBin woMul wa wb) env env2 mA eI (.ok (x * k)) := fun Q X Xe hX hs =>
  ha _ _ Xe hX (hb _ _ Xe hX (sat_ok.mpr (i_mul (.inl (.inr h)) hs)))
theorem re_modC {x : Int} (k : Int) (ha : RE G wa env env1 m1 eI (.ok x)) (hb : RE G wb env1 env2 m2 eI (.ok k)) (h : 0 < k := by decide) : RE G (wBin woMod wa wb) env env2 mA eI (.ok (x % k)) := fun Q X Xe hX hs =>
  ha _ _ Xe hX (hb _ _ Xe hX (sat_ok.mpr (i_mod h hs)))
theorem re_fdC {x : Int} (k : Int) (ha : RE G wa env env1 m1 eI (.ok x)) (hb : RE G wb env1 env2 m2 eI (.ok k)) (h : 0 < k ∧ k < 1073741824 := by decide) : RE G (wBin woFd wa wb) env env2 mA eI (.ok (x / k)) := fun Q X Xe hX hs =>
  ha _ _ Xe hX (hb _ _ Xe hX (sat_ok.mpr (i_fd (.inl h) hs)))
theorem re_powC (j k : Int) (ha : RE G wa env env1 m1 eI (.ok j)) (hb : RE G wb env1 env2 m2 eI (.ok k)) (h : CPow j k := by exact ⟨by decide, by decide, by decide⟩) : RE G (wBin woPow wa wb) env env2 mA eI (.ok (j ^ k.toNat)) := fun Q X Xe hX hs =>
  ha _ _ Xe hX (hb _ _ Xe hX (sat_ok.mpr (i_pow h hs)))
theorem flat_L [f : Fl_ a] (xs : List α) : flatAll (xs.map a) = true := flatAll_map xs
theorem atI_map {α β : Type} {f : α → β} {xs : List α} {i : Int} {y : α} (h : atI xs i = some y) : atI (xs.map f) i = some (f y) := by
  obtain ⟨j, h1, h2⟩ := atI_ixq h
  exact atI_ofq (by rw [List.length_map]; exact h1) (by rw [List.getElem?_map, h2]; rfl)
theorem ix_end {ds : List D} {m m' : Md} {i : Int} {y : D} {q : R → Prop} (ha : atI ds i = some y) (h : q (subL m y)) : wIx ⟨.list ds, m⟩ ⟨.int i, m'⟩ q := ⟨i, rfl, y, ha, h⟩
theorem xo_ixF [f : Fl_ a] : OpO wIx (eL a) m1 eI m2 (fun xs i => atI xs i) a mA := fun x y z Q h q => ix_end (atI_map h) (by unfold subL; rw [if_pos (f.fl z)]; exact q)
theorem xo_ixS {m1 m2 : Md} : OpO wIxS eScr m1 eI m2 (fun xs i => atI xs i) eI mA := fun x y z Q h q => ⟨x, y, z, rfl, rfl, h, q⟩
theorem ra_nil : RA G wNil env env (fun _ : Unit => []) (.ok ()) := fun Q X Xe _ h => h
theorem ra_cons {f : τ → List R} {M : Out τ} (ha : RE G wa env env1 m1 a A) (hl : RA G wl env1 env2 f M) : RA G (wCons wa wl) env env2 (fun t : α × τ => ⟨a t.1, m1⟩ :: f t.2) (A.bind fun x => M.bind fun t => .ok (x, t)) := fun Q X Xe hX hs =>
  ha _ _ Xe hX ((sat_bind.mp hs).imp fun x hs => hl _ _ Xe hX ((sat_bind.mp hs).imp fun t hs => hs))
theorem ra_consP {f : τ → List R} {t : τ} (ha : RE G wa env env1 m1 a (.ok x)) (hl : RA G wl env1 env2 f (.ok t)) : RA G (wCons wa wl) env env2 (fun t : α × τ => ⟨a t.1, m1⟩ :: f t.2) (.ok (x, t)) := fun Q X Xe hX hs =>
  ha _ _ Xe hX (hl _ _ Xe hX hs)
theorem re_lstP {f : τ → List R} {t : τ} {n : Option Nat} (xs : List α) (hl : RA G wl env env1 f (.ok t)) (hj : joinM (f t) = some n := by rfl) (hn : (f t).length ≤ 1000 := by exact Nat.le_of_ble_eq_true rfl) (he : PyData.list ((f t).map (·.d)) = eL a xs := by rfl) : RE G (wCB wLst wl) env env1 (.o (succM n)) (eL a) (.ok xs) := fun Q X Xe hX hs =>
  hl _ _ Xe hX (sat_ok.mpr (i_lst hj hn (by rw [he]; exact hs)))
theorem re_tup {f : τ → List R} {M : Out τ} {n : Option Nat} (g : τ → α) (hl : RA G wl env env1 f M) (hj : ∀ t, joinM (f t) = some n := by exact fun _ => rfl) (hn : ∀ t, (f t).length ≤ 1000 := by exact fun _ => Nat.le_of_ble_eq_true rfl) (he : ∀ t, PyData.tuple ((f t).map (·.d)) = a (g t) := by exact fun _ => rfl) : RE G (wCB wTup wl) env env1 (.o n) a (M.bind fun t => .ok (g t)) := fun Q X Xe hX hs =>
  hl _ _ Xe hX ((sat_bind.mp hs).imp fun t hs => i_tup (hj t) (hn t) (by rw [he t]; exact hs))
theorem joinM_flat {rs : List R} (h : flatAll (rs.map (·.d)) = true) : joinM rs = some none := by
  induction rs with
  | nil => rfl
  | cons r rs ih =>
    simp only [List.map_cons, flatAll, Bool.and_eq_true] at h
    unfold joinM
    rw [if_pos h.1]; exact ih h.2
theorem flat_of_tup {v : α} {ds : List D} [f : Fl_ a] (h : PyData.tuple ds = a v) : flatAll ds = true := by
  have := f.fl v
  rw [← h] at this
  simpa [flatD] using this
theorem re_tupF {f : τ → List R} {M : Out τ} (g : τ → α) [fl : Fl_ a] (hl : RA G wl env env1 f M) (hn : ∀ t, (f t).length ≤ 1000 := by exact fun _ => Nat.le_of_ble_eq_true rfl) (he : ∀ t, PyData.tuple ((f t).map (·.d)) = a (g t) := by exact fun _ => rfl) : RE G (wCB wTup wl) env env1 mA a (M.bind fun t => .ok (g t)) := re_tup g hl (fun t => joinM_flat (flat_of_tup (he t))) hn he
theorem flat_of_lst {v : List α} {ds : List D} [f : Fl_ a] (h : PyData.list ds = eL a v) : flatAll ds = true := by
  cases h; exact flat_L v
theorem re_lstFP {f : τ → List R} {t : τ} (xs : List α) [fl : Fl_ a] (hl : RA G wl env env1 f (.ok t)) (hn : (f t).length ≤ 1000 := by exact Nat.le_of_ble_eq_true rfl) (he : PyData.list ((f t).map (·.d)) = eL a xs := by rfl) : RE G (wCB wLst wl) env env1 mA (eL a) (.ok xs) := re_lstP xs hl (joinM_flat (flat_of_lst he)) hn he
theorem outR_A {rs : List R} {d : D} : outR rs ⟨d, mA⟩ = ⟨d, mA⟩ := outR_all
theorem re_callP {S : FSpec} {f : τ → List R} {t : τ} {M : Out β} (hl : RA G wl env env1 f (.ok t)) (hS : ∀ Q X, Sat M (fun r => Q ⟨b r, mA⟩) X → S ((f t).map (·.d)) Q X) (hg : G env1 := by trivial) : RE G (wCall S wl) env env1 mA b M := fun Q X Xe hX hs =>
  hl _ _ Xe hX (hS _ _ (hs.mono (fun r h => by rw [outR_A]; exact h) fun x h => hX x _ hg h))
theorem re_call {S : FSpec} {f : τ → List R} {T : Out τ} {M : τ → Out β} (hl : RA G wl env env1 f T) (hS : ∀ t Q X, Sat (M t) (fun r => Q ⟨b r, mA⟩) X → S ((f t).map (·.d)) Q X) (hg : G env1 := by trivial) : RE G (wCall S wl) env env1 mA b (T.bind M) := fun Q X Xe hX hs =>
  hl _ _ Xe hX ((sat_bind.mp hs).imp fun t hs => hS t _ _ (hs.mono (fun r h => by rw [outR_A]; exact h) fun x h => hX x _ hg h))
theorem re_cbP {wf : WF} {f : τ → List R} {t : τ} (v : β) (hl : RA G wl env env1 f (.ok t)) (hw : ∀ Q, Q ⟨b v, md⟩ → wf (f t) Q) : RE G (wCB wf wl) env env1 md b (.ok v) := fun Q X Xe hX hs => hl _ _ Xe hX (hw _ hs)
theorem len_L {m : Md} (xs : List α) : ∀ Q : R → Prop, Q ⟨eI (xs.length : Int), mA⟩ → wLen [⟨eL a xs, m⟩] Q := fun Q q => i_lenL (by rw [List.length_map]; exact q)
theorem len_Scr {m : Md} (xs : List Int) : ∀ Q : R → Prop, Q ⟨eI (xs.length : Int), mA⟩ → wLen [⟨eScr xs, m⟩] Q := fun Q q => i_lenS q
end
end VL
set_option maxRecDepth 100000
set_option maxHeartbeats 4000000
namespace VL
open PySem PySem.Spec PyProof.Rows L2
class EqE {α : Type} [DecidableEq α] (e : Enc α) (n : outParam Nat) : Prop where
  lay : ∀ a, PyData.canLay0 (e a) = true
  dep : ∀ a, PyData.depth (e a) ≤ n
  eqv : ∀ a b, PyData.eqv (e a) (e b) = decide (a = b)
section
variable {α β γ δ ε : Type} [DecidableEq α] [DecidableEq β] [DecidableEq γ] [DecidableEq δ] [DecidableEq ε] {a : Enc α} {b : Enc β} {c : Enc γ} {d : Enc δ} {e : Enc ε} {n m k j l : Nat}
instance : EqE eI 0 := ⟨fun _ => rfl, fun _ => Nat.le_refl _, fun a b => by
  by_cases h : a = b
  · subst h; simp [eI, PyData.eqv]
  · simp [eI, PyData.eqv, h]⟩
instance : EqE eB 0 := ⟨fun _ => rfl, fun _ => Nat.le_refl _, fun a b => by cases a <;> cases b <;> rfl⟩
theorem eqvAll_map [h : EqE a n] : ∀ xs ys : List α, PyData.eqvAll (xs.map a) (ys.map a) = decide (xs = ys)
  | [], [] => rfl
  | [], y :: ys => by simp [PyData.eqvAll]
  | x :: xs, [] => by simp [PyData.eqvAll]
  | x :: xs, y :: ys => by
    have ih := eqvAll_map xs ys
    simp only [List.map_cons, PyData.eqvAll, h.eqv, ih]
    by_cases h1 : x = y <;> by_cases h2 : xs = ys <;> simp [h1, h2]
theorem layAll_map [h : EqE a n] : ∀ xs : List α, PyData.canLayAll0 (xs.map a) = true
  | [] => rfl
  | x :: xs => by simp [PyData.canLayAll0, h.lay, layAll_map xs]
theorem depAll_map [h : EqE a n] : ∀ xs : List α, PyData.depthAll (xs.map a) ≤ n
  | [] => by simp [PyData.depthAll]
  | x :: xs => by
    have := depAll_map xs
    have := h.dep x
    simp only [List.map_cons, PyData.depthAll]
    omega
instance [h : EqE a n] : EqE (eL a) (n + 1) := ⟨fun xs => by simpa [eL, PyData.canLay0] using layAll_map xs, fun xs => by have := depAll_map (a := a) xs; simp only [eL, PyData.depth]; omega, fun xs ys => by simpa [eL, PyData.eqv] using eqvAll_map xs ys⟩
instance [h : EqE a n] : EqE (eTL a) (n + 1) := ⟨fun xs => by simpa [eTL, PyData.canLay0] using layAll_map xs, fun xs => by have := depAll_map (a := a) xs; simp only [eTL, PyData.depth]; omega, fun xs ys => by simpa [eTL, PyData.eqv] using eqvAll_map xs ys⟩
instance [h : EqE a n] [g : EqE b m] : EqE (e2 a b) (max n m + 1) := ⟨fun p => by simp [e2, PyData.canLay0, PyData.canLayAll0, h.lay, g.lay], fun p => by
  have := h.dep p.1; have := g.dep p.2
  simp only [e2, PyData.depth, PyData.depthAll]; omega, fun p q => by
  obtain ⟨p1, p2⟩ := p; obtain ⟨q1, q2⟩ := q
  simp only [e2, PyData.eqv, PyData.eqvAll, h.eqv, g.eqv, Prod.mk.injEq, Bool.and_true, Bool.decide_and]⟩
instance [h : EqE a n] [g : EqE b m] [i : EqE c k] : EqE (e3 a b c) (max n (max m k) + 1) := ⟨fun p => by simp [e3, PyData.canLay0, PyData.canLayAll0, h.lay, g.lay, i.lay], fun p => by
  have := h.dep p.1; have := g.dep p.2.1; have := i.dep p.2.2
  simp only [e3, PyData.depth, PyData.depthAll]; omega, fun p q => by
  obtain ⟨p1, p2, p3⟩ := p; obtain ⟨q1, q2, q3⟩ := q
  simp only [e3, PyData.eqv, PyData.eqvAll, h.eqv, g.eqv, i.eqv, Prod.mk.injEq, Bool.and_true, Bool.decide_and]⟩
instance [h : EqE a n] [g : EqE b m] [i : EqE c k] [u : EqE d j] : EqE (e4 a b c d) (max n (max m (max k j)) + 1) := ⟨fun p => by simp [e4, PyData.canLay0, PyData.canLayAll0, h.lay, g.lay, i.lay, u.lay], fun p => by
  have := h.dep p.1; have := g.dep p.2.1; have := i.dep p.2.2.1; have := u.dep p.2.2.2
  simp only [e4, PyData.depth, PyData.depthAll]; omega, fun p q => by
  obtain ⟨p1, p2, p3, p4⟩ := p; obtain ⟨q1, q2, q3, q4⟩ := q
  simp only [e4, PyData.eqv, PyData.eqvAll, h.eqv, g.eqv, i.eqv, u.eqv, Prod.mk.injEq, Bool.and_true, Bool.decide_and]⟩
instance [h : EqE a n] [g : EqE b m] [i : EqE c k] [u : EqE d j] [v : EqE e l] : EqE (e5 a b c d e) (max n (max m (max k (max j l))) + 1) := ⟨fun p => by simp [e5, PyData.canLay0, PyData.canLayAll0, h.lay, g.lay, i.lay, u.lay, v.lay], fun p => by
  have := h.dep p.1; have := g.dep p.2.1; have := i.dep p.2.2.1; have := u.dep p.2.2.2.1; have := v.dep p.2.2.2.2
  simp only [e5, PyData.depth, PyData.depthAll]; omega, fun p q => by
  obtain ⟨p1, p2, p3, p4, p5⟩ := p; obtain ⟨q1, q2, q3, q4, q5⟩ := q
  simp only [e5, PyData.eqv, PyData.eqvAll, h.eqv, g.eqv, i.eqv, u.eqv, v.eqv, Prod.mk.injEq, Bool.and_true, Bool.decide_and]⟩
theorem EqE.shaped [h : EqE a n] (hn : n ≤ 64) (x : α) : SeqAt.shaped (a x) = true := by
  unfold SeqAt.shaped
  rw [Bool.and_eq_true]
  exact ⟨h.lay x, decide_eq_true (Nat.le_trans (h.dep x) hn)⟩
variable {m1 m2 : Md}
theorem xo_neD [h : EqE a n] (hs : ∀ x y : α, scalD (a x) (a y) = none := by exact fun _ _ => rfl) (hn : n ≤ 64 := by decide) : OpP woNe a m1 a m2 (fun x y => !decide (x = y)) eB mA := fun x y Q q =>
  i_neD (hs x y) (EqE.shaped hn x) (EqE.shaped hn y) (by rw [h.eqv]; exact q)
end
section
variable {α β γ δ σ ρ τ : Type} {G : EG} {env env1 env2 env3 : VEnv} {md m1 m2 m3 : Md} {a : Enc α} {b : Enc β} {c : Enc γ} {d : Enc δ} {wa wb wc we : WE} {wl wl' : WA} {wt wu : WT} {A : Out α} {B : Out β} {C : Out γ} {x : α} {y : β} {z : γ} {wo wo' : WO}
theorem rt_val {A : Out Bool} (ha : RE G wa env env m1 eB A) : RT G (wTest wa) env A := fun Q X Xe hX hs => ha _ _ Xe hX (hs.imp fun b q => ⟨b, rfl, q⟩)
theorem rt_or {A B : Out Bool} (h1 : RT G wt env A) (h2 : RT G wu env B) : RT G (wOr wt wu) env (A.bind fun p => if p = true then .ok true else B) := fun Q X Xe hX hs => h1 _ _ Xe hX ((sat_bind.mp hs).imp fun p hs => by
  cases p
  · exact h2 _ _ Xe hX hs
  · exact hs)
theorem rt_not {A : Out Bool} (h1 : RT G wt env A) : RT G (wNot wt) env (A.bind fun p => .ok (!p)) := fun Q X Xe hX hs => h1 _ _ Xe hX ((sat_bind.mp hs).imp fun p hs => hs)
theorem rt_eq {m m' : Out Bool} (h : RT G wt env m) (e : m = m' := by rfl) : RT G wt env m' := e ▸ h
theorem re_andP {p q : Bool} (h1 : RE G wa env env mA eB (.ok p)) (h2 : RE G wb env env mA eB (.ok q)) : RE G (wAndV wa wb) env env mA eB (.ok (p && q)) := fun Q X Xe hX hs => h1 _ _ Xe hX ⟨p, rfl, by
  cases p
  · exact hs
  · exact h2 _ _ Xe hX hs⟩
theorem re_and {A B : Out Bool} (h1 : RE G wa env env mA eB A) (h2 : RE G wb env env mA eB B) : RE G (wAndV wa wb) env env mA eB (A.bind fun p => if p = true then B else .ok false) := fun Q X Xe hX hs => h1 _ _ Xe hX ((sat_bind.mp hs).imp fun p hs => ⟨p, rfl, by
  cases p
  · exact hs
  · exact h2 _ _ Xe hX hs⟩)
theorem re_notP {p : Bool} (h1 : RE G wa env env1 mA eB (.ok p)) : RE G (wNotV wa) env env1 mA eB (.ok (!p)) := fun Q X Xe hX hs => h1 _ _ Xe hX ⟨p, rfl, hs⟩
theorem re_isE {i : Nat} {ad : Addr} {v : Bool} {m : Md} (h : env[i]? = some (some (opD ad, m)) := by rfl) : RE G (wIsE i ad v) env env mA eB (.ok v) := fun Q X Xe hX hs => ⟨⟨_, h⟩, hs⟩
def RO_ (G : EG) (w : WPt) (env : VEnv) (m : Out (Option Int)) : Prop := ∀ (Q : Option Int → VEnv → Prop) (X : Exn → VEnv → Prop) (Xe : Exn → Prop), (∀ x v, G v → Xe x → X x v) → Sat m (fun o => Q o env) Xe → w env Q X
theorem ro_no : RO_ G wNoP env (.ok none) := fun Q X Xe _ hs => hs
theorem ro_ptP {i : Int} (h : RE G we env env m1 eI (.ok i)) : RO_ G (wPt we) env (.ok (some i)) := fun Q X Xe hX hs => h _ _ Xe hX ⟨i, rfl, hs⟩
theorem re_slScr {wl wh : WPt} {xs : List Int} {lo hi : Option Int} (ha : RE G wa env env m1 eScr (.ok xs)) (hl : RO_ G wl env (.ok lo)) (hh : RO_ G wh env (.ok hi)) : RE G (wSl wa wl wh) env env mA (eL eI) (.ok (cutL xs lo hi)) := fun Q X Xe hX hs =>
  ha _ _ Xe hX (hl _ _ Xe hX (hh _ _ Xe hX (by
    refine sat_ok.mpr ?_
    show slR ⟨scriptD xs, m1⟩ _ _ _
    rw [slr_scr, cutL_map, cpR_ints]; exact hs)))
@[irreducible] def mapL (f : α → Out β) (xs : List α) : Out (List β) := if xs.length ≤ 1000000 then mapO f xs else .stuck
@[irreducible] def fmapL (p : α → Out Bool) (f : α → Out β) (xs : List α) : Out (List β) := if xs.length ≤ 1000000 then fmapO p f xs else .stuck
def rg (lo hi : Int) : List Int := (List.range (hi - lo).toNat).map fun k : Nat => lo + (k : Int)
@[irreducible] def rgO (lo hi : Int) : Option (List Int) := if -(2 ^ 62) ≤ lo ∧ lo < 2 ^ 62 ∧ -(2 ^ 62) ≤ hi ∧ hi < 2 ^ 62 then some (rg lo hi) else none
def KidE (c : Enc γ) (md : Md) (km : Option Nat) : Prop := ∀ z, kidOk km ⟨c z, md⟩
theorem kid_F [f : Fl_ c] : KidE c md none := fun z => .inl (f.fl z)
theorem kid_A : KidE c mA none := fun _ => kidOk_A
theorem kid_o {n : Option Nat} : KidE c (.o n) n := fun _ => .inr ⟨n, rfl, leM_refl n⟩
theorem lc_turns {tt : WT} {wl : WE} {km : Option Nat} {ent : α → VEnv} {P : α → Out Bool} {F : α → Out γ} {Xe : Exn → Prop}
    (hp : ∀ x, RT (fun _ => True) tt (ent x) (P x)) (hf : ∀ x, ∃ e', RE (fun _ => True) wl (ent x) e' md c (F x)) (hk : KidE c md km) {Q : List γ → Prop} :
    ∀ (xs : List α), Sat (fmapO (fun x => noX (P x)) (fun x => noX (F x)) xs) Q Xe → ∃ J : Nat → List D → Prop, J 0 [] ∧
      (∀ k x acc, xs[k]? = some x → J k acc → acc.length ≤ k ∧ wTurn tt wl km (ent x) (fun y => J (k + 1) (acc ++ [y])) (J (k + 1) acc)) ∧ ∀ acc, J xs.length acc → ∃ zs : List γ, acc = zs.map c ∧ Q zs := by
  intro xs hs
  refine ⟨fun k acc => ∃ zs : List γ, acc = zs.map c ∧ zs.length ≤ k ∧ Sat (fmapO (fun x => noX (P x)) (fun x => noX (F x)) (xs.drop k)) (fun r => Q (zs ++ r)) Xe, ⟨[], rfl, Nat.le_refl _, by simpa using hs⟩, fun k x acc hx hJ => ?_, fun acc hJ => ?_⟩
  · obtain ⟨zs, rfl, hl, hs⟩ := hJ
    refine ⟨by simpa using hl, ?_⟩
    have hd : xs.drop k = x :: xs.drop (k + 1) := by
      have := (List.getElem?_eq_some_iff.mp hx)
      obtain ⟨h1, h2⟩ := this
      rw [← h2]; exact List.drop_eq_getElem_cons h1
    rw [hd] at hs
    unfold fmapO at hs
    have hs := sat_noX.mp (sat_bind.mp hs)
    unfold wTurn
    refine hp x _ _ (fun _ => False) (fun _ _ _ h => h.elim) (hs.imp fun b hs => ?_)
    cases b
    · exact ⟨zs, rfl, by omega, hs⟩
    · rw [if_pos rfl]
      rw [if_pos rfl] at hs
      obtain ⟨e', hf⟩ := hf x
      refine hf _ _ (fun _ => False) (fun _ _ _ h => h.elim) ((sat_noX.mp (sat_bind.mp hs)).imp fun y hs => ⟨hk y, zs ++ [y], by simp, by simp; omega, ?_⟩)
      refine (sat_bind.mp hs).imp fun r hs => ?_
      rw [List.append_assoc]; exact hs
  · obtain ⟨zs, rfl, _, hs⟩ := hJ
    rw [List.drop_length] at hs
    exact ⟨zs, rfl, by simpa [fmapO] using hs⟩
theorem fmapO_true {f : α → Out β} (xs : List α) : fmapO (fun _ => .ok true) f xs = mapO f xs := by
  induction xs with
  | nil => rfl
  | cons x xs ih => simp [fmapO, mapO, ih]
theorem re_lcR {n i : Nat} {wl : WA} {vs : List Nat} {tt : WT} {we : WE} {km : Option Nat} {ent : Int → VEnv} {P : Int → Out Bool} {F : Int → Out γ} {f : τ → List R} {T : Out τ} {gl gh : τ → Int}
    (hi : RA G wl env env1 f T) (hr : ∀ t, (f t).length = n ∧ rangeOf (f t) = some (gl t, gh t)) (hg : ∀ x, (wipeE (bEnv env1) vs).set i (some (.int x, mA)) = ent x)
    (hp : ∀ x, RT (fun _ => True) tt (ent x) (P x)) (hf : ∀ x, ∃ e', RE (fun _ => True) we (ent x) e' md c (F x)) (hk : KidE c md km) :
    RE G (wLcR n vs i wl tt we) env env1 (.o (succM km)) (eL c) (T.bind fun t => (lift (rgO (gl t) (gh t))).bind (fmapL (fun x => noX (P x)) (fun x => noX (F x)))) := fun Q X Xe hX hs =>
  hi _ _ Xe hX ((sat_bind.mp hs).imp fun t hs => by
    obtain ⟨xs, hx, hs⟩ := sat_lift.mp (sat_bind.mp hs)
    unfold rgO at hx
    split at hx
    · rename_i hb
      cases hx
      unfold fmapL at hs
      have hlen : (rg (gl t) (gh t)).length = (gh t - gl t).toNat := by unfold rg; rw [List.length_map, List.length_range]
      split at hs
      · rename_i hl
        rw [hlen] at hl
        obtain ⟨J, j0, js, je⟩ := lc_turns hp hf hk _ hs
        refine ⟨gl t, gh t, (hr t).1, (hr t).2, ⟨hb.1, hb.2.1⟩, ⟨hb.2.2.1, hb.2.2.2⟩, by omega, km, J, j0, fun k acc hk hJ => ?_, fun acc hJ => ?_⟩
        · have hx : (rg (gl t) (gh t))[k]? = some (gl t + (k : Int)) := by
            unfold rg
            rw [List.getElem?_map, List.getElem?_range hk]; rfl
          rw [hg]
          exact js k _ acc hx hJ
        · rw [← hlen] at hJ
          obtain ⟨zs, rfl, q⟩ := je acc hJ
          exact q
      · exact hs.elim
    · cases hx)
theorem re_lcR1 {n i : Nat} {wl : WA} {vs : List Nat} {we : WE} {km : Option Nat} {ent : Int → VEnv} {F : Int → Out γ} {f : τ → List R} {T : Out τ} {gl gh : τ → Int}
    (hi : RA G wl env env1 f T) (hr : ∀ t, (f t).length = n ∧ rangeOf (f t) = some (gl t, gh t)) (hg : ∀ x, (wipeE (bEnv env1) vs).set i (some (.int x, mA)) = ent x)
    (hf : ∀ x, ∃ e', RE (fun _ => True) we (ent x) e' md c (F x)) (hk : KidE c md km) :
    RE G (wLcR n vs i wl wYes we) env env1 (.o (succM km)) (eL c) (T.bind fun t => (lift (rgO (gl t) (gh t))).bind (mapL fun x => noX (F x))) :=
  re_eq (re_lcR (P := fun _ => .ok true) hi hr hg (fun x Q X Xe _ h => h) hf hk) (by
    congr; funext t; congr; funext xs; unfold fmapL mapL; split
    · exact fmapO_true xs
    · rfl)
end
end VL
set_option maxRecDepth 100000
set_option maxHeartbeats 4000000
namespace VL
open PySem PySem.Spec PyProof.Rows L2
def wPre (w : WS) : WS := fun env D => ∃ e0, envLe e0 env ∧ w e0 D
theorem rdS_pre {c : Cn} {W : WX} {w : WS} : ∀ D σ H, rdS c W (wPre w) D σ H → rdS c W w D σ H := fun D σ H h => by
  obtain ⟨env, L, Dv, S, ⟨e0, le, hw⟩, k⟩ := h
  obtain ⟨L0, S0⟩ := S.lower le
  exact ⟨e0, L0, Dv, S0, hw, k⟩
theorem vss_pre {X : Cx} {c : Cn} {W : WX} {w : WS} {st : List Stmt} (h : PSs X st (rdS c W w)) : PSs X st (rdS c W (wPre w)) := PSs.imp h rdS_pre
section
variable {α β γ δ σ σ' ρ τ : Type} {G : EG} {env env1 env2 env3 : VEnv} {md m1 m2 m3 : Md} {a : Enc α} {b : Enc β} {c : Enc γ} {d : Enc δ} {e : Enc ρ} {wa wb wc we wi : WE} {wl wl' : WA} {wt wu : WT} {A : Out α} {B : Out β} {C : Out γ} {x : α} {y : β} {z : γ} {w u v : WS} {K KA KB : β → DV → Prop} {M MA MB : Out β} {s : σ → VEnv} {I J : Out Int}
def KR (e : Enc ρ) (md : Md) : Fl ρ σ → DV → Prop
  | .ret r, D => ∀ v, D.rt ⟨e r, md⟩ v
  | .nxt _, _ => True
theorem rb_next {V : σ} (h : envLe (s V) env) : RB G wNext env (.ok V) (KN s) := fun D Xe _ hs => hs env h
theorem rb_nextF {V : σ} (h : envLe (s V) env) : RB G wNext env (.ok (.nxt V)) (KF e md s) := fun D Xe _ hs => hs env h
theorem rb_retP (r : ρ) (h : RE G we env env1 md a (.ok x)) (hb : isB md = false := by rfl) (he : a x = e r := by rfl) : RB G (wSeq (wRet we) u) env (.ok r) (KT e md) := fun D Xe hX hs =>
  h _ _ Xe hX ⟨hb, by rw [he]; exact hs _⟩
theorem rb_ret (g : α → ρ) (h : RE G we env env1 md a A) (hb : isB md = false := by rfl) (he : ∀ x, a x = e (g x) := by exact fun _ => rfl) : RB G (wSeq (wRet we) u) env (A.bind fun x => .ok (g x)) (KT e md) := fun D Xe hX hs =>
  h _ _ Xe hX ((sat_bind.mp hs).imp fun x hs => ⟨hb, by rw [he]; exact hs _⟩)
theorem rb_raise {x : Str} (hg : G env := by trivial) : RB G (wSeq (wRaise x) u) env (.exn ⟨x, none⟩) K := fun D Xe hX hs => hX _ _ hg hs
theorem rs_seqN {m : Out σ} {k : σ → Out β} (h1 : RB G w env m (KN s)) (h2 : ∀ V, RB G u (s V) (k V) K) : RB G (wSeq (wCut w) u) env (m.bind k) K := fun D Xe hX hs => by
  refine ⟨fun e => ∃ V, e = s V ∧ Sat (k V) (fun b => K b D) Xe, ?_, ?_⟩
  · refine h1 _ Xe hX ((sat_bind.mp hs).imp fun V hs e le => ⟨s V, le, V, rfl, hs⟩)
  · rintro _ ⟨V, rfl, hs⟩
    exact h2 V D Xe hX hs
theorem rs_seqT {m : Out (Fl ρ σ)} {k : σ → Out ρ} (h1 : RB G w env m (KF e md s)) (h2 : ∀ V, RB G u (s V) (k V) (KT e md)) : RB G (wSeq (wCut w) u) env (m.bind (flowT k)) (KT e md) := fun D Xe hX hs => by
  refine ⟨fun e' => ∃ V, e' = s V ∧ Sat (k V) (fun b => KT e md b D) Xe, ?_, ?_⟩
  · refine h1 _ Xe hX ((sat_bind.mp hs).imp fun V hs => ?_)
    cases V with
    | ret r => exact hs
    | nxt V => exact fun e le => ⟨s V, le, V, rfl, hs⟩
  · rintro _ ⟨V, rfl, hs⟩
    exact h2 V D Xe hX hs
theorem rb_if {T : Out Bool} (ht : RT G wt env T) (h1 : RB G w env MA K) (h2 : RB G v env MB K) : RB G (wIf wt w v) env (T.bind fun p => if p = true then MA else MB) K := fun D Xe hX hs =>
  ht _ _ Xe hX ((sat_bind.mp hs).imp fun p hs => by
    cases p
    · exact h2 D Xe hX hs
    · exact h1 D Xe hX hs)
theorem kt_kt : ∀ b D n, KT e md b D → KT e md b { D with nx := n } := fun _ _ _ h => h
theorem kf_kr : ∀ b D n, KF e md s b D → KR e md b { D with nx := n } := fun b _ _ h => by
  cases b with
  | ret r => exact h
  | nxt V => exact True.intro
theorem rs_ifR {T : Out Bool} (hK : ∀ b D n, K b D → KA b { D with nx := n }) (ht : RT G wt env T) (h1 : RB G w env MA KA) (h2 : RB G u env MB K) : RB G (wSeq (wIf wt w wNext) u) env (T.bind fun p => if p = true then MA else MB) K := fun D Xe hX hs =>
  ht _ _ Xe hX ((sat_bind.mp hs).imp fun p hs => by
    cases p
    · exact h2 D Xe hX hs
    · exact h1 { D with nx := fun e => u e D } Xe hX (hs.imp fun b h => hK b D _ h))
theorem rs_set {i : Nat} {k : α → Out β} (he : RE G we env env1 md a A) (s : α → VEnv) (h2 : ∀ x, RB G u (s x) (k x) K) (hs : ∀ x, env1.set i (some (a x, md)) = s x := by exact fun _ => rfl) : RB G (wSeq (wSet i we) u) env (A.bind k) K := fun D Xe hX h =>
  he _ _ Xe hX ((sat_bind.mp h).imp fun x h => by
    have := h2 x D Xe hX h
    rw [← hs x] at this
    exact this)
theorem rs_expr {k : α → Out β} (he : RE G we env env1 md a A) (h2 : ∀ x, RB G u env1 (k x) K) : RB G (wSeq (wExpr we) u) env (A.bind k) K := fun D Xe hX h =>
  he _ _ Xe hX ((sat_bind.mp h).imp fun x h => h2 x D Xe hX h)
@[irreducible] def appO (xs : List α) (v : α) : Option (List α) := if xs.length < 1000000 then some (xs ++ [v]) else none
@[irreducible] def setO (xs : List α) (i : Int) (v : α) : Option (List α) := (ixN xs.length i).map fun j => xs.set j v
@[irreducible] def extO (xs ys : List α) : Option (List α) := if xs.length + ys.length < 1000000 then some (xs ++ ys) else none
theorem rs_app {i : Nat} {m n : Option Nat} {xs : List α} {k : List α → Out β} (he : RE G we env env1 m1 a A) (s : List α → VEnv) (h2 : ∀ ys, RB G u (s ys) (k ys) K)
    (h0 : isL env i [] := by exact ⟨_, _, _, rfl, rfl⟩) (hi : env1[i]? = some (some (eL a xs, .o m)) := by rfl) (hm : popM m = some n := by rfl) (hk : KidE a m1 n := by first | exact kid_F | exact kid_A | exact kid_o) (hs : ∀ ys, killB (env1.set i (some (eL a ys, .o m))) = s ys := by exact fun _ => rfl) :
    RB G (wSeq (wApp (wPVar i) we) u) env (A.bind fun v => (lift (appO xs v)).bind k) K := fun D Xe hX h =>
  ⟨let ⟨d, m, _, h, _⟩ := h0; ⟨_, h⟩, h0, he _ _ Xe hX ((sat_bind.mp h).imp fun v h => by
    obtain ⟨ys, hy, h⟩ := sat_lift.mp (sat_bind.mp h)
    unfold appO at hy
    split at hy
    · rename_i hl
      cases hy
      refine wApp_inner _ m n hi hm (hk v) (by rw [List.length_map]; exact hl) ?_
      have := h2 _ D Xe hX h
      rw [← hs] at this
      simpa [eL] using this
    · cases hy)⟩
theorem setO_at {xs ys : List α} {i : Int} {v : α} (h : setO xs i v = some ys) : ∃ j, ixN xs.length i = some j ∧ ys = xs.set j v := by
  unfold setO at h
  obtain ⟨j, h1, h2⟩ := Option.map_eq_some_iff.mp h
  exact ⟨j, h1, h2.symm⟩
theorem rs_put {i : Nat} {m n : Option Nat} {xs : List α} {k : List α → Out β} (he : RE G we env env1 m1 a A) (hw : RE G wi env1 env1 m3 eI I) (s : List α → VEnv) (h2 : ∀ ys, RB G u (s ys) (k ys) K)
    (hi : env1[i]? = some (some (eL a xs, .o m)) := by rfl) (hm : popM m = some n := by rfl) (hk : KidE a m1 n := by first | exact kid_F | exact kid_A | exact kid_o) (hs : ∀ ys, killB (env1.set i (some (eL a ys, .o m))) = s ys := by exact fun _ => rfl) :
    RB G (wSeq (wPut (wPVar i) wi we) u) env (A.bind fun v => I.bind fun j => (lift (setO xs j v)).bind k) K := fun D Xe hX h =>
  he _ _ Xe hX ((sat_bind.mp h).imp fun v h => ⟨⟨_, hi⟩, hw _ _ Xe hX ((sat_bind.mp h).imp fun j h => by
    obtain ⟨ys, hy, h⟩ := sat_lift.mp (sat_bind.mp h)
    obtain ⟨t, ht, rfl⟩ := setO_at hy
    refine ⟨_, m, xs.map a, n, j, t, eL a (xs.set t v), rfl, ⟨hi, rfl, m, rfl, hm⟩, hk v, by rw [List.length_map]; exact ht, ?_, ?_⟩
    · show some (PyData.list ((xs.map a).set t (a v))) = _
      simp [eL, List.map_set]
    · have := h2 _ D Xe hX h
      rw [← hs] at this
      exact this)⟩)
theorem rs_ext [f : Fl_ a] {i : Nat} {m n : Option Nat} {xs : List α} {Zs : Out (List α)} {k : List α → Out β} (he : RE G we env env1 m1 (eL a) Zs) (s : List α → VEnv) (h2 : ∀ ys, RB G u (s ys) (k ys) K)
    (h0 : isL env i [] := by exact ⟨_, _, _, rfl, rfl⟩) (hi : env1[i]? = some (some (eL a xs, .o m)) := by rfl) (hm : popM m = some n := by rfl) (hs : ∀ ys, killB (env1.set i (some (eL a ys, .o m))) = s ys := by exact fun _ => rfl) :
    RB G (wSeq (wExt (wPVar i) we) u) env (Zs.bind fun v => (lift (extO xs v)).bind k) K := fun D Xe hX h =>
  ⟨let ⟨d, m, _, h, _⟩ := h0; ⟨_, h⟩, h0, he _ _ Xe hX ((sat_bind.mp h).imp fun v h => by
    obtain ⟨ys, hy, h⟩ := sat_lift.mp (sat_bind.mp h)
    unfold extO at hy
    split at hy
    · rename_i hl
      cases hy
      refine ⟨_, m, xs.map a, n, v.map a, eL a (xs ++ v), rfl, .inl (flat_L v), ⟨hi, rfl, m, rfl, hm⟩, by rw [List.length_map, List.length_map]; exact hl, by simp [eL, setP], ?_⟩
      have := h2 _ D Xe hX h
      rw [← hs] at this
      exact this
    · cases hy)⟩
theorem drop_cons {xs : List α} {k : Nat} {x : α} (h : xs[k]? = some x) : xs.drop k = x :: xs.drop (k + 1) := by
  obtain ⟨h1, h2⟩ := List.getElem?_eq_some_iff.mp h
  rw [← h2]; exact List.drop_eq_getElem_cons h1
theorem rb_for {g : Tg} {Xs : Out (List α)} {F : σ → α → Out σ} (st : σ) (hi : RE G we env env1 m1 (eL a) Xs) (h0 : envLe (s st) env1) (ent : σ → α → VEnv)
    (hb : ∀ st x, RB G w (ent st x) (F st x) (KN s)) (hg : ∀ st x, ∃ rs, g.f (itemR mS (a x)) = some rs ∧ VL.putAll (s st) g.is rs = ent st x := by exact fun _ _ => ⟨_, rfl, rfl⟩) (hm : isB m1 = false := by rfl) :
    RB G (wFor g we w) env (Xs.bind fun xs => forO F st xs) (KN s) := fun D Xe hX hs =>
  hi _ _ Xe hX ((sat_bind.mp hs).imp fun xs hs => by
    refine ⟨xs.map a, rfl, hm, fun k e => ∃ V, e = s V ∧ Sat (forO F V (xs.drop k)) (fun b => KN s b D) Xe, s st, h0, ⟨st, rfl, hs⟩, fun k d e hd hJ => ?_, fun e hJ => ?_⟩
    · obtain ⟨V, rfl, hs⟩ := hJ
      rw [List.getElem?_map] at hd
      obtain ⟨x, hx, rfl⟩ := Option.map_eq_some_iff.mp hd
      obtain ⟨rs, h1, h2⟩ := hg V x
      refine ⟨rs, h1, ?_⟩
      rw [h2]
      rw [drop_cons hx] at hs
      exact hb V x { D with nx := fun e2 => _ } Xe hX ((sat_bind.mp hs).imp fun V' hs e le => ⟨s V', le, V', rfl, hs⟩)
    · obtain ⟨V, rfl, hs⟩ := hJ
      rw [List.length_map, List.drop_length] at hs
      exact hs _ (envLe.refl _))
theorem rg_get {lo hi : Int} {k : Nat} (hk : k < (hi - lo).toNat) : (rg lo hi)[k]? = some (lo + (k : Int)) := by
  unfold rg
  rw [List.getElem?_map, List.getElem?_range hk]; rfl
theorem rg_len (lo hi : Int) : (rg lo hi).length = (hi - lo).toNat := by unfold rg; rw [List.length_map, List.length_range]
theorem rb_forR {n i : Nat} {f : τ → List R} {T : Out τ} {gl gh : τ → Int} {F : σ → Int → Out σ} (st : σ) (hi : RA G wl env env1 f T) (hr : ∀ t, (f t).length = n ∧ rangeOf (f t) = some (gl t, gh t)) (h0 : envLe (s st) env1) (ent : σ → Int → VEnv)
    (hb : ∀ st x, RB G w (ent st x) (F st x) (KN s)) (hg : ∀ st x, (s st).set i (some (.int x, mA)) = ent st x := by exact fun _ _ => rfl) :
    RB G (wForR n i wl w) env (T.bind fun t => (lift (rgO (gl t) (gh t))).bind fun xs => forO F st xs) (KN s) := fun D Xe hX hs =>
  hi _ _ Xe hX ((sat_bind.mp hs).imp fun t hs => by
    obtain ⟨xs, hx, hs⟩ := sat_lift.mp (sat_bind.mp hs)
    unfold rgO at hx
    split at hx
    · rename_i hbd
      cases hx
      refine ⟨gl t, gh t, (hr t).1, (hr t).2, ⟨hbd.1, hbd.2.1⟩, ⟨hbd.2.2.1, hbd.2.2.2⟩, fun k e => ∃ V, e = s V ∧ Sat (forO F V ((rg (gl t) (gh t)).drop k)) (fun b => KN s b D) Xe, s st, h0, ⟨st, rfl, hs⟩, fun k e hk hJ => ?_, fun e hJ => ?_⟩
      · obtain ⟨V, rfl, hs⟩ := hJ
        rw [hg]
        rw [drop_cons (rg_get hk)] at hs
        exact hb V _ { D with nx := fun e2 => _ } Xe hX ((sat_bind.mp hs).imp fun V' hs e le => ⟨s V', le, V', rfl, hs⟩)
      · obtain ⟨V, rfl, hs⟩ := hJ
        rw [← rg_len, List.drop_length] at hs
        exact hs _ (envLe.refl _)
    · cases hx)
theorem rb_forRF {n i : Nat} {f : τ → List R} {T : Out τ} {gl gh : τ → Int} {F : σ → Int → Out (Fl ρ σ)} (st : σ) (hi : RA G wl env env1 f T) (hr : ∀ t, (f t).length = n ∧ rangeOf (f t) = some (gl t, gh t)) (h0 : envLe (s st) env1) (ent : σ → Int → VEnv)
    (hb : ∀ st x, RB G w (ent st x) (F st x) (KF e md s)) (hg : ∀ st x, (s st).set i (some (.int x, mA)) = ent st x := by exact fun _ _ => rfl) :
    RB G (wForR n i wl w) env (T.bind fun t => (lift (rgO (gl t) (gh t))).bind fun xs => forF F st xs) (KF e md s) := fun D Xe hX hs =>
  hi _ _ Xe hX ((sat_bind.mp hs).imp fun t hs => by
    obtain ⟨xs, hx, hs⟩ := sat_lift.mp (sat_bind.mp hs)
    unfold rgO at hx
    split at hx
    · rename_i hbd
      cases hx
      refine ⟨gl t, gh t, (hr t).1, (hr t).2, ⟨hbd.1, hbd.2.1⟩, ⟨hbd.2.2.1, hbd.2.2.2⟩, fun k e' => ∃ V, e' = s V ∧ Sat (forF F V ((rg (gl t) (gh t)).drop k)) (fun b => KF e md s b D) Xe, s st, h0, ⟨st, rfl, hs⟩, fun k e' hk hJ => ?_, fun e' hJ => ?_⟩
      · obtain ⟨V, rfl, hs⟩ := hJ
        rw [hg]
        rw [drop_cons (rg_get hk)] at hs
        refine hb V _ { D with nx := fun e2 => _ } Xe hX ((sat_bind.mp hs).imp fun V' hs => ?_)
        cases V' with
        | ret r => exact hs
        | nxt V' => exact fun e le => ⟨s V', le, V', rfl, hs⟩
      · obtain ⟨V, rfl, hs⟩ := hJ
        rw [← rg_len, List.drop_length] at hs
        exact hs _ (envLe.refl _)
    · cases hx)
theorem envLe.len : ∀ {e e' : VEnv}, envLe e e' → e.length = e'.length
  | [], [], _ => _root_.rfl
  | _ :: _, _ :: _, h => by simp [envLe.len h.2]
  | [], _ :: _, h => h.elim
  | _ :: _, [], h => h.elim
theorem envLe_set {x : Option (D × Md)} : ∀ {e e' : VEnv} (h : envLe e e') (i : Nat) (_ : True), envLe (e.set i x) (e'.set i x)
  | [], [], _, _, _ => True.intro
  | _ :: _, _ :: _, h, 0, _ => ⟨slLe.refl _, h.2⟩
  | _ :: _, _ :: _, h, i + 1, _ => ⟨h.1, envLe_set h.2 i True.intro⟩
  | [], _ :: _, h, _, _ => h.elim
  | _ :: _, [], h, _, _ => h.elim
def GE (e0 : VEnv) : EG := fun v => envLe e0 v
end
theorem of_KT {ρ : Type} {w : WS} {env : VEnv} {m : Out ρ} {e : Enc ρ} {md : Md} {Qv : R → Prop} {Xv : Exn → Prop} (h : RB (fun _ => True) w env m (KT e md)) (hs : Sat m (fun r => Qv ⟨e r, md⟩) Xv) : w env ⟨fun _ => Qv ⟨.none, mA⟩, fun r _ => Qv r, fun ex _ => Xv ex⟩ :=
  h _ Xv (fun _ _ _ h => h) (hs.imp fun _ q _ => q)
end VL
set_option maxRecDepth 100000
set_option maxHeartbeats 4000000
namespace VL
open PySem PySem.Spec PyProof.Rows L2
theorem el_nil : envLe [] [] := True.intro
theorem el_c {s s' : Option (D × Md)} {e e' : VEnv} (h : slLe s s') (g : envLe e e') : envLe (s :: e) (s' :: e') := ⟨h, g⟩
theorem sl_n {s : Option (D × Md)} : slLe none s := True.intro
theorem sl_o {d : D} {m m' : Option Nat} (h : leM m m' = true := by rfl) : slLe (some (d, .o m)) (some (d, .o m')) := ⟨rfl, h⟩
theorem argS_F {α : Type} {e : Enc α} [f : Fl_ e] (x : α) : argS (e x) = some (e x, mA) := by unfold argS; rw [if_pos (f.fl x)]
theorem argS_N {α : Type} {e : Enc α} [f : Nf e] (x : α) : argS (e x) = some (e x, mS) := by unfold argS; rw [f.nf x]; rfl
section
variable {α β γ δ σ σ' ρ τ : Type} {G : EG} {env env1 env2 env3 : VEnv} {md m1 m2 m3 : Md} {a : Enc α} {b : Enc β} {e : Enc ρ} {wa wb wc we wi : WE} {wl wl' : WA} {wt wu : WT} {A : Out α} {w u v : WS} {K KA KB : β → DV → Prop} {M MA MB : Out β} {s : σ → VEnv}
theorem kx : ∀ b D n, K b D → (fun (_ : β) (_ : DV) => True) b { D with nx := n } := fun _ _ _ _ => True.intro
theorem re_as {x : α} (y : β) (h : RE G we env env1 md a (.ok x)) (e : a x = b y := by rfl) : RE G we env env1 md b (.ok y) := fun Q X Xe hX hs => h _ _ Xe hX (by rw [sat_ok, e]; exact hs)
theorem re_modCO {A : Out Int} (k : Int) (ha : RE G wa env env1 m1 eI A) (hb : RE G wb env1 env2 m2 eI (.ok k)) (h : 0 < k := by decide) : RE G (wBin woMod wa wb) env env2 mA eI (A.bind fun x => .ok (x % k)) := fun Q X Xe hX hs =>
  ha _ _ Xe hX ((sat_bind.mp hs).imp fun x hs => hb _ _ Xe hX (sat_ok.mpr (i_mod h hs)))
theorem rb_retI (h : RE G we env env1 md a A) (hb : isB md = false := by rfl) : RB G (wSeq (wRet we) u) env A (KT a md) := fun D Xe hX hs =>
  h _ _ Xe hX (hs.imp fun x hs => ⟨hb, hs _⟩)
theorem rb_retP' {x : α} (r : ρ) (h : RE G we env env1 md a (.ok x)) (hb : isB md = false := by rfl) (he : a x = e r := by rfl) : RB G (wSeq (wRet we) u) env (.ok r) (KT e md) := rb_retP r h hb he
theorem rb_retRP {x : α} (r : ρ) (h : RE G we env env1 md a (.ok x)) (hb : isB md = false := by rfl) (he : a x = e r := by rfl) : RB G (wSeq (wRet we) u) env (.ok (.ret r : Fl ρ σ)) (KR e md) := fun D Xe hX hs =>
  h _ _ Xe hX ⟨hb, by rw [he]; exact hs _⟩
theorem rb_ifP {p : Bool} (ht : RT G wt env (.ok p)) (h1 : RB G w env MA K) (h2 : RB G v env MB K) : RB G (wIf wt w v) env (if p = true then MA else MB) K := rb_if ht h1 h2
theorem rs_ifRP {p : Bool} (hK : ∀ b D n, K b D → KA b { D with nx := n }) (ht : RT G wt env (.ok p)) (h1 : RB G w env MA KA) (h2 : RB G u env MB K) : RB G (wSeq (wIf wt w wNext) u) env (if p = true then MA else MB) K := rs_ifR hK ht h1 h2
theorem rb_forP {g : Tg} {xs : List α} {F : σ → α → Out σ} (st : σ) (hi : RE G we env env1 m1 (eL a) (.ok xs)) (h0 : envLe (s st) env1) (ent : σ → α → VEnv)
    (hb : ∀ st x, RB G w (ent st x) (F st x) (KN s)) (hg : ∀ st x, ∃ rs, g.f (itemR mS (a x)) = some rs ∧ VL.putAll (s st) g.is rs = ent st x := by exact fun _ _ => ⟨_, rfl, rfl⟩) (hm : isB m1 = false := by rfl) :
    RB G (wFor g we w) env (forO F st xs) (KN s) := rb_for st hi h0 ent hb hg hm
theorem rb_forRP {n i : Nat} {f : τ → List R} {t : τ} (lo hi' : Int) {F : σ → Int → Out σ} (st : σ) (hi : RA G wl env env1 f (.ok t)) (hr : (f t).length = n ∧ rangeOf (f t) = some (lo, hi')) (h0 : envLe (s st) env1) (ent : σ → Int → VEnv)
    (hb : ∀ st x, RB G w (ent st x) (F st x) (KN s)) (hg : ∀ st x, (s st).set i (some (.int x, mA)) = ent st x := by exact fun _ _ => rfl) :
    RB G (wForR n i wl w) env ((lift (rgO lo hi')).bind fun xs => forO F st xs) (KN s) :=
  rb_forR (f := fun _ : Unit => f t) (T := .ok ()) (gl := fun _ => lo) (gh := fun _ => hi') st (fun Q X Xe hX h => hi Q X Xe hX h) (fun _ => hr) h0 ent hb hg
theorem rb_forRFP {n i : Nat} {f : τ → List R} {t : τ} (lo hi' : Int) {F : σ → Int → Out (Fl ρ σ)} (st : σ) (hi : RA G wl env env1 f (.ok t)) (hr : (f t).length = n ∧ rangeOf (f t) = some (lo, hi')) (h0 : envLe (s st) env1) (ent : σ → Int → VEnv)
    (hb : ∀ st x, RB G w (ent st x) (F st x) (KF e md s)) (hg : ∀ st x, (s st).set i (some (.int x, mA)) = ent st x := by exact fun _ _ => rfl) :
    RB G (wForR n i wl w) env ((lift (rgO lo hi')).bind fun xs => forF F st xs) (KF e md s) :=
  rb_forRF (f := fun _ : Unit => f t) (T := .ok ()) (gl := fun _ => lo) (gh := fun _ => hi') st (fun Q X Xe hX h => hi Q X Xe hX h) (fun _ => hr) h0 ent hb hg
theorem re_lcR1P {γ : Type} {c : Enc γ} {n i : Nat} {wl : WA} {vs : List Nat} {we : WE} (km : Option Nat) (md : Md) (lo hi' : Int) {ent : Int → VEnv} {F : Int → Out γ} {f : τ → List R} {t : τ}
    (hi : RA G wl env env1 f (.ok t)) (hr : (f t).length = n ∧ rangeOf (f t) = some (lo, hi')) (hg : ∀ x, (wipeE (bEnv env1) vs).set i (some (.int x, mA)) = ent x)
    (hf : ∀ x, ∃ e', RE (fun _ => True) we (ent x) e' md c (F x)) (hk : KidE c md km) :
    RE G (wLcR n vs i wl wYes we) env env1 (.o (succM km)) (eL c) ((lift (rgO lo hi')).bind (mapL fun x => noX (F x))) :=
  re_lcR1 (f := fun _ : Unit => f t) (T := .ok ()) (gl := fun _ => lo) (gh := fun _ => hi') (fun Q X Xe hX h => hi Q X Xe hX h) (fun _ => hr) hg hf hk
theorem envLe_setN : ∀ {e e' : VEnv} (_ : envLe e e') (i : Nat) (_ : e[i]? = some none), envLe e (e'.set i none)
  | [], [], _, _, _ => True.intro
  | s :: _, _ :: _, h, 0, z => ⟨by simp at z; rw [z]; exact True.intro, h.2⟩
  | _ :: _, _ :: _, h, i + 1, z => ⟨h.1, envLe_setN h.2 i (by simpa using z)⟩
  | [], _ :: _, h, _, _ => h.elim
  | _ :: _, [], h, _, _ => h.elim
end
section
variable {α β σ ρ : Type} {X : Exn → Prop}
theorem sat_forO {f : σ → α → Out σ} {xs : List α} {s0 : σ} {Q : σ → Prop} (Inv : Nat → σ → Prop) (h0 : Inv 0 s0) (step : ∀ k s x, xs[k]? = some x → Inv k s → Sat (f s x) (Inv (k + 1)) X) (last : ∀ s, Inv xs.length s → Q s) : Sat (forO f s0 xs) Q X := by
  induction xs generalizing s0 Inv with
  | nil => exact last _ h0
  | cons x xs ih =>
    unfold forO
    refine sat_bind.mpr ((step 0 s0 x rfl h0).imp fun s h => ?_)
    exact ih (fun k => Inv (k + 1)) h (fun k s y hy hi => step (k + 1) s y (by simpa using hy) hi) fun s h => last s h
theorem sat_forF {f : σ → α → Out (Fl ρ σ)} {xs : List α} {s0 : σ} {Q : Fl ρ σ → Prop} (Inv : Nat → σ → Prop) (h0 : Inv 0 s0) (step : ∀ k s x, xs[k]? = some x → Inv k s → Sat (f s x) (fun | .ret r => Q (.ret r) | .nxt s => Inv (k + 1) s) X) (last : ∀ s, Inv xs.length s → Q (.nxt s)) : Sat (forF f s0 xs) Q X := by
  induction xs generalizing s0 Inv with
  | nil => exact last _ h0
  | cons x xs ih =>
    unfold forF
    refine sat_bind.mpr ((step 0 s0 x rfl h0).imp fun s h => ?_)
    cases s with
    | ret r => exact h
    | nxt s => exact ih (fun k => Inv (k + 1)) h (fun k s y hy hi => step (k + 1) s y (by simpa using hy) hi) fun s h => last s h
theorem forO_ok {f : σ → α → Out σ} {g : σ → α → σ} {xs : List α} (s0 : σ) (h : ∀ s, ∀ x ∈ xs, f s x = .ok (g s x)) : forO f s0 xs = .ok (xs.foldl g s0) := by
  induction xs generalizing s0 with
  | nil => rfl
  | cons x xs ih =>
    unfold forO
    rw [h s0 x List.mem_cons_self]
    exact ih _ fun s y hy => h s y (List.mem_cons_of_mem _ hy)
theorem mapO_ok {f : α → Out β} {g : α → β} {xs : List α} (h : ∀ x ∈ xs, f x = .ok (g x)) : mapO f xs = .ok (xs.map g) := by
  induction xs with
  | nil => rfl
  | cons x xs ih =>
    unfold mapO
    rw [h x List.mem_cons_self, ih fun y hy => h y (List.mem_cons_of_mem _ hy)]; rfl
theorem mapL_ok {f : α → Out β} {g : α → β} {xs : List α} (hl : xs.length ≤ 1000000) (h : ∀ x ∈ xs, f x = .ok (g x)) : mapL f xs = .ok (xs.map g) := by
  unfold mapL; rw [if_pos hl]; exact mapO_ok h
theorem mapL_pure {g : α → β} {xs : List α} (hl : xs.length ≤ 1000000) : mapL (fun x => .ok (g x)) xs = .ok (xs.map g) := mapL_ok hl fun _ _ => rfl
theorem appO_ok {xs : List α} {v : α} (h : xs.length < 1000000) : appO xs v = some (xs ++ [v]) := by unfold appO; exact if_pos h
theorem extO_ok {xs ys : List α} (h : xs.length + ys.length < 1000000) : extO xs ys = some (xs ++ ys) := by unfold extO; exact if_pos h
theorem rgO_ok {lo hi : Int} (h : -(2 ^ 62) ≤ lo ∧ lo < 2 ^ 62 ∧ -(2 ^ 62) ≤ hi ∧ hi < 2 ^ 62) : rgO lo hi = some (rg lo hi) := by unfold rgO; exact if_pos h
theorem modO_ok {x y : Int} (h : 0 < y) : modO x y = some (x % y) := by unfold modO; exact if_pos h
theorem mulO_ok {x y : Int} (h : CMul x y ∨ CMulW x y) : mulO x y = some (x * y) := by unfold mulO; exact if_pos h
theorem fdO_ok {x y : Int} (h : CDiv x y ∨ CDivW x y) : fdO x y = some (x / y) := by unfold fdO; exact if_pos h
theorem powO_ok {x y : Int} (h : 0 ≤ y ∧ y ≤ 1000000 ∧ x.natAbs < 2 ^ 64) : powO x y = some (x ^ y.toNat) := by unfold powO; exact if_pos h
theorem atI_nat {xs : List α} {k : Nat} {x : α} (h : xs[k]? = some x) : atI xs (k : Int) = some x := atI_nat' h
theorem atI_get {xs : List α} {i : Int} (h0 : 0 ≤ i) (h1 : i < xs.length) : atI xs i = some (xs[i.toNat]'(by omega)) := atI_pos h0 (List.getElem?_eq_getElem (by omega))
theorem ixN_nn {n : Nat} {i : Int} (h0 : 0 ≤ i) (h1 : i < n) : ixN n i = some i.toNat := by
  unfold ixN
  rw [if_pos h0, if_pos (by omega)]
theorem setO_ok {xs : List α} {i : Int} {v : α} (h0 : 0 ≤ i) (h1 : i < xs.length) : setO xs i v = some (xs.set i.toNat v) := by
  unfold setO; rw [ixN_nn h0 h1]; rfl
end
end VL
set_option maxRecDepth 100000
set_option maxHeartbeats 4000000
namespace VL
open PySem PySem.Spec PyProof.Rows L2
section
variable {X : Cx} {c : Cn} {W : WX} {pos px ppx apx cpx pos2 p3 : Pos} {wp : WP} {o : Expr} {tx : Str} {z : Int} {j3 : _}
end
section
variable {α β γ δ σ ρ τ : Type} {G : EG} {env env1 env2 env3 : VEnv} {md m1 m2 m3 : Md} {a : Enc σ} {b : Enc β} {c : Enc γ} {wi we : WE} {wp : WP} {w u v : WS} {K : δ → DV → Prop}
end
section
variable {α β γ σ ρ τ : Type} {G : EG} {env env1 : VEnv} {md m1 m2 : Md} {a : Enc α} {b : Enc β} {we : WE} {A : Out α}
theorem re_asO (g : α → β) (h : RE G we env env1 md a A) (e : ∀ x, a x = b (g x) := by exact fun _ => rfl) : RE G we env env1 md b (A.bind fun x => .ok (g x)) := fun Q X Xe hX hs =>
  h _ _ Xe hX ((sat_bind.mp hs).imp fun x h => by rw [e]; exact h)
end
end VL
set_option maxRecDepth 100000
set_option maxHeartbeats 4000000
namespace VL
open PySem PySem.Spec PyProof.Rows L2
section
variable {prog : Program} {w : World} {A : Around} {E : Value → Shared → Prop} {s : Shared}
end
section
variable {X : Cx} {pos : Pos}
end
section
variable {α β γ δ σ ρ τ : Type} {G : EG} {env env1 env2 env3 : VEnv} {md m1 m2 m3 : Md} {a : Enc α} {we : WE} {w u v : WS} {K : δ → DV → Prop} {A : Out (List α)}
end
end VL
set_option maxRecDepth 100000
set_option maxHeartbeats 4000000
namespace VL
open PySem PySem.Spec PyProof.Rows L2
section
variable {α β γ : Type} [DecidableEq α] {a : Enc α} {n : Nat} {m1 m2 : Md}
end
theorem bS_fl {α : Type} {e : Enc α} [h : Fl_ e] (x : α) : bS (some (e x, mA)) = some (e x, mA) := by
  show (if flatD (e x) = true then _ else _) = _
  rw [if_pos (h.fl x)]
theorem bEnv_c (s : Option (D × Md)) (e : VEnv) : bEnv (s :: e) = bS s :: bEnv e := rfl
theorem bEnv_n : bEnv [] = [] := rfl
end VL
set_option maxRecDepth 100000
set_option maxHeartbeats 4000000
namespace VL
open PySem PySem.Spec PyProof.Rows L2
open PySem.W (HoldAll maxOf minOf max_tuple_datum min_tuple_datum Datum DatumOrd)
section
variable {X : Cx} {c : Cn} {W : WX} {pos p p2 p3 : Pos} {wa : WA} {e e' e2 : Expr} {we : WE}
end
section
variable {α β γ σ ρ τ : Type} {G : EG} {env env1 env2 env3 : VEnv} {md m1 m2 m3 : Md} {a : Enc α} {b : Enc β} {wa wb we : WE}
variable [DecidableEq α] {n : Nat}
end
end VL
set_option maxRecDepth 100000
set_option maxHeartbeats 4000000
namespace VL
open PySem PySem.Spec PyProof.Rows L2
section
variable {α β γ σ ρ τ : Type} {G : EG} {env env1 env2 env3 : VEnv} {md m1 m2 m3 : Md} {a : Enc α} {b : Enc β} {wl : WA} {we : WE}
end
end VL
set_option maxRecDepth 100000
set_option maxHeartbeats 4000000
namespace VL
open PySem PySem.Spec PyProof.Rows L2
theorem IntsAre.at {us : List Value} {ns : List Int} (h : IntsAre us ns) : ∀ j (h1 : j < us.length), ∃ t, us[j] = .int (ns.getD j 0) t := by
  induction h with
  | nil => intro j h1; simp at h1
  | cons a t h ih =>
    intro j h1
    cases j with
    | zero => exact ⟨t, rfl⟩
    | succ j => simpa using ih j (by simpa using h1)
section
variable {α β : Type} {a : Enc α} {b : Enc β} {m1 m2 : Md}
end
section
variable {β : Type} {G : EG} {w u : WS} {env : VEnv} {m : Out β} {K : β → DV → Prop}
end
end VL
set_option maxRecDepth 100000
set_option maxHeartbeats 4000000
namespace VL
open PySem PySem.Spec PyProof.Rows L2
abbrev FSpecM := List D → (R → D → Prop) → (Exn → Prop) → Prop
def Fr (l : List Addr) (H H' : Hp) : Prop := ∀ b o, H b = some o → b ∉ l → H' b = some o
section
variable {c : Cn} {T : List Addr} {H : Hp}
end
section
variable {P : Program} {w : World} {K : PySem.W.Frag} {mg : Str → Option Value} {base : Heap} {cl : Str → Option Addr} {h : Heap}
end
section
variable {X : Cx} {c : Cn} {W : WX} {pos : Pos} {w : WE} {wa : WA} {e : Expr} {es : List Expr}
end
section
variable {c : Cn} {L : List (List Addr)} {Tm l lj l' lr : List Addr} {env : VEnv} {σ : Sg} {H H' : Hp} {i : Nat} {v : V} {d' : D}
theorem Fr.kp {A : Addr → Prop} (f : Fr lj H H') (m : ∀ b ∈ lj, ∃ o, H b = some o ∧ mutO o) (a : ∀ b, A b → b ∉ lj) : Kp A H H' :=
  ⟨fun b o x e => f b o e (a b x), fun b xs e => f b _ e fun z => by obtain ⟨o, e2, q⟩ := m b z; rw [e] at e2; cases e2; exact q, fun b o u e => f b _ e fun z => by obtain ⟨o, e2, q⟩ := m b z; rw [e] at e2; cases e2; exact q⟩
end
section
variable {X : Cx} {c : Cn} {W : WX} {pos p : Pos} {wa : WA} {we : WE} {e : Expr} {es : List Expr} {x : Str} {n k j : Nat} {S : FSpecM}
end
section
variable {X : Cx} {c : Cn} {W : WX} {pos : Pos} {we : WE} {wt : WT} {w u : WS} {e : Expr} {a b : List Stmt}
end
section
variable {α β σ ρ τ ι : Type} {G : EG} {env env1 : VEnv} {md : Md} {a : Enc α} {e : Enc ρ} {b : Enc β} {we : WE} {wl : WA} {u w v : WS} {wt : WT} {γ : Type} {M : Out γ} {K KA : γ → DV → Prop} {s : τ → VEnv}
end
theorem envLe.get : ∀ {e e' : VEnv} {j : Nat} {d : D}, envLe e e' → e[j]? = some (some (d, mA)) → e'[j]? = some (some (d, mA))
  | [], _, _, _, _, h => by simp at h
  | _ :: _, [], _, _, h, _ => h.elim
  | s :: e, s' :: e', 0, d, h, g => by
    simp at g; subst g
    have h := h.1
    match s', h with
    | none, h => exact h.elim
    | some (d', .b), h => exact h.elim
    | some (d', .o m), h =>
      obtain ⟨rfl, h⟩ := h
      cases m with
      | none => rfl
      | some k => cases h
  | s :: e, s' :: e', j + 1, d, h, g => by simpa using envLe.get (j := j) h.2 (by simpa using g)
end VL
set_option maxRecDepth 100000
set_option maxHeartbeats 4000000
namespace XD
open PySem PySem.Spec PyProof.Rows L2 VL
@[irreducible] noncomputable def F_law_cell (script_ : (List Int)) (place_ : Int) : Out Int :=
  (if (decide (place_ < (script_.length : Int))) = true then (lift (atI script_ place_)) else ((Out.ok (5)).bind fun (seed_ : Int) => ((forO (fun (V3 : Int) (cell_here_ : Int) => ((Out.ok (((((V3 * 48271) + (cell_here_ % 1000003)) + 1) % 2147483647))).bind fun (seed_ : Int) => (Out.ok seed_))) seed_ (cutL script_ none (some (63)))).bind fun (V3 : Int) => (Out.ok ((V3 + (7919 * place_)) % 1000003)))))
def sp_law_cell : FSpec := fun ds Q X => ∃ (script_ : (List Int)) (place_ : Int), ds = [eScr script_, eI place_] ∧ Sat (F_law_cell script_ place_) (fun r => Q ⟨eI r, mA⟩) X
@[irreducible] noncomputable def F_law_mix (cell_here_ : Int) (k_ : Int) : Out Int :=
  (((lift (powO (((cell_here_ % 2147483629) + (1013 * k_)) + 7919) 3)).bind fun t1 => .ok (t1 % 2147483647)).bind fun (one_ : Int) => (((((Out.ok ((one_ * 40699))).bind fun t1 => (lift (mulO (3793 * k_) k_)).bind fun t2 => .ok ((t1 + t2))).bind fun t1 => (Out.ok (11)).bind fun t2 => .ok ((t1 + t2))).bind fun t1 => .ok (t1 % 2147483399)).bind fun (two_ : Int) => (Out.ok (two_ / 101))))
def sp_law_mix : FSpec := fun ds Q X => ∃ (cell_here_ : Int) (k_ : Int), ds = [eI cell_here_, eI k_] ∧ Sat (F_law_mix cell_here_ k_) (fun r => Q ⟨eI r, mA⟩) X
@[irreducible] noncomputable def F_law_row (script_ : (List Int)) (place_ : Int) (sizes_ : (List Int)) : Out (List Int) :=
  ((F_law_cell script_ place_).bind fun (cell_here_ : Int) => ((Out.ok (cell_here_)).bind fun (left_ : Int) => ((Out.ok (([] : (List Int)))).bind fun (some_ : (List Int)) => (((lift (rgO 0 (sizes_.length : Int))).bind fun xs => forO (fun (V18 : (List Int) × Int) (k_ : Int) => ((if (decide (cell_here_ < (10 ^ ((18 : Int).toNat) : Int))) = true then (((F_law_mix cell_here_ k_).bind fun t1 => (lift (atI sizes_ k_)).bind fun t2 => lift (modO t1 t2)).bind fun v => (lift (appO V18.1 v)).bind fun some_ => (Out.ok (some_, V18.2))) else ((if (decide (V18.2 > 0)) = true then (((Out.ok (V18.2)).bind fun t1 => (lift (atI sizes_ k_)).bind fun t2 => lift (modO t1 t2)).bind fun v => (lift (appO V18.1 v)).bind fun some_ => (((Out.ok (V18.2)).bind fun t1 => (lift (atI sizes_ k_)).bind fun t2 => lift (fdO t1 t2)).bind fun (left_ : Int) => (Out.ok (some_, left_)))) else ((F_law_cell script_ (((place_ + 1) + k_) % 63)).bind fun (other_ : Int) => (((F_law_mix other_ k_).bind fun t1 => (lift (atI sizes_ k_)).bind fun t2 => lift (modO t1 t2)).bind fun v => (lift (appO V18.1 v)).bind fun some_ => (Out.ok (some_, V18.2))))).bind fun (V24 : (List Int) × Int) => (Out.ok (V24.1, V24.2)))).bind fun (V23 : (List Int) × Int) => (Out.ok (V23.1, V23.2)))) (some_, left_) xs).bind fun (V18 : (List Int) × Int) => (Out.ok V18.1)))))
def sp_law_row : FSpec := fun ds Q X => ∃ (script_ : (List Int)) (place_ : Int) (sizes_ : (List Int)), ds = [eScr script_, eI place_, (eL eI) sizes_] ∧ Sat (F_law_row script_ place_ sizes_) (fun r => Q ⟨(eL eI) r, mA⟩) X
@[irreducible] noncomputable def F_law_is_whole (one_ : Int) : Out Bool :=
  (Out.ok (!(false)))
def sp_law_is_whole : FSpec := fun ds Q X => ∃ (one_ : Int), ds = [eI one_] ∧ Sat (F_law_is_whole one_) (fun r => Q ⟨eB r, mA⟩) X
end XD
set_option maxRecDepth 100000
set_option maxHeartbeats 4000000
namespace VL
open PySem PySem.Spec PyProof.Rows L2
section
variable {α β γ δ : Type} {a : Enc α} {b : Enc β} {c : Enc γ} {d : Enc δ} {n m k j : Nat}
def eX3 (a : Enc α) (b : Enc β) (c : Enc γ) : Enc (α × β × γ) := fun p => .list [a p.1, b p.2.1, c p.2.2]
def eX4 (a : Enc α) (b : Enc β) (c : Enc γ) (d : Enc δ) : Enc (α × β × γ × δ) := fun p => .list [a p.1, b p.2.1, c p.2.2.1, d p.2.2.2]
instance : Nf (eX3 a b c) := ⟨fun _ => rfl⟩
instance : Nf (eX4 a b c d) := ⟨fun _ => rfl⟩
variable [DecidableEq α] [DecidableEq β] [DecidableEq γ] [DecidableEq δ]
instance [h : EqE a n] [g : EqE b m] [i : EqE c k] : EqE (eX3 a b c) (max n (max m k) + 1) := ⟨fun p => by simp [eX3, PyData.canLay0, PyData.canLayAll0, h.lay, g.lay, i.lay], fun p => by
  have := h.dep p.1; have := g.dep p.2.1; have := i.dep p.2.2
  simp only [eX3, PyData.depth, PyData.depthAll]; omega, fun p q => by
  obtain ⟨p1, p2, p3⟩ := p; obtain ⟨q1, q2, q3⟩ := q
  simp only [eX3, PyData.eqv, PyData.eqvAll, h.eqv, g.eqv, i.eqv, Prod.mk.injEq, Bool.and_true, Bool.decide_and]⟩
instance [h : EqE a n] [g : EqE b m] [i : EqE c k] [u : EqE d j] : EqE (eX4 a b c d) (max n (max m (max k j)) + 1) := ⟨fun p => by simp [eX4, PyData.canLay0, PyData.canLayAll0, h.lay, g.lay, i.lay, u.lay], fun p => by
  have := h.dep p.1; have := g.dep p.2.1; have := i.dep p.2.2.1; have := u.dep p.2.2.2
  simp only [eX4, PyData.depth, PyData.depthAll]; omega, fun p q => by
  obtain ⟨p1, p2, p3, p4⟩ := p; obtain ⟨q1, q2, q3, q4⟩ := q
  simp only [eX4, PyData.eqv, PyData.eqvAll, h.eqv, g.eqv, i.eqv, u.eqv, Prod.mk.injEq, Bool.and_true, Bool.decide_and]⟩
end
section
variable {α β τ : Type} {b : Enc β} {G : EG} {env env1 env2 : VEnv} {wb wc : WE} {wl : WA} {m1 m2 : Md}
end
end VL
set_option maxRecDepth 100000
set_option maxHeartbeats 4000000
namespace VL
open PySem PySem.Spec PyProof.Rows L2
section
variable {X : Cx} {c : Cn} {W : WX} {apos cpos : Pos} {wd wk wx : WE} {o e f : Expr} {k : Nat}
end
section
variable {α : Type} {a : Enc α} {G : EG} {env env1 env2 env3 : VEnv} {wd wk wx : WE} {m1 m2 m3 : Md}
end
end VL
set_option maxRecDepth 100000
set_option maxHeartbeats 4000000
namespace VL
open PySem PySem.Spec PyProof.Rows L2
inductive At where
  | i (n : Int) | b (v : Bool) | s (x : Str)
deriving DecidableEq
def eA : Enc At | .i n => .int n | .b v => .bool v | .s x => .str x
instance : Fl_ eA := ⟨fun | .i _ => rfl | .b _ => rfl | .s _ => rfl⟩
def asI : At → Option Int | .i n => some n | _ => none
def asB : At → Option Bool | .b n => some n | _ => none
def asS : At → Option Str | .s n => some n | _ => none
@[simp] theorem asI_i (n : Int) : asI (.i n) = some n := Eq.trans rfl rfl
@[simp] theorem asB_b (n : Bool) : asB (.b n) = some n := Eq.trans rfl rfl
@[simp] theorem asS_s (n : Str) : asS (.s n) = some n := Eq.trans rfl rfl
def asP : List At → Option (Int × Int) | [.i a, .i b] => some (a, b) | _ => none
@[simp] theorem asP_i (a b : Int) : asP [.i a, .i b] = some (a, b) := Eq.trans rfl rfl
section
variable {α β : Type} {G : EG} {env env1 : VEnv} {md : Md} {a : Enc α} {b : Enc β} {we : WE}
variable {m1 m2 : Md}
end
section
variable {X : Cx} {c : Cn}
end
section
variable {α β : Type} [DecidableEq α] {a : Enc α} {b : Enc β} {m1 m2 : Md}
end
section
variable {X : Cx} {c : Cn} {W : WX} {pos : Pos} {wa wb : WE} {a b : Expr}
end
section
variable {α : Type} {a : Enc α} {m1 m2 : Md}
end
section
variable {α δ : Type} {G : EG} {env env1 : VEnv} {md : Md} {a : Enc α} {we : WE} {u : WS} {K : δ → DV → Prop} {A : Out (List α)}
end
section
variable {X : Cx} {c : Cn} {W : WX} {pos p : Pos} {wa : WA} {e : Expr}
end
section
variable {α : Type} {a : Enc α} {m : Md}
end
end VL
set_option maxRecDepth 100000
set_option maxHeartbeats 4000000
namespace VL
open PySem PySem.Spec PyProof.Rows L2
section
variable {X : Cx} {c : Cn} {W : WX} {pos p p2 apos cpos : Pos} {wa : WA} {e o : Expr} {we wk : WE}
end
section
variable {X : Cx}
end
end VL
set_option maxRecDepth 100000
set_option maxHeartbeats 4000000
namespace VL
open PySem PySem.Spec PyProof.Rows L2
section
variable {X : Cx} {c : Cn} {W : WX} {pos p apos cpos px : Pos} {o i : Expr} {wd wk : WE} {x : Str} {k : Nat}
def dropKK {α : Type} (kvs : List (Int × α)) (k : Int) : List (Int × α) := kvs.filter fun p => decide (p.1 ≠ k)
theorem PrI.drop {K : PySem.W.Frag} {A : Addr → Prop} {H : Hp} {k' : List (Key × V)} {kvs : List (Int × D)} (h : PrI K A H k' kvs) (i : Int) : PrI K A H (dropK k' (.inl i)) (dropKK kvs i) := by
  induction h with
  | nil => exact .nil
  | @cons j v d r s hv _ ih =>
    unfold dropK dropKK at ih ⊢
    rw [List.filter_cons, List.filter_cons]
    by_cases e : j = i
    · rw [if_neg (by simp [e]), if_neg (by simp [e])]; exact ih
    · rw [if_pos (by simpa using e), if_pos (by simpa using e)]; exact .cons hv ih
end
section
variable {α β γ : Type} {G : EG} {env env1 : VEnv} {md m1 : Md} {a : Enc α} {wd wk we : WE} {u : WS} {K : β → DV → Prop}
end
end VL
set_option maxRecDepth 100000
set_option maxHeartbeats 4000000
namespace VL
open PySem PySem.Spec PyProof.Rows L2
section
variable {prog : Program} {w : World} {A : Around} {E : Value → Shared → Prop} {s : Shared}
end
section
variable {X : Cx} {pos p2 px tpos p3 : Pos} {o value hi : Expr} {tv to th : TE}
end
section
variable {X : Cx} {c : Cn} {W : WX} {pos p2 px tpos : Pos} {hi e : Expr} {we : WE} {x : Str}
end
section
variable {α β : Type} {G : EG} {env env1 : VEnv} {a : Enc α} {we : WE} {u : WS} {K : β → DV → Prop}
end
end VL
set_option maxRecDepth 100000
set_option maxHeartbeats 4000000
namespace VL
open PySem PySem.Spec PyProof.Rows L2
section
variable {P : Program} {w : World} {K : PySem.W.Frag} {mg : Str → Option Value} {base : Heap} {cl : Str → Option Addr} {h : Heap}
end
section
variable {c : Cn} {L : List (List Addr)} {Tm l lj lr : List Addr} {env : VEnv} {σ : Sg} {H H' : Hp}
end
section
variable {X : Cx} {c : Cn} {W : WX} {pos p : Pos} {wa : WA} {we : WE} {e : Expr} {es : List Expr} {x : Str} {n k j : Nat} {S : FSpec}
end
section
variable {β ρ τ ι : Type} {G : EG} {env env1 : VEnv} {md : Md} {b : Enc β} {wl : WA}
end
end VL
set_option maxRecDepth 100000
set_option maxHeartbeats 4000000
namespace VL
open PySem PySem.Spec PyProof.Rows L2
section
variable {X : Cx} {c : Cn} {W : WX} {pos px px2 ppx dpx tpos pos2 : Pos} {wp : WP} {o : Expr} {tx dx : Str} {b : Bool} {j3 : _} {kr : Nat}
end
section
variable {α σ δ : Type} {G : EG} {env env1 : VEnv} {a : Enc σ} {wp : WP} {u : WS} {K : δ → DV → Prop}
end
end VL
set_option maxRecDepth 100000
set_option maxHeartbeats 4000000
namespace VL
open PySem PySem.Spec PyProof.Rows L2
section
variable {prog : Program} {w : World} {A : Around} {E : Value → Shared → Prop} {s : Shared}
end
section
variable {X : Cx} {c : Cn} {W : WX} {pos p p1 p2 p3 : Pos} {e : Expr} {te : TE} {we : WE} {wa : WA} {k : Nat}
end
section
variable {α β : Type} {G : EG} {env env1 : VEnv} {md m : Md} {a : Enc α} {b : Enc β} {we : WE}
end
section
variable {α : Type} {e : Enc α} {m : Md} {x : α} {rs : List R} {n : Option (Option Nat)}
end
end VL
set_option maxRecDepth 100000
set_option maxHeartbeats 4000000
namespace VL
open PySem PySem.Spec PyProof.Rows L2
section
variable {X : Cx} {c : Cn} {W : WX} {pos p cpos tpos : Pos} {g : Tg} {wa : WA} {w : WS} {elts : List Expr} {kk : Nat} {a b : Expr} {body : List Stmt}
end
section
variable {α β σ ρ : Type} {G : EG} {env env1 env2 : VEnv} {m1 m2 md : Md} {a : Enc α} {b : Enc β} {e : Enc ρ} {wa wb : WE} {w : WS} {s : σ → VEnv}
end
end VL
set_option maxRecDepth 100000
set_option maxHeartbeats 4000000
namespace VL
open PySem PySem.Spec PyProof.Rows L2
section
variable {X : Cx} {c : Cn} {W : WX} {pos apos cpos px : Pos} {wa wb wk wv : WE} {wo : WO} {r2 : R2} {a b e f : Expr} {x : Str}
end
section
variable {α β γ δ σ ρ τ : Type} {G : EG} {env env1 : VEnv} {md m1 m2 : Md} {a : Enc α} {b : Enc β} {e : Enc ρ} {we wk wv wb : WE} {wo : WO} {s : τ → VEnv}
def eqG (d e : D) : Option Bool := match scalD d e with
  | some b => some b
  | none => if (SeqAt.shaped d && SeqAt.shaped e) = true then some (PyData.eqv d e) else none
variable {mm1 mm2 : Md}
theorem woEq_G {ra rb : R} {Q : R → Prop} {z : Bool} (h : eqG ra.d rb.d = some z) (q : Q ⟨.bool z, mA⟩) : woEq ra rb Q := by
  unfold eqG at h
  unfold woEq
  cases e : scalD ra.d rb.d with
  | some b => rw [e] at h; cases h; exact q
  | none =>
    rw [e] at h
    simp only at h
    split at h
    · rename_i hs
      cases h
      rw [Bool.and_eq_true] at hs
      exact ⟨hs.1, hs.2, q⟩
    · cases h
theorem xo_eqG {a : Enc α} {b : Enc β} : OpO woEq a mm1 b mm2 (fun x y => eqG (a x) (b y)) eB mA := fun x y z Q h q => woEq_G h q
end
end VL
set_option maxRecDepth 100000
set_option maxHeartbeats 4000000
namespace VL
open PySem PySem.Spec PyProof.Rows L2
section
variable {α β ρ σ τ ι γ : Type} {G : EG} {env env1 : VEnv} {md m1 : Md} {a : Enc α} {e : Enc ρ} {we : WE} {wl : WA} {u w v : WS} {wt : WT} {A : Out α} {s : τ → VEnv} {K : γ → DV → Prop}
end
end VL
set_option maxRecDepth 100000
set_option maxHeartbeats 4000000
namespace VL
open PySem PySem.Spec PyProof.Rows L2
section
variable {X : Cx} {c : Cn} {W : WX} {pos p px pc : Pos} {wa : WA} {e : Expr} {x : Str}
end
section
variable {α β : Type} {G : EG} {env : VEnv} {md m1 m2 : Md} {a : Enc α} {b : Enc β} {wa wb we : WE}
end
end VL
set_option maxRecDepth 100000
set_option maxHeartbeats 4000000
namespace VL
open PySem PySem.Spec PyProof.Rows L2
open PySem.W (dataLe dataLt AllAlike Sortable EachIs alike alikeAll)
section
variable {X : Cx} {c : Cn} {W : WX} {pos p : Pos} {wa : WA} {e : Expr} {β : Type} {fv : β → V} {fd : β → D}
end
section
variable {X : Cx} {c : Cn} {W : WX} {pos p : Pos} {wa : WA} {e : Expr}
end
class OrdE {α : Type} (e : Enc α) (lt : outParam (α → α → Bool)) : Prop where
  lt : ∀ a b, dataLt (e a) (e b) = lt a b
  al : ∀ a b, alike (e a) (e b) = true
  nn : ∀ a, e a ≠ .none ∧ ∀ xs, e a ≠ .tuple xs
def lexB {α : Type} [DecidableEq α] (lt : α → α → Bool) : List α → List α → Bool
  | [], [] => false
  | [], _ :: _ => true
  | _ :: _, [] => false
  | x :: xs, y :: ys => if x = y then lexB lt xs ys else lt x y
def ltI (a b : Int) : Bool := decide (a < b)
instance : OrdE eI ltI := ⟨fun a b => PySem.W.dataLt_int a b, fun _ _ => by simp [eI, alike], fun _ => ⟨by simp [eI], by simp [eI]⟩⟩
section
variable {α : Type} [DecidableEq α] {a : Enc α} {lt : α → α → Bool} {n : Nat}
theorem alike_map [o : OrdE a lt] : ∀ xs ys : List α, alikeAll (xs.map a) (ys.map a) = true
  | [], _ => by simp [alikeAll]
  | _ :: _, [] => by simp [alikeAll]
  | x :: xs, y :: ys => by simp [alikeAll, o.al, alike_map xs ys]
theorem dataLt_map [o : OrdE a lt] [h : EqE a n] : ∀ xs ys : List α, dataLt (.list (xs.map a)) (.list (ys.map a)) = lexB lt xs ys
  | [], [] => by rw [PySem.W.dataLt_list]; rfl
  | [], y :: ys => by
    have := PySem.W.dataLt_list [] ((y :: ys).map a)
    rw [List.map_nil, this]
    have e : (PyData.list []) = (PyData.list (([] : List Int).map .int)) := rfl
    have d := PySem.W.dataLt_ints [] [0]
    simp only [lexB]
    rw [List.map_cons]
    have := PySem.W.toks_all_cons (a y) (ys.map a)
    rw [this]
    simp only [PySem.W.keyToksAll]
    rfl
  | x :: xs, [] => by
    rw [List.map_nil, PySem.W.dataLt_list, List.map_cons, PySem.W.toks_all_cons]
    simp only [PySem.W.keyToksAll, lexB]
    rfl
  | x :: xs, y :: ys => by
    have ih := dataLt_map xs ys
    rw [PySem.W.dataLt_list] at ih ⊢
    rw [List.map_cons, List.map_cons, PySem.W.dataLt_cons (o.al x y), h.eqv, o.lt, ih]
    simp only [lexB, decide_eq_true_eq]
instance [o : OrdE a lt] [h : EqE a n] : OrdE (eL a) (lexB lt) := ⟨fun xs ys => dataLt_map xs ys, fun xs ys => by
  have := alike_map (a := a) xs ys
  simpa [eL, alike] using this, fun _ => ⟨by simp [eL], by simp [eL]⟩⟩
end
end VL
set_option maxRecDepth 100000
set_option maxHeartbeats 4000000
namespace VL
open PySem PySem.Spec PyProof.Rows L2
section
variable {X : Cx} {c : Cn} {W : WX} {pos p p2 q px apos cpos : Pos} {e : Expr} {te : TE} {we : WE} {x : Str}
end
section
variable {α β γ : Type} {G : EG} {env env1 : VEnv} {md : Md} {a : Enc α} {we : WE} {u : WS} {M : Out γ} {K : γ → DV → Prop}
end
end VL
set_option maxRecDepth 100000
set_option maxHeartbeats 4000000
namespace VL
open PySem PySem.Spec PyProof.Rows L2
section
variable {α β γ : Type} {G : EG} {env env1 env2 : VEnv} {m1 m2 md : Md} {a : Enc α} {b : Enc β} {c : Enc γ} {wa wb : WE}
end
section
variable {c : Cn} {L : List (List Addr)} {Tm : List Addr} {H H1 H3 : Hp} {Dn : Addr} {km : Option Nat} {acc : List V} {accD : List D} {lk : List Addr}
theorem Acc.grow (A : Acc c L Tm H1 Dn km acc accD lk H) (sm : Same H H3) : Acc c L Tm H1 Dn km acc accD lk H3 :=
  ⟨A.same.trans sm, A.nd, fun b hb => let ⟨n, o, e⟩ := A.new b hb; ⟨n, o, sm _ _ e⟩, sm _ _ A.at_, ROs.keepT A.kids sm fun b hb => .inl hb⟩
end
section
variable {X : Cx} {c : Cn} {W : WX} {we wl : WE} {wa : WA} {tt : WT} {g : Tg} {vs : List Nat}
end
section
variable {X : Cx} {c : Cn} {W : WX} {wl : WE} {wa : WA} {tt : WT} {a b elt : Expr} {elts : List Expr} {kk : Nat} {tpos : Pos} {ifs : List Expr} {scope : Scope} {pos p cpos : Pos}
end
section
variable {α β γ : Type} {G : EG} {env env1 env2 : VEnv} {m1 m2 : Md} {a : Enc α} {b : Enc β} {c : Enc γ} {wa wb : WE}
end
end VL
set_option maxRecDepth 100000
set_option maxHeartbeats 4000000
namespace VL
open PySem PySem.Spec PyProof.Rows L2
section
variable {X : Cx} {c : Cn} {W : WX} {pos px ppx apx cpx pos2 p3 : Pos} {wp : WP} {o : Expr} {tx : Str}
end
section
variable {α β γ δ σ ρ τ : Type} {G : EG} {env env1 env2 env3 : VEnv} {md m1 m2 m3 : Md} {a : Enc σ} {b : Enc β} {c : Enc γ} {wi we : WE} {wp : WP} {w u v : WS} {K : δ → DV → Prop}
end
end VL
set_option maxRecDepth 100000
set_option maxHeartbeats 4000000
namespace VL
open PySem PySem.Spec PyProof.Rows L2
section
variable {X : Cx} {c : Cn} {W : WX} {pos px : Pos} {g : Tg} {w : WS} {tg : Expr} {x : Str} {body : List Stmt}
end
section
variable {α β σ ρ : Type} {G : EG} {env env1 env2 : VEnv} {m1 m2 md : Md} {a : Enc α} {b : Enc β} {e : Enc ρ} {w : WS} {s : σ → VEnv}
end
end VL
set_option maxRecDepth 100000
set_option maxHeartbeats 4000000
namespace VL
open PySem PySem.Spec PyProof.Rows L2
section
variable {X : Cx} {c : Cn} {W : WX} {pos apos cpos : Pos} {wp : WP} {we : WE} {o e : Expr}
end
section
variable {α β γ δ σ ρ τ : Type} {G : EG} {env env1 env2 env3 : VEnv} {md m1 m2 m3 : Md} {a : Enc α} {we : WE} {u : WS} {K : β → DV → Prop}
end
end VL
set_option maxRecDepth 100000
set_option maxHeartbeats 4000000
namespace VL
open PySem PySem.Spec PyProof.Rows L2
def Cn.pool (c : Cn) (R : List Addr) (H1 : Hp) : Cn := { c with P0 := fun b => c.P0 b ∧ b ∉ R, H0 := fun b => if b ∈ R then H1 b else c.H0 b, rw := c.rw.filter fun b => decide (b ∉ R) }
section
variable {c : Cn} {R R1 R2 : List Addr} {H1 H : Hp} {L : List (List Addr)} {Tm : List Addr} {e : VEnv} {σ : Sg}
theorem pool_rw {b : Addr} : b ∈ (c.pool R H1).rw ↔ b ∈ c.rw ∧ b ∉ R := by
  show b ∈ c.rw.filter _ ↔ _
  rw [List.mem_filter]; simp
theorem pool_own (hR : ∀ b ∈ R, ∃ o, H1 b = some o) {b : Addr} : (c.pool R H1).Own b ↔ b ∉ R ∧ c.Own b := by
  unfold Cn.Own
  rw [pool_rw]
  show (if b ∈ R then H1 b else c.H0 b) = none ∨ _ ↔ _
  by_cases h : b ∈ R
  · obtain ⟨o, ho⟩ := hR b h
    rw [if_pos h, ho]; simp [h]
  · rw [if_neg h]; simp [h]
theorem pool_B (hR : ∀ b ∈ R, ∃ o, H1 b = some o) {b : Addr} : (c.pool R H1).B b ↔ b ∉ R ∧ c.B b := by
  unfold Cn.B
  rw [pool_own hR]
  show (c.P0 b ∧ b ∉ R) ∨ _ ↔ _
  constructor
  · rintro (⟨h1, h2⟩ | ⟨h1, h2⟩)
    · exact ⟨h2, .inl h1⟩
    · exact ⟨h1, .inr h2⟩
  · rintro ⟨h1, h2 | h2⟩
    · exact .inl ⟨h2, h1⟩
    · exact .inr ⟨h1, h2⟩
theorem Slots.reAT {c' : Cn} (hK : c'.K = c.K) {T T' : List Addr} (hm : ∀ b, AT c.B T b → AT c'.B T' b) (h : Slots c T H e σ L) : Slots c' T' H e σ L := by
  induction h with
  | nil => exact .nil
  | non _ ih => exact .non ih
  | bor r _ ih => exact .bor (by rw [hK]; exact r) ih
  | own r _ ih => exact .own (by rw [hK]; exact RO.mono (fun b _ a _ => hm b a) r) ih
theorem pool_AT (hR : ∀ b ∈ R, ∃ o, H1 b = some o) {T : List Addr} {b : Addr} (h : AT (c.pool R H1).B T b) : AT c.B T b := ⟨((pool_B hR).mp h.1).2, h.2⟩
end
section
variable {X : Cx} {c : Cn} {W : WX} {pos : Pos} {g : Tg} {we : WE} {w : WS} {tg iter : Expr} {body : List Stmt}
end
section
variable {σ ρ : Type} {G : EG} {env env1 env2 : VEnv} {md : Md} {e : Enc ρ} {we : WE} {w : WS} {s : σ → VEnv}
end
end VL
set_option maxRecDepth 100000
set_option maxHeartbeats 4000000
namespace VL
open PySem PySem.Spec PyProof.Rows L2
end VL
set_option maxRecDepth 100000
set_option maxHeartbeats 4000000
namespace VL
open PySem PySem.Spec PyProof.Rows L2
open PySem.W (dataLt alike)
end VL
set_option maxRecDepth 100000
set_option maxHeartbeats 4000000
namespace VL
open PySem PySem.Spec PyProof.Rows L2
section
variable {X : Cx} {c : Cn} {W : WX} {pos px ppx py ppy apx cpx pos2 pos3 p3 : Pos} {wp : WP} {o : Expr} {tx ty : Str} {z : Int} {j3 : _}
end
section
variable {α β γ δ σ ρ τ : Type} {G : EG} {env env1 env2 env3 : VEnv} {md m1 m2 m3 : Md} {a : Enc σ} {wp : WP} {w u v : WS} {K : δ → DV → Prop}
end
end VL
set_option maxRecDepth 100000
set_option maxHeartbeats 4000000
namespace VL
open PySem PySem.Spec PyProof.Rows L2
open PySem.W (dataLe dataLt AllAlike Sortable EachIs alike alikeAll)
section
variable {X : Cx} {c : Cn} {W : WX} {pos p : Pos} {wa : WA} {e : Expr} {β : Type} {fv : β → V} {fd : β → D}
end
section
variable {α : Type} [DecidableEq α] {a : Enc α} {lt : α → α → Bool} {n : Nat}
end
end VL
set_option maxRecDepth 100000
set_option maxHeartbeats 4000000
namespace VL
open PySem PySem.Spec PyProof.Rows L2
section
variable {X : Cx} {c : Cn} {W : WX} {pos : Pos} {g : Tg} {we : WE} {w : WS} {tg iter : Expr} {body : List Stmt}
end
section
variable {σ ρ : Type} {G : EG} {env env1 env2 : VEnv} {md : Md} {e : Enc ρ} {we : WE} {w : WS} {s : σ → VEnv}
end
end VL
set_option maxRecDepth 100000
set_option maxHeartbeats 4000000
namespace VL
open PySem PySem.Spec PyProof.Rows L2
def MA (A : Addr → Prop) (H : Hp) : Addr → Prop := fun b => A b ∧ ∃ o, H b = some o ∧ mutO o
section
variable {K : PySem.W.Frag} {A : Addr → Prop} {H : Hp}
mutual
theorem RS.mut : ∀ {v : V} {d : D}, RS K A H v d → RS K (MA A H) H v d
  | _, _, .non => .non
  | _, _, .bl b => .bl b
  | _, _, .int i => .int i
  | _, _, .str x => .str x
  | _, _, .lst h a r => .lst h ⟨a, _, h, trivial⟩ (RSs.mut r)
  | _, _, .tup h r => .tup h (RSs.mut r)
  | _, _, .dct h a e r => .dct h ⟨a, h.mut⟩ e (RSs.mut r)
  | _, _, .scr h => .scr h
  | _, _, .opq a => .opq a
theorem RSs.mut : ∀ {v : List V} {d : List D}, RSs K A H v d → RSs K (MA A H) H v d
  | _, _, .nil => .nil
  | _, _, .cons h r => .cons (RS.mut h) (RSs.mut r)
end
mutual
theorem RO.mut : ∀ {m : Option Nat} {v : V} {d : D} {l : List Addr}, RO K A H m v d l → RO K (MA A H) H m v d l
  | _, _, _, _, .sh h => .sh h.mut
  | _, _, _, _, .flat h f => .flat h.mut f
  | _, _, _, _, .lst p h r => .lst p h (ROs.mut r)
  | _, _, _, _, .tup h r => .tup h (ROs.mut r)
  | _, _, _, _, .dct p h e r => .dct p h e (ROs.mut r)
theorem ROs.mut : ∀ {m : Option Nat} {v : List V} {d : List D} {l : List Addr}, ROs K A H m v d l → ROs K (MA A H) H m v d l
  | _, _, _, _, .nil => .nil
  | _, _, _, _, .cons h r => .cons (RO.mut h) (ROs.mut r)
end
mutual
theorem RO.ownMut : ∀ {m : Option Nat} {v : V} {d : D} {l : List Addr}, RO K A H m v d l → ∀ b ∈ l, ∃ o, H b = some o ∧ mutO o
  | _, _, _, _, .sh h, b, hb => (by cases hb)
  | _, _, _, _, .flat h f, b, hb => (by cases hb)
  | _, _, _, _, .lst p h r, b, hb => (List.mem_cons.mp hb).elim (fun z => by rw [z]; exact ⟨_, h, trivial⟩) fun z => ROs.ownMut r b z
  | _, _, _, _, .tup h r, b, hb => ROs.ownMut r b hb
  | _, _, _, _, .dct p h e r, b, hb => (List.mem_cons.mp hb).elim (fun z => by rw [z]; exact h.mut) fun z => ROs.ownMut r b z
theorem ROs.ownMut : ∀ {m : Option Nat} {v : List V} {d : List D} {l : List Addr}, ROs K A H m v d l → ∀ b ∈ l, ∃ o, H b = some o ∧ mutO o
  | _, _, _, _, .nil, b, hb => by cases hb
  | _, _, _, _, .cons h r, b, hb => (List.mem_append.mp hb).elim (fun z => RO.ownMut h b z) fun z => ROs.ownMut r b z
end
end
theorem Slots.ownMut {c : Cn} {T : List Addr} {H : Hp} {env : VEnv} {σ : Sg} {L : List (List Addr)} (h : Slots c T H env σ L) : ∀ b ∈ L.flatten, ∃ o, H b = some o ∧ mutO o := by
  induction h with
  | nil => intro b hb; cases hb
  | non _ ih => intro b hb; exact ih b (by simpa using hb)
  | bor _ _ ih => intro b hb; exact ih b (by simpa using hb)
  | own r _ ih =>
    intro b hb
    rw [List.flatten_cons] at hb
    exact (List.mem_append.mp hb).elim (fun z => r.ownMut b z) fun z => ih b z
theorem Slots.reMA {c c' : Cn} (hK : c'.K = c.K) {T T' : List Addr} {H : Hp} {e : VEnv} {σ : Sg} {L : List (List Addr)} (hm : ∀ b, MA (AT c.B T) H b → AT c'.B T' b) (h : Slots c T H e σ L) : Slots c' T' H e σ L := by
  induction h with
  | nil => exact .nil
  | non _ ih => exact .non ih
  | bor r _ ih => exact .bor (by rw [hK]; exact r) ih
  | own r _ ih => exact .own (by rw [hK]; exact RO.mono (fun b _ a _ => hm b a) r.mut) ih
def Cn.su (c : Cn) (R : List Addr) (H1 : Hp) (hs : List (V × D)) : Cn := { c.pool R H1 with hd := hs ++ c.hd }
def XdL (R : List Addr) (H1 : Hp) : Prop := ∀ b ∈ R, ∃ fs, H1 b = some (.xd fs)
section
variable {c : Cn} {R : List Addr} {H1 H : Hp} {L : List (List Addr)} {Tm : List Addr} {e : VEnv} {σ : Sg} {hs : List (V × D)}
theorem XdL.is (hR : XdL R H1) : ∀ b ∈ R, ∃ o, H1 b = some o := fun b hb => let ⟨fs, h⟩ := hR b hb; ⟨_, h⟩
theorem XdL.no (hR : XdL R H1) {b : Addr} (h : ∃ o, H1 b = some o ∧ mutO o) : b ∉ R := fun hb => by
  obtain ⟨fs, q⟩ := hR b hb
  obtain ⟨o, h1, h2⟩ := h
  rw [q] at h1
  cases h1
  exact h2
theorem su_AT (hR : XdL R H1) {T : List Addr} {b : Addr} (h : AT (c.su R H1 hs).B T b) : AT c.B T b := pool_AT hR.is h
theorem Sim.toSu (hR : XdL R H1) (hh : ∀ p ∈ hs, RS c.K (fun _ => True) H1 p.1 p.2 ∧ flatD p.2 = true) (S : Sim c L [] e σ H1) : Sim (c.su R H1 hs) L [] e σ H1 := by
  have hm : ∀ b, MA (AT c.B (L.flatten ++ [])) H1 b → AT (c.su R H1 hs).B (L.flatten ++ []) b := fun b h =>
    ⟨(pool_B (c := c) hR.is).mpr ⟨hR.no h.2, h.1.1⟩, h.1.2⟩
  refine ⟨Slots.reMA (c := c) (c' := c.su R H1 hs) rfl hm S.sl, S.nd, fun a ha => ?_, fun b o hb hn => ?_, fun p hp => ?_, S.pin⟩
  · have h1 := S.own a ha
    have h2 := S.sl.ownMut a (by simpa using ha)
    exact ⟨(pool_own (c := c) hR.is).mpr ⟨hR.no h2, h1.1⟩, h1.2⟩
  · replace hb : (if b ∈ R then H1 b else c.H0 b) = some o := hb
    replace hn : b ∉ (c.pool R H1).rw := hn
    rw [pool_rw] at hn
    by_cases h : b ∈ R
    · rwa [if_pos h] at hb
    · rw [if_neg h] at hb
      exact S.fr b o hb fun z => hn ⟨z, h⟩
  · rcases List.mem_append.mp hp with z | z
    · exact (hh p z).1.flat (hh p z).2
    · exact (S.hd p z).mut.mono fun b _ a _ => hm b a
theorem su_kept (S : Sim (c.su R H1 hs) L Tm e σ H) {b : Addr} {o : HO} (hb : b ∈ R) (ho : H1 b = some o) : H b = some o :=
  S.fr b o (by show (if b ∈ R then H1 b else c.H0 b) = _; rw [if_pos hb]; exact ho) fun z => (pool_rw.mp (show b ∈ (c.pool R H1).rw from z)).2 hb
theorem su_fr (hf : ∀ b ∈ R, ∀ o, c.H0 b = some o → b ∉ c.rw → H1 b = some o) (fr : ∀ b o, (c.su R H1 hs).H0 b = some o → b ∉ (c.su R H1 hs).rw → H b = some o) : ∀ b o, c.H0 b = some o → b ∉ c.rw → H b = some o := fun b o hb hn => by
  refine fr b o ?_ fun z => hn (pool_rw.mp (show b ∈ (c.pool R H1).rw from z)).1
  show (if b ∈ R then H1 b else c.H0 b) = _
  by_cases h : b ∈ R
  · rw [if_pos h]; exact hf b h o hb hn
  · rw [if_neg h]; exact hb
theorem Sim.unSu (hR : XdL R H1) (hf : ∀ b ∈ R, ∀ o, c.H0 b = some o → b ∉ c.rw → H1 b = some o) (S : Sim (c.su R H1 hs) L Tm e σ H) : Sim c L Tm e σ H :=
  ⟨Slots.reAT (c := c.su R H1 hs) (c' := c) rfl (fun b h => su_AT hR h) S.sl, S.nd, fun a ha => ⟨((pool_own (c := c) hR.is).mp (S.own a ha).1).2, (S.own a ha).2⟩, su_fr hf S.fr, fun p hp => (S.hd p (List.mem_append_right _ hp)).mono fun b _ a _ => su_AT hR a, S.pin⟩
theorem Res.unSu (hR : XdL R H1) {T l : List Addr} {r : VL.R} {v : V} (h : Res (c.su R H1 hs) T H r v l) : Res c T H r v l := by
  obtain ⟨d, m⟩ := r
  cases m with
  | b => exact h
  | o m => exact RO.mono (fun b _ a _ => su_AT hR a) (Res.dep h)
end
def FldOk (ex : Exn) : Prop := ∀ f dt, ex.fld = some (f, dt) → flatD dt = true
def XfH (ex : Exn) (d : Option Addr) (R : List Addr) (H1 : Hp) (hs : List (V × D)) : Prop :=
  XdL R H1 ∧ match ex.fld with
    | none => d = none
    | some (f, dt) => ∃ dd v, d = some dd ∧ dd ∈ R ∧ H1 dd = some (.xd [(f, v)]) ∧ (v, dt) ∈ hs ∧ flatD dt = true
def wTryF (w : WS) (l : List Str) (i : Nat) (ws : Addr → Exn → WS) : WS := fun env Dv => w env { Dv with ex := fun ex e => if catch_ l ex = true then FldOk ex ∧ ∀ a, ws a ex (e.set i (some (opD a, mS))) { Dv with nx := fun e' => Dv.nx (e'.set i none), ex := fun _ _ => False } else Dv.ex ex e }
section
variable {X : Cx} {c : Cn} {W : WX} {pos np pos' : Pos} {w : WS} {l : List Str} {i : Nat} {x n : Str} {body suite : List Stmt} {b₀ : Stmt} {ws : Addr → Exn → WS}
theorem vs_tryF (hs : X.stack = X.env :: X.outer) (hf : X.env.frame = some X.env.locals) (hN : X.N.Nodup) (cs : Clause c.K X.mg c.cl x l) (tk : Takes X W)
    (hb : ∀ (W' : WX) (pn : List (Addr × Obj)) (xe : Value → Shared → Prop), Takes (X.tr pn xe) W' → PassesOwn (model X.prog X.w) X.A X.env xe → PSs (X.tr pn xe) body (rdS c W' w))
    (hsu : ∀ (a : Addr) (oe : Obj) (ex : Exn) (D : Addr) (d : Option Addr) (pn : List (Addr × Obj)) (R : List Addr) (H1 : Hp) (hs : List (V × VL.D)), c.cl ex.cls = some D → XfH ex d R H1 hs → Zc (.ref D) d oe → (∃ vs, oe.data = .fields vs) → PSs (X.suite a ((a, oe) :: pn)) (b₀ :: suite) (rdS (c.su R H1 hs) W0 (ws a ex)))
    (hK : c.K = X.K := by rfl) (hi : X.N[i]? = some n := by rfl) (hln : X.env.kindOf n = some .local := by rfl) (hg : Gl X x := by rfl) (hx : x ≠ "__debug__" := by decide) (pf : PinF c [i] := by first | exact pinF_nil rfl | exact pinF_one rfl (by decide) | assumption) : PS X (.Try body [.ExceptHandler (some (.Name x np)) (some n) (b₀ :: suite) pos'] [] [] pos) (rdS c W (wTryF w l i ws)) := by
  obtain ⟨C, hC, ct⟩ := cs
  refine PS.imp (ps_try_as (tb := fun W' => rdS c W' w) (ts := fun a cls d D σ H => ∃ ex DD R H1 hs, cls = Value.ref DD ∧ c.cl ex.cls = some DD ∧ XfH ex d R H1 hs ∧ rdS (c.su R H1 hs) W0 (ws a ex) D σ H) (Wout := W) hs hf hN hi hln (c := .ref C) ⟨hg, by simpa using hx, Or.inl hC⟩ tk hb (fun a oe cls d pn hz hv => ⟨fun pins s σ H D I hh => ?_⟩)) fun D σ H h => ?_
  · obtain ⟨ex, DD, R, H1, hs, e1, e2, e3, hr⟩ := hh
    subst e1
    exact (hsu a oe ex DD d pn R H1 hs e2 e3 hz hv).run pins s σ H D I hr
  · obtain ⟨env, L, Dv, S, q, k, kr, kx⟩ := h
    refine ⟨env, L, _, S, q, k, kr, fun ex env' L' σ' H' cls d hq S' he => ?_⟩
    obtain ⟨DD, e1, e2, e3⟩ := he
    subst e2
    refine ⟨catch_ l ex, by rw [← hK]; exact ct ex DD e1, fun hb a na => ?_, fun hb => ?_⟩
    · replace hq : FldOk ex ∧ ∀ a, ws a ex (env'.set i (some (opD a, mS))) { Dv with nx := fun e' => Dv.nx (e'.set i none), ex := fun _ _ => False } := by simpa only [hb, if_true] using hq
      obtain ⟨hfl, hq⟩ := hq
      have key : ∃ R hs, XfH ex d R H' hs ∧ ∀ p ∈ hs, RS c.K (fun _ => True) H' p.1 p.2 ∧ flatD p.2 = true := by
        cases hfe : ex.fld with
        | none =>
          rw [hfe] at e3
          exact ⟨[], [], ⟨fun b hb => (by cases hb), by rw [hfe]; exact e3⟩, fun p hp => (by cases hp)⟩
        | some z =>
          obtain ⟨f, dt⟩ := z
          rw [hfe] at e3
          obtain ⟨dd, v, e4, e5, e6⟩ := e3
          have fl := hfl f dt hfe
          refine ⟨[dd], [(v, dt)], ⟨fun b hb => (by rw [List.mem_singleton.mp hb]; exact ⟨_, e5⟩), by rw [hfe]; exact ⟨dd, v, e4, List.mem_singleton.mpr rfl, e5, List.mem_singleton.mpr rfl, fl⟩⟩, fun p hp => by rw [List.mem_singleton.mp hp]; exact ⟨e6, fl⟩⟩
      obtain ⟨R, hs', xf, hh⟩ := key
      have hR := xf.1
      have hr : Res c (L'.flatten ++ ([] ++ [])) H' ⟨opD a, mS⟩ (.ref a) [] := RO.sh (.opq a)
      obtain ⟨L2, S2, _⟩ := Sim.put (i := i) (Tm := []) (l := []) S' hr pf
      have hfr : ∀ b ∈ R, ∀ o, c.H0 b = some o → b ∉ c.rw → H' b = some o := fun b _ o h1 h2 => S'.fr b o h1 h2
      refine ⟨ex, DD, R, H', hs', rfl, e1, xf, _, L2, _, Sim.toSu hR hh S2, hq a, fun e3 L3 σ3 H3 h3 S3 => ?_, fun r v l H' e h hr => kr r v l H' e h ⟨su_fr hfr hr.fr, hr.nd, fun b hb => ⟨((pool_own (c := c) hR.is).mp (hr.own b hb).1).2, (hr.own b hb).2⟩, hr.res.unSu hR, let ⟨L, σ, q, z⟩ := hr.sim; ⟨L, σ, q.unSu hR hfr, z.unSu hR⟩⟩, fun ex env' L' σ' H' cls d hx _ _ => hx.elim⟩
      obtain ⟨L4, S4⟩ := (S3.unSu hR hfr).kill (i := i) pf
      exact k _ L4 _ H3 h3 S4
    · replace hq : Dv.ex ex env' := by simpa [hb] using hq
      exact kx ex env' L' σ' H' _ d hq S' ⟨DD, e1, rfl, e3⟩
end
def rIsEF (K : PySem.W.Frag) (D a : Addr) (d : Option Addr) : List V → Hp → VK → Prop := fun xs H Q => ∃ (c : V) (cv : Value) (b : Bool), xs = [.ref a, c] ∧ (∀ u, RelV c u → u = cv) ∧ PySem.W.kitOne K (.ref D) cv = some b ∧ (∀ dd, d = some dd → ∃ fs, H dd = some (.xd fs)) ∧ Q (.bl b) H
theorem call_isEF {X : Cx} {a D : Addr} {d : Option Addr} {oe : Obj} {pn : List (Addr × Obj)} (C : ExcC X.K D) (hz : Zc (.ref D) d oe) (hf : ∃ vs, oe.data = .fields vs) : CallR (X.suite a ((a, oe) :: pn)) (.builtin "isinstance") (rIsEF X.K D a d) := by
  intro pins s σ H xs us Q I r h
  obtain ⟨c, cv, b, rfl, hcv, e, hd, q⟩ := h
  cases r with
  | cons rx rr =>
    cases rr with
    | cons rt rr =>
      cases rr
      cases rx
      have ec := hcv _ rt
      subst ec
      obtain ⟨hget, _⟩ := I.pin (a, oe) (List.mem_append.mpr (.inl List.mem_cons_self))
      obtain ⟨vs, hv⟩ := hf
      have J : ∃ od, PySem.W.InstAt s.heap a oe D od := by
        cases d with
        | none =>
          obtain ⟨oc, od, oda, osl⟩ := oe
          obtain ⟨h1, h2⟩ := hz
          dsimp only at h1 h2 hv
          subst h1 h2 hv
          exact ⟨none, hget, rfl, rfl, trivial⟩
        | some dd =>
          obtain ⟨fs, ea⟩ := hd dd rfl
          have hx : ObjOk X.prog X.w H s.heap dd (.xd fs) := I.hok dd _ ea
          obtain ⟨mA, hns, _⟩ := hx
          obtain ⟨od, ho, _⟩ := lookIn_ns hns
          exact ⟨some od, hget, hz.1, by unfold PySem.W.notCls; rw [hv] <;> rfl, by rw [hz.2]; exact ho⟩
      obtain ⟨od, J⟩ := J
      obtain ⟨cd, hc, _⟩ := PySem.W.any_some C.hd
      exact PySem.W.kia_one (PySem.W.kitx_exc (od := od) (by rw [hc]; rfl) C.hg C.hk C.hs C.ha C.hn C.ht C.hm) I.kIn J e (fun z => nomatch z) fun tk => ⟨.bl b, H, I.kept (t' := tk) fun _ _ z => z, rfl, q⟩
section
variable {X : Cx} {c : Cn} {W : WX} {pos : Pos} {R : List Addr} {H1 : Hp} {hs : List (V × VL.D)}
theorem XfH.dict {ex : Exn} {d : Option Addr} (h : XfH ex d R H1 hs) {dd : Addr} (e : d = some dd) : ∃ f v dt, ex.fld = some (f, dt) ∧ dd ∈ R ∧ H1 dd = some (.xd [(f, v)]) ∧ (v, dt) ∈ hs ∧ flatD dt = true := by
  obtain ⟨_, h⟩ := h
  cases q : ex.fld with
  | none => rw [q] at h; rw [h] at e; cases e
  | some z =>
    obtain ⟨f, dt⟩ := z
    rw [q] at h
    obtain ⟨dd', v, e1, e2, e3, e4, e5⟩ := h
    rw [e1] at e; cases e
    exact ⟨f, v, dt, rfl, e2, e3, e4, e5⟩
theorem ve_isEF {a D : Addr} {d : Option Addr} {ex : Exn} {oe : Obj} {pn : List (Addr × Obj)} {nn y : Str} {p p1 p2 : Pos} {l : List Str} (T : ExcAll X.K c.cl) (eD : c.cl ex.cls = some D) (xf : XfH ex d R H1 hs) (hz : Zc (.ref D) d oe) (hf : ∃ vs, oe.data = .fields vs) (hk : Asked X.K X.mg c.cl y l) (hm : X.mg "isinstance" = none) (i : Nat) (hK : c.K = X.K := by rfl) (hi : X.N[i]? = some nn := by rfl) (hv : Vis X.env.scope nn := by exact Or.inl rfl) (hg : Gl X "isinstance" := by rfl) (hgy : Gl (X.suite a ((a, oe) :: pn)) y := by rfl) (hd : (nn == ("__debug__" : Str)) = false := by decide) (hcd : (nn == ("__classdict__" : Str)) = false := by decide) (hdy : (y == ("__debug__" : Str)) = false := by decide)
    (hst : starEach [.Name nn p1, .Name y p2] X.env = (false, eval (.Name nn p1) X.env) :: starEach [.Name y p2] X.env := by rfl) (hpl : (backTo pos (starEach [.Name y p2] X.env)).any (·.1) = false := by rfl) :
    PE (X.suite a ((a, oe) :: pn)) (.Call (.Name "isinstance" p) [.Name nn p1, .Name y p2] [] pos) (rdE (c.su R H1 hs) W (wIsE i a (l.contains ex.cls))) := by
  obtain ⟨C, hC, hq⟩ := hk
  have hy : PE (X.suite a ((a, oe) :: pn)) (.Name y p2) (tC (.ref C)) := pe_glob (X := X.suite a ((a, oe) :: pn)) (v := .ref C) hgy hC rfl hdy
  exact PE.imp (pe_callB (X := X.suite a ((a, oe) :: pn)) (call_isEF (T _ _ eD) hz hf) hg hm (by decide +kernel) (pa_cons (pe_var (X := X.suite a ((a, oe) :: pn)) (i := i) hi hv hd hcd) (pa_cons hy pa_nil) hst) (by decide) (by decide) hst hpl) fun σ H Q h => by
    obtain ⟨env, L, Tm, Qv, X, S, ⟨⟨m, q⟩, q2⟩, k, kx⟩ := h
    obtain ⟨v, l, hv, hl, r⟩ := S.sl.get q
    have := RS.opq_inv r.read
    subst this
    refine ⟨_, hv, .ref C, .ref C, _, rfl, fun u z => z, hq _ _ eD, fun dd e => ?_, k _ _ [] L env H q2 (Step.refl S) (Res.flat (A := fun _ => True) (.bl _) rfl)⟩
    obtain ⟨f, v, dt, _, e2, e3, _⟩ := xf.dict e
    exact ⟨_, su_kept S e2 e3⟩
def NoFld (K : PySem.W.Frag) (cl : Str → Option Addr) (x f : Str) : Prop := ∀ C, cl x = some C → PySem.W.findIn K (.ref C) f = some none
def wXf (i : Nat) (a : Addr) (ex : Exn) (x f : Str) : WE := fun env Q _ => (∃ m, env[i]? = some (some (opD a, m))) ∧ ex.cls = x ∧ ∃ dt, ex.fld = some (f, dt) ∧ Q ⟨dt, mA⟩ env
theorem ve_xf {a D : Addr} {d : Option Addr} {ex : Exn} {oe : Obj} {pn : List (Addr × Obj)} {nn x f : Str} {p1 : Pos} (T : ExcAll X.K c.cl) (eD : c.cl ex.cls = some D) (xf : XfH ex d R H1 hs) (hz : Zc (.ref D) d oe) (hf : ∃ vs, oe.data = .fields vs) (hno : NoFld X.K c.cl x f) (i : Nat) (hK : c.K = X.K := by rfl) (hi : X.N[i]? = some nn := by rfl) (hv : Vis X.env.scope nn := by exact Or.inl rfl) (hd : (nn == ("__debug__" : Str)) = false := by decide) (hcd : (nn == ("__classdict__" : Str)) = false := by decide)
    (hb : attributeBase (.Name nn p1) f X.env (eval (.Name nn p1) X.env) = eval (.Name nn p1) X.env := by rfl) :
    PE (X.suite a ((a, oe) :: pn)) (.Attribute (.Name nn p1) f pos) (rdE (c.su R H1 hs) W (wXf i a ex x f)) := by
  have E := T _ _ eD
  by_cases hx : ex.cls = x
  · have hn : PySem.W.findIn X.K (.ref D) f = some none := hno D (by rw [← hx]; exact eD)
    refine PE.imp (pe_xf (X := X) (C := D) (d := d) ⟨E.hg, E.hk, E.hs, E.hd⟩ hn hz hf (pe_var (X := X.suite a ((a, oe) :: pn)) (i := i) hi hv hd hcd) hb) fun σ H Q h => ?_
    obtain ⟨env, L, Tm, Qv, X, S, ⟨⟨m, q⟩, _, dt, ef, q2⟩, k, kx⟩ := h
    obtain ⟨v, l, hv, hl, r⟩ := S.sl.get q
    have := RS.opq_inv r.read
    subst this
    have hxf := xf.2
    rw [ef] at hxf
    obtain ⟨dd, v, e1, e2, e3, e4, e5⟩ := hxf
    have hrd : RS c.K _ H v dt := S.hd (v, dt) (List.mem_append_left _ e4)
    refine ⟨_, hv, rfl, rfl, dd, _, v, e1, su_kept S e2 e3, by simp [List.lookup], k _ _ [] L env H q2 (Step.refl S) (Res.flat hrd e5)⟩
  · exact ⟨fun pins s σ H Q I h => by
      obtain ⟨env, L, Tm, Qv, X, S, ⟨_, h2, _⟩, k, kx⟩ := h
      exact absurd h2 hx⟩
end
end VL
set_option maxRecDepth 100000
set_option maxHeartbeats 4000000
namespace VL
open PySem PySem.Spec PyProof.Rows L2
def spInit (K : PySem.W.Frag) (f : Str) : Sp := fun vs H Q E => ∃ (a C : Addr) (y : V), vs = [.ref a, y] ∧ OexC K C ∧ PySem.W.findIn K (.ref C) f = some none ∧ H a = some (exo a C none) ∧ ∀ dx, H dx = none → dx ≠ a → Q .non (upd (upd H dx (exd dx [(f, y)])) a (exo a C (some dx)))
section
variable {P : Program} {w : World} {K : PySem.W.Frag} {mg : Str → Option Value} {base : Heap} {cl : Str → Option Addr}
theorem init_ok {fld q prm : Str} {st : Stmt} {fI : Addr} {fd : FuncData} (F : Fun K "__init__" q st fI fd) (sc : FnScope ["self", prm] ["self", prm] (defScope st))
    (body : ∀ (cdv : Value) (A : Around) (outer : List Env) (s : Shared) (H : Hp) (E : XK), PSs (cxOf (L2.CX P w) P w K mg base ["self", prm] q (defScope st) fI cdv A outer s H E) (defBody st) (tOst K fld (tVar 0) (tVar 1))) :
    FnOk P w K mg base (L2.CX P w) 1 fI fd ["self", prm] (spInit K fld) := by
  refine F.okX sc (fun vs H Q E h => ?_) (fun cdv A outer s H vs Q E hr h => ?_)
  · obtain ⟨a, C, y, rfl, _⟩ := h; rfl
  · obtain ⟨a, C, y, rfl, T, hno, ea, q⟩ := h
    exact ⟨_, body cdv A outer s H E, y, rfl, .ref a, rfl, a, C, rfl, T, hno, .inl ⟨ea, fun dx h1 h2 => q dx h1 h2⟩⟩
def ErrF (P : Program) (w : World) (K : PySem.W.Frag) (mg : Str → Option Value) (base : Heap) (cl : Str → Option Addr) (x f : Str) : Prop := ∃ (C fI : Addr) (fd : FuncData) (ps : List Str), cl x = some C ∧ mg x = some (.ref C) ∧ OexC K C ∧ PySem.W.findIn K (.ref C) f = some none ∧
  PySem.W.findIn K (.ref C) "__init__" = some (some (.ref fI)) ∧ PySem.W.typeIn K (.ref fI) = some (.type "function") ∧ FnOk P w K mg base (L2.CX P w) 1 fI fd ps (spInit K f) ∧ Binds K fd ps []
end
def wRaiseF (x f : Str) (we : WE) : WS := fun env Dv => we env (fun r e => flatD r.d = true ∧ Dv.ex ⟨x, some (f, r.d)⟩ e) (fun ex e => Dv.ex ex e)
theorem vs_raiseF {X : Cx} {c : Cn} {W : WX} {we : WE} {e : Expr} {x f : Str} {p pos pos2 : Pos} {kk : Nat} (T : ErrF X.prog X.w X.K X.mg X.base c.cl x f) (hr : Room kk X.A) (h2 : 2 ≤ kk) (hc : X.calm = true) (tk : Takes X W) (he : PE X e (rdE c W we)) (hK : c.K = X.K := by rfl) (hg : Gl X x := by rfl) (hdb : (x == ("__debug__" : Str)) = false := by decide)
    (hst : starEach [e] X.env = (false, eval e X.env) :: starEach [] X.env := by rfl) (hpl : (backTo pos2 (starEach [] X.env)).any (·.1) = false := by rfl) : PS X (.Raise (some (.Call (.Name x p) [e] [] pos2)) none pos) (rdS c W (wRaiseF x f we)) := by
  obtain ⟨C, fI, fd, ps, e1, gC, O, hno, iC, tI, F1, hb⟩ := T
  have hx : Passes (L2.CX X.prog X.w) X (fun _ _ _ => False) := fun pins σ H s e s' I h => by
    obtain ⟨a, B, H', cls, d, _, _, _, _, _, _, _, hF⟩ := h
    exact hF.elim
  refine PS.imp (ps_raise hc tk (pmk_oex (dvs := []) (ds := []) O iC tI F1 (hr.mono h2) hb .nil hx hg gC (pa_cons he pa_nil hst) hdb hst hpl)) fun D σ H h => ?_
  obtain ⟨env, L, Dv, S, q, k, kr, kx⟩ := h
  refine rd_first S q kx fun r v l L1 env1 H1 hh S1 hr => ?_
  obtain ⟨fl, hq⟩ := hh
  refine ⟨by show 1 ≤ 1000; omega, fun a na => ⟨a, C, v, rfl, O, hno, upd_same, fun dx hd hne => ⟨rfl, dx, [(f, v)], upd_same, ?_, ?_, ?_⟩⟩⟩
  · rw [upd_ne hne]; exact upd_same
  · rwa [upd_ne hne] at hd
  · have hd1 : H1 dx = none := by rwa [upd_ne hne] at hd
    have eH : upd (del (upd (upd (upd H1 a (exo a C none)) dx (exd dx [(f, v)])) a (exo a C (some dx))) a) dx (.xd [(f, v)]) = upd H1 dx (.xd [(f, v)]) := by
      funext b
      by_cases h1 : b = dx
      · subst h1; rw [upd_same, upd_same]
      · rw [upd_ne h1, upd_ne h1]
        by_cases h2 : b = a
        · subst h2; rw [del_same, na]
        · rw [del_ne h2, upd_ne h2, upd_ne h1, upd_ne h2]
    rw [eH]
    have S0 : Sim c L1 [] env1 σ H1 := Sim.less S1 (List.nil_sublist _)
    have S2 : Sim c L1 [] env1 σ (upd H1 dx (.xd [(f, v)])) := (Step.new (o := .xd [(f, v)]) S0 hd1).sim0
    exact kx ⟨x, some (f, r.d)⟩ env1 L1 σ _ (.ref C) (some dx) hq S2 ⟨C, e1, rfl, dx, v, rfl, upd_same, hr.read.keep (Kp.same (same_new hd1))⟩
def clsBody : Stmt → List Stmt
  | .ClassDef _ _ _ body _ _ _ _ _ _ _ => body
  | _ => []
end VL
set_option maxRecDepth 100000
set_option maxHeartbeats 4000000
namespace VL
open PySem PySem.Spec PyProof.Rows L2
def InitAt (K : PySem.W.Frag) (x f q : Str) (st : Stmt) : Prop := ∃ (C fI : Addr) (oc : Value) (od an : Option Addr) (osl : Array (Option Value)) (kV doc pm cdv ct : Value),
  PySem.W.nsIn K mainGlobals x = some (some (.ref C)) ∧ OexC K C ∧ PySem.W.findIn K (.ref C) f = some none ∧ PySem.W.findIn K (.ref C) "__init__" = some (some (.ref fI)) ∧ PySem.W.typeIn K (.ref fI) = some (.type "function") ∧
  K.lookup fI = some ⟨oc, od, .func (PySem.W.fnOf "__init__" q (defArgs st) (defBody st) (defScope st) .none kV doc pm an cdv ct), osl⟩ ∧ PySem.W.codeIn K cdv q = true ∧ PySem.W.keepIn K (.ref fI) = true
section
variable {P : Program} {w : World} {K : PySem.W.Frag} {mg : Str → Option Value} {base h : Heap} {names : List Str} {x f q prm : Str} {st : Stmt}
theorem InitAt.mk {C fI : Addr} {oc : Value} {od an dd : Option Addr} {osl : Array (Option Value)} {kV doc pm cdv ct : Value} {nm q' : Str} {N : Addr} {bs bm : List Value} {sn : List Str} {sub : List Value} {ab : Bool} {col : Option Bool} {k0 k1 k2 k3 k5 : Option Value}
    (h1 : PySem.W.nsIn K mainGlobals x = some (some (.ref C))) (h2 : K.lookup C = some (excClassObj nm q' C N bs bm true sn sub ab col dd k0 k1 k2 k3 k5 "ValueError.__new__")) (h3 : PySem.HandSPX.refsVE bm = true)
    (h4 : PySem.W.findIn K (.ref C) "__setattr__" = some (some (.builtin "object.__setattr__"))) (h5 : PySem.W.subIn K (.ref C) (.type "BaseException") = some true) (h6 : PySem.W.typeIn K (.ref C) = some (.type "type")) (h7 : PySem.W.keepIn K (.ref C) = true)
    (h8 : PySem.W.findIn K (.ref C) f = some none) (h9 : PySem.W.findIn K (.ref C) "__init__" = some (some (.ref fI))) (h10 : PySem.W.typeIn K (.ref fI) = some (.type "function"))
    (h11 : K.lookup fI = some ⟨oc, od, .func (PySem.W.fnOf "__init__" q (defArgs st) (defBody st) (defScope st) .none kV doc pm an cdv ct), osl⟩) (h12 : PySem.W.codeIn K cdv q = true) (h13 : PySem.W.keepIn K (.ref fI) = true) : InitAt K x f q st :=
  ⟨C, fI, oc, od, an, osl, kV, doc, pm, cdv, ct, h1, ⟨⟨nm, q', N, bs, bm, sn, sub, ab, col, dd, k0, k1, k2, k3, k5, h2, h3⟩, h4, h5, h6, h7⟩, h8, h9, h10, h11, h12, h13⟩
theorem InitAt.errF (X : K.In h) (G : h.Ns mainGlobals mg) (a : InitAt K x f q st) (hx : names.contains x = true) (sc : FnScope ["self", prm] ["self", prm] (defScope st))
    (hb : ∀ (kV doc pm : Value) (an : Option Addr) (cdv ct : Value) (us : List Value), us.length = 2 → bindArgs (PySem.W.fnOf "__init__" q (defArgs st) (defBody st) (defScope st) .none kV doc pm an cdv ct) ⟨us, []⟩ = pure ((["self", prm] : List Str).zip us))
    (body : ∀ (f' : Addr) (cdv : Value) (A : Around) (outer : List Env) (s : Shared) (H : Hp) (E : XK), PSs (cxOf (L2.CX P w) P w K mg base ["self", prm] q (defScope st) f' cdv A outer s H E) (defBody st) (tOst K f (tVar 0) (tVar 1))) : ErrF P w K mg base (clOf names mg) x f := by
  obtain ⟨C, fI, oc, od, an, osl, kV, doc, pm, cdv, ct, h1, O, h8, h9, h10, h11, h12, h13⟩ := a
  have g := PySem.W.mg_of X G h1
  have F := fun_mk (st := st) h11 h12 h13
  exact ⟨C, fI, _, ["self", prm], clOf_at hx g, g, O, h8, h9, h10, init_ok F sc (body fI), F.binds (ps := ["self", prm]) hb⟩
theorem InitAt.noFld (X : K.In h) (G : h.Ns mainGlobals mg) (a : InitAt K x f q st) : NoFld K (clOf names mg) x f := by
  obtain ⟨C, fI, oc, od, an, osl, kV, doc, pm, cdv, ct, h1, O, h8, _⟩ := a
  have g := PySem.W.mg_of X G h1
  intro C' e
  have := (clOf_inv e).2
  rw [g] at this
  cases this
  exact h8
end
section
variable {α β ρ σ : Type} {G : EG} {env env1 : VEnv} {m1 md : Md} {e : Enc α} {u : WS}
theorem rb_raiseF {K : β → DV → Prop} [fl : Fl_ e] {x f : Str} {we : WE} {M : Out α} (he : RE G we env env1 m1 e M) (hg : G env1 := by trivial) : RB G (wSeq (wRaiseF x f we) u) env (M.bind fun v => .exn ⟨x, some (f, e v)⟩) K := fun D Xe hX hs =>
  he _ _ Xe (fun ex v h1 h2 => hX ex v h1 h2) ((sat_bind.mp hs).imp fun v hs => ⟨fl.fl v, hX _ _ hg hs⟩)
end
def fldB (x : Exn) : Bool := match x.fld with
  | none => true
  | some (_, dt) => flatD dt
theorem fldB_ok {x : Exn} (h : fldB x = true) : FldOk x := fun f dt e => by
  unfold fldB at h
  rw [e] at h
  exact h
def tryFO {β : Type} (m : Out β) (l : List Str) (h : Exn → Out β) : Out β := match m with
  | .exn x => if l.contains x.cls = true then (if fldB x = true then noX (h x) else .stuck) else .exn x
  | m => m
section
variable {β ρ σ : Type} {G : EG} {env : VEnv} {K : β → DV → Prop} {md : Md} {e : Enc ρ} {w : WS} {s : σ → VEnv}
theorem rb_tryF {l : List Str} {i : Nat} {m : Out β} {h : Exn → Out β} {ws : Addr → Exn → WS} (e0 : VEnv) (hw : RB (GE e0) w env m K) (hh : ∀ ad x, RB (fun _ => True) (ws ad x) (e0.set i (some (opD ad, mS))) (h x) K) (hl : ∀ v, envLe e0 v → i < v.length := by exact fun v h => by rw [← envLe.len h]; exact Nat.le_of_ble_eq_true rfl) (hG : ∀ x, G x := by exact fun _ => True.intro) (hK : ∀ b D ex', K b D → K b { D with ex := ex' } := by exact fun _ _ _ h => h) (hK' : ∀ b D, K b D → K b { D with nx := fun e' => D.nx (e'.set i none), ex := fun _ _ => False } := by exact fun _ _ h => h) :
    RB G (wTryF w l i fun ad x => wPre (ws ad x)) env (tryFO m l h) K := fun D Xe hX hs => by
  refine hw { D with ex := _ } (fun x => Sat (if l.contains x.cls = true then (if fldB x = true then noX (h x) else .stuck) else .exn x) (fun b => K b D) Xe) (fun x v' hg hx => ?_) ?_
  · show if catch_ l x = true then _ else _
    unfold catch_
    split
    · rename_i hc
      rw [if_pos hc] at hx
      split at hx
      · rename_i hf
        refine ⟨fldB_ok hf, fun ad => ⟨e0.set i (some (opD ad, mS)), envLe_set hg _ True.intro, hh ad x _ (fun _ => False) (fun _ _ _ h => h.elim) ((sat_noX.mp hx).imp fun b q => hK' _ _ q)⟩⟩
      · exact hx.elim
    · rename_i hc
      rw [if_neg hc] at hx
      exact hX x v' (hG _) hx
  · cases m with
    | ok b => exact hK _ _ _ hs
    | exn x => exact hs
    | stuck => exact hs
theorem rb_tryFN {l : List Str} {i : Nat} {m : Out σ} {h : Exn → Out σ} {ws : Addr → Exn → WS} (e0 : VEnv) (hw : RB (GE e0) w env m (KN s)) (hh : ∀ ad x, RB (fun _ => True) (ws ad x) (e0.set i (some (opD ad, mS))) (h x) (KN s)) (hi : ∀ V, (s V)[i]? = some none := by exact fun _ => rfl) (hl : ∀ v, envLe e0 v → i < v.length := by exact fun v h => by rw [← envLe.len h]; exact Nat.le_of_ble_eq_true rfl) (hG : ∀ x, G x := by exact fun _ => True.intro) :
    RB G (wTryF w l i fun ad x => wPre (ws ad x)) env (tryFO m l h) (KN s) := rb_tryF e0 hw hh hl hG (fun _ _ _ h => h) fun V D k e le => k _ (envLe_setN le i (hi V))
theorem rb_tryFNF {l : List Str} {i : Nat} {m : Out (Fl ρ σ)} {h : Exn → Out (Fl ρ σ)} {ws : Addr → Exn → WS} (e0 : VEnv) (hw : RB (GE e0) w env m (KF e md s)) (hh : ∀ ad x, RB (fun _ => True) (ws ad x) (e0.set i (some (opD ad, mS))) (h x) (KF e md s)) (hi : ∀ V, (s V)[i]? = some none := by exact fun _ => rfl) (hl : ∀ v, envLe e0 v → i < v.length := by exact fun v h => by rw [← envLe.len h]; exact Nat.le_of_ble_eq_true rfl) (hG : ∀ x, G x := by exact fun _ => True.intro) :
    RB G (wTryF w l i fun ad x => wPre (ws ad x)) env (tryFO m l h) (KF e md s) := rb_tryF e0 hw hh hl hG (fun b _ _ h => by cases b <;> exact h) fun b D k => by
  cases b with
  | ret r => exact k
  | nxt V => exact fun e le => k _ (envLe_setN le i (hi V))
end
class DecE {α : Type} (e : Enc α) (dec : outParam (D → Option α)) : Prop where
  ok : ∀ d a, dec d = some a → d = e a
  id : ∀ a, dec (e a) = some a
def decI : D → Option Int
  | .int i => some i
  | _ => none
instance : DecE eI decI := ⟨fun d a h => by
  cases d <;> simp [decI] at h
  subst h; rfl, fun _ => rfl⟩
def decA : D → Option At
  | .int i => some (.i i)
  | .bool b => some (.b b)
  | .str x => some (.s x)
  | _ => none
def decAs : List D → Option (List At)
  | [] => some []
  | d :: ds => match decA d, decAs ds with
    | some a, some as => some (a :: as)
    | _, _ => none
def decTA : D → Option (List At)
  | .tuple ds => decAs ds
  | _ => none
theorem decA_ok : ∀ d a, decA d = some a → d = eA a := fun d a h => by
  cases d <;> simp [decA] at h <;> subst h <;> rfl
theorem decAs_ok : ∀ ds as, decAs ds = some as → ds = as.map eA
  | [], as, h => by cases h; rfl
  | d :: ds, as, h => by
    unfold decAs at h
    split at h
    · rename_i a as' h1 h2
      cases h
      rw [decA_ok d a h1, decAs_ok ds as' h2]; rfl
    · cases h
theorem decA_id : ∀ a, decA (eA a) = some a := fun a => by cases a <;> rfl
theorem decAs_id : ∀ as : List At, decAs (as.map eA) = some as
  | [] => rfl
  | a :: as => by
    rw [List.map_cons]
    unfold decAs
    rw [decA_id, decAs_id as]
instance : DecE (eTL eA) decTA := ⟨fun d a h => by
  cases d <;> simp [decTA] at h
  rw [decAs_ok _ _ h]; rfl, fun a => decAs_id a⟩
def xfO {α : Type} (dec : D → Option α) (x f : Str) (ex : Exn) : Option α := if ex.cls = x then (match ex.fld with
  | some (g, d) => if g = f then dec d else none
  | none => none) else none
theorem re_xf {α : Type} {G : EG} {env : VEnv} {a : Enc α} {dec : D → Option α} [de : DecE a dec] {i : Nat} {ad : Addr} {ex : Exn} {x f : Str} {m : Md} (h : env[i]? = some (some (opD ad, m)) := by rfl) : RE G (wXf i ad ex x f) env env mA a (lift (xfO dec x f ex)) := fun Q X Xe hX hs => by
  obtain ⟨v, e, q⟩ := sat_lift.mp hs
  unfold xfO at e
  split at e
  · rename_i hc
    split at e
    · rename_i g d hf
      split at e
      · rename_i hg
        subst hg
        refine ⟨⟨_, h⟩, hc, d, hf, ?_⟩
        rw [de.ok d v e]; exact q
      · cases e
    · cases e
  · cases e
end VL
set_option maxRecDepth 100000
set_option maxHeartbeats 4000000
namespace VL
open PySem PySem.Spec PyProof.Rows L2
section
variable {α : Type} {G : EG} {env env1 env2 : VEnv} {m1 m2 : Md} {a : Enc α} {wa wb : WE}
end
end VL
set_option maxRecDepth 100000
set_option maxHeartbeats 4000000
namespace VL
open PySem PySem.Spec PyProof.Rows L2
section
variable {X : Cx} {c : Cn} {W : WX} {pos : Pos} {R : List Addr} {H1 : Hp} {hs : List (V × VL.D)}
theorem ve_isEFB {a D : Addr} {d : Option Addr} {ex : Exn} {oe : Obj} {pn : List (Addr × Obj)} {nn y : Str} {p p1 p2 : Pos} {l : List Str} {TT : String} (T : ExcAll X.K c.cl) (eD : c.cl ex.cls = some D) (xf : XfH ex d R H1 hs) (hz : Zc (.ref D) d oe) (hf : ∃ vs, oe.data = .fields vs) (hk : AskedB X.K c.cl TT l) (hmy : X.mg y = none) (hm : X.mg "isinstance" = none) (i : Nat) (hb : bootBuiltins y = some (.type TT) := by rfl) (hK : c.K = X.K := by rfl) (hi : X.N[i]? = some nn := by rfl) (hv : Vis X.env.scope nn := by exact Or.inl rfl) (hg : Gl X "isinstance" := by rfl) (hgy : Gl (X.suite a ((a, oe) :: pn)) y := by rfl) (hd : (nn == ("__debug__" : Str)) = false := by decide) (hcd : (nn == ("__classdict__" : Str)) = false := by decide) (hny : y ≠ "__name__" := by decide) (hdy : (y == ("__debug__" : Str)) = false := by decide)
    (hst : starEach [.Name nn p1, .Name y p2] X.env = (false, eval (.Name nn p1) X.env) :: starEach [.Name y p2] X.env := by rfl) (hpl : (backTo pos (starEach [.Name y p2] X.env)).any (·.1) = false := by rfl) :
    PE (X.suite a ((a, oe) :: pn)) (.Call (.Name "isinstance" p) [.Name nn p1, .Name y p2] [] pos) (rdE (c.su R H1 hs) W (wIsE i a (l.contains ex.cls))) := by
  have hy : PE (X.suite a ((a, oe) :: pn)) (.Name y p2) (tC (.ty TT)) := pe_bltn (X := X.suite a ((a, oe) :: pn)) (v := .ty TT) hgy hmy hb rfl hny hdy
  exact PE.imp (pe_callB (X := X.suite a ((a, oe) :: pn)) (call_isEF (T _ _ eD) hz hf) hg hm (by decide +kernel) (pa_cons (pe_var (X := X.suite a ((a, oe) :: pn)) (i := i) hi hv hd hcd) (pa_cons hy pa_nil) hst) (by decide) (by decide) hst hpl) fun σ H Q h => by
    obtain ⟨env, L, Tm, Qv, X, S, ⟨⟨m, q⟩, q2⟩, k, kx⟩ := h
    obtain ⟨v, l, hv, hl, r⟩ := S.sl.get q
    have := RS.opq_inv r.read
    subst this
    refine ⟨_, hv, .ty TT, .type TT, _, rfl, fun u z => z, hk _ _ eD, fun dd e => ?_, k _ _ [] L env H q2 (Step.refl S) (Res.flat (A := fun _ => True) (.bl _) rfl)⟩
    obtain ⟨f, v, dt, _, e2, e3, _⟩ := xf.dict e
    exact ⟨_, su_kept S e2 e3⟩
end
abbrev FD := { d : D // flatD d = true }
def eF : Enc FD := fun x => x.1
instance : Fl_ eF := ⟨fun a => a.2⟩
def fI (i : Int) : FD := ⟨.int i, rfl⟩
def fN : FD := ⟨.none, rfl⟩
def fTA (xs : List At) : FD := ⟨eTL eA xs, (inferInstance : Fl_ (eTL eA)).fl xs⟩
theorem flat_noDict {d : D} (h : flatD d = true) : noDict d := by
  cases d <;> first | exact True.intro | simp [flatD] at h
section
variable {G : EG} {env env1 : VEnv} {m1 : Md} {wa : WE}
theorem re_isiF {T : String} {x : FD} (ha : RE G wa env env1 m1 eF (.ok x)) : RE G (wIsi T wa) env env1 mA eB (.ok (tyIs T x.1)) := fun Q X Xe hX hs =>
  ha _ _ Xe hX (show _ ∧ _ from ⟨flat_noDict x.2, hs⟩)
theorem re_isiFO {T : String} {A : Out FD} (ha : RE G wa env env1 m1 eF A) : RE G (wIsi T wa) env env1 mA eB (A.bind fun x => .ok (tyIs T x.1)) := fun Q X Xe hX hs =>
  ha _ _ Xe hX ((sat_bind.mp hs).imp fun x hs => ⟨flat_noDict x.2, hs⟩)
end
end VL
set_option maxRecDepth 100000
set_option maxHeartbeats 4000000
namespace LK17
open PySem PySem.Spec PyProof.Rows L2 VL
@[irreducible] noncomputable def F_law_wrong (some_ : (List Int)) : Out (List At) :=
  (((lift (atI some_ 0)).bind fun t1 => (Out.ok (0)).bind fun t2 => .ok (decide (t1 = t2))).bind fun p => if p = true then ((((Out.ok (Str.ofString "walk")).bind fun x => ((lift (atI some_ 1)).bind fun x => ((lift (atI some_ 2)).bind fun x => (Out.ok ()).bind fun t => .ok (x, t)).bind fun t => .ok (x, t)).bind fun t => .ok (x, t)).bind fun (t : Str × Int × Int × Unit) => .ok (t.1, t.2.1, t.2.2.1)).bind fun x => .ok ([.s x.1, .i x.2.1, .i x.2.2] : List At)) else (((lift (atI some_ 0)).bind fun t1 => (Out.ok (1)).bind fun t2 => .ok (decide (t1 = t2))).bind fun p => if p = true then ((((Out.ok (Str.ofString "sign")).bind fun x => ((lift (atI some_ 1)).bind fun x => (Out.ok ()).bind fun t => .ok (x, t)).bind fun t => .ok (x, t)).bind fun (t : Str × Int × Unit) => .ok (t.1, t.2.1)).bind fun x => .ok ([.s x.1, .i x.2] : List At)) else ((((Out.ok (Str.ofString "many")).bind fun x => (((Out.ok (41)).bind fun t1 => (lift (atI some_ 1)).bind fun t2 => .ok ((t1 + t2))).bind fun x => (Out.ok ()).bind fun t => .ok (x, t)).bind fun t => .ok (x, t)).bind fun (t : Str × Int × Unit) => .ok (t.1, t.2.1)).bind fun x => .ok ([.s x.1, .i x.2] : List At))))
def sp_law_wrong : FSpec := fun ds Q X => ∃ (some_ : (List Int)), ds = [(eL eI) some_] ∧ Sat (F_law_wrong some_) (fun r => Q ⟨(eTL eA) r, mA⟩) X
@[irreducible] noncomputable def F_law_thrown (which_ : Int) (at_ : Int) (wrong_here_ : (List At)) : Out Unit :=
  (if (decide (which_ = 0)) = true then ((Out.ok (wrong_here_)).bind fun v => .exn ⟨"NotADrawing", some ("fault", (eTL eA) v)⟩) else (if (decide (which_ = 1)) = true then (Out.exn ⟨"NoCrossing", none⟩) else (if (decide (which_ = 2)) = true then (Out.exn ⟨"TooBig", none⟩) else (if (decide (which_ = 3)) = true then (Out.exn ⟨"NoUnit", none⟩) else (if (decide (which_ = 4)) = true then (Out.exn ⟨"NotClosed", none⟩) else (if (decide (which_ = 5)) = true then (Out.exn ⟨"NoFit", none⟩) else (if (decide (which_ = 6)) = true then (Out.exn ⟨"TooMuch", none⟩) else (if (decide (which_ = 7)) = true then (Out.exn ⟨"NoMove", none⟩) else (if (decide (which_ = 8)) = true then ((Out.ok (at_)).bind fun v => .exn ⟨"NoChain", some ("at", eI v)⟩) else (if (decide (which_ = 9)) = true then (Out.exn ⟨"NoPrime", none⟩) else (if (decide (which_ = 10)) = true then (Out.exn ⟨"NoLine", none⟩) else (Out.exn ⟨"PlaitError", none⟩))))))))))))
def sp_law_thrown : FSpec := fun ds Q X => ∃ (which_ : Int) (at_ : Int) (wrong_here_ : (List At)), ds = [eI which_, eI at_, (eTL eA) wrong_here_] ∧ Sat (F_law_thrown which_ at_ wrong_here_) (fun r => Q ⟨eN r, mA⟩) X
@[irreducible] noncomputable def F_law_is_whole (one_ : FD) : Out Bool :=
  (Out.ok (tyIs "int" one_.1 && !(tyIs "bool" one_.1)))
def sp_law_is_whole : FSpec := fun ds Q X => ∃ (one_ : FD), ds = [eF one_] ∧ Sat (F_law_is_whole one_) (fun r => Q ⟨eB r, mA⟩) X
@[irreducible] noncomputable def F_law_fields (at_ : Int) (wrong_here_ : (List At)) : Out Bool :=
  ((Out.ok ([(fN), (fN)])).bind fun (found_ : (List FD)) => ((tryFO ((F_law_thrown 8 at_ wrong_here_).bind fun _ => (Out.ok found_)) ["NoChain"] (fun ex47 => (((lift (xfO decI "NoChain" "at" ex47)).bind fun x => .ok ((fun x => fI x) x)).bind fun v => (Out.ok (0)).bind fun j => (lift (setO found_ j v)).bind fun found_ => (Out.ok found_)))).bind fun (V49 : (List FD)) => ((tryFO ((F_law_thrown 0 at_ wrong_here_).bind fun _ => (Out.ok V49)) ["NotADrawing"] (fun ex50 => (((lift (xfO decTA "NotADrawing" "fault" ex50)).bind fun x => .ok ((fun x => fTA x) x)).bind fun v => (Out.ok (1)).bind fun j => (lift (setO V49 j v)).bind fun found_ => (Out.ok found_)))).bind fun (V52 : (List FD)) => ((((((lift (atI V52 0)).bind fun x => (Out.ok ()).bind fun t => .ok (x, t)).bind (fun (t : FD × Unit) => F_law_is_whole t.1)).bind fun t1 => .ok (!t1)).bind fun p => if p = true then .ok true else (((lift (atI V52 1)).bind fun x => .ok (tyIs "tuple" x.1)).bind fun t1 => .ok (!t1))).bind fun p => if p = true then (Out.ok false) else (lift ((eqG ((eL eF) V52) ((eL eF) ([(fI at_), (fTA wrong_here_)])))))))))
def sp_law_fields : FSpec := fun ds Q X => ∃ (at_ : Int) (wrong_here_ : (List At)), ds = [eI at_, (eTL eA) wrong_here_] ∧ Sat (F_law_fields at_ wrong_here_) (fun r => Q ⟨eB r, mA⟩) X
@[irreducible] noncomputable def F_law_sorts (which_ : Int) (at_ : Int) (wrong_here_ : (List At)) : Out (List Bool) :=
  ((tryFO ((F_law_thrown which_ at_ wrong_here_).bind fun _ => (Out.ok (Fl.nxt ()))) ["PlaitError", "NotADrawing", "NoCrossing", "TooBig", "NoUnit", "NotClosed", "NoFit", "TooMuch", "NoMove", "NoChain", "NoPrime", "NoLine"] (fun ex32 => ((Out.ok ([((["NotADrawing"] : List Str).contains ex32.cls), ((["NoCrossing"] : List Str).contains ex32.cls), ((["TooBig"] : List Str).contains ex32.cls)])).bind fun (some_ : (List Bool)) => ((Out.ok ([((["NoUnit"] : List Str).contains ex32.cls), ((["NotClosed"] : List Str).contains ex32.cls), ((["NoFit"] : List Str).contains ex32.cls)])).bind fun v => (lift (extO some_ v)).bind fun some_ => ((Out.ok ([((["TooMuch"] : List Str).contains ex32.cls), ((["NoMove"] : List Str).contains ex32.cls), ((["NoChain"] : List Str).contains ex32.cls)])).bind fun v => (lift (extO some_ v)).bind fun some_ => ((Out.ok ([((["NoPrime"] : List Str).contains ex32.cls), ((["NoLine"] : List Str).contains ex32.cls)])).bind fun v => (lift (extO some_ v)).bind fun some_ => (if ((["PlaitError", "NotADrawing", "NoCrossing", "TooBig", "NoUnit", "NotClosed", "NoFit", "TooMuch", "NoMove", "NoChain", "NoPrime", "NoLine"] : List Str).contains ex32.cls) = true then (Out.ok (Fl.ret some_)) else (Out.ok (Fl.nxt ()))))))))).bind (flowT fun (V34 : Unit) => (Out.ok ([] : (List Bool)))))
def sp_law_sorts : FSpec := fun ds Q X => ∃ (which_ : Int) (at_ : Int) (wrong_here_ : (List At)), ds = [eI which_, eI at_, (eTL eA) wrong_here_] ∧ Sat (F_law_sorts which_ at_ wrong_here_) (fun r => Q ⟨(eL eB) r, mA⟩) X
@[irreducible] noncomputable def F_law (script_ : (List Int)) : Out Bool :=
  ((XD.F_law_row script_ 0 ([3, (10 ^ ((9 : Int).toNat) : Int), (10 ^ ((9 : Int).toNat) : Int), (10 ^ ((60 : Int).toNat) : Int)])).bind fun (some_ : (List Int)) => ((XD.F_law_row script_ 1 ([3, (10 ^ ((9 : Int).toNat) : Int), (10 ^ ((9 : Int).toNat) : Int), (10 ^ ((60 : Int).toNat) : Int)])).bind fun (more_ : (List Int)) => ((F_law_wrong some_).bind fun (one_ : (List At)) => ((F_law_wrong more_).bind fun (other_ : (List At)) => (((lift (rgO 0 12)).bind fun xs => forF (fun (V54 : Unit) (which_ : Int) => (((((Out.ok (which_)).bind fun x => ((lift (atI some_ 3)).bind fun x => (Out.ok (one_, ())).bind fun t => .ok (x, t)).bind fun t => .ok (x, t)).bind (fun (t : Int × Int × (List At) × Unit) => F_law_sorts t.1 t.2.1 t.2.2.1)).bind fun t1 => ((lift (rgO 0 11)).bind (mapL (fun k_ : Int => noX (Out.ok (decide (which_ = k_)))))).bind fun t2 => .ok (!decide (t1 = t2))).bind fun p => if p = true then (Out.ok (Fl.ret false)) else (Out.ok (Fl.nxt ())))) () xs).bind (flowT fun (V54 : Unit) => ((((((lift (atI some_ 3)).bind fun x => (Out.ok (one_, ())).bind fun t => .ok (x, t)).bind (fun (t : Int × (List At) × Unit) => F_law_fields t.1 t.2.1)).bind fun t1 => .ok (!t1)).bind fun p => if p = true then .ok true else ((((lift (atI more_ 3)).bind fun x => (Out.ok (other_, ())).bind fun t => .ok (x, t)).bind (fun (t : Int × (List At) × Unit) => F_law_fields t.1 t.2.1)).bind fun t1 => .ok (!t1))).bind fun p => if p = true then (Out.ok false) else ((((lift (atI some_ 3)).bind fun x => (Out.ok (other_, ())).bind fun t => .ok (x, t)).bind (fun (t : Int × (List At) × Unit) => F_law_fields t.1 t.2.1)).bind fun p => if p = true then (((lift (atI some_ 3)).bind fun x => (Out.ok (one_, ())).bind fun t => .ok (x, t)).bind (fun (t : Int × (List At) × Unit) => F_law_fields t.1 t.2.1)) else .ok false))))))))
end LK17
set_option maxRecDepth 100000
set_option maxHeartbeats 1000000
namespace VL
open PySem PySem.Spec PyProof.Rows L2
section
variable {α β σ ρ : Type} {X : Exn → Prop}
theorem eta2 (p : α × β) : (p.1, p.2) = p := Eq.trans rfl rfl
theorem s_atE {xs : List α} {i : Int} {x : α} {Q : α → Prop} (h : atI xs i = some x) (q : Q x) : Sat (lift (atI xs i)) Q X := sat_lift.mpr ⟨x, h, q⟩
theorem s_app {xs : List α} {v : α} {Q : List α → Prop} (h : xs.length < 1000000) (q : Q (xs ++ [v])) : Sat (lift (appO xs v)) Q X := sat_lift.mpr ⟨_, appO_ok h, q⟩
theorem s_mod {x y : Int} {Q : Int → Prop} (h : 0 < y) (q : Q (x % y)) : Sat (lift (modO x y)) Q X := sat_lift.mpr ⟨_, modO_ok h, q⟩
theorem s_fd {x y : Int} {Q : Int → Prop} (h : CDiv x y ∨ CDivW x y) (q : Q (x / y)) : Sat (lift (fdO x y)) Q X := sat_lift.mpr ⟨_, fdO_ok h, q⟩
theorem s_fdS {x y : Int} {Q : Int → Prop} (h : 0 < y) (h2 : y < 2 ^ 5000) (q : Q (x / y)) : Sat (lift (fdO x y)) Q X := s_fd (divW h 5000 (by
  have : (2 : Nat) ^ 5000 < 2 ^ 5001 := Nat.pow_lt_pow_right (by decide) (by decide)
  have e : ((2 : Int) ^ 5000) = (((2 : Nat) ^ 5000 : Nat) : Int) := by push_cast; rfl
  rw [e] at h2
  generalize (2 : Nat) ^ 5000 = a at *
  generalize (2 : Nat) ^ 5001 = b at *
  omega) (by decide)) q
theorem s_set {xs : List α} {i : Int} {v : α} {Q : List α → Prop} (h0 : 0 ≤ i) (h1 : i < xs.length) (q : Q (xs.set i.toNat v)) : Sat (lift (setO xs i v)) Q X := sat_lift.mpr ⟨_, setO_ok h0 h1, q⟩
theorem rg_getE {lo hi : Int} {k : Nat} {x : Int} (h : (rg lo hi)[k]? = some x) : x = lo + k ∧ x < hi := by
  unfold rg at h
  rw [List.getElem?_map] at h
  obtain ⟨a, h1, h2⟩ := Option.map_eq_some_iff.mp h
  have := (List.getElem?_eq_some_iff.mp h1)
  obtain ⟨hl, he⟩ := this
  rw [List.getElem_range] at he
  rw [List.length_range] at hl
  omega
theorem rg0_ok {n : Nat} (h : n < 4611686018427387904) : rgO 0 (n : Int) = some (rg 0 n) := rgO_ok ⟨by decide, by decide, by omega, by omega⟩
theorem s_for {f : σ → Int → Out σ} {hi : Int} {s0 : σ} {Q : σ → Prop} (n : Nat) (hn : hi = n) (hs : n < 4611686018427387904) (Inv : Nat → σ → Prop) (h0 : Inv 0 s0) (step : ∀ (k : Nat) s, k < n → Inv k s → Sat (f s (k : Int)) (Inv (k + 1)) X) (last : ∀ s, Inv n s → Q s) : Sat (lift (rgO 0 hi)) (fun xs => Sat (forO f s0 xs) Q X) X := by
  subst hn
  have h9 := rg0_ok (n := n) (by omega)
  refine sat_lift.mpr ?_
  refine ⟨_, h9, ?_⟩
  refine sat_forO Inv h0 (fun k s x hx hi => ?_) fun s h => ?_
  · obtain ⟨h1, h2⟩ := rg_getE hx
    rw [h1, Int.zero_add]
    exact step k s (by omega) hi
  · rw [rg_len] at h
    exact last s (by simpa using h)
theorem s_if {c : Bool} {a b : Out α} {Q : α → Prop} (h1 : c = true → Sat a Q X) (h2 : c = false → Sat b Q X) : Sat (if c = true then a else b) Q X := by
  cases c
  · exact h2 rfl
  · exact h1 rfl
theorem s_F {m : Out α} {P Q : α → Prop} (h : Sat m P fun _ => False) (q : ∀ a, P a → Q a) : Sat m Q X := h.mono q fun _ h => h.elim
end
end VL
set_option maxRecDepth 100000
set_option maxHeartbeats 1000000
namespace VL
open PySem PySem.Spec PyProof.Rows L2
local macro_rules | `(tactic| sleep 11) => `(tactic| simp only [Out.bind_ok, noX_ok, lift_some, flowT_ret, flowT_nxt, flowF_ret, flowF_nxt, sat_bind, sat_ok, sat_exn, sat_noX, eta2, Out.bind_id])
theorem RowIn.get : ∀ {sz xs : List Int}, RowIn sz xs → xs.length = sz.length ∧ ∀ (i : Nat) s, sz[i]? = some s → ∃ x, xs[i]? = some x ∧ 0 ≤ x ∧ x < s
  | [], [], _ => ⟨rfl, fun i s h => by simp at h⟩
  | [], _ :: _, h => h.elim
  | _ :: _, [], h => h.elim
  | s :: sz, x :: xs, ⟨h, r⟩ => by
    obtain ⟨h1, h2⟩ := RowIn.get r
    refine ⟨by simp [h1], fun i s' hi => ?_⟩
    cases i with
    | zero => simp at hi; subst hi; exact ⟨x, rfl, h⟩
    | succ i => exact h2 i s' (by simpa using hi)
theorem cell_ok {ns : List Int} {p : Int} (h : 0 ≤ p) : ∃ c, XD.F_law_cell ns p = .ok c := by
  unfold XD.F_law_cell
  by_cases hp : p < ns.length
  · rw [if_pos (decide_eq_true hp), atI_get h hp]
    exact ⟨_, lift_some _⟩
  · rw [if_neg (by simpa using hp)]
    simp only [Out.bind_ok]
    rw [forO_ok (g := fun (V3 cell_here_ : Int) => (V3 * 48271 + cell_here_ % 1000003 + 1) % 2147483647) 5 (fun _ _ _ => rfl)]
    exact ⟨_, Out.bind_ok _ _⟩
theorem mix_ok {c k : Int} (h1 : 0 ≤ k) (h2 : k < 10000) : ∃ m, XD.F_law_mix c k = .ok m := by
  unfold XD.F_law_mix
  have e1 : 0 ≤ c % 2147483629 := Int.emod_nonneg _ (by decide)
  have e2 : c % 2147483629 < 2147483629 := Int.emod_lt_of_pos _ (by decide)
  rw [powO_ok ⟨by decide, by decide, by omega⟩, mulO_ok (.inl (.inr (by omega)))]
  simp only [lift_some, Out.bind_ok]
  exact ⟨_, rfl⟩
theorem row_ok {ns sz : List Int} {p : Int} (h : 0 ≤ p) (hl : sz.length ≤ 500) (hs : ∀ s ∈ sz, 0 < s ∧ s < 2 ^ 5000) : Sat (XD.F_law_row ns p sz) (fun r => RowIn sz r) (fun _ => False) := by
  unfold XD.F_law_row
  obtain ⟨c, hc⟩ := cell_ok (ns := ns) h
  rw [hc]
  sleep 11
  refine s_for sz.length rfl (by omega) (fun k s => s.1.length = k ∧ ∀ (i : Nat) t x, sz[i]? = some t → s.1[i]? = some x → 0 ≤ x ∧ x < t) ⟨rfl, fun i t x _ h => by simp at h⟩ (fun k s hk hi => ?_) fun s hi => RowIn.of hi.1 hi.2
  obtain ⟨h1, h2⟩ := hi
  have hg : sz[k]? = some sz[k] := List.getElem?_eq_getElem hk
  have ha : atI sz (k : Int) = some sz[k] := atI_nat hg
  obtain ⟨g1, g2⟩ := hs _ (List.getElem_mem hk)
  have fin : ∀ y : Int, (s.1 ++ [y % sz[k]]).length = k + 1 ∧ ∀ (i : Nat) t x, sz[i]? = some t → (s.1 ++ [y % sz[k]])[i]? = some x → 0 ≤ x ∧ x < t := by
    intro y
    refine ⟨by simp [h1], fun i t x e1 e2 => ?_⟩
    rw [List.getElem?_append] at e2
    split at e2
    · exact h2 i t x e1 e2
    · rename_i hi
      have hi2 : i = k := by
        have := (List.getElem?_eq_some_iff.mp e2).1
        simp at this
        omega
      subst hi2
      rw [h1] at e2
      simp at e2
      rw [hg] at e1
      cases e1; subst e2
      exact ⟨Int.emod_nonneg _ (by omega), Int.emod_lt_of_pos _ g1⟩
  sleep 11
  refine s_if (fun hh => ?_) (fun hh => ?_)
  · obtain ⟨m, hm⟩ := mix_ok (c := c) (k := (k : Int)) (by omega) (by omega)
    rw [hm]
    sleep 11
    refine s_atE ha ?_
    refine s_mod g1 ?_
    refine s_app (by omega) ?_
    exact fin _
  · refine s_if (fun hh => ?_) (fun hh => ?_)
    · sleep 11
      refine s_atE ha ?_
      refine s_mod g1 ?_
      refine s_app (by omega) ?_
      sleep 11
      refine s_atE ha ?_
      refine s_fdS g1 g2 ?_
      exact fin _
    · obtain ⟨o, ho⟩ := cell_ok (ns := ns) (p := (p + 1 + (k : Int)) % 63) (Int.emod_nonneg _ (by decide))
      obtain ⟨m, hm⟩ := mix_ok (c := o) (k := (k : Int)) (by omega) (by omega)
      rw [ho]
      sleep 11
      rw [hm]
      sleep 11
      refine s_atE ha ?_
      refine s_mod g1 ?_
      refine s_app (by omega) ?_
      exact fin _
end VL
set_option maxRecDepth 100000
set_option maxHeartbeats 1000000
namespace VL
open PySem PySem.Spec PyProof.Rows L2
local macro_rules | `(tactic| sleep 11) => `(tactic| simp only [Out.bind_ok, noX_ok, lift_some, flowT_ret, flowT_nxt, flowF_ret, flowF_nxt, sat_bind, sat_ok, sat_exn, sat_noX, eta2, Out.bind_id])
theorem RowIn.at {sz xs : List Int} (h : RowIn sz xs) {i s : Int} (h0 : 0 ≤ i) (hs : sz[i.toNat]? = some s) : ∃ x, atI xs i = some x ∧ 0 ≤ x ∧ x < s := by
  obtain ⟨x, h1, h2⟩ := (RowIn.get h).2 _ s hs
  refine ⟨x, ?_, h2⟩
  have := atI_nat h1
  rwa [show ((i.toNat : Nat) : Int) = i by omega] at this
end VL
set_option maxRecDepth 100000
set_option maxHeartbeats 2000000
namespace LK17
open PySem PySem.Spec PyProof.Rows L2 VL
local macro_rules | `(tactic| sleep 11) => `(tactic| simp only [Out.bind_ok, Out.bind_exn, noX_ok, lift_some, flowT_ret, flowT_nxt, flowF_ret, flowF_nxt, sat_bind, sat_ok, sat_exn, sat_noX, eta2, Out.bind_id])
abbrev l12 : List Str := ["PlaitError", "NotADrawing", "NoCrossing", "TooBig", "NoUnit", "NotClosed", "NoFit", "TooMuch", "NoMove", "NoChain", "NoPrime", "NoLine"]
def cs (c : Str) : List Bool := [(["NotADrawing"] : List Str).contains c, (["NoCrossing"] : List Str).contains c, (["TooBig"] : List Str).contains c] ++ [(["NoUnit"] : List Str).contains c, (["NotClosed"] : List Str).contains c, (["NoFit"] : List Str).contains c] ++ [(["TooMuch"] : List Str).contains c, (["NoMove"] : List Str).contains c, (["NoChain"] : List Str).contains c] ++ [(["NoPrime"] : List Str).contains c, (["NoLine"] : List Str).contains c]
section
variable {w at_ : Int} {wr : List At}
theorem sorts_of {x : Exn} (hx : F_law_thrown w at_ wr = .exn x) (hc : l12.contains x.cls = true) (hf : fldB x = true) : F_law_sorts w at_ wr = .ok (cs x.cls) := by
  unfold F_law_sorts
  rw [hx]
  simp only [Out.bind_exn, tryFO]
  rw [if_pos hc, if_pos hf]
  simp only [Out.bind_ok]
  rw [extO_ok (by simp)]
  simp only [lift_some, Out.bind_ok]
  rw [extO_ok (by simp)]
  simp only [lift_some, Out.bind_ok]
  rw [extO_ok (by simp)]
  simp only [lift_some, Out.bind_ok]
  rw [if_pos hc]
  rfl
theorem try_in {β : Type} {l : List Str} {h : Exn → Out β} {x : Exn} (hc : l.contains x.cls = true) (hf : fldB x = true) : tryFO (.exn x) l h = noX (h x) := by unfold tryFO; simp only; rw [if_pos hc, if_pos hf]
theorem fl_wr : fldB ⟨"NotADrawing", some ("fault", (eTL eA) wr)⟩ = true := (inferInstance : Fl_ (eTL eA)).fl wr
theorem t0 : F_law_thrown 0 at_ wr = .exn ⟨"NotADrawing", some ("fault", (eTL eA) wr)⟩ := by unfold F_law_thrown; rfl
theorem t1 : F_law_thrown 1 at_ wr = .exn ⟨"NoCrossing", none⟩ := by unfold F_law_thrown; rfl
theorem t2 : F_law_thrown 2 at_ wr = .exn ⟨"TooBig", none⟩ := by unfold F_law_thrown; rfl
theorem t3 : F_law_thrown 3 at_ wr = .exn ⟨"NoUnit", none⟩ := by unfold F_law_thrown; rfl
theorem t4 : F_law_thrown 4 at_ wr = .exn ⟨"NotClosed", none⟩ := by unfold F_law_thrown; rfl
theorem t5 : F_law_thrown 5 at_ wr = .exn ⟨"NoFit", none⟩ := by unfold F_law_thrown; rfl
theorem t6 : F_law_thrown 6 at_ wr = .exn ⟨"TooMuch", none⟩ := by unfold F_law_thrown; rfl
theorem t7 : F_law_thrown 7 at_ wr = .exn ⟨"NoMove", none⟩ := by unfold F_law_thrown; rfl
theorem t8 : F_law_thrown 8 at_ wr = .exn ⟨"NoChain", some ("at", eI at_)⟩ := by unfold F_law_thrown; rfl
theorem t9 : F_law_thrown 9 at_ wr = .exn ⟨"NoPrime", none⟩ := by unfold F_law_thrown; rfl
theorem t10 : F_law_thrown 10 at_ wr = .exn ⟨"NoLine", none⟩ := by unfold F_law_thrown; rfl
theorem t11 : F_law_thrown 11 at_ wr = .exn ⟨"PlaitError", none⟩ := by unfold F_law_thrown; rfl
theorem sorts_ok (hw : w ∈ [(0 : Int), 1, 2, 3, 4, 5, 6, 7, 8, 9, 10, 11]) : F_law_sorts w at_ wr = .ok ((rg 0 11).map fun k => decide (w = k)) := by
  simp only [List.mem_cons, List.not_mem_nil, or_false] at hw
  rcases hw with rfl | rfl | rfl | rfl | rfl | rfl | rfl | rfl | rfl | rfl | rfl | rfl
  · rw [sorts_of t0 (show l12.contains "NotADrawing" = true by decide +kernel) fl_wr]; exact congrArg Out.ok (show cs "NotADrawing" = _ by decide +kernel)
  · rw [sorts_of t1 (show l12.contains "NoCrossing" = true by decide +kernel) rfl]; exact congrArg Out.ok (show cs "NoCrossing" = _ by decide +kernel)
  · rw [sorts_of t2 (show l12.contains "TooBig" = true by decide +kernel) rfl]; exact congrArg Out.ok (show cs "TooBig" = _ by decide +kernel)
  · rw [sorts_of t3 (show l12.contains "NoUnit" = true by decide +kernel) rfl]; exact congrArg Out.ok (show cs "NoUnit" = _ by decide +kernel)
  · rw [sorts_of t4 (show l12.contains "NotClosed" = true by decide +kernel) rfl]; exact congrArg Out.ok (show cs "NotClosed" = _ by decide +kernel)
  · rw [sorts_of t5 (show l12.contains "NoFit" = true by decide +kernel) rfl]; exact congrArg Out.ok (show cs "NoFit" = _ by decide +kernel)
  · rw [sorts_of t6 (show l12.contains "TooMuch" = true by decide +kernel) rfl]; exact congrArg Out.ok (show cs "TooMuch" = _ by decide +kernel)
  · rw [sorts_of t7 (show l12.contains "NoMove" = true by decide +kernel) rfl]; exact congrArg Out.ok (show cs "NoMove" = _ by decide +kernel)
  · rw [sorts_of t8 (show l12.contains "NoChain" = true by decide +kernel) rfl]; exact congrArg Out.ok (show cs "NoChain" = _ by decide +kernel)
  · rw [sorts_of t9 (show l12.contains "NoPrime" = true by decide +kernel) rfl]; exact congrArg Out.ok (show cs "NoPrime" = _ by decide +kernel)
  · rw [sorts_of t10 (show l12.contains "NoLine" = true by decide +kernel) rfl]; exact congrArg Out.ok (show cs "NoLine" = _ by decide +kernel)
  · rw [sorts_of t11 (show l12.contains "PlaitError" = true by decide +kernel) rfl]; exact congrArg Out.ok (show cs "PlaitError" = _ by decide +kernel)
def Wrong (wr : List At) : Prop := (∃ a b, wr = [.s (Str.ofString "walk"), .i a, .i b]) ∨ (∃ a, wr = [.s (Str.ofString "sign"), .i a]) ∨ (∃ a, wr = [.s (Str.ofString "many"), .i a])
theorem lay_w : PyData.canLay0 (.str (Str.ofString "walk")) = true ∧ PyData.canLay0 (.str (Str.ofString "sign")) = true ∧ PyData.canLay0 (.str (Str.ofString "many")) = true := by decide +kernel
theorem eqG_w (h : Wrong wr) : eqG (eL eF [fI at_, fTA wr]) (eL eF [fI at_, fTA wr]) = some true := by
  have hl := lay_w
  have key : SeqAt.shaped (eL eF [fI at_, fTA wr]) = true ∧ PyData.eqv (eL eF [fI at_, fTA wr]) (eL eF [fI at_, fTA wr]) = true := by
    rcases h with ⟨a, b, rfl⟩ | ⟨a, rfl⟩ | ⟨a, rfl⟩
    · refine ⟨?_, ?_⟩
      · unfold SeqAt.shaped
        rw [Bool.and_eq_true]
        exact ⟨by simp [eL, eF, fI, fTA, eTL, eA, PyData.canLay0, PyData.canLayAll0] at hl ⊢; simp [hl], by simp [eL, eF, fI, fTA, eTL, eA, PyData.depth, PyData.depthAll]⟩
      · simp [eL, eF, fI, fTA, eTL, eA, PyData.eqv, PyData.eqvAll]
    · refine ⟨?_, ?_⟩
      · unfold SeqAt.shaped
        rw [Bool.and_eq_true]
        exact ⟨by simp [eL, eF, fI, fTA, eTL, eA, PyData.canLay0, PyData.canLayAll0] at hl ⊢; simp [hl], by simp [eL, eF, fI, fTA, eTL, eA, PyData.depth, PyData.depthAll]⟩
      · simp [eL, eF, fI, fTA, eTL, eA, PyData.eqv, PyData.eqvAll]
    · refine ⟨?_, ?_⟩
      · unfold SeqAt.shaped
        rw [Bool.and_eq_true]
        exact ⟨by simp [eL, eF, fI, fTA, eTL, eA, PyData.canLay0, PyData.canLayAll0] at hl ⊢; simp [hl], by simp [eL, eF, fI, fTA, eTL, eA, PyData.depth, PyData.depthAll]⟩
      · simp [eL, eF, fI, fTA, eTL, eA, PyData.eqv, PyData.eqvAll]
  unfold eqG
  rw [show scalD (eL eF [fI at_, fTA wr]) (eL eF [fI at_, fTA wr]) = none from rfl]
  simp only [key.1, key.2, Bool.and_self, if_true]
theorem x8 : xfO decI "NoChain" "at" ⟨"NoChain", some ("at", eI at_)⟩ = some at_ := by
  unfold xfO
  rw [if_pos rfl]
  simp only [if_true]
  rfl
theorem x0 : xfO decTA "NotADrawing" "fault" ⟨"NotADrawing", some ("fault", (eTL eA) wr)⟩ = some wr := by
  unfold xfO
  rw [if_pos rfl]
  simp only [if_true]
  exact DecE.id (e := eTL eA) wr
theorem fields_ok (h : Wrong wr) : F_law_fields at_ wr = .ok true := by
  refine Sat.eq ?_
  unfold F_law_fields
  rw [t8, t0]
  simp only [Out.bind_ok, Out.bind_exn]
  rw [try_in (x := ⟨"NoChain", some ("at", eI at_)⟩) (show (["NoChain"] : List Str).contains "NoChain" = true by decide +kernel) rfl, x8]
  sleep 11
  refine s_set (by omega) (by simp) ?_
  rw [try_in (x := ⟨"NotADrawing", some ("fault", (eTL eA) wr)⟩) (show (["NotADrawing"] : List Str).contains "NotADrawing" = true by decide +kernel) fl_wr, x0]
  sleep 11
  refine s_set (by omega) (by simp) ?_
  show Sat _ _ _
  have a0 : atI ([(fN), (fN)].set (0 : Int).toNat (fI at_) |>.set (1 : Int).toNat (fTA wr)) 0 = some (fI at_) := rfl
  have a1 : atI ([(fN), (fN)].set (0 : Int).toNat (fI at_) |>.set (1 : Int).toNat (fTA wr)) 1 = some (fTA wr) := rfl
  have el : ([(fN), (fN)].set (0 : Int).toNat (fI at_) |>.set (1 : Int).toNat (fTA wr)) = [fI at_, fTA wr] := rfl
  rw [a0, a1]
  sleep 11
  have ew : F_law_is_whole (fI at_) = .ok true := by unfold F_law_is_whole; exact congrArg Out.ok (by simp [fI, tyIs])
  rw [ew]
  sleep 11
  rw [if_neg (by decide)]
  sleep 11
  rw [if_neg (by simp [fTA, eTL, tyIs])]
  rw [el, eqG_w h]
  sleep 11
end
theorem wrong_ok {some_ : List Int} (hr : RowIn [3, 1000000000, 1000000000, 1000000000000000000000000000000000000000000000000000000000000] some_) : Sat (F_law_wrong some_) Wrong fun _ => False := by
  obtain ⟨x0, e0, b0, c0⟩ := hr.at (i := 0) (s := 3) (by omega) rfl
  obtain ⟨x1, e1, b1, c1⟩ := hr.at (i := 1) (s := 1000000000) (by omega) rfl
  obtain ⟨x2, e2, b2, c2⟩ := hr.at (i := 2) (s := 1000000000) (by omega) rfl
  unfold F_law_wrong
  rw [e0, e1, e2]
  sleep 11
  refine s_if (fun _ => ?_) fun _ => ?_
  · sleep 11
    exact .inl ⟨_, _, rfl⟩
  · refine s_if (fun _ => ?_) fun _ => ?_
    · sleep 11
      exact .inr (.inl ⟨_, rfl⟩)
    · sleep 11
      exact .inr (.inr ⟨_, rfl⟩)
theorem law_ok (ns : List Int) (hl : ns.length ≤ 63) (hb : ∀ z ∈ ns, Builtin.Int.intBits z ≤ 1048576) : Sat (F_law ns) (fun b => b = true) fun _ => False := by
  unfold F_law
  have e9 : (10 ^ ((9 : Int).toNat) : Int) = 1000000000 := by decide
  have e60 : (10 ^ ((60 : Int).toNat) : Int) = 1000000000000000000000000000000000000000000000000000000000000 := by decide +kernel
  rw [e9, e60]
  sleep 11
  refine s_F (P := RowIn [3, 1000000000, 1000000000, 1000000000000000000000000000000000000000000000000000000000000]) (row_ok (by omega) (by decide) (by decide +kernel)) fun some_ hr => ?_
  refine s_F (P := RowIn [3, 1000000000, 1000000000, 1000000000000000000000000000000000000000000000000000000000000]) (row_ok (by omega) (by decide) (by decide +kernel)) fun more_ hm => ?_
  refine s_F (wrong_ok hr) fun one h1 => ?_
  refine s_F (wrong_ok hm) fun other h2 => ?_
  obtain ⟨x3, e3, b3, c3⟩ := hr.at (i := 3) (s := 1000000000000000000000000000000000000000000000000000000000000) (by omega) rfl
  obtain ⟨y3, f3, d3, g3⟩ := hm.at (i := 3) (s := 1000000000000000000000000000000000000000000000000000000000000) (by omega) rfl
  rw [e3, f3]
  have r12 : rgO 0 12 = some [0, 1, 2, 3, 4, 5, 6, 7, 8, 9, 10, 11] := by rw [rgO_ok (by omega)]; rfl
  have r11 : rgO 0 11 = some (rg 0 11) := rgO_ok (by omega)
  rw [r12, r11]
  sleep 11
  refine sat_forF (fun _ _ => True) True.intro (fun k u w hw _ => ?_) fun u _ => ?_
  · rw [sorts_ok (List.mem_of_getElem? hw), mapL_pure (g := fun k : Int => decide (w = k)) (by rw [rg_len]; omega)]
    sleep 11
    rw [if_neg (by simp)]
    sleep 11
  · sleep 11
    have f1 : ∀ a, F_law_fields a one = .ok true := fun a => fields_ok h1
    have f2 : ∀ a, F_law_fields a other = .ok true := fun a => fields_ok h2
    simp only [f1, f2]
    sleep 11
    rw [if_neg (by decide)]
    sleep 11
    rw [if_neg (by decide)]
    sleep 11
    rw [if_pos (by decide)]
    sleep 11
end LK17
set_option maxRecDepth 100000
set_option maxHeartbeats 4000000
namespace LK17
open PySem PySem.Spec PyProof.Rows L2 VL
def topS (i : Nat) : Stmt := PySem.Challenge.pw_plait_k17_refusals.main.body.getD i (.Pass ⟨0, 0, 0, 0⟩)
structure Ev (K : PySem.W.Frag) (mg : Str → Option Value) (cl : Str → Option Addr) : Prop where
  q_NoChain : Asked K mg cl "NoChain" ["NoChain"]
  q_NoCrossing : Asked K mg cl "NoCrossing" ["NoCrossing"]
  q_NoFit : Asked K mg cl "NoFit" ["NoFit"]
  q_NoLine : Asked K mg cl "NoLine" ["NoLine"]
  q_NoMove : Asked K mg cl "NoMove" ["NoMove"]
  q_NoPrime : Asked K mg cl "NoPrime" ["NoPrime"]
  q_NoUnit : Asked K mg cl "NoUnit" ["NoUnit"]
  q_NotADrawing : Asked K mg cl "NotADrawing" ["NotADrawing"]
  q_NotClosed : Asked K mg cl "NotClosed" ["NotClosed"]
  q_TooBig : Asked K mg cl "TooBig" ["TooBig"]
  q_TooMuch : Asked K mg cl "TooMuch" ["TooMuch"]
  q_ValueError : AskedB K cl "ValueError" ["PlaitError", "NotADrawing", "NoCrossing", "TooBig", "NoUnit", "NotClosed", "NoFit", "TooMuch", "NoMove", "NoChain", "NoPrime", "NoLine"]
  m_ValueError : mg "ValueError" = none
  m_bool : mg "bool" = none
  m_int : mg "int" = none
  m_isinstance : mg "isinstance" = none
  m_len : mg "len" = none
  m_range : mg "range" = none
  m_tuple : mg "tuple" = none
  k_NoChain : Clause K mg cl "NoChain" ["NoChain"]
  k_NotADrawing : Clause K mg cl "NotADrawing" ["NotADrawing"]
  k_PlaitError : Clause K mg cl "PlaitError" ["PlaitError", "NotADrawing", "NoCrossing", "TooBig", "NoUnit", "NotClosed", "NoFit", "TooMuch", "NoMove", "NoChain", "NoPrime", "NoLine"]
  x_NoCrossing : ∃ C, Err K mg cl "NoCrossing" C
  x_NoFit : ∃ C, Err K mg cl "NoFit" C
  x_NoLine : ∃ C, Err K mg cl "NoLine" C
  x_NoMove : ∃ C, Err K mg cl "NoMove" C
  x_NoPrime : ∃ C, Err K mg cl "NoPrime" C
  x_NoUnit : ∃ C, Err K mg cl "NoUnit" C
  x_NotClosed : ∃ C, Err K mg cl "NotClosed" C
  x_PlaitError : ∃ C, Err K mg cl "PlaitError" C
  x_TooBig : ∃ C, Err K mg cl "TooBig" C
  x_TooMuch : ∃ C, Err K mg cl "TooMuch" C
  n_NoChain : NoFld K cl "NoChain" "at"
  n_NotADrawing : NoFld K cl "NotADrawing" "fault"
  t : ExcAll K cl
section
variable {P : Program} {w : World} {K : PySem.W.Frag} {mg : Str → Option Value} {base : Heap} {cl : Str → Option Addr}
abbrev s_law_cell : Stmt := topS 14
abbrev N_law_cell : List Str := ["_law_script", "_law_place", "_law_seed", "_law_cell_here"]
abbrev lv_law_cell : Nat := 1
theorem sc_law_cell : FnScope N_law_cell ["_law_script", "_law_place"] (defScope s_law_cell) := ⟨rfl, rfl, rfl, by decide +kernel, rfl, by decide +kernel, by decide +kernel⟩
def w_law_cell : WS := (wSeq (wIf (wTest (wBin woLt (wVar 1) (wCB wLen (wCons (wVar 0) wNil)))) (wSeq (wRet (wBin wIxS (wMv 0) (wVar 1)))
  wNext) wNext)
  (wSeq (wSet 2 (wC (.int 5)))
  (wSeq (wCut (wFor (tgN 3) (wSl (wVar 0) wNoP (wPt (wC (.int 63))))
  (wSeq (wSet 2 (wBin woMod (wBin woAdd (wBin woAdd (wBin woMul (wVar 2) (wC (.int 48271))) (wBin woMod (wVar 3) (wC (.int 1000003)))) (wC (.int 1))) (wC (.int 2147483647))))
  wNext)))
  (wSeq (wRet (wBin woMod (wBin woAdd (wVar 2) (wBin woMul (wC (.int 7919)) (wVar 1))) (wC (.int 1000003))))
  wNext))))
theorem st_law_cell (x0 x1 : D) : startE N_law_cell [x0, x1] = [argS x0, argS x1, none, none] := rfl
theorem d_law_cell (E : Ev K mg cl)  (f : Addr) (cdv : Value) (A : Around) (outer : List Env) (s : Shared) (H : Hp) (E0 : XK) (P0 : Addr → Prop) (hr : Room 0 (cxV P w K mg base N_law_cell "_law_cell" s_law_cell f cdv A outer s H E0).A) :
    PSs (cxV P w K mg base N_law_cell "_law_cell" s_law_cell f cdv A outer s H E0) (defBody s_law_cell) (rdS (cnOf K cl P0 H) (WXE E0) w_law_cell) := by
  have nd := sc_law_cell.nd
  exact (vss_cons (vs_if (vt_c c_lt (ve_var 1) (ve_len1 E.m_len (va_cons (ve_var 0) va_nil))) (vss_cons (vs_ret (ve_ixS (ve_mv 0) (ve_var 1)))
  vss_nil) vss_nil)
  (vss_cons (vs_set (i := 2) ve_int nd)
  (vss_cons (vs_cut (vs_for (passes_of rfl) rfl (ve_slice (ve_var 0) vo_none (vo_some ve_int)) (tg_name nd)
  (fun _ => (vss_cons (vs_set (i := 2) (ve_mod (ve_add (ve_add (ve_mul (ve_var 2) ve_int) (ve_mod (ve_var 3) ve_int)) ve_int) ve_int) nd)
  vss_nil))))
  (vss_cons (vs_ret (ve_mod (ve_add (ve_var 2) (ve_mul ve_int (ve_var 1))) ve_int))
  vss_nil))))
theorem b_law_cell (kV doc pm : Value) (an : Option Addr) (cdv ct : Value) (us : List Value) (h : us.length = 2) : bindArgs (PySem.W.fnOf "_law_cell" "_law_cell" (defArgs s_law_cell) (defBody s_law_cell) (defScope s_law_cell) .none kV doc pm an cdv ct) ⟨us, []⟩ = pure ((["_law_script", "_law_place"] : List Str).zip us) := match us, h with | [_, _], _ => rfl
theorem spec_law_cell : ∀ ds Qv Xv, XD.sp_law_cell ds Qv Xv → ds.length = 2 ∧ w_law_cell (startE N_law_cell ds) ⟨fun _ => Qv ⟨.none, mA⟩, fun r _ => Qv r, fun ex _ => Xv ex⟩ := by
  rintro ds Qv Xv ⟨script_, place_, rfl, h⟩
  refine ⟨rfl, ?_⟩
  have he : startE N_law_cell [eScr script_, eI place_] = [some (eScr script_, mS), some (eI place_, mA), none, none] := by
    rw [st_law_cell]
    try simp only [argS_F, argS_N]
  rw [he]
  have hr : RB (fun _ => True) w_law_cell [some (eScr script_, mS), some (eI place_, mA), none, none] (XD.F_law_cell script_ place_) (KT eI mA) := by
    unfold XD.F_law_cell w_law_cell
    exact (rs_ifRP kt_kt (rt_eq (rt_val (re_2P xo_lt (re_vF 1 eI (place_)) (re_cbP ((script_.length : Int)) (ra_consP (re_vS 0 eScr (script_)) ra_nil) (len_Scr (script_)))))) (rb_retI (re_eq (re_2Q xo_ixS (re_mO 0 eScr (script_)) (re_vF 1 eI (place_))))) (rs_set (re_eq (re_c (.int 5) eI (5))) (fun seed_ => [some (eScr (script_), mS), some (eI (place_), mA), some (eI (seed_), mA), none]) (fun seed_ => (rs_seqN (s := (fun (V3 : Int) => [some (eScr (script_), mS), some (eI (place_), mA), some (eI (V3), mA), none])) (rb_forP (s := (fun (V3 : Int) => [some (eScr (script_), mS), some (eI (place_), mA), some (eI (V3), mA), none])) (a := eI) seed_ (re_eq (re_slScr (re_vS 0 eScr (script_)) ro_no (ro_ptP (re_c (.int 63) eI (63))))) (el_c sl_o (el_c sl_o (el_c sl_o (el_c sl_n el_nil)))) (fun V3 cell_here_ => [some (eScr (script_), mS), some (eI (place_), mA), some (eI (V3), mA), some (eI (cell_here_), mA)]) (fun V3 cell_here_ => (rs_set (re_eq (re_modC 2147483647 (re_2P xo_add (re_2P xo_add (re_mulR 48271 (re_vF 2 eI (V3)) (re_c (.int 48271) eI (48271))) (re_modC 1000003 (re_vF 3 eI (cell_here_)) (re_c (.int 1000003) eI (1000003)))) (re_c (.int 1) eI (1))) (re_c (.int 2147483647) eI (2147483647)))) (fun seed_ => [some (eScr (script_), mS), some (eI (place_), mA), some (eI (seed_), mA), some (eI (cell_here_), mA)]) (fun seed_ => (rb_next (V := seed_) (el_c sl_o (el_c sl_o (el_c sl_o (el_c sl_n el_nil))))))))) (fun V3 => (rb_retP' (e := eI) ((V3 + (7919 * place_)) % 1000003) (re_eq (re_modC 1000003 (re_2P xo_add (re_vF 2 eI (V3)) (re_mulL 7919 (re_c (.int 7919) eI (7919)) (re_vF 1 eI (place_)))) (re_c (.int 1000003) eI (1000003))))))))))
  exact of_KT hr h
abbrev s_law_mix : Stmt := topS 15
abbrev N_law_mix : List Str := ["_law_cell_here", "_law_k", "_law_one", "_law_two"]
abbrev lv_law_mix : Nat := 1
theorem sc_law_mix : FnScope N_law_mix ["_law_cell_here", "_law_k"] (defScope s_law_mix) := ⟨rfl, rfl, rfl, by decide +kernel, rfl, by decide +kernel, by decide +kernel⟩
def w_law_mix : WS := (wSeq (wSet 2 (wBin woMod (wBin woPow (wBin woAdd (wBin woAdd (wBin woMod (wVar 0) (wC (.int 2147483629))) (wBin woMul (wC (.int 1013)) (wVar 1))) (wC (.int 7919))) (wC (.int 3))) (wC (.int 2147483647))))
  (wSeq (wSet 3 (wBin woMod (wBin woAdd (wBin woAdd (wBin woMul (wVar 2) (wC (.int 40699))) (wBin woMul (wBin woMul (wC (.int 3793)) (wVar 1)) (wVar 1))) (wC (.int 11))) (wC (.int 2147483399))))
  (wSeq (wRet (wBin woFd (wVar 3) (wC (.int 101))))
  wNext)))
theorem st_law_mix (x0 x1 : D) : startE N_law_mix [x0, x1] = [argS x0, argS x1, none, none] := rfl
theorem d_law_mix (E : Ev K mg cl)  (f : Addr) (cdv : Value) (A : Around) (outer : List Env) (s : Shared) (H : Hp) (E0 : XK) (P0 : Addr → Prop) (hr : Room 0 (cxV P w K mg base N_law_mix "_law_mix" s_law_mix f cdv A outer s H E0).A) :
    PSs (cxV P w K mg base N_law_mix "_law_mix" s_law_mix f cdv A outer s H E0) (defBody s_law_mix) (rdS (cnOf K cl P0 H) (WXE E0) w_law_mix) := by
  have nd := sc_law_mix.nd
  exact (vss_cons (vs_set (i := 2) (ve_mod (ve_pow (ve_add (ve_add (ve_mod (ve_var 0) ve_int) (ve_mul ve_int (ve_var 1))) ve_int) ve_int) ve_int) nd)
  (vss_cons (vs_set (i := 3) (ve_mod (ve_add (ve_add (ve_mul (ve_var 2) ve_int) (ve_mul (ve_mul ve_int (ve_var 1)) (ve_var 1))) ve_int) ve_int) nd)
  (vss_cons (vs_ret (ve_fd (ve_var 3) ve_int))
  vss_nil)))
theorem b_law_mix (kV doc pm : Value) (an : Option Addr) (cdv ct : Value) (us : List Value) (h : us.length = 2) : bindArgs (PySem.W.fnOf "_law_mix" "_law_mix" (defArgs s_law_mix) (defBody s_law_mix) (defScope s_law_mix) .none kV doc pm an cdv ct) ⟨us, []⟩ = pure ((["_law_cell_here", "_law_k"] : List Str).zip us) := match us, h with | [_, _], _ => rfl
theorem spec_law_mix : ∀ ds Qv Xv, XD.sp_law_mix ds Qv Xv → ds.length = 2 ∧ w_law_mix (startE N_law_mix ds) ⟨fun _ => Qv ⟨.none, mA⟩, fun r _ => Qv r, fun ex _ => Xv ex⟩ := by
  rintro ds Qv Xv ⟨cell_here_, k_, rfl, h⟩
  refine ⟨rfl, ?_⟩
  have he : startE N_law_mix [eI cell_here_, eI k_] = [some (eI cell_here_, mA), some (eI k_, mA), none, none] := by
    rw [st_law_mix]
    try simp only [argS_F, argS_N]
  rw [he]
  have hr : RB (fun _ => True) w_law_mix [some (eI cell_here_, mA), some (eI k_, mA), none, none] (XD.F_law_mix cell_here_ k_) (KT eI mA) := by
    unfold XD.F_law_mix w_law_mix
    exact (rs_set (re_eq (re_modCO 2147483647 (re_2Q xo_pow (re_2P xo_add (re_2P xo_add (re_modC 2147483629 (re_vF 0 eI (cell_here_)) (re_c (.int 2147483629) eI (2147483629))) (re_mulL 1013 (re_c (.int 1013) eI (1013)) (re_vF 1 eI (k_)))) (re_c (.int 7919) eI (7919))) (re_c (.int 3) eI (3))) (re_c (.int 2147483647) eI (2147483647)))) (fun one_ => [some (eI (cell_here_), mA), some (eI (k_), mA), some (eI (one_), mA), none]) (fun one_ => (rs_set (re_eq (re_modCO 2147483399 (re_2 (opP_out xo_add) (re_2 (opP_out xo_add) (re_mulR 40699 (re_vF 2 eI (one_)) (re_c (.int 40699) eI (40699))) (re_2Q xo_mul (re_mulL 3793 (re_c (.int 3793) eI (3793)) (re_vF 1 eI (k_))) (re_vF 1 eI (k_)))) (re_c (.int 11) eI (11))) (re_c (.int 2147483399) eI (2147483399)))) (fun two_ => [some (eI (cell_here_), mA), some (eI (k_), mA), some (eI (one_), mA), some (eI (two_), mA)]) (fun two_ => (rb_retP' (e := eI) (two_ / 101) (re_eq (re_fdC 101 (re_vF 3 eI (two_)) (re_c (.int 101) eI (101)))))))))
  exact of_KT hr h
abbrev s_law_row : Stmt := topS 16
abbrev N_law_row : List Str := ["_law_script", "_law_place", "_law_sizes", "_law_cell_here", "_law_left", "_law_some", "_law_k", "_law_other"]
abbrev lv_law_row : Nat := 2
theorem sc_law_row : FnScope N_law_row ["_law_script", "_law_place", "_law_sizes"] (defScope s_law_row) := ⟨rfl, rfl, rfl, by decide +kernel, rfl, by decide +kernel, by decide +kernel⟩
def w_law_row : WS := (wSeq (wSet 3 (wCall XD.sp_law_cell (wCons (wVar 0) (wCons (wVar 1) wNil))))
  (wSeq (wSet 4 (wVar 3))
  (wSeq (wSet 5 (wCB wLst wNil))
  (wSeq (wCut (wForR 1 6 (wCons (wCB wLen (wCons (wVar 2) wNil)) wNil)
  (wSeq (wCut (wIf (wTest (wBin woLt (wVar 3) (wBin woPow (wC (.int 10)) (wC (.int 18))))) (wSeq (wApp (wPVar 5) (wBin woMod (wCall XD.sp_law_mix (wCons (wVar 3) (wCons (wVar 6) wNil))) (wBin wIx (wVar 2) (wVar 6))))
  wNext) (wSeq (wCut (wIf (wTest (wBin woGt (wVar 4) (wC (.int 0)))) (wSeq (wApp (wPVar 5) (wBin woMod (wVar 4) (wBin wIx (wVar 2) (wVar 6))))
  (wSeq (wSet 4 (wBin woFd (wVar 4) (wBin wIx (wVar 2) (wVar 6))))
  wNext)) (wSeq (wSet 7 (wCall XD.sp_law_cell (wCons (wVar 0) (wCons (wBin woMod (wBin woAdd (wBin woAdd (wVar 1) (wC (.int 1))) (wVar 6)) (wC (.int 63))) wNil))))
  (wSeq (wApp (wPVar 5) (wBin woMod (wCall XD.sp_law_mix (wCons (wMv 7) (wCons (wVar 6) wNil))) (wBin wIx (wVar 2) (wVar 6))))
  wNext))))
  wNext)))
  wNext)))
  (wSeq (wRet (wMv 5))
  wNext)))))
theorem st_law_row (x0 x1 x2 : D) : startE N_law_row [x0, x1, x2] = [argS x0, argS x1, argS x2, none, none, none, none, none] := rfl
theorem d_law_row (E : Ev K mg cl) (G_law_cell : Def P w K mg base cl "_law_cell" 2 XD.sp_law_cell lv_law_cell) (G_law_mix : Def P w K mg base cl "_law_mix" 2 XD.sp_law_mix lv_law_mix) (f : Addr) (cdv : Value) (A : Around) (outer : List Env) (s : Shared) (H : Hp) (E0 : XK) (P0 : Addr → Prop) (hr : Room 1 (cxV P w K mg base N_law_row "_law_row" s_law_row f cdv A outer s H E0).A) :
    PSs (cxV P w K mg base N_law_row "_law_row" s_law_row f cdv A outer s H E0) (defBody s_law_row) (rdS (cnOf K cl P0 H) (WXE E0) w_law_row) := by
  have nd := sc_law_row.nd
  exact (vss_cons (vs_set (i := 3) (ve_call (k := lv_law_cell) G_law_cell (hr.mono (by decide)) (takes_of rfl rfl rfl rfl) (va_cons (ve_var 0) (va_cons (ve_var 1) va_nil))) nd)
  (vss_cons (vs_set (i := 4) (ve_var 3) nd)
  (vss_cons (vs_set (i := 5) (ve_lst va_nil) nd)
  (vss_cons (vs_cut (vs_forR1 (i := 6) (passes_of rfl) rfl E.m_range (va_cons (ve_len1 E.m_len (va_cons (ve_var 2) va_nil)) va_nil)
  (vss_cons (vs_cut (vs_if (vt_c c_lt (ve_var 3) (ve_pow ve_int ve_int)) (vss_cons (vs_app (vp_var 5) (ve_mod (ve_call (k := lv_law_mix) G_law_mix (hr.mono (by decide)) (takes_of rfl rfl rfl rfl) (va_cons (ve_var 3) (va_cons (ve_var 6) va_nil))) (ve_ix (ve_var 2) (ve_var 6))))
  vss_nil) (vss_cons (vs_cut (vs_if (vt_c c_gt (ve_var 4) ve_int) (vss_cons (vs_app (vp_var 5) (ve_mod (ve_var 4) (ve_ix (ve_var 2) (ve_var 6))))
  (vss_cons (vs_set (i := 4) (ve_fd (ve_var 4) (ve_ix (ve_var 2) (ve_var 6))) nd)
  vss_nil)) (vss_cons (vs_set (i := 7) (ve_call (k := lv_law_cell) G_law_cell (hr.mono (by decide)) (takes_of rfl rfl rfl rfl) (va_cons (ve_var 0) (va_cons (ve_mod (ve_add (ve_add (ve_var 1) ve_int) (ve_var 6)) ve_int) va_nil))) nd)
  (vss_cons (vs_app (vp_var 5) (ve_mod (ve_call (k := lv_law_mix) G_law_mix (hr.mono (by decide)) (takes_of rfl rfl rfl rfl) (va_cons (ve_mv 7) (va_cons (ve_var 6) va_nil))) (ve_ix (ve_var 2) (ve_var 6))))
  vss_nil))))
  vss_nil)))
  vss_nil) nd))
  (vss_cons (vs_ret (ve_mv 5))
  vss_nil)))))
theorem b_law_row (kV doc pm : Value) (an : Option Addr) (cdv ct : Value) (us : List Value) (h : us.length = 3) : bindArgs (PySem.W.fnOf "_law_row" "_law_row" (defArgs s_law_row) (defBody s_law_row) (defScope s_law_row) .none kV doc pm an cdv ct) ⟨us, []⟩ = pure ((["_law_script", "_law_place", "_law_sizes"] : List Str).zip us) := match us, h with | [_, _, _], _ => rfl
theorem spec_law_row : ∀ ds Qv Xv, XD.sp_law_row ds Qv Xv → ds.length = 3 ∧ w_law_row (startE N_law_row ds) ⟨fun _ => Qv ⟨.none, mA⟩, fun r _ => Qv r, fun ex _ => Xv ex⟩ := by
  rintro ds Qv Xv ⟨script_, place_, sizes_, rfl, h⟩
  refine ⟨rfl, ?_⟩
  have he : startE N_law_row [eScr script_, eI place_, (eL eI) sizes_] = [some (eScr script_, mS), some (eI place_, mA), some ((eL eI) sizes_, mS), none, none, none, none, none] := by
    rw [st_law_row]
    try simp only [argS_F, argS_N]
  rw [he]
  have hr : RB (fun _ => True) w_law_row [some (eScr script_, mS), some (eI place_, mA), some ((eL eI) sizes_, mS), none, none, none, none, none] (XD.F_law_row script_ place_ sizes_) (KT (eL eI) mA) := by
    unfold XD.F_law_row w_law_row
    exact (rs_set (re_eq (re_callP (b := eI) (M := (XD.F_law_cell script_ place_)) (ra_consP (re_vS 0 eScr (script_)) (ra_consP (re_vF 1 eI (place_)) ra_nil)) (fun Q X h => ⟨script_, place_, rfl, h⟩))) (fun cell_here_ => [some (eScr (script_), mS), some (eI (place_), mA), some ((eL eI) (sizes_), mS), some (eI (cell_here_), mA), none, none, none, none]) (fun cell_here_ => (rs_set (re_eq (re_vF 3 eI (cell_here_))) (fun left_ => [some (eScr (script_), mS), some (eI (place_), mA), some ((eL eI) (sizes_), mS), some (eI (cell_here_), mA), some (eI (left_), mA), none, none, none]) (fun left_ => (rs_set (re_eq (re_lstP (a := eI) [] ra_nil)) (fun some_ => [some (eScr (script_), mS), some (eI (place_), mA), some ((eL eI) (sizes_), mS), some (eI (cell_here_), mA), some (eI (left_), mA), some ((eL eI) (some_), mA), none, none]) (fun some_ => (rs_seqN (s := (fun (V18 : (List Int) × Int) => [some (eScr (script_), mS), some (eI (place_), mA), some ((eL eI) (sizes_), mS), some (eI (cell_here_), mA), some (eI (V18.2), mA), some ((eL eI) (V18.1), mA), none, none])) (rb_forRP (s := (fun (V18 : (List Int) × Int) => [some (eScr (script_), mS), some (eI (place_), mA), some ((eL eI) (sizes_), mS), some (eI (cell_here_), mA), some (eI (V18.2), mA), some ((eL eI) (V18.1), mA), none, none])) 0 (sizes_.length : Int) (some_, left_) (ra_consP (re_cbP ((sizes_.length : Int)) (ra_consP (re_vS 2 (eL eI) (sizes_)) ra_nil) (len_L (a := eI) (sizes_))) ra_nil) ⟨rfl, rfl⟩ (el_c sl_o (el_c sl_o (el_c sl_o (el_c sl_o (el_c sl_o (el_c sl_o (el_c sl_n (el_c sl_n el_nil)))))))) (fun V18 k_ => [some (eScr (script_), mS), some (eI (place_), mA), some ((eL eI) (sizes_), mS), some (eI (cell_here_), mA), some (eI (V18.2), mA), some ((eL eI) (V18.1), mA), some (eI (k_), mA), none]) (fun V18 k_ => (rs_seqN (s := (fun (V23 : (List Int) × Int) => [some (eScr (script_), mS), some (eI (place_), mA), some ((eL eI) (sizes_), mS), some (eI (cell_here_), mA), some (eI (V23.2), mA), some ((eL eI) (V23.1), mA), some (eI (k_), mA), none])) (rb_ifP (rt_eq (rt_val (re_2P xo_lt (re_vF 3 eI (cell_here_)) (re_powC 10 18 (re_c (.int 10) eI (10)) (re_c (.int 18) eI (18)))))) (rs_app (a := eI) (xs := V18.1) (re_eq (re_2 (opO_out xo_mod) (re_callP (b := eI) (M := (XD.F_law_mix cell_here_ k_)) (ra_consP (re_vF 3 eI (cell_here_)) (ra_consP (re_vF 6 eI (k_)) ra_nil)) (fun Q X h => ⟨cell_here_, k_, rfl, h⟩)) (re_2Q (xo_ixF (a := eI)) (re_vS 2 (eL eI) (sizes_)) (re_vF 6 eI (k_))))) (fun some_ => [some (eScr (script_), mS), some (eI (place_), mA), some ((eL eI) (sizes_), mS), some (eI (cell_here_), mA), some (eI (V18.2), mA), some ((eL eI) (some_), mA), some (eI (k_), mA), none]) (fun some_ => (rb_next (V := (some_, V18.2)) (el_c sl_o (el_c sl_o (el_c sl_o (el_c sl_o (el_c sl_o (el_c sl_o (el_c sl_o (el_c sl_n el_nil))))))))))) (rs_seqN (s := (fun (V24 : (List Int) × Int) => [some (eScr (script_), mS), some (eI (place_), mA), some ((eL eI) (sizes_), mS), some (eI (cell_here_), mA), some (eI (V24.2), mA), some ((eL eI) (V24.1), mA), some (eI (k_), mA), none])) (rb_ifP (rt_eq (rt_val (re_2P xo_gt (re_vF 4 eI (V18.2)) (re_c (.int 0) eI (0))))) (rs_app (a := eI) (xs := V18.1) (re_eq (re_2 (opO_out xo_mod) (re_vF 4 eI (V18.2)) (re_2Q (xo_ixF (a := eI)) (re_vS 2 (eL eI) (sizes_)) (re_vF 6 eI (k_))))) (fun some_ => [some (eScr (script_), mS), some (eI (place_), mA), some ((eL eI) (sizes_), mS), some (eI (cell_here_), mA), some (eI (V18.2), mA), some ((eL eI) (some_), mA), some (eI (k_), mA), none]) (fun some_ => (rs_set (re_eq (re_2 (opO_out xo_fd) (re_vF 4 eI (V18.2)) (re_2Q (xo_ixF (a := eI)) (re_vS 2 (eL eI) (sizes_)) (re_vF 6 eI (k_))))) (fun left_ => [some (eScr (script_), mS), some (eI (place_), mA), some ((eL eI) (sizes_), mS), some (eI (cell_here_), mA), some (eI (left_), mA), some ((eL eI) (some_), mA), some (eI (k_), mA), none]) (fun left_ => (rb_next (V := (some_, left_)) (el_c sl_o (el_c sl_o (el_c sl_o (el_c sl_o (el_c sl_o (el_c sl_o (el_c sl_o (el_c sl_n el_nil))))))))))))) (rs_set (re_eq (re_callP (b := eI) (M := (XD.F_law_cell script_ (((place_ + 1) + k_) % 63))) (ra_consP (re_vS 0 eScr (script_)) (ra_consP (re_modC 63 (re_2P xo_add (re_2P xo_add (re_vF 1 eI (place_)) (re_c (.int 1) eI (1))) (re_vF 6 eI (k_))) (re_c (.int 63) eI (63))) ra_nil)) (fun Q X h => ⟨script_, (((place_ + 1) + k_) % 63), rfl, h⟩))) (fun other_ => [some (eScr (script_), mS), some (eI (place_), mA), some ((eL eI) (sizes_), mS), some (eI (cell_here_), mA), some (eI (V18.2), mA), some ((eL eI) (V18.1), mA), some (eI (k_), mA), some (eI (other_), mA)]) (fun other_ => (rs_app (a := eI) (xs := V18.1) (re_eq (re_2 (opO_out xo_mod) (re_callP (b := eI) (M := (XD.F_law_mix other_ k_)) (ra_consP (re_mF 7 eI (other_)) (ra_consP (re_vF 6 eI (k_)) ra_nil)) (fun Q X h => ⟨other_, k_, rfl, h⟩)) (re_2Q (xo_ixF (a := eI)) (re_vS 2 (eL eI) (sizes_)) (re_vF 6 eI (k_))))) (fun some_ => [some (eScr (script_), mS), some (eI (place_), mA), some ((eL eI) (sizes_), mS), some (eI (cell_here_), mA), some (eI (V18.2), mA), some ((eL eI) (some_), mA), some (eI (k_), mA), some (eI (other_), mA)]) (fun some_ => (rb_next (V := (some_, V18.2)) (el_c sl_o (el_c sl_o (el_c sl_o (el_c sl_o (el_c sl_o (el_c sl_o (el_c sl_o (el_c sl_n el_nil)))))))))))))) (fun V24 => (rb_next (V := (V24.1, V24.2)) (el_c sl_o (el_c sl_o (el_c sl_o (el_c sl_o (el_c sl_o (el_c sl_o (el_c sl_o (el_c sl_n el_nil)))))))))))) (fun V23 => (rb_next (V := (V23.1, V23.2)) (el_c sl_o (el_c sl_o (el_c sl_o (el_c sl_o (el_c sl_o (el_c sl_o (el_c sl_n (el_c sl_n el_nil))))))))))))) (fun V18 => (rb_retP' (e := (eL eI)) V18.1 (re_eq (re_mO 5 (eL eI) (V18.1))))))))))))
  exact of_KT hr h
abbrev s_law_wrong : Stmt := topS 21
abbrev N_law_wrong : List Str := ["_law_some"]
abbrev lv_law_wrong : Nat := 1
theorem sc_law_wrong : FnScope N_law_wrong ["_law_some"] (defScope s_law_wrong) := ⟨rfl, rfl, rfl, by decide +kernel, rfl, by decide +kernel, by decide +kernel⟩
def w_law_wrong : WS := (wSeq (wIf (wTest (wBin woEq (wBin wIx (wVar 0) (wC (.int 0))) (wC (.int 0)))) (wSeq (wRet (wCB wTup (wCons (wC (.str (Str.ofString "walk"))) (wCons (wBin wIx (wVar 0) (wC (.int 1))) (wCons (wBin wIx (wVar 0) (wC (.int 2))) wNil)))))
  wNext) wNext)
  (wSeq (wIf (wTest (wBin woEq (wBin wIx (wVar 0) (wC (.int 0))) (wC (.int 1)))) (wSeq (wRet (wCB wTup (wCons (wC (.str (Str.ofString "sign"))) (wCons (wBin wIx (wMv 0) (wC (.int 1))) wNil))))
  wNext) wNext)
  (wSeq (wRet (wCB wTup (wCons (wC (.str (Str.ofString "many"))) (wCons (wBin woAdd (wC (.int 41)) (wBin wIx (wVar 0) (wC (.int 1)))) wNil))))
  wNext)))
theorem st_law_wrong (x0 : D) : startE N_law_wrong [x0] = [argS x0] := rfl
theorem d_law_wrong (E : Ev K mg cl)  (f : Addr) (cdv : Value) (A : Around) (outer : List Env) (s : Shared) (H : Hp) (E0 : XK) (P0 : Addr → Prop) (hr : Room 0 (cxV P w K mg base N_law_wrong "_law_wrong" s_law_wrong f cdv A outer s H E0).A) :
    PSs (cxV P w K mg base N_law_wrong "_law_wrong" s_law_wrong f cdv A outer s H E0) (defBody s_law_wrong) (rdS (cnOf K cl P0 H) (WXE E0) w_law_wrong) := by
  have nd := sc_law_wrong.nd
  exact (vss_cons (vs_if (vt_c (c_eq hr) (ve_ix (ve_var 0) ve_int) ve_int) (vss_cons (vs_ret (ve_tup (va_cons ve_str (va_cons (ve_ix (ve_var 0) ve_int) (va_cons (ve_ix (ve_var 0) ve_int) va_nil)))))
  vss_nil) vss_nil)
  (vss_cons (vs_if (vt_c (c_eq hr) (ve_ix (ve_var 0) ve_int) ve_int) (vss_cons (vs_ret (ve_tup (va_cons ve_str (va_cons (ve_ix (ve_mv 0) ve_int) va_nil))))
  vss_nil) vss_nil)
  (vss_cons (vs_ret (ve_tup (va_cons ve_str (va_cons (ve_add ve_int (ve_ix (ve_var 0) ve_int)) va_nil))))
  vss_nil)))
theorem b_law_wrong (kV doc pm : Value) (an : Option Addr) (cdv ct : Value) (us : List Value) (h : us.length = 1) : bindArgs (PySem.W.fnOf "_law_wrong" "_law_wrong" (defArgs s_law_wrong) (defBody s_law_wrong) (defScope s_law_wrong) .none kV doc pm an cdv ct) ⟨us, []⟩ = pure ((["_law_some"] : List Str).zip us) := match us, h with | [_], _ => rfl
theorem spec_law_wrong : ∀ ds Qv Xv, sp_law_wrong ds Qv Xv → ds.length = 1 ∧ w_law_wrong (startE N_law_wrong ds) ⟨fun _ => Qv ⟨.none, mA⟩, fun r _ => Qv r, fun ex _ => Xv ex⟩ := by
  rintro ds Qv Xv ⟨some_, rfl, h⟩
  refine ⟨rfl, ?_⟩
  have he : startE N_law_wrong [(eL eI) some_] = [some ((eL eI) some_, mS)] := by
    rw [st_law_wrong]
    try simp only [argS_F, argS_N]
  rw [he]
  have hr : RB (fun _ => True) w_law_wrong [some ((eL eI) some_, mS)] (F_law_wrong some_) (KT (eTL eA) mA) := by
    unfold F_law_wrong w_law_wrong
    exact (rs_ifR kt_kt (rt_eq (rt_val (re_2 (opP_out xo_eqI) (re_2Q (xo_ixF (a := eI)) (re_vS 0 (eL eI) (some_)) (re_c (.int 0) eI (0))) (re_c (.int 0) eI (0))))) (rb_ret (e := (eTL eA)) (fun x => ([.s x.1, .i x.2.1, .i x.2.2] : List At)) (re_eq (re_tupF (a := (e3 eS eI eI)) (fun (t : Str × Int × Int × Unit) => (t.1, t.2.1, t.2.2.1)) (ra_cons (re_c (.str (Str.ofString "walk")) eS (Str.ofString "walk")) (ra_cons (re_2Q (xo_ixF (a := eI)) (re_vS 0 (eL eI) (some_)) (re_c (.int 1) eI (1))) (ra_cons (re_2Q (xo_ixF (a := eI)) (re_vS 0 (eL eI) (some_)) (re_c (.int 2) eI (2))) ra_nil)))))) (rs_ifR kt_kt (rt_eq (rt_val (re_2 (opP_out xo_eqI) (re_2Q (xo_ixF (a := eI)) (re_vS 0 (eL eI) (some_)) (re_c (.int 0) eI (0))) (re_c (.int 1) eI (1))))) (rb_ret (e := (eTL eA)) (fun x => ([.s x.1, .i x.2] : List At)) (re_eq (re_tupF (a := (e2 eS eI)) (fun (t : Str × Int × Unit) => (t.1, t.2.1)) (ra_cons (re_c (.str (Str.ofString "sign")) eS (Str.ofString "sign")) (ra_cons (re_2Q (xo_ixF (a := eI)) (re_mO 0 (eL eI) (some_)) (re_c (.int 1) eI (1))) ra_nil))))) (rb_ret (e := (eTL eA)) (fun x => ([.s x.1, .i x.2] : List At)) (re_eq (re_tupF (a := (e2 eS eI)) (fun (t : Str × Int × Unit) => (t.1, t.2.1)) (ra_cons (re_c (.str (Str.ofString "many")) eS (Str.ofString "many")) (ra_cons (re_2 (opP_out xo_add) (re_c (.int 41) eI (41)) (re_2Q (xo_ixF (a := eI)) (re_vS 0 (eL eI) (some_)) (re_c (.int 1) eI (1)))) ra_nil)))))))
  exact of_KT hr h
abbrev si_NoChain : Stmt := (clsBody (topS 10)).getD 0 (.Pass ⟨0, 0, 0, 0⟩)
theorem sci_NoChain : FnScope ["self", "at"] ["self", "at"] (defScope si_NoChain) := ⟨rfl, rfl, rfl, by decide +kernel, rfl, by decide +kernel, by decide +kernel⟩
theorem di_NoChain (f' : Addr) (cdv : Value) (A : Around) (outer : List Env) (s : Shared) (H : Hp) (E : XK) : PSs (cxOf (L2.CX P w) P w K mg base ["self", "at"] "NoChain.__init__" (defScope si_NoChain) f' cdv A outer s H E) (defBody si_NoChain) (tOst K "at" (tVar 0) (tVar 1)) := pss_one (ps_ost (pe_var (i := 0) rfl (Or.inl rfl)) (pe_var (i := 1) rfl (Or.inl rfl)))
theorem bi_NoChain (kV doc pm : Value) (an : Option Addr) (cdv ct : Value) (us : List Value) (h : us.length = 2) : bindArgs (PySem.W.fnOf "__init__" "NoChain.__init__" (defArgs si_NoChain) (defBody si_NoChain) (defScope si_NoChain) .none kV doc pm an cdv ct) ⟨us, []⟩ = pure ((["self", "at"] : List Str).zip us) := match us, h with | [_, _], _ => rfl
abbrev si_NotADrawing : Stmt := (clsBody (topS 2)).getD 0 (.Pass ⟨0, 0, 0, 0⟩)
theorem sci_NotADrawing : FnScope ["self", "fault"] ["self", "fault"] (defScope si_NotADrawing) := ⟨rfl, rfl, rfl, by decide +kernel, rfl, by decide +kernel, by decide +kernel⟩
theorem di_NotADrawing (f' : Addr) (cdv : Value) (A : Around) (outer : List Env) (s : Shared) (H : Hp) (E : XK) : PSs (cxOf (L2.CX P w) P w K mg base ["self", "fault"] "NotADrawing.__init__" (defScope si_NotADrawing) f' cdv A outer s H E) (defBody si_NotADrawing) (tOst K "fault" (tVar 0) (tVar 1)) := pss_one (ps_ost (pe_var (i := 0) rfl (Or.inl rfl)) (pe_var (i := 1) rfl (Or.inl rfl)))
theorem bi_NotADrawing (kV doc pm : Value) (an : Option Addr) (cdv ct : Value) (us : List Value) (h : us.length = 2) : bindArgs (PySem.W.fnOf "__init__" "NotADrawing.__init__" (defArgs si_NotADrawing) (defBody si_NotADrawing) (defScope si_NotADrawing) .none kV doc pm an cdv ct) ⟨us, []⟩ = pure ((["self", "fault"] : List Str).zip us) := match us, h with | [_, _], _ => rfl
abbrev s_law_thrown : Stmt := topS 18
abbrev N_law_thrown : List Str := ["_law_which", "_law_at", "_law_wrong_here"]
abbrev lv_law_thrown : Nat := 3
theorem sc_law_thrown : FnScope N_law_thrown ["_law_which", "_law_at", "_law_wrong_here"] (defScope s_law_thrown) := ⟨rfl, rfl, rfl, by decide +kernel, rfl, by decide +kernel, by decide +kernel⟩
def w_law_thrown : WS := (wSeq (wIf (wTest (wBin woEq (wVar 0) (wC (.int 0)))) (wSeq (wRaiseF "NotADrawing" "fault" (wVar 2))
  wNext) wNext)
  (wSeq (wIf (wTest (wBin woEq (wVar 0) (wC (.int 1)))) (wSeq (wRaise "NoCrossing")
  wNext) wNext)
  (wSeq (wIf (wTest (wBin woEq (wVar 0) (wC (.int 2)))) (wSeq (wRaise "TooBig")
  wNext) wNext)
  (wSeq (wIf (wTest (wBin woEq (wVar 0) (wC (.int 3)))) (wSeq (wRaise "NoUnit")
  wNext) wNext)
  (wSeq (wIf (wTest (wBin woEq (wVar 0) (wC (.int 4)))) (wSeq (wRaise "NotClosed")
  wNext) wNext)
  (wSeq (wIf (wTest (wBin woEq (wVar 0) (wC (.int 5)))) (wSeq (wRaise "NoFit")
  wNext) wNext)
  (wSeq (wIf (wTest (wBin woEq (wVar 0) (wC (.int 6)))) (wSeq (wRaise "TooMuch")
  wNext) wNext)
  (wSeq (wIf (wTest (wBin woEq (wVar 0) (wC (.int 7)))) (wSeq (wRaise "NoMove")
  wNext) wNext)
  (wSeq (wIf (wTest (wBin woEq (wVar 0) (wC (.int 8)))) (wSeq (wRaiseF "NoChain" "at" (wVar 1))
  wNext) wNext)
  (wSeq (wIf (wTest (wBin woEq (wVar 0) (wC (.int 9)))) (wSeq (wRaise "NoPrime")
  wNext) wNext)
  (wSeq (wIf (wTest (wBin woEq (wVar 0) (wC (.int 10)))) (wSeq (wRaise "NoLine")
  wNext) wNext)
  (wSeq (wRaise "PlaitError")
  wNext))))))))))))
theorem st_law_thrown (x0 x1 x2 : D) : startE N_law_thrown [x0, x1, x2] = [argS x0, argS x1, argS x2] := rfl
theorem d_law_thrown (E : Ev K mg cl) (H_NoChain : ErrF P w K mg base cl "NoChain" "at") (H_NotADrawing : ErrF P w K mg base cl "NotADrawing" "fault") (f : Addr) (cdv : Value) (A : Around) (outer : List Env) (s : Shared) (H : Hp) (E0 : XK) (P0 : Addr → Prop) (hr : Room 2 (cxV P w K mg base N_law_thrown "_law_thrown" s_law_thrown f cdv A outer s H E0).A) :
    PSs (cxV P w K mg base N_law_thrown "_law_thrown" s_law_thrown f cdv A outer s H E0) (defBody s_law_thrown) (rdS (cnOf K cl P0 H) (WXE E0) w_law_thrown) := by
  have nd := sc_law_thrown.nd
  exact (vss_cons (vs_if (vt_c (c_eq hr) (ve_var 0) ve_int) (vss_cons (vs_raiseF H_NotADrawing hr (by decide) rfl (takes_of rfl rfl rfl rfl) (ve_var 2))
  vss_nil) vss_nil)
  (vss_cons (vs_if (vt_c (c_eq hr) (ve_var 0) ve_int) (vss_cons (vs_raiseE E.x_NoCrossing rfl (takes_of rfl rfl rfl rfl))
  vss_nil) vss_nil)
  (vss_cons (vs_if (vt_c (c_eq hr) (ve_var 0) ve_int) (vss_cons (vs_raiseE E.x_TooBig rfl (takes_of rfl rfl rfl rfl))
  vss_nil) vss_nil)
  (vss_cons (vs_if (vt_c (c_eq hr) (ve_var 0) ve_int) (vss_cons (vs_raiseE E.x_NoUnit rfl (takes_of rfl rfl rfl rfl))
  vss_nil) vss_nil)
  (vss_cons (vs_if (vt_c (c_eq hr) (ve_var 0) ve_int) (vss_cons (vs_raiseE E.x_NotClosed rfl (takes_of rfl rfl rfl rfl))
  vss_nil) vss_nil)
  (vss_cons (vs_if (vt_c (c_eq hr) (ve_var 0) ve_int) (vss_cons (vs_raiseE E.x_NoFit rfl (takes_of rfl rfl rfl rfl))
  vss_nil) vss_nil)
  (vss_cons (vs_if (vt_c (c_eq hr) (ve_var 0) ve_int) (vss_cons (vs_raiseE E.x_TooMuch rfl (takes_of rfl rfl rfl rfl))
  vss_nil) vss_nil)
  (vss_cons (vs_if (vt_c (c_eq hr) (ve_var 0) ve_int) (vss_cons (vs_raiseE E.x_NoMove rfl (takes_of rfl rfl rfl rfl))
  vss_nil) vss_nil)
  (vss_cons (vs_if (vt_c (c_eq hr) (ve_var 0) ve_int) (vss_cons (vs_raiseF H_NoChain hr (by decide) rfl (takes_of rfl rfl rfl rfl) (ve_var 1))
  vss_nil) vss_nil)
  (vss_cons (vs_if (vt_c (c_eq hr) (ve_var 0) ve_int) (vss_cons (vs_raiseE E.x_NoPrime rfl (takes_of rfl rfl rfl rfl))
  vss_nil) vss_nil)
  (vss_cons (vs_if (vt_c (c_eq hr) (ve_var 0) ve_int) (vss_cons (vs_raiseE E.x_NoLine rfl (takes_of rfl rfl rfl rfl))
  vss_nil) vss_nil)
  (vss_cons (vs_raiseE E.x_PlaitError rfl (takes_of rfl rfl rfl rfl))
  vss_nil))))))))))))
theorem b_law_thrown (kV doc pm : Value) (an : Option Addr) (cdv ct : Value) (us : List Value) (h : us.length = 3) : bindArgs (PySem.W.fnOf "_law_thrown" "_law_thrown" (defArgs s_law_thrown) (defBody s_law_thrown) (defScope s_law_thrown) .none kV doc pm an cdv ct) ⟨us, []⟩ = pure ((["_law_which", "_law_at", "_law_wrong_here"] : List Str).zip us) := match us, h with | [_, _, _], _ => rfl
theorem spec_law_thrown : ∀ ds Qv Xv, sp_law_thrown ds Qv Xv → ds.length = 3 ∧ w_law_thrown (startE N_law_thrown ds) ⟨fun _ => Qv ⟨.none, mA⟩, fun r _ => Qv r, fun ex _ => Xv ex⟩ := by
  rintro ds Qv Xv ⟨which_, at_, wrong_here_, rfl, h⟩
  refine ⟨rfl, ?_⟩
  have he : startE N_law_thrown [eI which_, eI at_, (eTL eA) wrong_here_] = [some (eI which_, mA), some (eI at_, mA), some ((eTL eA) wrong_here_, mA)] := by
    rw [st_law_thrown]
    try simp only [argS_F, argS_N]
  rw [he]
  have hr : RB (fun _ => True) w_law_thrown [some (eI which_, mA), some (eI at_, mA), some ((eTL eA) wrong_here_, mA)] (F_law_thrown which_ at_ wrong_here_) (KT eN mA) := by
    unfold F_law_thrown w_law_thrown
    exact (rs_ifRP kt_kt (rt_eq (rt_val (re_2P xo_eqI (re_vF 0 eI (which_)) (re_c (.int 0) eI (0))))) (rb_raiseF (e := (eTL eA)) (re_eq (re_vF 2 (eTL eA) (wrong_here_)))) (rs_ifRP kt_kt (rt_eq (rt_val (re_2P xo_eqI (re_vF 0 eI (which_)) (re_c (.int 1) eI (1))))) (rb_raise) (rs_ifRP kt_kt (rt_eq (rt_val (re_2P xo_eqI (re_vF 0 eI (which_)) (re_c (.int 2) eI (2))))) (rb_raise) (rs_ifRP kt_kt (rt_eq (rt_val (re_2P xo_eqI (re_vF 0 eI (which_)) (re_c (.int 3) eI (3))))) (rb_raise) (rs_ifRP kt_kt (rt_eq (rt_val (re_2P xo_eqI (re_vF 0 eI (which_)) (re_c (.int 4) eI (4))))) (rb_raise) (rs_ifRP kt_kt (rt_eq (rt_val (re_2P xo_eqI (re_vF 0 eI (which_)) (re_c (.int 5) eI (5))))) (rb_raise) (rs_ifRP kt_kt (rt_eq (rt_val (re_2P xo_eqI (re_vF 0 eI (which_)) (re_c (.int 6) eI (6))))) (rb_raise) (rs_ifRP kt_kt (rt_eq (rt_val (re_2P xo_eqI (re_vF 0 eI (which_)) (re_c (.int 7) eI (7))))) (rb_raise) (rs_ifRP kt_kt (rt_eq (rt_val (re_2P xo_eqI (re_vF 0 eI (which_)) (re_c (.int 8) eI (8))))) (rb_raiseF (e := eI) (re_eq (re_vF 1 eI (at_)))) (rs_ifRP kt_kt (rt_eq (rt_val (re_2P xo_eqI (re_vF 0 eI (which_)) (re_c (.int 9) eI (9))))) (rb_raise) (rs_ifRP kt_kt (rt_eq (rt_val (re_2P xo_eqI (re_vF 0 eI (which_)) (re_c (.int 10) eI (10))))) (rb_raise) (rb_raise))))))))))))
  exact of_KT hr h
abbrev s_law_is_whole : Stmt := topS 17
abbrev N_law_is_whole : List Str := ["_law_one"]
abbrev lv_law_is_whole : Nat := 1
theorem sc_law_is_whole : FnScope N_law_is_whole ["_law_one"] (defScope s_law_is_whole) := ⟨rfl, rfl, rfl, by decide +kernel, rfl, by decide +kernel, by decide +kernel⟩
def w_law_is_whole : WS := (wSeq (wRet (wAndV (wIsi "int" (wVar 0)) (wNotV (wIsi "bool" (wVar 0)))))
  wNext)
theorem st_law_is_whole (x0 : D) : startE N_law_is_whole [x0] = [argS x0] := rfl
theorem d_law_is_whole (E : Ev K mg cl)  (f : Addr) (cdv : Value) (A : Around) (outer : List Env) (s : Shared) (H : Hp) (E0 : XK) (P0 : Addr → Prop) (hr : Room 0 (cxV P w K mg base N_law_is_whole "_law_is_whole" s_law_is_whole f cdv A outer s H E0).A) :
    PSs (cxV P w K mg base N_law_is_whole "_law_is_whole" s_law_is_whole f cdv A outer s H E0) (defBody s_law_is_whole) (rdS (cnOf K cl P0 H) (WXE E0) w_law_is_whole) := by
  have nd := sc_law_is_whole.nd
  exact (vss_cons (vs_ret (ve_and (ve_isi ta_int E.m_isinstance E.m_int (by decide +kernel) (ve_var 0)) (ve_one (ve_not (ve_isi ta_bool E.m_isinstance E.m_bool (by decide +kernel) (ve_var 0))))))
  vss_nil)
theorem b_law_is_whole (kV doc pm : Value) (an : Option Addr) (cdv ct : Value) (us : List Value) (h : us.length = 1) : bindArgs (PySem.W.fnOf "_law_is_whole" "_law_is_whole" (defArgs s_law_is_whole) (defBody s_law_is_whole) (defScope s_law_is_whole) .none kV doc pm an cdv ct) ⟨us, []⟩ = pure ((["_law_one"] : List Str).zip us) := match us, h with | [_], _ => rfl
theorem spec_law_is_whole : ∀ ds Qv Xv, sp_law_is_whole ds Qv Xv → ds.length = 1 ∧ w_law_is_whole (startE N_law_is_whole ds) ⟨fun _ => Qv ⟨.none, mA⟩, fun r _ => Qv r, fun ex _ => Xv ex⟩ := by
  rintro ds Qv Xv ⟨one_, rfl, h⟩
  refine ⟨rfl, ?_⟩
  have he : startE N_law_is_whole [eF one_] = [some (eF one_, mA)] := by
    rw [st_law_is_whole]
    try simp only [argS_F, argS_N]
  rw [he]
  have hr : RB (fun _ => True) w_law_is_whole [some (eF one_, mA)] (F_law_is_whole one_) (KT eB mA) := by
    unfold F_law_is_whole w_law_is_whole
    exact (rb_retP' (e := eB) (tyIs "int" one_.1 && !(tyIs "bool" one_.1)) (re_eq (re_andP (re_isiF (re_vF 0 eF (one_))) (re_notP (re_isiF (re_vF 0 eF (one_)))))))
  exact of_KT hr h
abbrev s_law_fields : Stmt := topS 20
abbrev N_law_fields : List Str := ["_law_at", "_law_wrong_here", "_law_found", "e"]
abbrev lv_law_fields : Nat := 4
theorem sc_law_fields : FnScope N_law_fields ["_law_at", "_law_wrong_here"] (defScope s_law_fields) := ⟨rfl, rfl, rfl, by decide +kernel, rfl, by decide +kernel, by decide +kernel⟩
def w_law_fields : WS := (wSeq (wSet 2 (wCB wLst (wCons (wC .none) (wCons (wC .none) wNil))))
  (wSeq (wCut (wTryF (wSeq (wExpr (wCall sp_law_thrown (wCons (wC (.int 8)) (wCons (wVar 0) (wCons (wVar 1) wNil)))))
  wNext) ["NoChain"] 3 (fun ad48 ex47 => wPre (wSeq (wPut (wPVar 2) (wC (.int 0)) (wXf 3 ad48 ex47 "NoChain" "at"))
  wNext))))
  (wSeq (wCut (wTryF (wSeq (wExpr (wCall sp_law_thrown (wCons (wC (.int 0)) (wCons (wVar 0) (wCons (wVar 1) wNil)))))
  wNext) ["NotADrawing"] 3 (fun ad51 ex50 => wPre (wSeq (wPut (wPVar 2) (wC (.int 1)) (wXf 3 ad51 ex50 "NotADrawing" "fault"))
  wNext))))
  (wSeq (wIf (wOr (wNot (wTest (wCall sp_law_is_whole (wCons (wBin wIx (wVar 2) (wC (.int 0))) wNil)))) (wNot (wTest (wIsi "tuple" (wBin wIx (wVar 2) (wC (.int 1))))))) (wSeq (wRet (wC (.bool false)))
  wNext) wNext)
  (wSeq (wRet (wBin woEq (wVar 2) (wCB wLst (wCons (wVar 0) (wCons (wVar 1) wNil)))))
  wNext)))))
theorem st_law_fields (x0 x1 : D) : startE N_law_fields [x0, x1] = [argS x0, argS x1, none, none] := rfl
theorem d_law_fields (E : Ev K mg cl) (G_law_thrown : Def P w K mg base cl "_law_thrown" 3 sp_law_thrown lv_law_thrown) (G_law_is_whole : Def P w K mg base cl "_law_is_whole" 1 sp_law_is_whole lv_law_is_whole) (f : Addr) (cdv : Value) (A : Around) (outer : List Env) (s : Shared) (H : Hp) (E0 : XK) (P0 : Addr → Prop) (hr : Room 3 (cxV P w K mg base N_law_fields "_law_fields" s_law_fields f cdv A outer s H E0).A) :
    PSs (cxV P w K mg base N_law_fields "_law_fields" s_law_fields f cdv A outer s H E0) (defBody s_law_fields) (rdS (cnOf K cl P0 H) (WXE E0) w_law_fields) := by
  have nd := sc_law_fields.nd
  exact (vss_cons (vs_set (i := 2) (ve_lst (va_cons ve_non (va_cons ve_non va_nil))) nd)
  (vss_cons (vs_cut (vs_tryF (i := 3) rfl rfl nd E.k_NoChain (takes_of rfl rfl rfl rfl) (fun _ _ _ tk1 hp1 => (vss_cons (vs_expr (ve_call (k := lv_law_thrown) G_law_thrown (hr.mono (by decide)) tk1 (va_cons ve_int (va_cons (ve_var 0) (va_cons (ve_var 1) va_nil)))))
  vss_nil)) (fun ad48 oe ex47 D d pn R_ H1_ hs_ eD xf hz hv => vss_pre (vss_cons (vs_put (vp_var 2) ve_int (ve_xf E.t eD xf hz hv E.n_NoChain 3))
  vss_nil))))
  (vss_cons (vs_cut (vs_tryF (i := 3) rfl rfl nd E.k_NotADrawing (takes_of rfl rfl rfl rfl) (fun _ _ _ tk1 hp1 => (vss_cons (vs_expr (ve_call (k := lv_law_thrown) G_law_thrown (hr.mono (by decide)) tk1 (va_cons ve_int (va_cons (ve_var 0) (va_cons (ve_var 1) va_nil)))))
  vss_nil)) (fun ad51 oe ex50 D d pn R_ H1_ hs_ eD xf hz hv => vss_pre (vss_cons (vs_put (vp_var 2) ve_int (ve_xf E.t eD xf hz hv E.n_NotADrawing 3))
  vss_nil))))
  (vss_cons (vs_if (PW.pt (vw_or (vt_not (vt_val (ve_call (k := lv_law_is_whole) G_law_is_whole (hr.mono (by decide)) (takes_of rfl rfl rfl rfl) (va_cons (ve_ix (ve_var 2) ve_int) va_nil)))) (vw_or1 (vt_not (vt_val (ve_isi ta_tuple E.m_isinstance E.m_tuple (by decide +kernel) (ve_ix (ve_var 2) ve_int))))))) (vss_cons (vs_ret ve_bl)
  vss_nil) vss_nil)
  (vss_cons (vs_ret (ve_c (c_eq hr) (ve_var 2) (ve_lst (va_cons (ve_var 0) (va_cons (ve_var 1) va_nil)))))
  vss_nil)))))
theorem b_law_fields (kV doc pm : Value) (an : Option Addr) (cdv ct : Value) (us : List Value) (h : us.length = 2) : bindArgs (PySem.W.fnOf "_law_fields" "_law_fields" (defArgs s_law_fields) (defBody s_law_fields) (defScope s_law_fields) .none kV doc pm an cdv ct) ⟨us, []⟩ = pure ((["_law_at", "_law_wrong_here"] : List Str).zip us) := match us, h with | [_, _], _ => rfl
theorem spec_law_fields : ∀ ds Qv Xv, sp_law_fields ds Qv Xv → ds.length = 2 ∧ w_law_fields (startE N_law_fields ds) ⟨fun _ => Qv ⟨.none, mA⟩, fun r _ => Qv r, fun ex _ => Xv ex⟩ := by
  rintro ds Qv Xv ⟨at_, wrong_here_, rfl, h⟩
  refine ⟨rfl, ?_⟩
  have he : startE N_law_fields [eI at_, (eTL eA) wrong_here_] = [some (eI at_, mA), some ((eTL eA) wrong_here_, mA), none, none] := by
    rw [st_law_fields]
    try simp only [argS_F, argS_N]
  rw [he]
  have hr : RB (fun _ => True) w_law_fields [some (eI at_, mA), some ((eTL eA) wrong_here_, mA), none, none] (F_law_fields at_ wrong_here_) (KT eB mA) := by
    unfold F_law_fields w_law_fields
    exact (rs_set (re_eq (re_lstFP (a := eF) [(fN), (fN)] (ra_consP (re_as (b := eF) (fN) (re_c .none eN (()))) (ra_consP (re_as (b := eF) (fN) (re_c .none eN (()))) ra_nil)))) (fun found_ => [some (eI (at_), mA), some ((eTL eA) (wrong_here_), mA), some ((eL eF) (found_), mA), none]) (fun found_ => (rs_seqN (s := (fun (V49 : (List FD)) => [some (eI (at_), mA), some ((eTL eA) (wrong_here_), mA), some ((eL eF) (V49), mA), none])) (rb_tryFN [some (eI (at_), mA), some ((eTL eA) (wrong_here_), mA), some ((eL eF) (found_), mA), none] (rs_expr (re_eq (re_callP (b := eN) (M := (F_law_thrown 8 at_ wrong_here_)) (ra_consP (re_c (.int 8) eI (8)) (ra_consP (re_vF 0 eI (at_)) (ra_consP (re_vF 1 (eTL eA) (wrong_here_)) ra_nil))) (fun Q X h => ⟨8, at_, wrong_here_, rfl, h⟩) (hg := (el_c sl_o (el_c sl_o (el_c sl_o (el_c sl_n el_nil))))))) (fun _ => (rb_next (V := found_) (el_c sl_o (el_c sl_o (el_c sl_o (el_c sl_n el_nil))))))) (fun ad48 ex47 => (rs_put (a := eF) (xs := found_) (re_eq (re_asO (b := eF) (fun x => fI x) (re_xf (a := eI)))) (re_eq (re_c (.int 0) eI (0))) (fun found_ => [some (eI (at_), mA), some ((eTL eA) (wrong_here_), mA), some ((eL eF) (found_), mA), some (opD ad48, mS)]) (fun found_ => (rb_next (V := found_) (el_c sl_o (el_c sl_o (el_c sl_o (el_c sl_n el_nil))))))))) (fun V49 => (rs_seqN (s := (fun (V52 : (List FD)) => [some (eI (at_), mA), some ((eTL eA) (wrong_here_), mA), some ((eL eF) (V52), mA), none])) (rb_tryFN [some (eI (at_), mA), some ((eTL eA) (wrong_here_), mA), some ((eL eF) (V49), mA), none] (rs_expr (re_eq (re_callP (b := eN) (M := (F_law_thrown 0 at_ wrong_here_)) (ra_consP (re_c (.int 0) eI (0)) (ra_consP (re_vF 0 eI (at_)) (ra_consP (re_vF 1 (eTL eA) (wrong_here_)) ra_nil))) (fun Q X h => ⟨0, at_, wrong_here_, rfl, h⟩) (hg := (el_c sl_o (el_c sl_o (el_c sl_o (el_c sl_n el_nil))))))) (fun _ => (rb_next (V := V49) (el_c sl_o (el_c sl_o (el_c sl_o (el_c sl_n el_nil))))))) (fun ad51 ex50 => (rs_put (a := eF) (xs := V49) (re_eq (re_asO (b := eF) (fun x => fTA x) (re_xf (a := (eTL eA))))) (re_eq (re_c (.int 1) eI (1))) (fun found_ => [some (eI (at_), mA), some ((eTL eA) (wrong_here_), mA), some ((eL eF) (found_), mA), some (opD ad51, mS)]) (fun found_ => (rb_next (V := found_) (el_c sl_o (el_c sl_o (el_c sl_o (el_c sl_n el_nil))))))))) (fun V52 => (rs_ifR kt_kt (rt_eq (rt_or (rt_not (rt_val (re_call (b := eB) (M := fun (t : FD × Unit) => F_law_is_whole t.1) (ra_cons (re_2Q (xo_ixF (a := eF)) (re_vA 2 (eL eF) (V52)) (re_c (.int 0) eI (0))) ra_nil) (fun (t : FD × Unit) Q X h => ⟨t.1, rfl, h⟩)))) (rt_not (rt_val (re_isiFO (re_2Q (xo_ixF (a := eF)) (re_vA 2 (eL eF) (V52)) (re_c (.int 1) eI (1)))))))) (rb_retP' (e := eB) false (re_eq (re_c (.bool false) eB (false)))) (rb_retI (re_eq (re_2Q (xo_eqG (a := (eL eF)) (b := (eL eF))) (re_vA 2 (eL eF) (V52)) (re_lstFP (a := eF) [(fI at_), (fTA wrong_here_)] (ra_consP (re_as (b := eF) (fI at_) (re_vF 0 eI (at_))) (ra_consP (re_as (b := eF) (fTA wrong_here_) (re_vF 1 (eTL eA) (wrong_here_))) ra_nil)))))))))))))
  exact of_KT hr h
abbrev s_law_sorts : Stmt := topS 19
abbrev N_law_sorts : List Str := ["_law_which", "_law_at", "_law_wrong_here", "e", "_law_some"]
abbrev lv_law_sorts : Nat := 4
theorem sc_law_sorts : FnScope N_law_sorts ["_law_which", "_law_at", "_law_wrong_here"] (defScope s_law_sorts) := ⟨rfl, rfl, rfl, by decide +kernel, rfl, by decide +kernel, by decide +kernel⟩
def w_law_sorts : WS := (wSeq (wCut (wTryF (wSeq (wExpr (wCall sp_law_thrown (wCons (wMv 0) (wCons (wMv 1) (wCons (wMv 2) wNil)))))
  wNext) ["PlaitError", "NotADrawing", "NoCrossing", "TooBig", "NoUnit", "NotClosed", "NoFit", "TooMuch", "NoMove", "NoChain", "NoPrime", "NoLine"] 3 (fun ad33 ex32 => wPre (wSeq (wSet 4 (wCB wLst (wCons (wIsE 3 ad33 ((["NotADrawing"] : List Str).contains ex32.cls)) (wCons (wIsE 3 ad33 ((["NoCrossing"] : List Str).contains ex32.cls)) (wCons (wIsE 3 ad33 ((["TooBig"] : List Str).contains ex32.cls)) wNil)))))
  (wSeq (wExt (wPVar 4) (wCB wLst (wCons (wIsE 3 ad33 ((["NoUnit"] : List Str).contains ex32.cls)) (wCons (wIsE 3 ad33 ((["NotClosed"] : List Str).contains ex32.cls)) (wCons (wIsE 3 ad33 ((["NoFit"] : List Str).contains ex32.cls)) wNil)))))
  (wSeq (wExt (wPVar 4) (wCB wLst (wCons (wIsE 3 ad33 ((["TooMuch"] : List Str).contains ex32.cls)) (wCons (wIsE 3 ad33 ((["NoMove"] : List Str).contains ex32.cls)) (wCons (wIsE 3 ad33 ((["NoChain"] : List Str).contains ex32.cls)) wNil)))))
  (wSeq (wExt (wPVar 4) (wCB wLst (wCons (wIsE 3 ad33 ((["NoPrime"] : List Str).contains ex32.cls)) (wCons (wIsE 3 ad33 ((["NoLine"] : List Str).contains ex32.cls)) wNil))))
  (wSeq (wIf (wTest (wIsE 3 ad33 ((["PlaitError", "NotADrawing", "NoCrossing", "TooBig", "NoUnit", "NotClosed", "NoFit", "TooMuch", "NoMove", "NoChain", "NoPrime", "NoLine"] : List Str).contains ex32.cls))) (wSeq (wRet (wMv 4))
  wNext) wNext)
  wNext))))))))
  (wSeq (wRet (wCB wLst wNil))
  wNext))
theorem st_law_sorts (x0 x1 x2 : D) : startE N_law_sorts [x0, x1, x2] = [argS x0, argS x1, argS x2, none, none] := rfl
theorem d_law_sorts (E : Ev K mg cl) (G_law_thrown : Def P w K mg base cl "_law_thrown" 3 sp_law_thrown lv_law_thrown) (f : Addr) (cdv : Value) (A : Around) (outer : List Env) (s : Shared) (H : Hp) (E0 : XK) (P0 : Addr → Prop) (hr : Room 3 (cxV P w K mg base N_law_sorts "_law_sorts" s_law_sorts f cdv A outer s H E0).A) :
    PSs (cxV P w K mg base N_law_sorts "_law_sorts" s_law_sorts f cdv A outer s H E0) (defBody s_law_sorts) (rdS (cnOf K cl P0 H) (WXE E0) w_law_sorts) := by
  have nd := sc_law_sorts.nd
  exact (vss_cons (vs_cut (vs_tryF (i := 3) rfl rfl nd E.k_PlaitError (takes_of rfl rfl rfl rfl) (fun _ _ _ tk1 hp1 => (vss_cons (vs_expr (ve_call (k := lv_law_thrown) G_law_thrown (hr.mono (by decide)) tk1 (va_cons (ve_mv 0) (va_cons (ve_mv 1) (va_cons (ve_mv 2) va_nil)))))
  vss_nil)) (fun ad33 oe ex32 D d pn R_ H1_ hs_ eD xf hz hv => vss_pre (vss_cons (vs_set (i := 4) (ve_lst (va_cons (ve_isEF E.t eD xf hz hv E.q_NotADrawing E.m_isinstance 3) (va_cons (ve_isEF E.t eD xf hz hv E.q_NoCrossing E.m_isinstance 3) (va_cons (ve_isEF E.t eD xf hz hv E.q_TooBig E.m_isinstance 3) va_nil)))) nd)
  (vss_cons (vs_ext (vp_var 4) (ve_lst (va_cons (ve_isEF E.t eD xf hz hv E.q_NoUnit E.m_isinstance 3) (va_cons (ve_isEF E.t eD xf hz hv E.q_NotClosed E.m_isinstance 3) (va_cons (ve_isEF E.t eD xf hz hv E.q_NoFit E.m_isinstance 3) va_nil)))))
  (vss_cons (vs_ext (vp_var 4) (ve_lst (va_cons (ve_isEF E.t eD xf hz hv E.q_TooMuch E.m_isinstance 3) (va_cons (ve_isEF E.t eD xf hz hv E.q_NoMove E.m_isinstance 3) (va_cons (ve_isEF E.t eD xf hz hv E.q_NoChain E.m_isinstance 3) va_nil)))))
  (vss_cons (vs_ext (vp_var 4) (ve_lst (va_cons (ve_isEF E.t eD xf hz hv E.q_NoPrime E.m_isinstance 3) (va_cons (ve_isEF E.t eD xf hz hv E.q_NoLine E.m_isinstance 3) va_nil))))
  (vss_cons (vs_if (vt_val (ve_isEFB E.t eD xf hz hv E.q_ValueError E.m_ValueError E.m_isinstance 3)) (vss_cons (vs_ret (ve_mv 4))
  vss_nil) vss_nil)
  vss_nil))))))))
  (vss_cons (vs_ret (ve_lst va_nil))
  vss_nil))
theorem b_law_sorts (kV doc pm : Value) (an : Option Addr) (cdv ct : Value) (us : List Value) (h : us.length = 3) : bindArgs (PySem.W.fnOf "_law_sorts" "_law_sorts" (defArgs s_law_sorts) (defBody s_law_sorts) (defScope s_law_sorts) .none kV doc pm an cdv ct) ⟨us, []⟩ = pure ((["_law_which", "_law_at", "_law_wrong_here"] : List Str).zip us) := match us, h with | [_, _, _], _ => rfl
theorem spec_law_sorts : ∀ ds Qv Xv, sp_law_sorts ds Qv Xv → ds.length = 3 ∧ w_law_sorts (startE N_law_sorts ds) ⟨fun _ => Qv ⟨.none, mA⟩, fun r _ => Qv r, fun ex _ => Xv ex⟩ := by
  rintro ds Qv Xv ⟨which_, at_, wrong_here_, rfl, h⟩
  refine ⟨rfl, ?_⟩
  have he : startE N_law_sorts [eI which_, eI at_, (eTL eA) wrong_here_] = [some (eI which_, mA), some (eI at_, mA), some ((eTL eA) wrong_here_, mA), none, none] := by
    rw [st_law_sorts]
    try simp only [argS_F, argS_N]
  rw [he]
  have hr : RB (fun _ => True) w_law_sorts [some (eI which_, mA), some (eI at_, mA), some ((eTL eA) wrong_here_, mA), none, none] (F_law_sorts which_ at_ wrong_here_) (KT (eL eB) mA) := by
    unfold F_law_sorts w_law_sorts
    exact (rs_seqT (s := (fun (V34 : Unit) => [some (eI (which_), mA), some (eI (at_), mA), some ((eTL eA) (wrong_here_), mA), none, none])) (rb_tryFNF [some (eI (which_), mA), some (eI (at_), mA), some ((eTL eA) (wrong_here_), mA), none, none] (rs_expr (re_eq (re_callP (b := eN) (M := (F_law_thrown which_ at_ wrong_here_)) (ra_consP (re_mF 0 eI (which_)) (ra_consP (re_mF 1 eI (at_)) (ra_consP (re_mF 2 (eTL eA) (wrong_here_)) ra_nil))) (fun Q X h => ⟨which_, at_, wrong_here_, rfl, h⟩) (hg := (el_c sl_o (el_c sl_o (el_c sl_o (el_c sl_n (el_c sl_n el_nil)))))))) (fun _ => (rb_nextF (V := ()) (el_c sl_o (el_c sl_o (el_c sl_o (el_c sl_n (el_c sl_n el_nil)))))))) (fun ad33 ex32 => (rs_set (re_eq (re_lstFP (a := eB) [((["NotADrawing"] : List Str).contains ex32.cls), ((["NoCrossing"] : List Str).contains ex32.cls), ((["TooBig"] : List Str).contains ex32.cls)] (ra_consP (re_isE) (ra_consP (re_isE) (ra_consP (re_isE) ra_nil))))) (fun some_ => [some (eI (which_), mA), some (eI (at_), mA), some ((eTL eA) (wrong_here_), mA), some (opD ad33, mS), some ((eL eB) (some_), mA)]) (fun some_ => (rs_ext (a := eB) (xs := some_) (re_eq (re_lstFP (a := eB) [((["NoUnit"] : List Str).contains ex32.cls), ((["NotClosed"] : List Str).contains ex32.cls), ((["NoFit"] : List Str).contains ex32.cls)] (ra_consP (re_isE) (ra_consP (re_isE) (ra_consP (re_isE) ra_nil))))) (fun some_ => [some (eI (which_), mA), some (eI (at_), mA), some ((eTL eA) (wrong_here_), mA), some (opD ad33, mS), some ((eL eB) (some_), mA)]) (fun some_ => (rs_ext (a := eB) (xs := some_) (re_eq (re_lstFP (a := eB) [((["TooMuch"] : List Str).contains ex32.cls), ((["NoMove"] : List Str).contains ex32.cls), ((["NoChain"] : List Str).contains ex32.cls)] (ra_consP (re_isE) (ra_consP (re_isE) (ra_consP (re_isE) ra_nil))))) (fun some_ => [some (eI (which_), mA), some (eI (at_), mA), some ((eTL eA) (wrong_here_), mA), some (opD ad33, mS), some ((eL eB) (some_), mA)]) (fun some_ => (rs_ext (a := eB) (xs := some_) (re_eq (re_lstFP (a := eB) [((["NoPrime"] : List Str).contains ex32.cls), ((["NoLine"] : List Str).contains ex32.cls)] (ra_consP (re_isE) (ra_consP (re_isE) ra_nil)))) (fun some_ => [some (eI (which_), mA), some (eI (at_), mA), some ((eTL eA) (wrong_here_), mA), some (opD ad33, mS), some ((eL eB) (some_), mA)]) (fun some_ => (rs_ifRP kf_kr (rt_eq (rt_val (re_isE))) (rb_retRP (e := (eL eB)) some_ (re_eq (re_mO 4 (eL eB) (some_)))) (rb_nextF (V := ()) (el_c sl_o (el_c sl_o (el_c sl_o (el_c sl_n (el_c sl_n el_nil))))))))))))))))) (fun V34 => (rb_retP' (e := (eL eB)) ([] : (List Bool)) (re_eq (re_lstP (a := eB) [] ra_nil)))))
  exact of_KT hr h
abbrev s_law : Stmt := topS 22
abbrev N_law : List Str := ["_law_script", "_law_some", "_law_more", "_law_one", "_law_other", "_law_which", "_law_k"]
theorem sc_law : FnScope N_law ["_law_script"] (defScope s_law) := ⟨rfl, rfl, rfl, by decide +kernel, rfl, by decide +kernel, by decide +kernel⟩
def w_law : WS := (wSeq (wSet 1 (wCall XD.sp_law_row (wCons (wVar 0) (wCons (wC (.int 0)) (wCons (wCB wLst (wCons (wC (.int 3)) (wCons (wBin woPow (wC (.int 10)) (wC (.int 9))) (wCons (wBin woPow (wC (.int 10)) (wC (.int 9))) (wCons (wBin woPow (wC (.int 10)) (wC (.int 60))) wNil))))) wNil)))))
  (wSeq (wSet 2 (wCall XD.sp_law_row (wCons (wMv 0) (wCons (wC (.int 1)) (wCons (wCB wLst (wCons (wC (.int 3)) (wCons (wBin woPow (wC (.int 10)) (wC (.int 9))) (wCons (wBin woPow (wC (.int 10)) (wC (.int 9))) (wCons (wBin woPow (wC (.int 10)) (wC (.int 60))) wNil))))) wNil)))))
  (wSeq (wSet 3 (wCall sp_law_wrong (wCons (wVar 1) wNil)))
  (wSeq (wSet 4 (wCall sp_law_wrong (wCons (wVar 2) wNil)))
  (wSeq (wCut (wForR 1 5 (wCons (wC (.int 12)) wNil)
  (wSeq (wIf (wTest (wBin woNe (wCall sp_law_sorts (wCons (wVar 5) (wCons (wBin wIx (wVar 1) (wC (.int 3))) (wCons (wVar 3) wNil)))) (wLcR 1 [6] 6 (wCons (wC (.int 11)) wNil) wYes (wBin woEq (wVar 5) (wVar 6))))) (wSeq (wRet (wC (.bool false)))
  wNext) wNext)
  wNext)))
  (wSeq (wIf (wOr (wNot (wTest (wCall sp_law_fields (wCons (wBin wIx (wVar 1) (wC (.int 3))) (wCons (wVar 3) wNil))))) (wNot (wTest (wCall sp_law_fields (wCons (wBin wIx (wVar 2) (wC (.int 3))) (wCons (wVar 4) wNil)))))) (wSeq (wRet (wC (.bool false)))
  wNext) wNext)
  (wSeq (wRet (wAndV (wCall sp_law_fields (wCons (wBin wIx (wVar 1) (wC (.int 3))) (wCons (wVar 4) wNil))) (wCall sp_law_fields (wCons (wBin wIx (wVar 1) (wC (.int 3))) (wCons (wVar 3) wNil)))))
  wNext)))))))
theorem st_law (x0 : D) : startE N_law [x0] = [argS x0, none, none, none, none, none, none] := rfl
theorem d_law (E : Ev K mg cl) (G_law_row : Def P w K mg base cl "_law_row" 3 XD.sp_law_row lv_law_row) (G_law_wrong : Def P w K mg base cl "_law_wrong" 1 sp_law_wrong lv_law_wrong) (G_law_fields : Def P w K mg base cl "_law_fields" 2 sp_law_fields lv_law_fields) (G_law_sorts : Def P w K mg base cl "_law_sorts" 3 sp_law_sorts lv_law_sorts) (f : Addr) (cdv : Value) (A : Around) (outer : List Env) (s : Shared) (H : Hp) (E0 : XK) (P0 : Addr → Prop) (hr : Room 4 (cxV P w K mg base N_law "law" s_law f cdv A outer s H E0).A) :
    PSs (cxV P w K mg base N_law "law" s_law f cdv A outer s H E0) (defBody s_law) (rdS (cnOf K cl P0 H) (WXE E0) w_law) := by
  have nd := sc_law.nd
  exact (vss_cons (vs_set (i := 1) (ve_call (k := lv_law_row) G_law_row (hr.mono (by decide)) (takes_of rfl rfl rfl rfl) (va_cons (ve_var 0) (va_cons ve_int (va_cons (ve_lst (va_cons ve_int (va_cons (ve_pow ve_int ve_int) (va_cons (ve_pow ve_int ve_int) (va_cons (ve_pow ve_int ve_int) va_nil))))) va_nil)))) nd)
  (vss_cons (vs_set (i := 2) (ve_call (k := lv_law_row) G_law_row (hr.mono (by decide)) (takes_of rfl rfl rfl rfl) (va_cons (ve_mv 0) (va_cons ve_int (va_cons (ve_lst (va_cons ve_int (va_cons (ve_pow ve_int ve_int) (va_cons (ve_pow ve_int ve_int) (va_cons (ve_pow ve_int ve_int) va_nil))))) va_nil)))) nd)
  (vss_cons (vs_set (i := 3) (ve_call (k := lv_law_wrong) G_law_wrong (hr.mono (by decide)) (takes_of rfl rfl rfl rfl) (va_cons (ve_var 1) va_nil)) nd)
  (vss_cons (vs_set (i := 4) (ve_call (k := lv_law_wrong) G_law_wrong (hr.mono (by decide)) (takes_of rfl rfl rfl rfl) (va_cons (ve_var 2) va_nil)) nd)
  (vss_cons (vs_cut (vs_forR1 (i := 5) (passes_of rfl) rfl E.m_range (va_cons ve_int va_nil)
  (vss_cons (vs_if (vt_c (c_ne hr) (ve_call (k := lv_law_sorts) G_law_sorts (hr.mono (by decide)) (takes_of rfl rfl rfl rfl) (va_cons (ve_var 5) (va_cons (ve_ix (ve_var 1) ve_int) (va_cons (ve_var 3) va_nil)))) (ve_lcR1 rfl nd [("_law_k", 6)] E.m_range (va_cons ve_int va_nil) (fun _ _ _ _ _ => pg_name nd rfl (by first | exact .inl rfl | exact .inr rfl)) (fun _ _ _ _ _ => vts_nil) (fun _ _ _ _ _ => (ve_c (c_eq hr) (ve_var 5) (ve_var 6))))) (vss_cons (vs_ret ve_bl)
  vss_nil) vss_nil)
  vss_nil) nd))
  (vss_cons (vs_if (PW.pt (vw_or (vt_not (vt_val (ve_call (k := lv_law_fields) G_law_fields (hr.mono (by decide)) (takes_of rfl rfl rfl rfl) (va_cons (ve_ix (ve_var 1) ve_int) (va_cons (ve_var 3) va_nil))))) (vw_or1 (vt_not (vt_val (ve_call (k := lv_law_fields) G_law_fields (hr.mono (by decide)) (takes_of rfl rfl rfl rfl) (va_cons (ve_ix (ve_var 2) ve_int) (va_cons (ve_var 4) va_nil)))))))) (vss_cons (vs_ret ve_bl)
  vss_nil) vss_nil)
  (vss_cons (vs_ret (ve_and (ve_call (k := lv_law_fields) G_law_fields (hr.mono (by decide)) (takes_of rfl rfl rfl rfl) (va_cons (ve_ix (ve_var 1) ve_int) (va_cons (ve_var 4) va_nil))) (ve_one (ve_call (k := lv_law_fields) G_law_fields (hr.mono (by decide)) (takes_of rfl rfl rfl rfl) (va_cons (ve_ix (ve_var 1) ve_int) (va_cons (ve_var 3) va_nil))))))
  vss_nil)))))))
theorem b_law (kV doc pm : Value) (an : Option Addr) (cdv ct : Value) (us : List Value) (h : us.length = 1) : bindArgs (PySem.W.fnOf "law" "law" (defArgs s_law) (defBody s_law) (defScope s_law) .none kV doc pm an cdv ct) ⟨us, []⟩ = pure ((["_law_script"] : List Str).zip us) := match us, h with | [_], _ => rfl
end
end LK17
set_option maxRecDepth 100000
set_option maxHeartbeats 4000000
namespace LK17
open PySem PySem.Spec PyProof.Rows L2 VL
def errNames : List Str := ["PlaitError", "NotADrawing", "NoCrossing", "TooBig", "NoUnit", "NotClosed", "NoFit", "TooMuch", "NoMove", "NoChain", "NoPrime", "NoLine"]
theorem spec_law : ∀ ds Qv Xv, LawS ds Qv Xv → ds.length = 1 ∧ w_law (startE N_law ds) ⟨fun _ => Qv ⟨.none, mA⟩, fun r _ => Qv r, fun ex _ => Xv ex⟩ := by
  rintro ds Qv Xv ⟨script_, rfl, hl, hb, h⟩
  refine ⟨rfl, ?_⟩
  have he : startE N_law [scriptD script_] = [some (eScr script_, mS), none, none, none, none, none, none] := by
    rw [st_law]
    have := argS_N (e := eScr) script_
    simp only [eScr] at this ⊢
    simp only [this]
  rw [he]
  have hr : RB (fun _ => True) w_law [some (eScr script_, mS), none, none, none, none, none, none] (F_law script_) (KT eB mA) := by
    unfold F_law w_law
    exact (rs_set (re_eq (re_callP (b := (eL eI)) (M := (XD.F_law_row script_ 0 ([3, (10 ^ ((9 : Int).toNat) : Int), (10 ^ ((9 : Int).toNat) : Int), (10 ^ ((60 : Int).toNat) : Int)]))) (ra_consP (re_vS 0 eScr (script_)) (ra_consP (re_c (.int 0) eI (0)) (ra_consP (re_lstFP (a := eI) [3, (10 ^ ((9 : Int).toNat) : Int), (10 ^ ((9 : Int).toNat) : Int), (10 ^ ((60 : Int).toNat) : Int)] (ra_consP (re_c (.int 3) eI (3)) (ra_consP (re_powC 10 9 (re_c (.int 10) eI (10)) (re_c (.int 9) eI (9))) (ra_consP (re_powC 10 9 (re_c (.int 10) eI (10)) (re_c (.int 9) eI (9))) (ra_consP (re_powC 10 60 (re_c (.int 10) eI (10)) (re_c (.int 60) eI (60))) ra_nil))))) ra_nil))) (fun Q X h => ⟨script_, 0, ([3, (10 ^ ((9 : Int).toNat) : Int), (10 ^ ((9 : Int).toNat) : Int), (10 ^ ((60 : Int).toNat) : Int)]), rfl, h⟩))) (fun some_ => [some (eScr (script_), mS), some ((eL eI) (some_), mA), none, none, none, none, none]) (fun some_ => (rs_set (re_eq (re_callP (b := (eL eI)) (M := (XD.F_law_row script_ 1 ([3, (10 ^ ((9 : Int).toNat) : Int), (10 ^ ((9 : Int).toNat) : Int), (10 ^ ((60 : Int).toNat) : Int)]))) (ra_consP (re_mO 0 eScr (script_)) (ra_consP (re_c (.int 1) eI (1)) (ra_consP (re_lstFP (a := eI) [3, (10 ^ ((9 : Int).toNat) : Int), (10 ^ ((9 : Int).toNat) : Int), (10 ^ ((60 : Int).toNat) : Int)] (ra_consP (re_c (.int 3) eI (3)) (ra_consP (re_powC 10 9 (re_c (.int 10) eI (10)) (re_c (.int 9) eI (9))) (ra_consP (re_powC 10 9 (re_c (.int 10) eI (10)) (re_c (.int 9) eI (9))) (ra_consP (re_powC 10 60 (re_c (.int 10) eI (10)) (re_c (.int 60) eI (60))) ra_nil))))) ra_nil))) (fun Q X h => ⟨script_, 1, ([3, (10 ^ ((9 : Int).toNat) : Int), (10 ^ ((9 : Int).toNat) : Int), (10 ^ ((60 : Int).toNat) : Int)]), rfl, h⟩))) (fun more_ => [none, some ((eL eI) (some_), mA), some ((eL eI) (more_), mA), none, none, none, none]) (fun more_ => (rs_set (re_eq (re_callP (b := (eTL eA)) (M := (F_law_wrong some_)) (ra_consP (re_vA 1 (eL eI) (some_)) ra_nil) (fun Q X h => ⟨some_, rfl, h⟩))) (fun one_ => [none, some ((eL eI) (some_), mA), some ((eL eI) (more_), mA), some ((eTL eA) (one_), mA), none, none, none]) (fun one_ => (rs_set (re_eq (re_callP (b := (eTL eA)) (M := (F_law_wrong more_)) (ra_consP (re_vA 2 (eL eI) (more_)) ra_nil) (fun Q X h => ⟨more_, rfl, h⟩))) (fun other_ => [none, some ((eL eI) (some_), mA), some ((eL eI) (more_), mA), some ((eTL eA) (one_), mA), some ((eTL eA) (other_), mA), none, none]) (fun other_ => (rs_seqT (s := (fun (V54 : Unit) => [none, some ((eL eI) (some_), mA), some ((eL eI) (more_), mA), some ((eTL eA) (one_), mA), some ((eTL eA) (other_), mA), none, none])) (rb_forRFP (s := (fun (V54 : Unit) => [none, some ((eL eI) (some_), mA), some ((eL eI) (more_), mA), some ((eTL eA) (one_), mA), some ((eTL eA) (other_), mA), none, none])) 0 12 () (ra_consP (re_c (.int 12) eI (12)) ra_nil) ⟨rfl, rfl⟩ (el_c sl_n (el_c sl_o (el_c sl_o (el_c sl_o (el_c sl_o (el_c sl_n (el_c sl_n el_nil))))))) (fun V54 which_ => [none, some ((eL eI) (some_), mA), some ((eL eI) (more_), mA), some ((eTL eA) (one_), mA), some ((eTL eA) (other_), mA), some (eI (which_), mA), none]) (fun V54 which_ => (rs_ifR kf_kr (rt_eq (rt_val (re_2 (opP_out (xo_neD (a := (eL eB)))) (re_call (b := (eL eB)) (M := fun (t : Int × Int × (List At) × Unit) => F_law_sorts t.1 t.2.1 t.2.2.1) (ra_cons (re_vF 5 eI (which_)) (ra_cons (re_2Q (xo_ixF (a := eI)) (re_vA 1 (eL eI) (some_)) (re_c (.int 3) eI (3))) (ra_consP (re_vF 3 (eTL eA) (one_)) ra_nil))) (fun (t : Int × Int × (List At) × Unit) Q X h => ⟨t.1, t.2.1, t.2.2.1, rfl, h⟩)) (re_lcR1P none mA 0 11 (ent := (fun k_ => [none, some ((eL eI) (some_), .b), some ((eL eI) (more_), .b), some ((eTL eA) (one_), mA), some ((eTL eA) (other_), mA), some (eI (which_), mA), some (eI (k_), mA)])) (F := (fun k_ : Int => (Out.ok (decide (which_ = k_))))) (ra_consP (re_c (.int 11) eI (11)) ra_nil) ⟨rfl, rfl⟩ (fun _ => by simp only [bEnv_c, bEnv_n, bS_fl]; rfl) (fun k_ => ⟨_, re_eq (re_2P xo_eqI (re_vF 5 eI (which_)) (re_vF 6 eI (k_)))⟩) (kid_F (c := eB)))))) (rb_retRP (e := eB) false (re_eq (re_c (.bool false) eB (false)))) (rb_nextF (V := ()) (el_c sl_n (el_c sl_o (el_c sl_o (el_c sl_o (el_c sl_o (el_c sl_n (el_c sl_n el_nil))))))))))) (fun V54 => (rs_ifR kt_kt (rt_eq (rt_or (rt_not (rt_val (re_call (b := eB) (M := fun (t : Int × (List At) × Unit) => F_law_fields t.1 t.2.1) (ra_cons (re_2Q (xo_ixF (a := eI)) (re_vA 1 (eL eI) (some_)) (re_c (.int 3) eI (3))) (ra_consP (re_vF 3 (eTL eA) (one_)) ra_nil)) (fun (t : Int × (List At) × Unit) Q X h => ⟨t.1, t.2.1, rfl, h⟩)))) (rt_not (rt_val (re_call (b := eB) (M := fun (t : Int × (List At) × Unit) => F_law_fields t.1 t.2.1) (ra_cons (re_2Q (xo_ixF (a := eI)) (re_vA 2 (eL eI) (more_)) (re_c (.int 3) eI (3))) (ra_consP (re_vF 4 (eTL eA) (other_)) ra_nil)) (fun (t : Int × (List At) × Unit) Q X h => ⟨t.1, t.2.1, rfl, h⟩)))))) (rb_retP' (e := eB) false (re_eq (re_c (.bool false) eB (false)))) (rb_retI (re_eq (re_and (re_call (b := eB) (M := fun (t : Int × (List At) × Unit) => F_law_fields t.1 t.2.1) (ra_cons (re_2Q (xo_ixF (a := eI)) (re_vA 1 (eL eI) (some_)) (re_c (.int 3) eI (3))) (ra_consP (re_vF 4 (eTL eA) (other_)) ra_nil)) (fun (t : Int × (List At) × Unit) Q X h => ⟨t.1, t.2.1, rfl, h⟩)) (re_call (b := eB) (M := fun (t : Int × (List At) × Unit) => F_law_fields t.1 t.2.1) (ra_cons (re_2Q (xo_ixF (a := eI)) (re_vA 1 (eL eI) (some_)) (re_c (.int 3) eI (3))) (ra_consP (re_vF 3 (eTL eA) (one_)) ra_nil)) (fun (t : Int × (List At) × Unit) Q X h => ⟨t.1, t.2.1, rfl, h⟩))))))))))))))))
  exact of_KT hr ((law_ok script_ hl hb).mono (fun b e => by rw [e]; exact h) fun x e => e.elim)
theorem all_mk {P : Program} {w : World} {K : PySem.W.Frag} {h : Heap} {mg : Str → Option Value} {fa : Addr} (X : K.In h) (G : h.Ns mainGlobals mg) (hfa : mg "law" = some (.ref fa))
    (F_law_cell : FnAt K "_law_cell" s_law_cell)
    (F_law_mix : FnAt K "_law_mix" s_law_mix)
    (F_law_row : FnAt K "_law_row" s_law_row)
    (F_law_wrong : FnAt K "_law_wrong" s_law_wrong)
    (F_law_thrown : FnAt K "_law_thrown" s_law_thrown)
    (F_law_is_whole : FnAt K "_law_is_whole" s_law_is_whole)
    (F_law_fields : FnAt K "_law_fields" s_law_fields)
    (F_law_sorts : FnAt K "_law_sorts" s_law_sorts)
    (F_law : FnAt K "law" s_law)
    (Q_NoChain : RefAt K "NoChain")
    (Q_NoChain_PlaitError : KitAt K "PlaitError" "NoChain" false)
    (Q_NoChain_NotADrawing : KitAt K "NotADrawing" "NoChain" false)
    (Q_NoChain_NoCrossing : KitAt K "NoCrossing" "NoChain" false)
    (Q_NoChain_TooBig : KitAt K "TooBig" "NoChain" false)
    (Q_NoChain_NoUnit : KitAt K "NoUnit" "NoChain" false)
    (Q_NoChain_NotClosed : KitAt K "NotClosed" "NoChain" false)
    (Q_NoChain_NoFit : KitAt K "NoFit" "NoChain" false)
    (Q_NoChain_TooMuch : KitAt K "TooMuch" "NoChain" false)
    (Q_NoChain_NoMove : KitAt K "NoMove" "NoChain" false)
    (Q_NoChain_NoChain : KitAt K "NoChain" "NoChain" true)
    (Q_NoChain_NoPrime : KitAt K "NoPrime" "NoChain" false)
    (Q_NoChain_NoLine : KitAt K "NoLine" "NoChain" false)
    (Q_NoCrossing : RefAt K "NoCrossing")
    (Q_NoCrossing_PlaitError : KitAt K "PlaitError" "NoCrossing" false)
    (Q_NoCrossing_NotADrawing : KitAt K "NotADrawing" "NoCrossing" false)
    (Q_NoCrossing_NoCrossing : KitAt K "NoCrossing" "NoCrossing" true)
    (Q_NoCrossing_TooBig : KitAt K "TooBig" "NoCrossing" false)
    (Q_NoCrossing_NoUnit : KitAt K "NoUnit" "NoCrossing" false)
    (Q_NoCrossing_NotClosed : KitAt K "NotClosed" "NoCrossing" false)
    (Q_NoCrossing_NoFit : KitAt K "NoFit" "NoCrossing" false)
    (Q_NoCrossing_TooMuch : KitAt K "TooMuch" "NoCrossing" false)
    (Q_NoCrossing_NoMove : KitAt K "NoMove" "NoCrossing" false)
    (Q_NoCrossing_NoChain : KitAt K "NoChain" "NoCrossing" false)
    (Q_NoCrossing_NoPrime : KitAt K "NoPrime" "NoCrossing" false)
    (Q_NoCrossing_NoLine : KitAt K "NoLine" "NoCrossing" false)
    (Q_NoFit : RefAt K "NoFit")
    (Q_NoFit_PlaitError : KitAt K "PlaitError" "NoFit" false)
    (Q_NoFit_NotADrawing : KitAt K "NotADrawing" "NoFit" false)
    (Q_NoFit_NoCrossing : KitAt K "NoCrossing" "NoFit" false)
    (Q_NoFit_TooBig : KitAt K "TooBig" "NoFit" false)
    (Q_NoFit_NoUnit : KitAt K "NoUnit" "NoFit" false)
    (Q_NoFit_NotClosed : KitAt K "NotClosed" "NoFit" false)
    (Q_NoFit_NoFit : KitAt K "NoFit" "NoFit" true)
    (Q_NoFit_TooMuch : KitAt K "TooMuch" "NoFit" false)
    (Q_NoFit_NoMove : KitAt K "NoMove" "NoFit" false)
    (Q_NoFit_NoChain : KitAt K "NoChain" "NoFit" false)
    (Q_NoFit_NoPrime : KitAt K "NoPrime" "NoFit" false)
    (Q_NoFit_NoLine : KitAt K "NoLine" "NoFit" false)
    (Q_NoLine : RefAt K "NoLine")
    (Q_NoLine_PlaitError : KitAt K "PlaitError" "NoLine" false)
    (Q_NoLine_NotADrawing : KitAt K "NotADrawing" "NoLine" false)
    (Q_NoLine_NoCrossing : KitAt K "NoCrossing" "NoLine" false)
    (Q_NoLine_TooBig : KitAt K "TooBig" "NoLine" false)
    (Q_NoLine_NoUnit : KitAt K "NoUnit" "NoLine" false)
    (Q_NoLine_NotClosed : KitAt K "NotClosed" "NoLine" false)
    (Q_NoLine_NoFit : KitAt K "NoFit" "NoLine" false)
    (Q_NoLine_TooMuch : KitAt K "TooMuch" "NoLine" false)
    (Q_NoLine_NoMove : KitAt K "NoMove" "NoLine" false)
    (Q_NoLine_NoChain : KitAt K "NoChain" "NoLine" false)
    (Q_NoLine_NoPrime : KitAt K "NoPrime" "NoLine" false)
    (Q_NoLine_NoLine : KitAt K "NoLine" "NoLine" true)
    (Q_NoMove : RefAt K "NoMove")
    (Q_NoMove_PlaitError : KitAt K "PlaitError" "NoMove" false)
    (Q_NoMove_NotADrawing : KitAt K "NotADrawing" "NoMove" false)
    (Q_NoMove_NoCrossing : KitAt K "NoCrossing" "NoMove" false)
    (Q_NoMove_TooBig : KitAt K "TooBig" "NoMove" false)
    (Q_NoMove_NoUnit : KitAt K "NoUnit" "NoMove" false)
    (Q_NoMove_NotClosed : KitAt K "NotClosed" "NoMove" false)
    (Q_NoMove_NoFit : KitAt K "NoFit" "NoMove" false)
    (Q_NoMove_TooMuch : KitAt K "TooMuch" "NoMove" false)
    (Q_NoMove_NoMove : KitAt K "NoMove" "NoMove" true)
    (Q_NoMove_NoChain : KitAt K "NoChain" "NoMove" false)
    (Q_NoMove_NoPrime : KitAt K "NoPrime" "NoMove" false)
    (Q_NoMove_NoLine : KitAt K "NoLine" "NoMove" false)
    (Q_NoPrime : RefAt K "NoPrime")
    (Q_NoPrime_PlaitError : KitAt K "PlaitError" "NoPrime" false)
    (Q_NoPrime_NotADrawing : KitAt K "NotADrawing" "NoPrime" false)
    (Q_NoPrime_NoCrossing : KitAt K "NoCrossing" "NoPrime" false)
    (Q_NoPrime_TooBig : KitAt K "TooBig" "NoPrime" false)
    (Q_NoPrime_NoUnit : KitAt K "NoUnit" "NoPrime" false)
    (Q_NoPrime_NotClosed : KitAt K "NotClosed" "NoPrime" false)
    (Q_NoPrime_NoFit : KitAt K "NoFit" "NoPrime" false)
    (Q_NoPrime_TooMuch : KitAt K "TooMuch" "NoPrime" false)
    (Q_NoPrime_NoMove : KitAt K "NoMove" "NoPrime" false)
    (Q_NoPrime_NoChain : KitAt K "NoChain" "NoPrime" false)
    (Q_NoPrime_NoPrime : KitAt K "NoPrime" "NoPrime" true)
    (Q_NoPrime_NoLine : KitAt K "NoLine" "NoPrime" false)
    (Q_NoUnit : RefAt K "NoUnit")
    (Q_NoUnit_PlaitError : KitAt K "PlaitError" "NoUnit" false)
    (Q_NoUnit_NotADrawing : KitAt K "NotADrawing" "NoUnit" false)
    (Q_NoUnit_NoCrossing : KitAt K "NoCrossing" "NoUnit" false)
    (Q_NoUnit_TooBig : KitAt K "TooBig" "NoUnit" false)
    (Q_NoUnit_NoUnit : KitAt K "NoUnit" "NoUnit" true)
    (Q_NoUnit_NotClosed : KitAt K "NotClosed" "NoUnit" false)
    (Q_NoUnit_NoFit : KitAt K "NoFit" "NoUnit" false)
    (Q_NoUnit_TooMuch : KitAt K "TooMuch" "NoUnit" false)
    (Q_NoUnit_NoMove : KitAt K "NoMove" "NoUnit" false)
    (Q_NoUnit_NoChain : KitAt K "NoChain" "NoUnit" false)
    (Q_NoUnit_NoPrime : KitAt K "NoPrime" "NoUnit" false)
    (Q_NoUnit_NoLine : KitAt K "NoLine" "NoUnit" false)
    (Q_NotADrawing : RefAt K "NotADrawing")
    (Q_NotADrawing_PlaitError : KitAt K "PlaitError" "NotADrawing" false)
    (Q_NotADrawing_NotADrawing : KitAt K "NotADrawing" "NotADrawing" true)
    (Q_NotADrawing_NoCrossing : KitAt K "NoCrossing" "NotADrawing" false)
    (Q_NotADrawing_TooBig : KitAt K "TooBig" "NotADrawing" false)
    (Q_NotADrawing_NoUnit : KitAt K "NoUnit" "NotADrawing" false)
    (Q_NotADrawing_NotClosed : KitAt K "NotClosed" "NotADrawing" false)
    (Q_NotADrawing_NoFit : KitAt K "NoFit" "NotADrawing" false)
    (Q_NotADrawing_TooMuch : KitAt K "TooMuch" "NotADrawing" false)
    (Q_NotADrawing_NoMove : KitAt K "NoMove" "NotADrawing" false)
    (Q_NotADrawing_NoChain : KitAt K "NoChain" "NotADrawing" false)
    (Q_NotADrawing_NoPrime : KitAt K "NoPrime" "NotADrawing" false)
    (Q_NotADrawing_NoLine : KitAt K "NoLine" "NotADrawing" false)
    (Q_NotClosed : RefAt K "NotClosed")
    (Q_NotClosed_PlaitError : KitAt K "PlaitError" "NotClosed" false)
    (Q_NotClosed_NotADrawing : KitAt K "NotADrawing" "NotClosed" false)
    (Q_NotClosed_NoCrossing : KitAt K "NoCrossing" "NotClosed" false)
    (Q_NotClosed_TooBig : KitAt K "TooBig" "NotClosed" false)
    (Q_NotClosed_NoUnit : KitAt K "NoUnit" "NotClosed" false)
    (Q_NotClosed_NotClosed : KitAt K "NotClosed" "NotClosed" true)
    (Q_NotClosed_NoFit : KitAt K "NoFit" "NotClosed" false)
    (Q_NotClosed_TooMuch : KitAt K "TooMuch" "NotClosed" false)
    (Q_NotClosed_NoMove : KitAt K "NoMove" "NotClosed" false)
    (Q_NotClosed_NoChain : KitAt K "NoChain" "NotClosed" false)
    (Q_NotClosed_NoPrime : KitAt K "NoPrime" "NotClosed" false)
    (Q_NotClosed_NoLine : KitAt K "NoLine" "NotClosed" false)
    (Q_TooBig : RefAt K "TooBig")
    (Q_TooBig_PlaitError : KitAt K "PlaitError" "TooBig" false)
    (Q_TooBig_NotADrawing : KitAt K "NotADrawing" "TooBig" false)
    (Q_TooBig_NoCrossing : KitAt K "NoCrossing" "TooBig" false)
    (Q_TooBig_TooBig : KitAt K "TooBig" "TooBig" true)
    (Q_TooBig_NoUnit : KitAt K "NoUnit" "TooBig" false)
    (Q_TooBig_NotClosed : KitAt K "NotClosed" "TooBig" false)
    (Q_TooBig_NoFit : KitAt K "NoFit" "TooBig" false)
    (Q_TooBig_TooMuch : KitAt K "TooMuch" "TooBig" false)
    (Q_TooBig_NoMove : KitAt K "NoMove" "TooBig" false)
    (Q_TooBig_NoChain : KitAt K "NoChain" "TooBig" false)
    (Q_TooBig_NoPrime : KitAt K "NoPrime" "TooBig" false)
    (Q_TooBig_NoLine : KitAt K "NoLine" "TooBig" false)
    (Q_TooMuch : RefAt K "TooMuch")
    (Q_TooMuch_PlaitError : KitAt K "PlaitError" "TooMuch" false)
    (Q_TooMuch_NotADrawing : KitAt K "NotADrawing" "TooMuch" false)
    (Q_TooMuch_NoCrossing : KitAt K "NoCrossing" "TooMuch" false)
    (Q_TooMuch_TooBig : KitAt K "TooBig" "TooMuch" false)
    (Q_TooMuch_NoUnit : KitAt K "NoUnit" "TooMuch" false)
    (Q_TooMuch_NotClosed : KitAt K "NotClosed" "TooMuch" false)
    (Q_TooMuch_NoFit : KitAt K "NoFit" "TooMuch" false)
    (Q_TooMuch_TooMuch : KitAt K "TooMuch" "TooMuch" true)
    (Q_TooMuch_NoMove : KitAt K "NoMove" "TooMuch" false)
    (Q_TooMuch_NoChain : KitAt K "NoChain" "TooMuch" false)
    (Q_TooMuch_NoPrime : KitAt K "NoPrime" "TooMuch" false)
    (Q_TooMuch_NoLine : KitAt K "NoLine" "TooMuch" false)
    (B_ValueError_PlaitError : KitTAt K "PlaitError" "ValueError" true)
    (B_ValueError_NotADrawing : KitTAt K "NotADrawing" "ValueError" true)
    (B_ValueError_NoCrossing : KitTAt K "NoCrossing" "ValueError" true)
    (B_ValueError_TooBig : KitTAt K "TooBig" "ValueError" true)
    (B_ValueError_NoUnit : KitTAt K "NoUnit" "ValueError" true)
    (B_ValueError_NotClosed : KitTAt K "NotClosed" "ValueError" true)
    (B_ValueError_NoFit : KitTAt K "NoFit" "ValueError" true)
    (B_ValueError_TooMuch : KitTAt K "TooMuch" "ValueError" true)
    (B_ValueError_NoMove : KitTAt K "NoMove" "ValueError" true)
    (B_ValueError_NoChain : KitTAt K "NoChain" "ValueError" true)
    (B_ValueError_NoPrime : KitTAt K "NoPrime" "ValueError" true)
    (B_ValueError_NoLine : KitTAt K "NoLine" "ValueError" true)
    (O_ValueError : NoAt K "ValueError")
    (O_bool : NoAt K "bool")
    (O_int : NoAt K "int")
    (O_isinstance : NoAt K "isinstance")
    (O_len : NoAt K "len")
    (O_range : NoAt K "range")
    (O_tuple : NoAt K "tuple")
    (C_NoChain : RefAt K "NoChain")
    (C_NoChain_PlaitError : ExmAt K "PlaitError" "NoChain" false)
    (C_NoChain_NotADrawing : ExmAt K "NotADrawing" "NoChain" false)
    (C_NoChain_NoCrossing : ExmAt K "NoCrossing" "NoChain" false)
    (C_NoChain_TooBig : ExmAt K "TooBig" "NoChain" false)
    (C_NoChain_NoUnit : ExmAt K "NoUnit" "NoChain" false)
    (C_NoChain_NotClosed : ExmAt K "NotClosed" "NoChain" false)
    (C_NoChain_NoFit : ExmAt K "NoFit" "NoChain" false)
    (C_NoChain_TooMuch : ExmAt K "TooMuch" "NoChain" false)
    (C_NoChain_NoMove : ExmAt K "NoMove" "NoChain" false)
    (C_NoChain_NoChain : ExmAt K "NoChain" "NoChain" true)
    (C_NoChain_NoPrime : ExmAt K "NoPrime" "NoChain" false)
    (C_NoChain_NoLine : ExmAt K "NoLine" "NoChain" false)
    (C_NotADrawing : RefAt K "NotADrawing")
    (C_NotADrawing_PlaitError : ExmAt K "PlaitError" "NotADrawing" false)
    (C_NotADrawing_NotADrawing : ExmAt K "NotADrawing" "NotADrawing" true)
    (C_NotADrawing_NoCrossing : ExmAt K "NoCrossing" "NotADrawing" false)
    (C_NotADrawing_TooBig : ExmAt K "TooBig" "NotADrawing" false)
    (C_NotADrawing_NoUnit : ExmAt K "NoUnit" "NotADrawing" false)
    (C_NotADrawing_NotClosed : ExmAt K "NotClosed" "NotADrawing" false)
    (C_NotADrawing_NoFit : ExmAt K "NoFit" "NotADrawing" false)
    (C_NotADrawing_TooMuch : ExmAt K "TooMuch" "NotADrawing" false)
    (C_NotADrawing_NoMove : ExmAt K "NoMove" "NotADrawing" false)
    (C_NotADrawing_NoChain : ExmAt K "NoChain" "NotADrawing" false)
    (C_NotADrawing_NoPrime : ExmAt K "NoPrime" "NotADrawing" false)
    (C_NotADrawing_NoLine : ExmAt K "NoLine" "NotADrawing" false)
    (C_PlaitError : RefAt K "PlaitError")
    (C_PlaitError_PlaitError : ExmAt K "PlaitError" "PlaitError" true)
    (C_PlaitError_NotADrawing : ExmAt K "NotADrawing" "PlaitError" true)
    (C_PlaitError_NoCrossing : ExmAt K "NoCrossing" "PlaitError" true)
    (C_PlaitError_TooBig : ExmAt K "TooBig" "PlaitError" true)
    (C_PlaitError_NoUnit : ExmAt K "NoUnit" "PlaitError" true)
    (C_PlaitError_NotClosed : ExmAt K "NotClosed" "PlaitError" true)
    (C_PlaitError_NoFit : ExmAt K "NoFit" "PlaitError" true)
    (C_PlaitError_TooMuch : ExmAt K "TooMuch" "PlaitError" true)
    (C_PlaitError_NoMove : ExmAt K "NoMove" "PlaitError" true)
    (C_PlaitError_NoChain : ExmAt K "NoChain" "PlaitError" true)
    (C_PlaitError_NoPrime : ExmAt K "NoPrime" "PlaitError" true)
    (C_PlaitError_NoLine : ExmAt K "NoLine" "PlaitError" true)
    (R_NoCrossing : ErrAt K "NoCrossing")
    (R_NoFit : ErrAt K "NoFit")
    (R_NoLine : ErrAt K "NoLine")
    (R_NoMove : ErrAt K "NoMove")
    (R_NoPrime : ErrAt K "NoPrime")
    (R_NoUnit : ErrAt K "NoUnit")
    (R_NotClosed : ErrAt K "NotClosed")
    (R_PlaitError : ErrAt K "PlaitError")
    (R_TooBig : ErrAt K "TooBig")
    (R_TooMuch : ErrAt K "TooMuch")
    (T_PlaitError : ExcAt K "PlaitError")
    (T_NotADrawing : ExcAt K "NotADrawing")
    (T_NoCrossing : ExcAt K "NoCrossing")
    (T_TooBig : ExcAt K "TooBig")
    (T_NoUnit : ExcAt K "NoUnit")
    (T_NotClosed : ExcAt K "NotClosed")
    (T_NoFit : ExcAt K "NoFit")
    (T_TooMuch : ExcAt K "TooMuch")
    (T_NoMove : ExcAt K "NoMove")
    (T_NoChain : ExcAt K "NoChain")
    (T_NoPrime : ExcAt K "NoPrime")
    (T_NoLine : ExcAt K "NoLine")
    (J_NoChain : InitAt K "NoChain" "at" "NoChain.__init__" si_NoChain)
    (J_NotADrawing : InitAt K "NotADrawing" "fault" "NotADrawing.__init__" si_NotADrawing)
    : ∃ fd : FuncData, (∀ (s : Shared) (v : Value), BindsTo s fd ⟨[v], []⟩ [("_law_script", v)]) ∧ ∀ base : Heap, K.In base → base.Ns mainGlobals mg → FnOk P w K mg base (L2.CX P w) 5 fa fd ["_law_script"] (spOf K (fun _ => none) LawS) := by
  obtain ⟨f0, oc, od, an, osl, kV, doc, pm, cdv, ct, e1, e2, e3, e4⟩ := F_law
  have e := hfa.symm.trans (PySem.W.mg_of X G e1)
  cases e
  have FF := fun_mk (st := s_law) e2 e3 e4
  refine ⟨PySem.W.fnOf "law" "law" (defArgs s_law) (defBody s_law) (defScope s_law) .none kV doc pm an cdv ct, fun s v => .of_eq (b_law kV doc pm an cdv ct [v] rfl), fun base _ _ => ?_⟩
  have E : Ev K mg (clOf errNames mg) := ⟨asked_of X G Q_NoChain (each_name (names := errNames) (by
      intro x hx
      simp only [errNames, List.mem_cons, List.not_mem_nil, or_false] at hx
      rcases hx with rfl | rfl | rfl | rfl | rfl | rfl | rfl | rfl | rfl | rfl | rfl | rfl
      · exact Q_NoChain_PlaitError
      · exact Q_NoChain_NotADrawing
      · exact Q_NoChain_NoCrossing
      · exact Q_NoChain_TooBig
      · exact Q_NoChain_NoUnit
      · exact Q_NoChain_NotClosed
      · exact Q_NoChain_NoFit
      · exact Q_NoChain_TooMuch
      · exact Q_NoChain_NoMove
      · exact Q_NoChain_NoChain
      · exact Q_NoChain_NoPrime
      · exact Q_NoChain_NoLine)), asked_of X G Q_NoCrossing (each_name (names := errNames) (by
      intro x hx
      simp only [errNames, List.mem_cons, List.not_mem_nil, or_false] at hx
      rcases hx with rfl | rfl | rfl | rfl | rfl | rfl | rfl | rfl | rfl | rfl | rfl | rfl
      · exact Q_NoCrossing_PlaitError
      · exact Q_NoCrossing_NotADrawing
      · exact Q_NoCrossing_NoCrossing
      · exact Q_NoCrossing_TooBig
      · exact Q_NoCrossing_NoUnit
      · exact Q_NoCrossing_NotClosed
      · exact Q_NoCrossing_NoFit
      · exact Q_NoCrossing_TooMuch
      · exact Q_NoCrossing_NoMove
      · exact Q_NoCrossing_NoChain
      · exact Q_NoCrossing_NoPrime
      · exact Q_NoCrossing_NoLine)), asked_of X G Q_NoFit (each_name (names := errNames) (by
      intro x hx
      simp only [errNames, List.mem_cons, List.not_mem_nil, or_false] at hx
      rcases hx with rfl | rfl | rfl | rfl | rfl | rfl | rfl | rfl | rfl | rfl | rfl | rfl
      · exact Q_NoFit_PlaitError
      · exact Q_NoFit_NotADrawing
      · exact Q_NoFit_NoCrossing
      · exact Q_NoFit_TooBig
      · exact Q_NoFit_NoUnit
      · exact Q_NoFit_NotClosed
      · exact Q_NoFit_NoFit
      · exact Q_NoFit_TooMuch
      · exact Q_NoFit_NoMove
      · exact Q_NoFit_NoChain
      · exact Q_NoFit_NoPrime
      · exact Q_NoFit_NoLine)), asked_of X G Q_NoLine (each_name (names := errNames) (by
      intro x hx
      simp only [errNames, List.mem_cons, List.not_mem_nil, or_false] at hx
      rcases hx with rfl | rfl | rfl | rfl | rfl | rfl | rfl | rfl | rfl | rfl | rfl | rfl
      · exact Q_NoLine_PlaitError
      · exact Q_NoLine_NotADrawing
      · exact Q_NoLine_NoCrossing
      · exact Q_NoLine_TooBig
      · exact Q_NoLine_NoUnit
      · exact Q_NoLine_NotClosed
      · exact Q_NoLine_NoFit
      · exact Q_NoLine_TooMuch
      · exact Q_NoLine_NoMove
      · exact Q_NoLine_NoChain
      · exact Q_NoLine_NoPrime
      · exact Q_NoLine_NoLine)), asked_of X G Q_NoMove (each_name (names := errNames) (by
      intro x hx
      simp only [errNames, List.mem_cons, List.not_mem_nil, or_false] at hx
      rcases hx with rfl | rfl | rfl | rfl | rfl | rfl | rfl | rfl | rfl | rfl | rfl | rfl
      · exact Q_NoMove_PlaitError
      · exact Q_NoMove_NotADrawing
      · exact Q_NoMove_NoCrossing
      · exact Q_NoMove_TooBig
      · exact Q_NoMove_NoUnit
      · exact Q_NoMove_NotClosed
      · exact Q_NoMove_NoFit
      · exact Q_NoMove_TooMuch
      · exact Q_NoMove_NoMove
      · exact Q_NoMove_NoChain
      · exact Q_NoMove_NoPrime
      · exact Q_NoMove_NoLine)), asked_of X G Q_NoPrime (each_name (names := errNames) (by
      intro x hx
      simp only [errNames, List.mem_cons, List.not_mem_nil, or_false] at hx
      rcases hx with rfl | rfl | rfl | rfl | rfl | rfl | rfl | rfl | rfl | rfl | rfl | rfl
      · exact Q_NoPrime_PlaitError
      · exact Q_NoPrime_NotADrawing
      · exact Q_NoPrime_NoCrossing
      · exact Q_NoPrime_TooBig
      · exact Q_NoPrime_NoUnit
      · exact Q_NoPrime_NotClosed
      · exact Q_NoPrime_NoFit
      · exact Q_NoPrime_TooMuch
      · exact Q_NoPrime_NoMove
      · exact Q_NoPrime_NoChain
      · exact Q_NoPrime_NoPrime
      · exact Q_NoPrime_NoLine)), asked_of X G Q_NoUnit (each_name (names := errNames) (by
      intro x hx
      simp only [errNames, List.mem_cons, List.not_mem_nil, or_false] at hx
      rcases hx with rfl | rfl | rfl | rfl | rfl | rfl | rfl | rfl | rfl | rfl | rfl | rfl
      · exact Q_NoUnit_PlaitError
      · exact Q_NoUnit_NotADrawing
      · exact Q_NoUnit_NoCrossing
      · exact Q_NoUnit_TooBig
      · exact Q_NoUnit_NoUnit
      · exact Q_NoUnit_NotClosed
      · exact Q_NoUnit_NoFit
      · exact Q_NoUnit_TooMuch
      · exact Q_NoUnit_NoMove
      · exact Q_NoUnit_NoChain
      · exact Q_NoUnit_NoPrime
      · exact Q_NoUnit_NoLine)), asked_of X G Q_NotADrawing (each_name (names := errNames) (by
      intro x hx
      simp only [errNames, List.mem_cons, List.not_mem_nil, or_false] at hx
      rcases hx with rfl | rfl | rfl | rfl | rfl | rfl | rfl | rfl | rfl | rfl | rfl | rfl
      · exact Q_NotADrawing_PlaitError
      · exact Q_NotADrawing_NotADrawing
      · exact Q_NotADrawing_NoCrossing
      · exact Q_NotADrawing_TooBig
      · exact Q_NotADrawing_NoUnit
      · exact Q_NotADrawing_NotClosed
      · exact Q_NotADrawing_NoFit
      · exact Q_NotADrawing_TooMuch
      · exact Q_NotADrawing_NoMove
      · exact Q_NotADrawing_NoChain
      · exact Q_NotADrawing_NoPrime
      · exact Q_NotADrawing_NoLine)), asked_of X G Q_NotClosed (each_name (names := errNames) (by
      intro x hx
      simp only [errNames, List.mem_cons, List.not_mem_nil, or_false] at hx
      rcases hx with rfl | rfl | rfl | rfl | rfl | rfl | rfl | rfl | rfl | rfl | rfl | rfl
      · exact Q_NotClosed_PlaitError
      · exact Q_NotClosed_NotADrawing
      · exact Q_NotClosed_NoCrossing
      · exact Q_NotClosed_TooBig
      · exact Q_NotClosed_NoUnit
      · exact Q_NotClosed_NotClosed
      · exact Q_NotClosed_NoFit
      · exact Q_NotClosed_TooMuch
      · exact Q_NotClosed_NoMove
      · exact Q_NotClosed_NoChain
      · exact Q_NotClosed_NoPrime
      · exact Q_NotClosed_NoLine)), asked_of X G Q_TooBig (each_name (names := errNames) (by
      intro x hx
      simp only [errNames, List.mem_cons, List.not_mem_nil, or_false] at hx
      rcases hx with rfl | rfl | rfl | rfl | rfl | rfl | rfl | rfl | rfl | rfl | rfl | rfl
      · exact Q_TooBig_PlaitError
      · exact Q_TooBig_NotADrawing
      · exact Q_TooBig_NoCrossing
      · exact Q_TooBig_TooBig
      · exact Q_TooBig_NoUnit
      · exact Q_TooBig_NotClosed
      · exact Q_TooBig_NoFit
      · exact Q_TooBig_TooMuch
      · exact Q_TooBig_NoMove
      · exact Q_TooBig_NoChain
      · exact Q_TooBig_NoPrime
      · exact Q_TooBig_NoLine)), asked_of X G Q_TooMuch (each_name (names := errNames) (by
      intro x hx
      simp only [errNames, List.mem_cons, List.not_mem_nil, or_false] at hx
      rcases hx with rfl | rfl | rfl | rfl | rfl | rfl | rfl | rfl | rfl | rfl | rfl | rfl
      · exact Q_TooMuch_PlaitError
      · exact Q_TooMuch_NotADrawing
      · exact Q_TooMuch_NoCrossing
      · exact Q_TooMuch_TooBig
      · exact Q_TooMuch_NoUnit
      · exact Q_TooMuch_NotClosed
      · exact Q_TooMuch_NoFit
      · exact Q_TooMuch_TooMuch
      · exact Q_TooMuch_NoMove
      · exact Q_TooMuch_NoChain
      · exact Q_TooMuch_NoPrime
      · exact Q_TooMuch_NoLine)), askedB_of X G (each_name (names := errNames) (by
      intro x hx
      simp only [errNames, List.mem_cons, List.not_mem_nil, or_false] at hx
      rcases hx with rfl | rfl | rfl | rfl | rfl | rfl | rfl | rfl | rfl | rfl | rfl | rfl
      · exact B_ValueError_PlaitError
      · exact B_ValueError_NotADrawing
      · exact B_ValueError_NoCrossing
      · exact B_ValueError_TooBig
      · exact B_ValueError_NoUnit
      · exact B_ValueError_NotClosed
      · exact B_ValueError_NoFit
      · exact B_ValueError_TooMuch
      · exact B_ValueError_NoMove
      · exact B_ValueError_NoChain
      · exact B_ValueError_NoPrime
      · exact B_ValueError_NoLine)), O_ValueError.out X G, O_bool.out X G, O_int.out X G, O_isinstance.out X G, O_len.out X G, O_range.out X G, O_tuple.out X G, clause_of X G C_NoChain (each_name (names := errNames) (by
      intro x hx
      simp only [errNames, List.mem_cons, List.not_mem_nil, or_false] at hx
      rcases hx with rfl | rfl | rfl | rfl | rfl | rfl | rfl | rfl | rfl | rfl | rfl | rfl
      · exact C_NoChain_PlaitError
      · exact C_NoChain_NotADrawing
      · exact C_NoChain_NoCrossing
      · exact C_NoChain_TooBig
      · exact C_NoChain_NoUnit
      · exact C_NoChain_NotClosed
      · exact C_NoChain_NoFit
      · exact C_NoChain_TooMuch
      · exact C_NoChain_NoMove
      · exact C_NoChain_NoChain
      · exact C_NoChain_NoPrime
      · exact C_NoChain_NoLine)), clause_of X G C_NotADrawing (each_name (names := errNames) (by
      intro x hx
      simp only [errNames, List.mem_cons, List.not_mem_nil, or_false] at hx
      rcases hx with rfl | rfl | rfl | rfl | rfl | rfl | rfl | rfl | rfl | rfl | rfl | rfl
      · exact C_NotADrawing_PlaitError
      · exact C_NotADrawing_NotADrawing
      · exact C_NotADrawing_NoCrossing
      · exact C_NotADrawing_TooBig
      · exact C_NotADrawing_NoUnit
      · exact C_NotADrawing_NotClosed
      · exact C_NotADrawing_NoFit
      · exact C_NotADrawing_TooMuch
      · exact C_NotADrawing_NoMove
      · exact C_NotADrawing_NoChain
      · exact C_NotADrawing_NoPrime
      · exact C_NotADrawing_NoLine)), clause_of X G C_PlaitError (each_name (names := errNames) (by
      intro x hx
      simp only [errNames, List.mem_cons, List.not_mem_nil, or_false] at hx
      rcases hx with rfl | rfl | rfl | rfl | rfl | rfl | rfl | rfl | rfl | rfl | rfl | rfl
      · exact C_PlaitError_PlaitError
      · exact C_PlaitError_NotADrawing
      · exact C_PlaitError_NoCrossing
      · exact C_PlaitError_TooBig
      · exact C_PlaitError_NoUnit
      · exact C_PlaitError_NotClosed
      · exact C_PlaitError_NoFit
      · exact C_PlaitError_TooMuch
      · exact C_PlaitError_NoMove
      · exact C_PlaitError_NoChain
      · exact C_PlaitError_NoPrime
      · exact C_PlaitError_NoLine)), R_NoCrossing.err X G (by decide), R_NoFit.err X G (by decide), R_NoLine.err X G (by decide), R_NoMove.err X G (by decide), R_NoPrime.err X G (by decide), R_NoUnit.err X G (by decide), R_NotClosed.err X G (by decide), R_PlaitError.err X G (by decide), R_TooBig.err X G (by decide), R_TooMuch.err X G (by decide), J_NoChain.noFld X G, J_NotADrawing.noFld X G, excAll_of X G (each_name (names := errNames) (by
      intro x hx
      simp only [errNames, List.mem_cons, List.not_mem_nil, or_false] at hx
      rcases hx with rfl | rfl | rfl | rfl | rfl | rfl | rfl | rfl | rfl | rfl | rfl | rfl
      · exact T_PlaitError
      · exact T_NotADrawing
      · exact T_NoCrossing
      · exact T_TooBig
      · exact T_NoUnit
      · exact T_NotClosed
      · exact T_NoFit
      · exact T_TooMuch
      · exact T_NoMove
      · exact T_NoChain
      · exact T_NoPrime
      · exact T_NoLine))⟩
  have H_NoChain : ErrF P w K mg base (clOf errNames mg) "NoChain" "at" := InitAt.errF X G J_NoChain (by decide) sci_NoChain bi_NoChain di_NoChain
  have H_NotADrawing : ErrF P w K mg base (clOf errNames mg) "NotADrawing" "fault" := InitAt.errF X G J_NotADrawing (by decide) sci_NotADrawing bi_NotADrawing di_NotADrawing
  have G_law_cell : Def P w K mg base (clOf errNames mg) "_law_cell" 2 XD.sp_law_cell lv_law_cell := def_at X G F_law_cell sc_law_cell b_law_cell (d_law_cell E ) spec_law_cell
  have G_law_mix : Def P w K mg base (clOf errNames mg) "_law_mix" 2 XD.sp_law_mix lv_law_mix := def_at X G F_law_mix sc_law_mix b_law_mix (d_law_mix E ) spec_law_mix
  have G_law_row : Def P w K mg base (clOf errNames mg) "_law_row" 3 XD.sp_law_row lv_law_row := def_at X G F_law_row sc_law_row b_law_row (d_law_row E G_law_cell G_law_mix) spec_law_row
  have G_law_wrong : Def P w K mg base (clOf errNames mg) "_law_wrong" 1 sp_law_wrong lv_law_wrong := def_at X G F_law_wrong sc_law_wrong b_law_wrong (d_law_wrong E ) spec_law_wrong
  have G_law_thrown : Def P w K mg base (clOf errNames mg) "_law_thrown" 3 sp_law_thrown lv_law_thrown := def_at X G F_law_thrown sc_law_thrown b_law_thrown (d_law_thrown E  H_NoChain H_NotADrawing) spec_law_thrown
  have G_law_is_whole : Def P w K mg base (clOf errNames mg) "_law_is_whole" 1 sp_law_is_whole lv_law_is_whole := def_at X G F_law_is_whole sc_law_is_whole b_law_is_whole (d_law_is_whole E ) spec_law_is_whole
  have G_law_fields : Def P w K mg base (clOf errNames mg) "_law_fields" 2 sp_law_fields lv_law_fields := def_at X G F_law_fields sc_law_fields b_law_fields (d_law_fields E G_law_thrown G_law_is_whole) spec_law_fields
  have G_law_sorts : Def P w K mg base (clOf errNames mg) "_law_sorts" 3 sp_law_sorts lv_law_sorts := def_at X G F_law_sorts sc_law_sorts b_law_sorts (d_law_sorts E G_law_thrown) spec_law_sorts
  exact FnOk.imp (def_okF (cl := clOf errNames mg) FF sc_law (d_law E G_law_row G_law_wrong G_law_fields G_law_sorts _) spec_law) lawS_cl
end LK17
open PySem PySem.W PyProof.Rows
set_option maxHeartbeats 0 in
theorem PySem.Challenge.cw_plait_k17_refusals_holds : PySem.Challenge.rw_plait_k17_refusals.Holds := by
  w_on; o_law; k_head; (case hw => w_witness2)
  k_fill
  refine L2.walk_ofB (l := PySem.Challenge.rw_plait_k17_refusals) (n := 63) (k := 5) (x := "_law_script") (CX := fun w => L2.CX PySem.Challenge.rw_plait_k17_refusals.prog w) (sp := fun w => VL.spOf _ (fun _ => none) VL.LawS) rfl (by decide) rfl ⟨rfl, by decide, by decide⟩ (fun w h Y => PySem.W.kIn_of Y) ?F (fun w H a ns hl hb hO hS => VL.law_sp hl hb hO hS) (fun _ _ _ _ _ h => by obtain ⟨_, _, _, _, _, _, _, _, _, _, _, _, h⟩ := h; exact h)
  case F =>
    intro w mg fa h KX G hmg
    refine' LK17.all_mk KX G hmg (VL.FnAt.mk ?z1 ?z2 ?z3 ?z4) (VL.FnAt.mk ?z5 ?z6 ?z7 ?z8) (VL.FnAt.mk ?z9 ?z10 ?z11 ?z12) (VL.FnAt.mk ?z13 ?z14 ?z15 ?z16) (VL.FnAt.mk ?z17 ?z18 ?z19 ?z20) (VL.FnAt.mk ?z21 ?z22 ?z23 ?z24) (VL.FnAt.mk ?z25 ?z26 ?z27 ?z28) (VL.FnAt.mk ?z29 ?z30 ?z31 ?z32) (VL.FnAt.mk ?z33 ?z34 ?z35 ?z36) (VL.RefAt.mk ?z37) (VL.KitAt.mk ?z38 ?z39 ?z40) (VL.KitAt.mk ?z41 ?z42 ?z43) (VL.KitAt.mk ?z44 ?z45 ?z46) (VL.KitAt.mk ?z47 ?z48 ?z49) (VL.KitAt.mk ?z50 ?z51 ?z52) (VL.KitAt.mk ?z53 ?z54 ?z55) (VL.KitAt.mk ?z56 ?z57 ?z58) (VL.KitAt.mk ?z59 ?z60 ?z61) (VL.KitAt.mk ?z62 ?z63 ?z64) (VL.KitAt.mk ?z65 ?z66 ?z67) (VL.KitAt.mk ?z68 ?z69 ?z70) (VL.KitAt.mk ?z71 ?z72 ?z73) (VL.RefAt.mk ?z74) (VL.KitAt.mk ?z75 ?z76 ?z77) (VL.KitAt.mk ?z78 ?z79 ?z80) (VL.KitAt.mk ?z81 ?z82 ?z83) (VL.KitAt.mk ?z84 ?z85 ?z86) (VL.KitAt.mk ?z87 ?z88 ?z89) (VL.KitAt.mk ?z90 ?z91 ?z92) (VL.KitAt.mk ?z93 ?z94 ?z95) (VL.KitAt.mk ?z96 ?z97 ?z98) (VL.KitAt.mk ?z99 ?z100 ?z101) (VL.KitAt.mk ?z102 ?z103 ?z104) (VL.KitAt.mk ?z105 ?z106 ?z107) (VL.KitAt.mk ?z108 ?z109 ?z110) (VL.RefAt.mk ?z111) (VL.KitAt.mk ?z112 ?z113 ?z114) (VL.KitAt.mk ?z115 ?z116 ?z117) (VL.KitAt.mk ?z118 ?z119 ?z120) (VL.KitAt.mk ?z121 ?z122 ?z123) (VL.KitAt.mk ?z124 ?z125 ?z126) (VL.KitAt.mk ?z127 ?z128 ?z129) (VL.KitAt.mk ?z130 ?z131 ?z132) (VL.KitAt.mk ?z133 ?z134 ?z135) (VL.KitAt.mk ?z136 ?z137 ?z138) (VL.KitAt.mk ?z139 ?z140 ?z141) (VL.KitAt.mk ?z142 ?z143 ?z144) (VL.KitAt.mk ?z145 ?z146 ?z147) (VL.RefAt.mk ?z148) (VL.KitAt.mk ?z149 ?z150 ?z151) (VL.KitAt.mk ?z152 ?z153 ?z154) (VL.KitAt.mk ?z155 ?z156 ?z157) (VL.KitAt.mk ?z158 ?z159 ?z160) (VL.KitAt.mk ?z161 ?z162 ?z163) (VL.KitAt.mk ?z164 ?z165 ?z166) (VL.KitAt.mk ?z167 ?z168 ?z169) (VL.KitAt.mk ?z170 ?z171 ?z172) (VL.KitAt.mk ?z173 ?z174 ?z175) (VL.KitAt.mk ?z176 ?z177 ?z178) (VL.KitAt.mk ?z179 ?z180 ?z181) (VL.KitAt.mk ?z182 ?z183 ?z184) (VL.RefAt.mk ?z185) (VL.KitAt.mk ?z186 ?z187 ?z188) (VL.KitAt.mk ?z189 ?z190 ?z191) (VL.KitAt.mk ?z192 ?z193 ?z194) (VL.KitAt.mk ?z195 ?z196 ?z197) (VL.KitAt.mk ?z198 ?z199 ?z200) (VL.KitAt.mk ?z201 ?z202 ?z203) (VL.KitAt.mk ?z204 ?z205 ?z206) (VL.KitAt.mk ?z207 ?z208 ?z209) (VL.KitAt.mk ?z210 ?z211 ?z212) (VL.KitAt.mk ?z213 ?z214 ?z215) (VL.KitAt.mk ?z216 ?z217 ?z218) (VL.KitAt.mk ?z219 ?z220 ?z221) (VL.RefAt.mk ?z222) (VL.KitAt.mk ?z223 ?z224 ?z225) (VL.KitAt.mk ?z226 ?z227 ?z228) (VL.KitAt.mk ?z229 ?z230 ?z231) (VL.KitAt.mk ?z232 ?z233 ?z234) (VL.KitAt.mk ?z235 ?z236 ?z237) (VL.KitAt.mk ?z238 ?z239 ?z240) (VL.KitAt.mk ?z241 ?z242 ?z243) (VL.KitAt.mk ?z244 ?z245 ?z246) (VL.KitAt.mk ?z247 ?z248 ?z249) (VL.KitAt.mk ?z250 ?z251 ?z252) (VL.KitAt.mk ?z253 ?z254 ?z255) (VL.KitAt.mk ?z256 ?z257 ?z258) (VL.RefAt.mk ?z259) (VL.KitAt.mk ?z260 ?z261 ?z262) (VL.KitAt.mk ?z263 ?z264 ?z265) (VL.KitAt.mk ?z266 ?z267 ?z268) (VL.KitAt.mk ?z269 ?z270 ?z271) (VL.KitAt.mk ?z272 ?z273 ?z274) (VL.KitAt.mk ?z275 ?z276 ?z277) (VL.KitAt.mk ?z278 ?z279 ?z280) (VL.KitAt.mk ?z281 ?z282 ?z283) (VL.KitAt.mk ?z284 ?z285 ?z286) (VL.KitAt.mk ?z287 ?z288 ?z289) (VL.KitAt.mk ?z290 ?z291 ?z292) (VL.KitAt.mk ?z293 ?z294 ?z295) (VL.RefAt.mk ?z296) (VL.KitAt.mk ?z297 ?z298 ?z299) (VL.KitAt.mk ?z300 ?z301 ?z302) (VL.KitAt.mk ?z303 ?z304 ?z305) (VL.KitAt.mk ?z306 ?z307 ?z308) (VL.KitAt.mk ?z309 ?z310 ?z311) (VL.KitAt.mk ?z312 ?z313 ?z314) (VL.KitAt.mk ?z315 ?z316 ?z317) (VL.KitAt.mk ?z318 ?z319 ?z320) (VL.KitAt.mk ?z321 ?z322 ?z323) (VL.KitAt.mk ?z324 ?z325 ?z326) (VL.KitAt.mk ?z327 ?z328 ?z329) (VL.KitAt.mk ?z330 ?z331 ?z332) (VL.RefAt.mk ?z333) (VL.KitAt.mk ?z334 ?z335 ?z336) (VL.KitAt.mk ?z337 ?z338 ?z339) (VL.KitAt.mk ?z340 ?z341 ?z342) (VL.KitAt.mk ?z343 ?z344 ?z345) (VL.KitAt.mk ?z346 ?z347 ?z348) (VL.KitAt.mk ?z349 ?z350 ?z351) (VL.KitAt.mk ?z352 ?z353 ?z354) (VL.KitAt.mk ?z355 ?z356 ?z357) (VL.KitAt.mk ?z358 ?z359 ?z360) (VL.KitAt.mk ?z361 ?z362 ?z363) (VL.KitAt.mk ?z364 ?z365 ?z366) (VL.KitAt.mk ?z367 ?z368 ?z369) (VL.RefAt.mk ?z370) (VL.KitAt.mk ?z371 ?z372 ?z373) (VL.KitAt.mk ?z374 ?z375 ?z376) (VL.KitAt.mk ?z377 ?z378 ?z379) (VL.KitAt.mk ?z380 ?z381 ?z382) (VL.KitAt.mk ?z383 ?z384 ?z385) (VL.KitAt.mk ?z386 ?z387 ?z388) (VL.KitAt.mk ?z389 ?z390 ?z391) (VL.KitAt.mk ?z392 ?z393 ?z394) (VL.KitAt.mk ?z395 ?z396 ?z397) (VL.KitAt.mk ?z398 ?z399 ?z400) (VL.KitAt.mk ?z401 ?z402 ?z403) (VL.KitAt.mk ?z404 ?z405 ?z406) (VL.RefAt.mk ?z407) (VL.KitAt.mk ?z408 ?z409 ?z410) (VL.KitAt.mk ?z411 ?z412 ?z413) (VL.KitAt.mk ?z414 ?z415 ?z416) (VL.KitAt.mk ?z417 ?z418 ?z419) (VL.KitAt.mk ?z420 ?z421 ?z422) (VL.KitAt.mk ?z423 ?z424 ?z425) (VL.KitAt.mk ?z426 ?z427 ?z428) (VL.KitAt.mk ?z429 ?z430 ?z431) (VL.KitAt.mk ?z432 ?z433 ?z434) (VL.KitAt.mk ?z435 ?z436 ?z437) (VL.KitAt.mk ?z438 ?z439 ?z440) (VL.KitAt.mk ?z441 ?z442 ?z443) (VL.KitTAt.mk ?z444 ?z445) (VL.KitTAt.mk ?z446 ?z447) (VL.KitTAt.mk ?z448 ?z449) (VL.KitTAt.mk ?z450 ?z451) (VL.KitTAt.mk ?z452 ?z453) (VL.KitTAt.mk ?z454 ?z455) (VL.KitTAt.mk ?z456 ?z457) (VL.KitTAt.mk ?z458 ?z459) (VL.KitTAt.mk ?z460 ?z461) (VL.KitTAt.mk ?z462 ?z463) (VL.KitTAt.mk ?z464 ?z465) (VL.KitTAt.mk ?z466 ?z467) (VL.NoAt.mk ?z468) (VL.NoAt.mk ?z469) (VL.NoAt.mk ?z470) (VL.NoAt.mk ?z471) (VL.NoAt.mk ?z472) (VL.NoAt.mk ?z473) (VL.NoAt.mk ?z474) (VL.RefAt.mk ?z475) (VL.ExmAt.mk ?z476 ?z477 ?z478) (VL.ExmAt.mk ?z479 ?z480 ?z481) (VL.ExmAt.mk ?z482 ?z483 ?z484) (VL.ExmAt.mk ?z485 ?z486 ?z487) (VL.ExmAt.mk ?z488 ?z489 ?z490) (VL.ExmAt.mk ?z491 ?z492 ?z493) (VL.ExmAt.mk ?z494 ?z495 ?z496) (VL.ExmAt.mk ?z497 ?z498 ?z499) (VL.ExmAt.mk ?z500 ?z501 ?z502) (VL.ExmAt.mk ?z503 ?z504 ?z505) (VL.ExmAt.mk ?z506 ?z507 ?z508) (VL.ExmAt.mk ?z509 ?z510 ?z511) (VL.RefAt.mk ?z512) (VL.ExmAt.mk ?z513 ?z514 ?z515) (VL.ExmAt.mk ?z516 ?z517 ?z518) (VL.ExmAt.mk ?z519 ?z520 ?z521) (VL.ExmAt.mk ?z522 ?z523 ?z524) (VL.ExmAt.mk ?z525 ?z526 ?z527) (VL.ExmAt.mk ?z528 ?z529 ?z530) (VL.ExmAt.mk ?z531 ?z532 ?z533) (VL.ExmAt.mk ?z534 ?z535 ?z536) (VL.ExmAt.mk ?z537 ?z538 ?z539) (VL.ExmAt.mk ?z540 ?z541 ?z542) (VL.ExmAt.mk ?z543 ?z544 ?z545) (VL.ExmAt.mk ?z546 ?z547 ?z548) (VL.RefAt.mk ?z549) (VL.ExmAt.mk ?z550 ?z551 ?z552) (VL.ExmAt.mk ?z553 ?z554 ?z555) (VL.ExmAt.mk ?z556 ?z557 ?z558) (VL.ExmAt.mk ?z559 ?z560 ?z561) (VL.ExmAt.mk ?z562 ?z563 ?z564) (VL.ExmAt.mk ?z565 ?z566 ?z567) (VL.ExmAt.mk ?z568 ?z569 ?z570) (VL.ExmAt.mk ?z571 ?z572 ?z573) (VL.ExmAt.mk ?z574 ?z575 ?z576) (VL.ExmAt.mk ?z577 ?z578 ?z579) (VL.ExmAt.mk ?z580 ?z581 ?z582) (VL.ExmAt.mk ?z583 ?z584 ?z585) (VL.ErrAt.mk ?z586 ?z587 ?z588 ?z589 ?z590) (VL.ErrAt.mk ?z591 ?z592 ?z593 ?z594 ?z595) (VL.ErrAt.mk ?z596 ?z597 ?z598 ?z599 ?z600) (VL.ErrAt.mk ?z601 ?z602 ?z603 ?z604 ?z605) (VL.ErrAt.mk ?z606 ?z607 ?z608 ?z609 ?z610) (VL.ErrAt.mk ?z611 ?z612 ?z613 ?z614 ?z615) (VL.ErrAt.mk ?z616 ?z617 ?z618 ?z619 ?z620) (VL.ErrAt.mk ?z621 ?z622 ?z623 ?z624 ?z625) (VL.ErrAt.mk ?z626 ?z627 ?z628 ?z629 ?z630) (VL.ErrAt.mk ?z631 ?z632 ?z633 ?z634 ?z635) (VL.ExcAt.mk ?z636 ?z637 ?z638 ?z639 ?z640 ?z641 ?z642 ?z643 ?z644) (VL.ExcAt.mk ?z645 ?z646 ?z647 ?z648 ?z649 ?z650 ?z651 ?z652 ?z653) (VL.ExcAt.mk ?z654 ?z655 ?z656 ?z657 ?z658 ?z659 ?z660 ?z661 ?z662) (VL.ExcAt.mk ?z663 ?z664 ?z665 ?z666 ?z667 ?z668 ?z669 ?z670 ?z671) (VL.ExcAt.mk ?z672 ?z673 ?z674 ?z675 ?z676 ?z677 ?z678 ?z679 ?z680) (VL.ExcAt.mk ?z681 ?z682 ?z683 ?z684 ?z685 ?z686 ?z687 ?z688 ?z689) (VL.ExcAt.mk ?z690 ?z691 ?z692 ?z693 ?z694 ?z695 ?z696 ?z697 ?z698) (VL.ExcAt.mk ?z699 ?z700 ?z701 ?z702 ?z703 ?z704 ?z705 ?z706 ?z707) (VL.ExcAt.mk ?z708 ?z709 ?z710 ?z711 ?z712 ?z713 ?z714 ?z715 ?z716) (VL.ExcAt.mk ?z717 ?z718 ?z719 ?z720 ?z721 ?z722 ?z723 ?z724 ?z725) (VL.ExcAt.mk ?z726 ?z727 ?z728 ?z729 ?z730 ?z731 ?z732 ?z733 ?z734) (VL.ExcAt.mk ?z735 ?z736 ?z737 ?z738 ?z739 ?z740 ?z741 ?z742 ?z743) (VL.InitAt.mk ?z744 ?z745 ?z746 ?z747 ?z748 ?z749 ?z750 ?z751 ?z752 ?z753 ?z754 ?z755 ?z756) (VL.InitAt.mk ?z757 ?z758 ?z759 ?z760 ?z761 ?z762 ?z763 ?z764 ?z765 ?z766 ?z767 ?z768 ?z769)
    (case z1 => k_is); (case z2 => k_is); (case z3 => k_is); (case z4 => k_is)
    (case z5 => k_is); (case z6 => k_is); (case z7 => k_is); (case z8 => k_is)
    (case z9 => k_is); (case z10 => k_is); (case z11 => k_is); (case z12 => k_is)
    (case z13 => k_is); (case z14 => k_is); (case z15 => k_is); (case z16 => k_is)
    (case z17 => k_is); (case z18 => k_is); (case z19 => k_is); (case z20 => k_is)
    (case z21 => k_is); (case z22 => k_is); (case z23 => k_is); (case z24 => k_is)
    (case z25 => k_is); (case z26 => k_is); (case z27 => k_is); (case z28 => k_is)
    (case z29 => k_is); (case z30 => k_is); (case z31 => k_is); (case z32 => k_is)
    (case z33 => k_is); (case z34 => k_is); (case z35 => k_is); (case z36 => k_is)
    (case z37 => k_is)
    (case z38 => k_is); (case z39 => k_is); (case z40 => kit_is)
    (case z41 => k_is); (case z42 => k_is); (case z43 => kit_is)
    (case z44 => k_is); (case z45 => k_is); (case z46 => kit_is)
    (case z47 => k_is); (case z48 => k_is); (case z49 => kit_is)
    (case z50 => k_is); (case z51 => k_is); (case z52 => kit_is)
    (case z53 => k_is); (case z54 => k_is); (case z55 => kit_is)
    (case z56 => k_is); (case z57 => k_is); (case z58 => kit_is)
    (case z59 => k_is); (case z60 => k_is); (case z61 => kit_is)
    (case z62 => k_is); (case z63 => k_is); (case z64 => kit_is)
    (case z65 => k_is); (case z66 => k_is); (case z67 => kit_is)
    (case z68 => k_is); (case z69 => k_is); (case z70 => kit_is)
    (case z71 => k_is); (case z72 => k_is); (case z73 => kit_is)
    (case z74 => k_is)
    (case z75 => k_is); (case z76 => k_is); (case z77 => kit_is)
    (case z78 => k_is); (case z79 => k_is); (case z80 => kit_is)
    (case z81 => k_is); (case z82 => k_is); (case z83 => kit_is)
    (case z84 => k_is); (case z85 => k_is); (case z86 => kit_is)
    (case z87 => k_is); (case z88 => k_is); (case z89 => kit_is)
    (case z90 => k_is); (case z91 => k_is); (case z92 => kit_is)
    (case z93 => k_is); (case z94 => k_is); (case z95 => kit_is)
    (case z96 => k_is); (case z97 => k_is); (case z98 => kit_is)
    (case z99 => k_is); (case z100 => k_is); (case z101 => kit_is)
    (case z102 => k_is); (case z103 => k_is); (case z104 => kit_is)
    (case z105 => k_is); (case z106 => k_is); (case z107 => kit_is)
    (case z108 => k_is); (case z109 => k_is); (case z110 => kit_is)
    (case z111 => k_is)
    (case z112 => k_is); (case z113 => k_is); (case z114 => kit_is)
    (case z115 => k_is); (case z116 => k_is); (case z117 => kit_is)
    (case z118 => k_is); (case z119 => k_is); (case z120 => kit_is)
    (case z121 => k_is); (case z122 => k_is); (case z123 => kit_is)
    (case z124 => k_is); (case z125 => k_is); (case z126 => kit_is)
    (case z127 => k_is); (case z128 => k_is); (case z129 => kit_is)
    (case z130 => k_is); (case z131 => k_is); (case z132 => kit_is)
    (case z133 => k_is); (case z134 => k_is); (case z135 => kit_is)
    (case z136 => k_is); (case z137 => k_is); (case z138 => kit_is)
    (case z139 => k_is); (case z140 => k_is); (case z141 => kit_is)
    (case z142 => k_is); (case z143 => k_is); (case z144 => kit_is)
    (case z145 => k_is); (case z146 => k_is); (case z147 => kit_is)
    (case z148 => k_is)
    (case z149 => k_is); (case z150 => k_is); (case z151 => kit_is)
    (case z152 => k_is); (case z153 => k_is); (case z154 => kit_is)
    (case z155 => k_is); (case z156 => k_is); (case z157 => kit_is)
    (case z158 => k_is); (case z159 => k_is); (case z160 => kit_is)
    (case z161 => k_is); (case z162 => k_is); (case z163 => kit_is)
    (case z164 => k_is); (case z165 => k_is); (case z166 => kit_is)
    (case z167 => k_is); (case z168 => k_is); (case z169 => kit_is)
    (case z170 => k_is); (case z171 => k_is); (case z172 => kit_is)
    (case z173 => k_is); (case z174 => k_is); (case z175 => kit_is)
    (case z176 => k_is); (case z177 => k_is); (case z178 => kit_is)
    (case z179 => k_is); (case z180 => k_is); (case z181 => kit_is)
    (case z182 => k_is); (case z183 => k_is); (case z184 => kit_is)
    (case z185 => k_is)
    (case z186 => k_is); (case z187 => k_is); (case z188 => kit_is)
    (case z189 => k_is); (case z190 => k_is); (case z191 => kit_is)
    (case z192 => k_is); (case z193 => k_is); (case z194 => kit_is)
    (case z195 => k_is); (case z196 => k_is); (case z197 => kit_is)
    (case z198 => k_is); (case z199 => k_is); (case z200 => kit_is)
    (case z201 => k_is); (case z202 => k_is); (case z203 => kit_is)
    (case z204 => k_is); (case z205 => k_is); (case z206 => kit_is)
    (case z207 => k_is); (case z208 => k_is); (case z209 => kit_is)
    (case z210 => k_is); (case z211 => k_is); (case z212 => kit_is)
    (case z213 => k_is); (case z214 => k_is); (case z215 => kit_is)
    (case z216 => k_is); (case z217 => k_is); (case z218 => kit_is)
    (case z219 => k_is); (case z220 => k_is); (case z221 => kit_is)
    (case z222 => k_is)
    (case z223 => k_is); (case z224 => k_is); (case z225 => kit_is)
    (case z226 => k_is); (case z227 => k_is); (case z228 => kit_is)
    (case z229 => k_is); (case z230 => k_is); (case z231 => kit_is)
    (case z232 => k_is); (case z233 => k_is); (case z234 => kit_is)
    (case z235 => k_is); (case z236 => k_is); (case z237 => kit_is)
    (case z238 => k_is); (case z239 => k_is); (case z240 => kit_is)
    (case z241 => k_is); (case z242 => k_is); (case z243 => kit_is)
    (case z244 => k_is); (case z245 => k_is); (case z246 => kit_is)
    (case z247 => k_is); (case z248 => k_is); (case z249 => kit_is)
    (case z250 => k_is); (case z251 => k_is); (case z252 => kit_is)
    (case z253 => k_is); (case z254 => k_is); (case z255 => kit_is)
    (case z256 => k_is); (case z257 => k_is); (case z258 => kit_is)
    (case z259 => k_is)
    (case z260 => k_is); (case z261 => k_is); (case z262 => kit_is)
    (case z263 => k_is); (case z264 => k_is); (case z265 => kit_is)
    (case z266 => k_is); (case z267 => k_is); (case z268 => kit_is)
    (case z269 => k_is); (case z270 => k_is); (case z271 => kit_is)
    (case z272 => k_is); (case z273 => k_is); (case z274 => kit_is)
    (case z275 => k_is); (case z276 => k_is); (case z277 => kit_is)
    (case z278 => k_is); (case z279 => k_is); (case z280 => kit_is)
    (case z281 => k_is); (case z282 => k_is); (case z283 => kit_is)
    (case z284 => k_is); (case z285 => k_is); (case z286 => kit_is)
    (case z287 => k_is); (case z288 => k_is); (case z289 => kit_is)
    (case z290 => k_is); (case z291 => k_is); (case z292 => kit_is)
    (case z293 => k_is); (case z294 => k_is); (case z295 => kit_is)
    (case z296 => k_is)
    (case z297 => k_is); (case z298 => k_is); (case z299 => kit_is)
    (case z300 => k_is); (case z301 => k_is); (case z302 => kit_is)
    (case z303 => k_is); (case z304 => k_is); (case z305 => kit_is)
    (case z306 => k_is); (case z307 => k_is); (case z308 => kit_is)
    (case z309 => k_is); (case z310 => k_is); (case z311 => kit_is)
    (case z312 => k_is); (case z313 => k_is); (case z314 => kit_is)
    (case z315 => k_is); (case z316 => k_is); (case z317 => kit_is)
    (case z318 => k_is); (case z319 => k_is); (case z320 => kit_is)
    (case z321 => k_is); (case z322 => k_is); (case z323 => kit_is)
    (case z324 => k_is); (case z325 => k_is); (case z326 => kit_is)
    (case z327 => k_is); (case z328 => k_is); (case z329 => kit_is)
    (case z330 => k_is); (case z331 => k_is); (case z332 => kit_is)
    (case z333 => k_is)
    (case z334 => k_is); (case z335 => k_is); (case z336 => kit_is)
    (case z337 => k_is); (case z338 => k_is); (case z339 => kit_is)
    (case z340 => k_is); (case z341 => k_is); (case z342 => kit_is)
    (case z343 => k_is); (case z344 => k_is); (case z345 => kit_is)
    (case z346 => k_is); (case z347 => k_is); (case z348 => kit_is)
    (case z349 => k_is); (case z350 => k_is); (case z351 => kit_is)
    (case z352 => k_is); (case z353 => k_is); (case z354 => kit_is)
    (case z355 => k_is); (case z356 => k_is); (case z357 => kit_is)
    (case z358 => k_is); (case z359 => k_is); (case z360 => kit_is)
    (case z361 => k_is); (case z362 => k_is); (case z363 => kit_is)
    (case z364 => k_is); (case z365 => k_is); (case z366 => kit_is)
    (case z367 => k_is); (case z368 => k_is); (case z369 => kit_is)
    (case z370 => k_is)
    (case z371 => k_is); (case z372 => k_is); (case z373 => kit_is)
    (case z374 => k_is); (case z375 => k_is); (case z376 => kit_is)
    (case z377 => k_is); (case z378 => k_is); (case z379 => kit_is)
    (case z380 => k_is); (case z381 => k_is); (case z382 => kit_is)
    (case z383 => k_is); (case z384 => k_is); (case z385 => kit_is)
    (case z386 => k_is); (case z387 => k_is); (case z388 => kit_is)
    (case z389 => k_is); (case z390 => k_is); (case z391 => kit_is)
    (case z392 => k_is); (case z393 => k_is); (case z394 => kit_is)
    (case z395 => k_is); (case z396 => k_is); (case z397 => kit_is)
    (case z398 => k_is); (case z399 => k_is); (case z400 => kit_is)
    (case z401 => k_is); (case z402 => k_is); (case z403 => kit_is)
    (case z404 => k_is); (case z405 => k_is); (case z406 => kit_is)
    (case z407 => k_is)
    (case z408 => k_is); (case z409 => k_is); (case z410 => kit_is)
    (case z411 => k_is); (case z412 => k_is); (case z413 => kit_is)
    (case z414 => k_is); (case z415 => k_is); (case z416 => kit_is)
    (case z417 => k_is); (case z418 => k_is); (case z419 => kit_is)
    (case z420 => k_is); (case z421 => k_is); (case z422 => kit_is)
    (case z423 => k_is); (case z424 => k_is); (case z425 => kit_is)
    (case z426 => k_is); (case z427 => k_is); (case z428 => kit_is)
    (case z429 => k_is); (case z430 => k_is); (case z431 => kit_is)
    (case z432 => k_is); (case z433 => k_is); (case z434 => kit_is)
    (case z435 => k_is); (case z436 => k_is); (case z437 => kit_is)
    (case z438 => k_is); (case z439 => k_is); (case z440 => kit_is)
    (case z441 => k_is); (case z442 => k_is); (case z443 => kit_is)
    (case z444 => k_is); (case z445 => kit_is)
    (case z446 => k_is); (case z447 => kit_is)
    (case z448 => k_is); (case z449 => kit_is)
    (case z450 => k_is); (case z451 => kit_is)
    (case z452 => k_is); (case z453 => kit_is)
    (case z454 => k_is); (case z455 => kit_is)
    (case z456 => k_is); (case z457 => kit_is)
    (case z458 => k_is); (case z459 => kit_is)
    (case z460 => k_is); (case z461 => kit_is)
    (case z462 => k_is); (case z463 => kit_is)
    (case z464 => k_is); (case z465 => kit_is)
    (case z466 => k_is); (case z467 => kit_is)
    (case z468 => k_is)
    (case z469 => k_is)
    (case z470 => k_is)
    (case z471 => k_is)
    (case z472 => k_is)
    (case z473 => k_is)
    (case z474 => k_is)
    (case z475 => k_is)
    (case z476 => k_is); (case z477 => k_is); (case z478 => kts_exm)
    (case z479 => k_is); (case z480 => k_is); (case z481 => kts_exm)
    (case z482 => k_is); (case z483 => k_is); (case z484 => kts_exm)
    (case z485 => k_is); (case z486 => k_is); (case z487 => kts_exm)
    (case z488 => k_is); (case z489 => k_is); (case z490 => kts_exm)
    (case z491 => k_is); (case z492 => k_is); (case z493 => kts_exm)
    (case z494 => k_is); (case z495 => k_is); (case z496 => kts_exm)
    (case z497 => k_is); (case z498 => k_is); (case z499 => kts_exm)
    (case z500 => k_is); (case z501 => k_is); (case z502 => kts_exm)
    (case z503 => k_is); (case z504 => k_is); (case z505 => kts_exm)
    (case z506 => k_is); (case z507 => k_is); (case z508 => kts_exm)
    (case z509 => k_is); (case z510 => k_is); (case z511 => kts_exm)
    (case z512 => k_is)
    (case z513 => k_is); (case z514 => k_is); (case z515 => kts_exm)
    (case z516 => k_is); (case z517 => k_is); (case z518 => kts_exm)
    (case z519 => k_is); (case z520 => k_is); (case z521 => kts_exm)
    (case z522 => k_is); (case z523 => k_is); (case z524 => kts_exm)
    (case z525 => k_is); (case z526 => k_is); (case z527 => kts_exm)
    (case z528 => k_is); (case z529 => k_is); (case z530 => kts_exm)
    (case z531 => k_is); (case z532 => k_is); (case z533 => kts_exm)
    (case z534 => k_is); (case z535 => k_is); (case z536 => kts_exm)
    (case z537 => k_is); (case z538 => k_is); (case z539 => kts_exm)
    (case z540 => k_is); (case z541 => k_is); (case z542 => kts_exm)
    (case z543 => k_is); (case z544 => k_is); (case z545 => kts_exm)
    (case z546 => k_is); (case z547 => k_is); (case z548 => kts_exm)
    (case z549 => k_is)
    (case z550 => k_is); (case z551 => k_is); (case z552 => kts_exm)
    (case z553 => k_is); (case z554 => k_is); (case z555 => kts_exm)
    (case z556 => k_is); (case z557 => k_is); (case z558 => kts_exm)
    (case z559 => k_is); (case z560 => k_is); (case z561 => kts_exm)
    (case z562 => k_is); (case z563 => k_is); (case z564 => kts_exm)
    (case z565 => k_is); (case z566 => k_is); (case z567 => kts_exm)
    (case z568 => k_is); (case z569 => k_is); (case z570 => kts_exm)
    (case z571 => k_is); (case z572 => k_is); (case z573 => kts_exm)
    (case z574 => k_is); (case z575 => k_is); (case z576 => kts_exm)
    (case z577 => k_is); (case z578 => k_is); (case z579 => kts_exm)
    (case z580 => k_is); (case z581 => k_is); (case z582 => kts_exm)
    (case z583 => k_is); (case z584 => k_is); (case z585 => kts_exm)
    (case z586 => k_is); (case z587 => k_exc); (case z588 => k_is); (case z589 => k_is); (case z590 => k_is)
    (case z591 => k_is); (case z592 => k_exc); (case z593 => k_is); (case z594 => k_is); (case z595 => k_is)
    (case z596 => k_is); (case z597 => k_exc); (case z598 => k_is); (case z599 => k_is); (case z600 => k_is)
    (case z601 => k_is); (case z602 => k_exc); (case z603 => k_is); (case z604 => k_is); (case z605 => k_is)
    (case z606 => k_is); (case z607 => k_exc); (case z608 => k_is); (case z609 => k_is); (case z610 => k_is)
    (case z611 => k_is); (case z612 => k_exc); (case z613 => k_is); (case z614 => k_is); (case z615 => k_is)
    (case z616 => k_is); (case z617 => k_exc); (case z618 => k_is); (case z619 => k_is); (case z620 => k_is)
    (case z621 => k_is); (case z622 => k_exc); (case z623 => k_is); (case z624 => k_is); (case z625 => k_is)
    (case z626 => k_is); (case z627 => k_exc); (case z628 => k_is); (case z629 => k_is); (case z630 => k_is)
    (case z631 => k_is); (case z632 => k_exc); (case z633 => k_is); (case z634 => k_is); (case z635 => k_is)
    (case z636 => k_is); (case z637 => k_is); (case z638 => k_is); (case z639 => k_is); (case z640 => k_is); (case z641 => k_is); (case z642 => k_is); (case z643 => k_is); (case z644 => k_is)
    (case z645 => k_is); (case z646 => k_is); (case z647 => k_is); (case z648 => k_is); (case z649 => k_is); (case z650 => k_is); (case z651 => k_is); (case z652 => k_is); (case z653 => k_is)
    (case z654 => k_is); (case z655 => k_is); (case z656 => k_is); (case z657 => k_is); (case z658 => k_is); (case z659 => k_is); (case z660 => k_is); (case z661 => k_is); (case z662 => k_is)
    (case z663 => k_is); (case z664 => k_is); (case z665 => k_is); (case z666 => k_is); (case z667 => k_is); (case z668 => k_is); (case z669 => k_is); (case z670 => k_is); (case z671 => k_is)
    (case z672 => k_is); (case z673 => k_is); (case z674 => k_is); (case z675 => k_is); (case z676 => k_is); (case z677 => k_is); (case z678 => k_is); (case z679 => k_is); (case z680 => k_is)
    (case z681 => k_is); (case z682 => k_is); (case z683 => k_is); (case z684 => k_is); (case z685 => k_is); (case z686 => k_is); (case z687 => k_is); (case z688 => k_is); (case z689 => k_is)
    (case z690 => k_is); (case z691 => k_is); (case z692 => k_is); (case z693 => k_is); (case z694 => k_is); (case z695 => k_is); (case z696 => k_is); (case z697 => k_is); (case z698 => k_is)
    (case z699 => k_is); (case z700 => k_is); (case z701 => k_is); (case z702 => k_is); (case z703 => k_is); (case z704 => k_is); (case z705 => k_is); (case z706 => k_is); (case z707 => k_is)
    (case z708 => k_is); (case z709 => k_is); (case z710 => k_is); (case z711 => k_is); (case z712 => k_is); (case z713 => k_is); (case z714 => k_is); (case z715 => k_is); (case z716 => k_is)
    (case z717 => k_is); (case z718 => k_is); (case z719 => k_is); (case z720 => k_is); (case z721 => k_is); (case z722 => k_is); (case z723 => k_is); (case z724 => k_is); (case z725 => k_is)
    (case z726 => k_is); (case z727 => k_is); (case z728 => k_is); (case z729 => k_is); (case z730 => k_is); (case z731 => k_is); (case z732 => k_is); (case z733 => k_is); (case z734 => k_is)
    (case z735 => k_is); (case z736 => k_is); (case z737 => k_is); (case z738 => k_is); (case z739 => k_is); (case z740 => k_is); (case z741 => k_is); (case z742 => k_is); (case z743 => k_is)
    (case z744 => k_is); (case z745 => k_is); (case z746 => rfl); (case z747 => k_is); (case z748 => k_is); (case z749 => k_is); (case z750 => k_is); (case z751 => k_is); (case z752 => k_is); (case z753 => k_is); (case z754 => k_is); (case z755 => k_is); (case z756 => k_is)
    (case z757 => k_is); (case z758 => k_is); (case z759 => rfl); (case z760 => k_is); (case z761 => k_is); (case z762 => k_is); (case z763 => k_is); (case z764 => k_is); (case z765 => k_is); (case z766 => k_is); (case z767 => k_is); (case z768 => k_is); (case z769 => k_is)
