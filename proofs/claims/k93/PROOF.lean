import PyProof.Rows.All
import Wide.All
import OpenK.AllK
import Wide.FinOn
import HandS.ForMost
import HandS.ForExc
import HandS.More
import HandS.Wide
import HandS.Deep
import HandS.IsInst
import HandS.Style
import HandS.ExcIs
import HandS.ExcField
import HandS.TupAny
import HandS.EndBits
import HandS.Conv
import HandS.SortInts
import HandS.TupLe
import HandS.Flt
import KE.DatumOrd
import KE.LtSeq
import HandS.SortRule
import HandS.DictTup
import HandS.ExcValue
import HandS.ExcOwn
import HandS.SetKeys
import HandS.TupLen
import KE.SortData
import HandS.SetFor
import KE.DataMinMax
import HandS.ExcInit
import HandS.WordsExc
import KE.KExcIs
import HandS.Zip
import HandS.Text
import HandS.Iter
import HandS.Exc
import HandS.WrittenGet
import HandS.Codes
import PySem.Challenge.RW_plait_k93_moves_as_lines
set_option Elab.async false
set_option linter.all false
set_option maxRecDepth 100000
set_option maxHeartbeats 4000000
namespace VL
open PySem PySem.Spec PyProof.Rows L2
abbrev D := PyData
structure Kp (A : Addr → Prop) (H H' : Hp) : Prop where
  at_ : ∀ b o, A b → H b = some o → H' b = some o
  tup : ∀ b xs, H b = some (.tup xs) → H' b = some (.tup xs)
  frz : ∀ b o u, H b = some (.frz o u) → H' b = some (.frz o u)
theorem Kp.same {A : Addr → Prop} {H H' : Hp} (s : Same H H') : Kp A H H' := ⟨fun b o _ h => s b o h, fun b xs h => s b _ h, fun b o u h => s b _ h⟩
theorem Kp.mono {A A' : Addr → Prop} {H H' : Hp} (k : Kp A' H H') (h : ∀ b, A b → A' b) : Kp A H H' := ⟨fun b o a e => k.at_ b o (h b a) e, k.tup, k.frz⟩
theorem Kp.trans {A : Addr → Prop} {H H1 H2 : Hp} (a : Kp A H H1) (b : Kp A H1 H2) : Kp A H H2 := ⟨fun c o x h => b.at_ c o x (a.at_ c o x h), fun c xs h => b.tup c xs (a.tup c xs h), fun c o u h => b.frz c o u (a.frz c o u h)⟩
def mutO : HO → Prop
  | .lst _ => True | .dK _ => True | .dT _ => True | .ins _ _ _ => True | .set _ _ => True
  | _ => False
theorem Kp.write {A : Addr → Prop} {H : Hp} {a : Addr} {o o' : HO} (h : H a = some o) (m : mutO o) (n : ¬ A a) : Kp A H (upd H a o') :=
  ⟨fun b u x e => by rw [upd_ne (fun z => by subst z; exact n x)]; exact e,
   fun b xs e => by
    rw [upd_ne (fun z => by subst z; rw [h] at e; cases e; exact m)]; exact e,
   fun b u w e => by
    rw [upd_ne (fun z => by subst z; rw [h] at e; cases e; exact m)]; exact e⟩
theorem sqt_keep {K : PySem.W.Frag} {A : Addr → Prop} {H H' : Hp} {a : Addr} {xs : List V} (k : Kp A H H') (h : SqT K H a xs) : SqT K H' a xs := by
  rcases h with (h | ⟨o, h⟩) | h
  · exact .inl (.inl (k.tup _ _ h))
  · exact .inl (.inr ⟨o, k.frz _ _ _ h⟩)
  · exact .inr h
def SqF (K : PySem.W.Frag) (H : Hp) (a : Addr) (xs : List V) : Prop :=
  (∃ o, H a = some (.frz o (.lst xs))) ∨
    ∃ (o : Obj) (its : Array Value) (n : Nat), K.lookup a = some o ∧ o.cls = .type "list" ∧ o.dict = none ∧ o.data = .seq its n ∧ its.size ≤ sizeLine ∧ Vals xs its.toList
theorem SqF.seq {K : PySem.W.Frag} {H : Hp} {a : Addr} {xs : List V} (h : SqF K H a xs) : SqL K H a xs := by
  rcases h with ⟨o, h⟩ | h
  · exact .inl (.inr ⟨o, h⟩)
  · exact .inr h
theorem sqf_keep {K : PySem.W.Frag} {A : Addr → Prop} {H H' : Hp} {a : Addr} {xs : List V} (k : Kp A H H') (h : SqF K H a xs) : SqF K H' a xs := by
  rcases h with ⟨o, h⟩ | h
  · exact .inl ⟨o, k.frz _ _ _ h⟩
  · exact .inr h
def kD : Key → D
  | .inl i => .int i
  | .inr x => .str x
def mkDict (t : Bool) (ds : List (D × D)) : D := .dict (if t then (.none, .none) :: ds else ds)
def scriptD (ns : List Int) : D := .dict [(.list [], .list (ns.map .int))]
def opD (a : Addr) : D := .dict [(.list [.none], .int (a : Nat))]
def wtD (zs : List Str) : D := .dict [(.list [.bool false], .tuple (zs.map .str))]
def WTup (K : PySem.W.Frag) (a : Addr) (xs : List V) : Prop :=
  ∃ (o : Obj) (its : Array Value) (n : Nat), K.lookup a = some o ∧ o.cls = .type "tuple" ∧ o.data = .seq its n ∧ its.size ≤ sizeLine ∧ Vals xs its.toList
theorem _root_.L2.SqT.sm {K : PySem.W.Frag} {H H' : Hp} {a : Addr} {xs : List V} (h : SqT K H a xs) (s : Same H H') : SqT K H' a xs := sqt_keep (A := fun _ => False) (Kp.same s) h
theorem WTup.sq {K : PySem.W.Frag} {H : Hp} {a : Addr} {xs : List V} (h : WTup K a xs) : SqT K H a xs := .inr h
def insD (cls : Str) (fs : List (Str × D)) : D := .dict ((.list [.bool true], .str cls) :: fs.map fun p => (.str p.1, p.2))
def clsK (K : PySem.W.Frag) (n : Str) : Option Addr := match PySem.W.nsIn K mainGlobals n with
  | some (some (.ref C)) => some C
  | _ => none
def DictAt (H : Hp) (a : Addr) (kvs : List (D × V)) (t : Bool) : Prop :=
  (t = false ∧ ∃ k' : List (Key × V), H a = some (.dK k') ∧ kvs = k'.map fun p => (kD p.1, p.2)) ∨
  (t = true ∧ ∃ k' : List (List Key × V), H a = some (.dT k') ∧ kvs = k'.map fun p => (.tuple (p.1.map kD), p.2))
theorem DictAt.at {H H' : Hp} {a : Addr} {kvs : List (D × V)} {t : Bool} (h : DictAt H a kvs t) (e : ∀ o, H a = some o → H' a = some o) : DictAt H' a kvs t := by
  rcases h with ⟨ht, k', h, q⟩ | ⟨ht, k', h, q⟩
  · exact .inl ⟨ht, k', e _ h, q⟩
  · exact .inr ⟨ht, k', e _ h, q⟩
theorem DictAt.mut {H : Hp} {a : Addr} {kvs : List (D × V)} {t : Bool} (h : DictAt H a kvs t) : ∃ o, H a = some o ∧ mutO o := by
  rcases h with ⟨_, k', h, _⟩ | ⟨_, k', h, _⟩
  · exact ⟨_, h, trivial⟩
  · exact ⟨_, h, trivial⟩
def isWt : List (D × D) → Bool
  | [(.list [.bool false], _)] => true
  | _ => false
mutual
def flatD : D → Bool
  | .list _ => false
  | .dict ds => isWt ds
  | .tuple ds => flatAll ds
  | _ => true
def flatAll : List D → Bool
  | [] => true
  | d :: ds => flatD d && flatAll ds
end
mutual
inductive RS (K : PySem.W.Frag) (A : Addr → Prop) (H : Hp) : V → D → Prop
  | non : RS K A H .non .none
  | bl (b : Bool) : RS K A H (.bl b) (.bool b)
  | int (i : Int) : RS K A H (.int i) (.int i)
  | str (x : Str) : RS K A H (.str x) (.str x)
  | lst {a : Addr} {xs : List V} {ds : List D} : H a = some (.lst xs) → A a → RSs K A H xs ds → RS K A H (.ref a) (.list ds)
  | tup {a : Addr} {xs : List V} {ds : List D} : H a = some (.tup xs) → RSs K A H xs ds → RS K A H (.ref a) (.tuple ds)
  | dct {a : Addr} {kvs : List (D × V)} {t : Bool} {ds : List (D × D)} : DictAt H a kvs t → A a → kvs.map (·.1) = ds.map (·.1) → RSs K A H (kvs.map (·.2)) (ds.map (·.2)) → RS K A H (.ref a) (mkDict t ds)
  | scr {a : Addr} {ns : List Int} : SqF K H a (ns.map V.int) → RS K A H (.ref a) (scriptD ns)
  | opq (a : Addr) : RS K A H (.ref a) (opD a)
  | wtp {a : Addr} {zs : List Str} : WTup K a (zs.map V.str) → RS K A H (.ref a) (wtD zs)
  | ins {a C dx : Addr} {vs : List (Str × V)} {cls : Str} {fs : List (Str × D)} : H a = some (.ins C dx vs) → A a → clsK K cls = some C → vs.map (·.1) = fs.map (·.1) → RSs K A H (vs.map (·.2)) (fs.map (·.2)) → RS K A H (.ref a) (insD cls fs)
inductive RSs (K : PySem.W.Frag) (A : Addr → Prop) (H : Hp) : List V → List D → Prop
  | nil : RSs K A H [] []
  | cons {v : V} {vs : List V} {d : D} {ds : List D} : RS K A H v d → RSs K A H vs ds → RSs K A H (v :: vs) (d :: ds)
end
def popM : Option Nat → Option (Option Nat)
  | none => some none
  | some 0 => none
  | some (n + 1) => some (some n)
def succM : Option Nat → Option Nat
  | none => none
  | some n => some (n + 1)
theorem pop_succ (m : Option Nat) : popM (succM m) = some m := by cases m <;> rfl
mutual
inductive RO (K : PySem.W.Frag) (A : Addr → Prop) (H : Hp) : Option Nat → V → D → List Addr → Prop
  | sh {v : V} {d : D} : RS K A H v d → RO K A H (some 0) v d []
  | flat {m : Option Nat} {v : V} {d : D} : RS K A H v d → flatD d = true → RO K A H m v d []
  | lst {m n : Option Nat} {a : Addr} {xs : List V} {ds : List D} {l : List Addr} : popM m = some n → H a = some (.lst xs) → ROs K A H n xs ds l → RO K A H m (.ref a) (.list ds) (a :: l)
  | opq {m : Option Nat} (a : Addr) : RO K A H m (.ref a) (opD a) []
  | wtp {m : Option Nat} {a : Addr} {zs : List Str} : WTup K a (zs.map V.str) → RO K A H m (.ref a) (wtD zs) []
  | ins {m n : Option Nat} {a C dx : Addr} {vs : List (Str × V)} {cls : Str} {fs : List (Str × D)} {l : List Addr} : popM m = some n → H a = some (.ins C dx vs) → clsK K cls = some C → vs.map (·.1) = fs.map (·.1) → ROs K A H n (vs.map (·.2)) (fs.map (·.2)) l → RO K A H m (.ref a) (insD cls fs) (a :: l)
  | tup {m : Option Nat} {a : Addr} {xs : List V} {ds : List D} {l : List Addr} : H a = some (.tup xs) → ROs K A H m xs ds l → RO K A H m (.ref a) (.tuple ds) l
  | dct {m n : Option Nat} {a : Addr} {kvs : List (D × V)} {t : Bool} {ds : List (D × D)} {l : List Addr} : popM m = some n → DictAt H a kvs t → kvs.map (·.1) = ds.map (·.1) → ROs K A H n (kvs.map (·.2)) (ds.map (·.2)) l → RO K A H m (.ref a) (mkDict t ds) (a :: l)
inductive ROs (K : PySem.W.Frag) (A : Addr → Prop) (H : Hp) : Option Nat → List V → List D → List Addr → Prop
  | nil {m : Option Nat} : ROs K A H m [] [] []
  | cons {m : Option Nat} {v : V} {vs : List V} {d : D} {ds : List D} {l1 l2 : List Addr} : RO K A H m v d l1 → ROs K A H m vs ds l2 → ROs K A H m (v :: vs) (d :: ds) (l1 ++ l2)
end
section
variable {K : PySem.W.Frag} {A A' : Addr → Prop} {H H' : Hp}
mutual
theorem RS.keep (k : Kp A H H') : ∀ {v : V} {d : D}, RS K A H v d → RS K A H' v d
  | _, _, .non => .non
  | _, _, .bl b => .bl b
  | _, _, .int i => .int i
  | _, _, .str x => .str x
  | _, _, .lst h a r => .lst (k.at_ _ _ a h) a (RSs.keep k r)
  | _, _, .tup h r => .tup (k.tup _ _ h) (RSs.keep k r)
  | _, _, .dct h a e r => .dct (h.at fun o q => k.at_ _ _ a q) a e (RSs.keep k r)
  | _, _, .scr h => .scr (sqf_keep k h)
  | _, _, .opq a => .opq a
  | _, _, .wtp a => .wtp a
  | _, _, .ins h a c e r => .ins (k.at_ _ _ a h) a c e (RSs.keep k r)
theorem RSs.keep (k : Kp A H H') : ∀ {v : List V} {d : List D}, RSs K A H v d → RSs K A H' v d
  | _, _, .nil => .nil
  | _, _, .cons h r => .cons (RS.keep k h) (RSs.keep k r)
end
mutual
theorem RS.mono (k : ∀ b o, A b → H b = some o → A' b) : ∀ {v : V} {d : D}, RS K A H v d → RS K A' H v d
  | _, _, .non => .non
  | _, _, .bl b => .bl b
  | _, _, .int i => .int i
  | _, _, .str x => .str x
  | _, _, .lst h a r => .lst h (k _ _ a h) (RSs.mono k r)
  | _, _, .tup h r => .tup h (RSs.mono k r)
  | _, _, .dct h a e r => .dct h (let ⟨_, q, _⟩ := h.mut; k _ _ a q) e (RSs.mono k r)
  | _, _, .scr h => .scr h
  | _, _, .opq a => .opq a
  | _, _, .wtp a => .wtp a
  | _, _, .ins h a c e r => .ins h (k _ _ a h) c e (RSs.mono k r)
theorem RSs.mono (k : ∀ b o, A b → H b = some o → A' b) : ∀ {v : List V} {d : List D}, RSs K A H v d → RSs K A' H v d
  | _, _, .nil => .nil
  | _, _, .cons h r => .cons (RS.mono k h) (RSs.mono k r)
end
theorem flat_dictT {ds : List (D × D)} : flatD (mkDict true ds) = false := by cases ds <;> rfl
theorem flat_dictF {ds : List (D × D)} (h : ∀ p ∈ ds, ∀ q, p.1 ≠ .list q) : flatD (mkDict false ds) = false := by
  show isWt ds = false
  match ds, h with
  | [], _ => rfl
  | [(k, y)], h =>
    have := h (k, y) (by simp)
    cases k with
    | list q => exact absurd rfl (this q)
    | _ => rfl
  | (k, y) :: _ :: _, _ => unfold isWt; split <;> simp_all
theorem flat_dict {H : Hp} {a : Addr} {kvs : List (D × V)} {t : Bool} {ds : List (D × D)} (h : DictAt H a kvs t) (e : kvs.map (·.1) = ds.map (·.1)) : flatD (mkDict t ds) = false := by
  cases t with
  | true => exact flat_dictT
  | false =>
    refine flat_dictF fun p hp q z => ?_
    rcases h with ⟨_, k', _, rfl⟩ | ⟨h, _⟩
    · have : p.1 ∈ ds.map (·.1) := List.mem_map.mpr ⟨p, hp, rfl⟩
      rw [← e, List.map_map] at this
      obtain ⟨r, _, hr⟩ := List.mem_map.mp this
      rw [z] at hr
      obtain ⟨k, v⟩ := r
      cases k <;> cases hr
    · cases h
theorem flat_script {ns : List Int} : flatD (scriptD ns) = false := rfl
mutual
theorem RS.flat : ∀ {v : V} {d : D}, RS K A H v d → flatD d = true → RS K A' H v d
  | _, _, .non, _ => .non
  | _, _, .bl b, _ => .bl b
  | _, _, .int i, _ => .int i
  | _, _, .str x, _ => .str x
  | _, _, .lst h a r, f => by simp [flatD] at f
  | _, _, .tup h r, f => .tup h (RSs.flat r (by simpa [flatD] using f))
  | _, _, .dct h a e r, f => by rw [flat_dict h e] at f; cases f
  | _, _, .scr h, f => by rw [flat_script] at f; cases f
  | _, _, .opq a, _ => .opq a
  | _, _, .wtp a, _ => .wtp a
  | _, _, .ins (fs := fs) h a c e r, f => by cases fs <;> cases f
theorem RSs.flat : ∀ {v : List V} {d : List D}, RSs K A H v d → flatAll d = true → RSs K A' H v d
  | _, _, .nil, _ => .nil
  | _, _, .cons h r, f => by
    simp only [flatAll, Bool.and_eq_true] at f
    exact .cons (RS.flat h f.1) (RSs.flat r f.2)
end
theorem RSs.len : ∀ {vs : List V} {ds : List D}, RSs K A H vs ds → vs.length = ds.length
  | _, _, .nil => rfl
  | _, _, .cons _ r => by simp [RSs.len r]
theorem RSs.get : ∀ {vs : List V} {ds : List D} {i : Nat} {d : D}, RSs K A H vs ds → ds[i]? = some d → ∃ v, vs[i]? = some v ∧ RS K A H v d
  | _, _, _, _, .nil, e => by simp at e
  | _, _, 0, _, .cons h _, e => by simp at e; subst e; exact ⟨_, rfl, h⟩
  | _, _, i + 1, d, .cons _ r, e => by
    obtain ⟨v, h1, h2⟩ := RSs.get (i := i) r (by simpa using e)
    exact ⟨v, by simpa using h1, h2⟩
theorem RSs.append : ∀ {xs ys : List V} {ds es : List D}, RSs K A H xs ds → RSs K A H ys es → RSs K A H (xs ++ ys) (ds ++ es)
  | _, _, _, _, .nil, s => s
  | _, _, _, _, .cons h r, s => .cons h (RSs.append r s)
theorem RSs.take : ∀ {xs : List V} {ds : List D} (n : Nat), RSs K A H xs ds → RSs K A H (xs.take n) (ds.take n)
  | _, _, 0, _ => .nil
  | _, _, _ + 1, .nil => .nil
  | _, _, n + 1, .cons h r => .cons h (RSs.take n r)
theorem RSs.drop : ∀ {xs : List V} {ds : List D} (n : Nat), RSs K A H xs ds → RSs K A H (xs.drop n) (ds.drop n)
  | _, _, 0, r => r
  | _, _, _ + 1, .nil => .nil
  | _, _, n + 1, .cons h r => RSs.drop n r
theorem RSs.rep {xs : List V} {ds : List D} (h : RSs K A H xs ds) : ∀ k : Nat, RSs K A H (List.replicate k xs).flatten (List.replicate k ds).flatten
  | 0 => .nil
  | k + 1 => by
    simp only [List.replicate_succ, List.flatten_cons]
    exact RSs.append h (RSs.rep h k)
mutual
theorem RS.dp : ∀ {v : V} {d : D}, RS K A H v d → d.canLay0 = true → Dp K H v d
  | _, _, .non, _ => .non
  | _, _, .bl b, _ => .bl b
  | _, _, .int i, _ => .int i
  | _, _, .str x, _ => .str x
  | _, _, .lst h a r, f => .lst (SqL.of h) (RSs.dp r (by simpa [PyData.canLay0] using f))
  | _, _, .tup h r, f => .tup (SqT.of h) (RSs.dp r (by simpa [PyData.canLay0] using f))
  | _, _, .dct h a e r, f => by simp [mkDict, PyData.canLay0] at f
  | _, _, .scr h, f => by simp [scriptD, PyData.canLay0] at f
  | _, _, .opq a, f => by simp [opD, PyData.canLay0] at f
  | _, _, .wtp a, f => by simp [wtD, PyData.canLay0] at f
  | _, _, .ins h a c e r, f => by simp [insD, PyData.canLay0] at f
theorem RSs.dp : ∀ {v : List V} {d : List D}, RSs K A H v d → PyData.canLayAll0 d = true → DpAll K H v d
  | _, _, .nil, _ => .nil
  | _, _, .cons h r, f => by
    simp only [PyData.canLayAll0, Bool.and_eq_true] at f
    exact .cons (RS.dp h f.1) (RSs.dp r f.2)
end
mutual
theorem RO.keep {m : Option Nat} (k : Kp A H H') : ∀ {v : V} {d : D} {l : List Addr}, RO K A H m v d l → (∀ b ∈ l, ∀ o, H b = some o → H' b = some o) → RO K A H' m v d l
  | _, _, _, .sh r, _ => .sh (r.keep k)
  | _, _, _, .flat r f, _ => .flat (r.keep k) f
  | _, _, _, .lst p h r, q => .lst p (q _ List.mem_cons_self _ h) (ROs.keep k r fun b hb => q b (List.mem_cons_of_mem _ hb))
  | _, _, _, .opq a, _ => .opq a
  | _, _, _, .wtp a, _ => .wtp a
  | _, _, _, .ins p h c e r, q => .ins p (q _ List.mem_cons_self _ h) c e (ROs.keep k r fun b hb => q b (List.mem_cons_of_mem _ hb))
  | _, _, _, .tup h r, q => .tup (k.tup _ _ h) (ROs.keep k r q)
  | _, _, _, .dct p h e r, q => .dct p (h.at (q _ List.mem_cons_self)) e (ROs.keep k r fun b hb => q b (List.mem_cons_of_mem _ hb))
theorem ROs.keep {m : Option Nat} (k : Kp A H H') : ∀ {v : List V} {d : List D} {l : List Addr}, ROs K A H m v d l → (∀ b ∈ l, ∀ o, H b = some o → H' b = some o) → ROs K A H' m v d l
  | _, _, _, .nil, _ => .nil
  | _, _, _, .cons h r, q => .cons (RO.keep k h fun b hb => q b (List.mem_append_left _ hb)) (ROs.keep k r fun b hb => q b (List.mem_append_right _ hb))
end
mutual
theorem RO.mono {m : Option Nat} (k : ∀ b o, A b → H b = some o → A' b) : ∀ {v : V} {d : D} {l : List Addr}, RO K A H m v d l → RO K A' H m v d l
  | _, _, _, .sh r => .sh (r.mono k)
  | _, _, _, .flat r f => .flat (r.mono k) f
  | _, _, _, .lst p h r => .lst p h (ROs.mono k r)
  | _, _, _, .opq a => .opq a
  | _, _, _, .wtp a => .wtp a
  | _, _, _, .ins p h c e r => .ins p h c e (ROs.mono k r)
  | _, _, _, .tup h r => .tup h (ROs.mono k r)
  | _, _, _, .dct p h e r => .dct p h e (ROs.mono k r)
theorem ROs.mono {m : Option Nat} (k : ∀ b o, A b → H b = some o → A' b) : ∀ {v : List V} {d : List D} {l : List Addr}, ROs K A H m v d l → ROs K A' H m v d l
  | _, _, _, .nil => .nil
  | _, _, _, .cons h r => .cons (RO.mono k h) (ROs.mono k r)
end
theorem ROs.toSh : ∀ {v : List V} {d : List D}, RSs K A H v d → ROs K A H (some 0) v d []
  | _, _, .nil => .nil
  | _, _, .cons h r => .cons (.sh h) (ROs.toSh r)
mutual
theorem RO.all {m : Option Nat} (hm : m = none) : ∀ {v : V} {d : D} {l : List Addr}, RO K A H m v d l → RO K A' H m v d l
  | _, _, _, .sh r => by cases hm
  | _, _, _, .flat r f => .flat (r.flat f) f
  | _, _, _, .lst p h r => .lst p h (ROs.all (by subst hm; cases p; rfl) r)
  | _, _, _, .opq a => .opq a
  | _, _, _, .wtp a => .wtp a
  | _, _, _, .ins p h c e r => .ins p h c e (ROs.all (by subst hm; cases p; rfl) r)
  | _, _, _, .tup h r => .tup h (ROs.all hm r)
  | _, _, _, .dct p h e r => .dct p h e (ROs.all (by subst hm; cases p; rfl) r)
theorem ROs.all {m : Option Nat} (hm : m = none) : ∀ {v : List V} {d : List D} {l : List Addr}, ROs K A H m v d l → ROs K A' H m v d l
  | _, _, _, .nil => .nil
  | _, _, _, .cons h r => .cons (RO.all hm h) (ROs.all hm r)
end
mutual
theorem RO.share {m : Option Nat} : ∀ {v : V} {d : D} {l : List Addr}, RO K A H m v d l → (∀ b ∈ l, A b) → RS K A H v d
  | _, _, _, .sh r, _ => r
  | _, _, _, .flat r f, _ => r
  | _, _, _, .lst p h r, q => .lst h (q _ List.mem_cons_self) (ROs.share r fun b hb => q b (List.mem_cons_of_mem _ hb))
  | _, _, _, .opq a, _ => .opq a
  | _, _, _, .wtp a, _ => .wtp a
  | _, _, _, .ins p h c e r, q => .ins h (q _ List.mem_cons_self) c e (ROs.share r fun b hb => q b (List.mem_cons_of_mem _ hb))
  | _, _, _, .tup h r, q => .tup h (ROs.share r q)
  | _, _, _, .dct p h e r, q => .dct h (q _ List.mem_cons_self) e (ROs.share r fun b hb => q b (List.mem_cons_of_mem _ hb))
theorem ROs.share {m : Option Nat} : ∀ {v : List V} {d : List D} {l : List Addr}, ROs K A H m v d l → (∀ b ∈ l, A b) → RSs K A H v d
  | _, _, _, .nil, _ => .nil
  | _, _, _, .cons h r, q => .cons (RO.share h fun b hb => q b (List.mem_append_left _ hb)) (ROs.share r fun b hb => q b (List.mem_append_right _ hb))
end
mutual
theorem RO.zero : ∀ {v : V} {d : D} {l : List Addr}, RO K A H (some 0) v d l → RS K A H v d
  | _, _, _, .sh r => r
  | _, _, _, .flat r _ => r
  | _, _, _, .opq a => .opq a
  | _, _, _, .wtp a => .wtp a
  | _, _, _, .tup h r => .tup h (ROs.zero r)
theorem ROs.zero : ∀ {vs : List V} {ds : List D} {l : List Addr}, ROs K A H (some 0) vs ds l → RSs K A H vs ds
  | _, _, _, .nil => .nil
  | _, _, _, .cons h r => .cons (RO.zero h) (ROs.zero r)
end
mutual
theorem RO.there {m : Option Nat} : ∀ {v : V} {d : D} {l : List Addr}, RO K A H m v d l → ∀ b ∈ l, ∃ o, H b = some o ∧ mutO o
  | _, _, _, .sh r, b, hb => by cases hb
  | _, _, _, .flat r f, b, hb => by cases hb
  | _, _, _, .lst p h r, b, hb => by
    rcases List.mem_cons.mp hb with rfl | hb
    · exact ⟨_, h, trivial⟩
    · exact ROs.there r b hb
  | _, _, _, .opq a, b, hb => by cases hb
  | _, _, _, .wtp a, b, hb => by cases hb
  | _, _, _, .ins p h c e r, b, hb => by
    rcases List.mem_cons.mp hb with rfl | hb
    · exact ⟨_, h, trivial⟩
    · exact ROs.there r b hb
  | _, _, _, .tup h r, b, hb => ROs.there r b hb
  | _, _, _, .dct p h e r, b, hb => by
    rcases List.mem_cons.mp hb with rfl | hb
    · exact h.mut
    · exact ROs.there r b hb
theorem ROs.there {m : Option Nat} : ∀ {v : List V} {d : List D} {l : List Addr}, ROs K A H m v d l → ∀ b ∈ l, ∃ o, H b = some o ∧ mutO o
  | _, _, _, .nil, b, hb => by cases hb
  | _, _, _, .cons h r, b, hb => (List.mem_append.mp hb).elim (RO.there h b) (ROs.there r b)
end
theorem RO.of_flat {m : Option Nat} {v : V} {d : D} {l : List Addr} (r : RO K A H m v d l) (f : flatD d = true) : RS K A' H v d :=
  (RO.share (RO.mono (A' := fun _ => True) (fun _ _ _ _ => trivial) r) fun _ _ => trivial).flat f
def AT (B : Addr → Prop) (T : List Addr) : Addr → Prop := fun b => B b ∧ b ∉ T
def leM : Option Nat → Option Nat → Bool
  | some a, some b => decide (a ≤ b)
  | _, none => true
  | none, some _ => false
theorem leM_refl (m : Option Nat) : leM m m = true := by cases m <;> simp [leM]
theorem leM_pop {m' m n : Option Nat} (h : leM m' m = true) (p : popM m = some n) (z : m' ≠ some 0) : ∃ n', popM m' = some n' ∧ leM n' n = true := by
  match m', m, z, h, p with
  | none, none, _, _, p => exact ⟨none, rfl, by cases p; rfl⟩
  | some (k + 1), none, _, _, p => exact ⟨some k, rfl, by cases p; rfl⟩
  | some (k + 1), some (j + 1), _, h, p => exact ⟨some k, rfl, by cases p; simpa [leM] using h⟩
theorem AT.less {B : Addr → Prop} {T T' : List Addr} (h : ∀ b ∈ T', b ∈ T) {b : Addr} (a : AT B T b) : AT B T' b := ⟨a.1, fun z => a.2 (h _ z)⟩
section
variable {B : Addr → Prop} {T : List Addr}
mutual
theorem RO.weak {m m' : Option Nat} {v : V} {d : D} {l : List Addr} (hm : leM m' m = true) (z : m' ≠ some 0) (r : RO K (AT B T) H m v d l) (nd : l.Nodup) (hb : ∀ b ∈ l, B b) :
    ∃ l' : List Addr, l'.Sublist l ∧ ∀ T' : List Addr, (∀ b ∈ T', b ∈ T) → (∀ b ∈ l, b ∈ T' → b ∈ l') → RO K (AT B T') H m' v d l' := by
  match r with
  | .sh r => cases m' with
    | none => cases hm
    | some k => cases k with
      | zero => exact absurd rfl z
      | succ k => simp [leM] at hm
  | .flat r f => exact ⟨[], List.Sublist.refl _, fun T' _ _ => .flat (r.flat f) f⟩
  | .lst (a := a) (l := l1) p h r =>
    obtain ⟨n', p', hn⟩ := leM_pop hm p z
    have nd' := List.nodup_cons.mp nd
    by_cases z' : n' = some 0
    · subst z'
      refine ⟨[a], List.Sublist.cons_cons a (List.nil_sublist _), fun T' h1 h2 => .lst p' h ?_⟩
      exact ROs.toSh (ROs.share (ROs.mono (fun b o x _ => AT.less h1 x) r) fun b hb' => ⟨hb _ (List.mem_cons_of_mem _ hb'), fun q => by
        have := h2 b (List.mem_cons_of_mem _ hb') q
        simp at this; subst this; exact nd'.1 hb'⟩)
    · obtain ⟨l', hs, q⟩ := ROs.weak hn z' r nd'.2 (fun b hb' => hb _ (List.mem_cons_of_mem _ hb'))
      refine ⟨a :: l', hs.cons_cons a, fun T' h1 h2 => .lst p' h (q T' h1 fun b hb' ht => ?_)⟩
      rcases List.mem_cons.mp (h2 b (List.mem_cons_of_mem _ hb') ht) with e | e
      · subst e; exact absurd hb' nd'.1
      · exact e
  | .tup h r =>
    obtain ⟨l', hs, q⟩ := ROs.weak hm z r nd hb
    exact ⟨l', hs, fun T' h1 h2 => .tup h (q T' h1 h2)⟩
  | .opq a => exact ⟨[], List.Sublist.refl _, fun T' _ _ => .opq a⟩
  | .wtp a => exact ⟨[], List.Sublist.refl _, fun T' _ _ => .wtp a⟩
  | .ins (a := a) (l := l1) p h c e r =>
    obtain ⟨n', p', hn⟩ := leM_pop hm p z
    have nd' := List.nodup_cons.mp nd
    by_cases z' : n' = some 0
    · subst z'
      refine ⟨[a], List.Sublist.cons_cons a (List.nil_sublist _), fun T' h1 h2 => .ins p' h c e ?_⟩
      exact ROs.toSh (ROs.share (ROs.mono (fun b o x _ => AT.less h1 x) r) fun b hb' => ⟨hb _ (List.mem_cons_of_mem _ hb'), fun q => by
        have := h2 b (List.mem_cons_of_mem _ hb') q
        simp at this; subst this; exact nd'.1 hb'⟩)
    · obtain ⟨l', hs, q⟩ := ROs.weak hn z' r nd'.2 (fun b hb' => hb _ (List.mem_cons_of_mem _ hb'))
      refine ⟨a :: l', hs.cons_cons a, fun T' h1 h2 => .ins p' h c e (q T' h1 fun b hb' ht => ?_)⟩
      rcases List.mem_cons.mp (h2 b (List.mem_cons_of_mem _ hb') ht) with e | e
      · subst e; exact absurd hb' nd'.1
      · exact e
  | .dct (a := a) (l := l1) p h e r =>
    obtain ⟨n', p', hn⟩ := leM_pop hm p z
    have nd' := List.nodup_cons.mp nd
    by_cases z' : n' = some 0
    · subst z'
      refine ⟨[a], List.Sublist.cons_cons a (List.nil_sublist _), fun T' h1 h2 => .dct p' h e ?_⟩
      exact ROs.toSh (ROs.share (ROs.mono (fun b o x _ => AT.less h1 x) r) fun b hb' => ⟨hb _ (List.mem_cons_of_mem _ hb'), fun q => by
        have := h2 b (List.mem_cons_of_mem _ hb') q
        simp at this; subst this; exact nd'.1 hb'⟩)
    · obtain ⟨l', hs, q⟩ := ROs.weak hn z' r nd'.2 (fun b hb' => hb _ (List.mem_cons_of_mem _ hb'))
      refine ⟨a :: l', hs.cons_cons a, fun T' h1 h2 => .dct p' h e (q T' h1 fun b hb' ht => ?_)⟩
      rcases List.mem_cons.mp (h2 b (List.mem_cons_of_mem _ hb') ht) with e | e
      · subst e; exact absurd hb' nd'.1
      · exact e
theorem ROs.weak {m m' : Option Nat} {v : List V} {d : List D} {l : List Addr} (hm : leM m' m = true) (z : m' ≠ some 0) (r : ROs K (AT B T) H m v d l) (nd : l.Nodup) (hb : ∀ b ∈ l, B b) :
    ∃ l' : List Addr, l'.Sublist l ∧ ∀ T' : List Addr, (∀ b ∈ T', b ∈ T) → (∀ b ∈ l, b ∈ T' → b ∈ l') → ROs K (AT B T') H m' v d l' := by
  match r with
  | .nil => exact ⟨[], List.Sublist.refl _, fun _ _ _ => .nil⟩
  | .cons (l1 := l1) (l2 := l2) h r =>
    have nd' := List.nodup_append.mp nd
    obtain ⟨k1, s1, q1⟩ := RO.weak hm z h nd'.1 (fun b hb' => hb _ (List.mem_append_left _ hb'))
    obtain ⟨k2, s2, q2⟩ := ROs.weak hm z r nd'.2.1 (fun b hb' => hb _ (List.mem_append_right _ hb'))
    refine ⟨k1 ++ k2, s1.append s2, fun T' h1 h2 => .cons (q1 T' h1 fun b hb' ht => ?_) (q2 T' h1 fun b hb' ht => ?_)⟩
    · rcases List.mem_append.mp (h2 b (List.mem_append_left _ hb') ht) with e | e
      · exact e
      · exact absurd rfl (nd'.2.2 b hb' b (s2.subset e))
    · rcases List.mem_append.mp (h2 b (List.mem_append_right _ hb') ht) with e | e
      · exact absurd rfl (nd'.2.2 b (s1.subset e) b hb')
      · exact e
end
end
end
end VL
set_option maxRecDepth 100000
set_option maxHeartbeats 4000000
namespace VL
open PySem PySem.Spec PyProof.Rows L2
inductive Md where
  | b
  | o (m : Option Nat)
  deriving DecidableEq
abbrev mA : Md := .o none
abbrev mS : Md := .o (some 0)
structure R where
  d : D
  m : Md
structure Exn where
  cls : Str
  fld : Option (Str × D)
abbrev Sg := L2.St
abbrev VEnv := List (Option (D × Md))
structure Cn where
  K : PySem.W.Frag
  P0 : Addr → Prop
  H0 : Hp
  rw : List Addr
  cl : Str → Option Addr
  hd : List (V × D) := []
  pin : List (Nat × V) := []
def Cn.Own (c : Cn) (a : Addr) : Prop := c.H0 a = none ∨ a ∈ c.rw
def Cn.B (c : Cn) (a : Addr) : Prop := c.P0 a ∨ c.Own a
inductive Slots (c : Cn) (T : List Addr) (H : Hp) : VEnv → Sg → List (List Addr) → Prop
  | nil : Slots c T H [] [] []
  | non {e : VEnv} {x : Option V} {σ : Sg} {L : List (List Addr)} : Slots c T H e σ L → Slots c T H (none :: e) (x :: σ) ([] :: L)
  | bor {e : VEnv} {d : D} {v : V} {σ : Sg} {L : List (List Addr)} : RS c.K (fun _ => True) H v d → Slots c T H e σ L → Slots c T H (some (d, .b) :: e) (some v :: σ) ([] :: L)
  | own {e : VEnv} {d : D} {m : Option Nat} {v : V} {l : List Addr} {σ : Sg} {L : List (List Addr)} : RO c.K (AT c.B T) H m v d l → Slots c T H e σ L → Slots c T H (some (d, .o m) :: e) (some v :: σ) (l :: L)
structure Sim (c : Cn) (L : List (List Addr)) (Tm : List Addr) (env : VEnv) (σ : Sg) (H : Hp) : Prop where
  sl : Slots c (L.flatten ++ Tm) H env σ L
  nd : (L.flatten ++ Tm).Nodup
  own : ∀ a ∈ L.flatten ++ Tm, c.Own a ∧ ∃ o, H a = some o
  fr : ∀ b o, c.H0 b = some o → b ∉ c.rw → H b = some o
  hd : ∀ p ∈ c.hd, RS c.K (AT c.B (L.flatten ++ Tm)) H p.1 p.2
  pin : ∀ p ∈ c.pin, σ[p.1]? = some (some p.2)
def Res (c : Cn) (T : List Addr) (H : Hp) (r : R) (v : V) (l : List Addr) : Prop :=
  match r.m with
  | .b => RS c.K (fun _ => True) H v r.d ∧ l = []
  | .o m => RO c.K (AT c.B T) H m v r.d l
theorem Res.dep {c : Cn} {T : List Addr} {H : Hp} {d : D} {m : Option Nat} {v : V} {l : List Addr} (h : Res c T H ⟨d, .o m⟩ v l) : RO c.K (AT c.B T) H m v d l := h
theorem Res.bor {c : Cn} {T : List Addr} {H : Hp} {d : D} {v : V} {l : List Addr} (h : Res c T H ⟨d, .b⟩ v l) : RS c.K (fun _ => True) H v d := h.1
theorem Res.read {c : Cn} {T : List Addr} {H : Hp} {r : R} {v : V} {l : List Addr} (h : Res c T H r v l) : RS c.K (fun _ => True) H v r.d := by
  obtain ⟨d, m⟩ := r
  cases m with
  | b => exact h.1
  | o m => exact RO.share (RO.mono (fun _ _ _ _ => trivial) h.dep) fun _ _ => trivial
theorem Res.flat {c : Cn} {T : List Addr} {H : Hp} {d : D} {m : Option Nat} {v : V} {A : Addr → Prop} (h : RS c.K A H v d) (f : flatD d = true) : Res c T H ⟨d, .o m⟩ v [] := RO.flat (h.flat f) f
theorem Res.keep {c : Cn} {T T' : List Addr} {H H' : Hp} {r : R} {v : V} {l : List Addr} (h : Res c T H r v l) (s : Same H H') (g : ∀ b ∈ T', b ∈ T ∨ H b = none) : Res c T' H' r v l := by
  obtain ⟨d, m⟩ := r
  cases m with
  | b => exact ⟨h.1.keep (Kp.same s), h.2⟩
  | o m => exact (RO.mono (fun b o a e => ⟨a.1, fun z => (g b z).elim a.2 fun n => by rw [e] at n; cases n⟩) h.dep).keep (Kp.same s) fun b _ o e => s b o e
section
variable {c : Cn} {L L' : List (List Addr)} {T T' Tm l : List Addr} {env env' : VEnv} {σ : Sg} {H H' H1 H2 : Hp}
theorem Slots.keep (h : Slots c T H env σ L) (s : Same H H') (g : ∀ b ∈ T', b ∈ T ∨ H b = none) : Slots c T' H' env σ L := by
  induction h with
  | nil => exact .nil
  | non _ ih => exact .non ih
  | bor r _ ih => exact .bor (r.keep (Kp.same s)) ih
  | own r _ ih => exact .own (Res.keep (r := ⟨_, .o _⟩) r s g) ih
theorem Slots.len (h : Slots c T H env σ L) : env.length = σ.length ∧ env.length = L.length := by
  induction h with
  | nil => exact ⟨rfl, rfl⟩
  | non _ ih => simp [ih.1, ← ih.2]
  | bor r _ ih => simp [ih.1, ← ih.2]
  | own r _ ih => simp [ih.1, ← ih.2]
theorem Slots.get {i : Nat} {d : D} {m : Md} (h : Slots c T H env σ L) (e : env[i]? = some (some (d, m))) : ∃ v l, σ[i]? = some (some v) ∧ L[i]? = some l ∧ Res c T H ⟨d, m⟩ v l := by
  induction h generalizing i with
  | nil => simp at e
  | non _ ih => cases i with
    | zero => simp at e
    | succ i => simpa using ih (by simpa using e)
  | bor r _ ih => cases i with
    | zero => simp at e; obtain ⟨rfl, rfl⟩ := e; exact ⟨_, _, rfl, rfl, r, rfl⟩
    | succ i => simpa using ih (by simpa using e)
  | own r _ ih => cases i with
    | zero => simp at e; obtain ⟨rfl, rfl⟩ := e; exact ⟨_, _, rfl, rfl, r⟩
    | succ i => simpa using ih (by simpa using e)
structure Step (c : Cn) (H H' : Hp) (G : List Addr) (Tm : List Addr) (L' : List (List Addr)) (l : List Addr) (env' : VEnv) (σ : Sg) : Prop where
  same : Same H H'
  sim : Sim c L' (Tm ++ l) env' σ H'
  gr : ∀ b ∈ L'.flatten ++ (Tm ++ l), b ∈ G ∨ H b = none
theorem Sim.less {Tm' : List Addr} (h : Sim c L Tm env σ H) (s : Tm'.Sublist Tm) : Sim c L Tm' env σ H := by
  have sub : (L.flatten ++ Tm').Sublist (L.flatten ++ Tm) := (List.Sublist.refl _).append s
  exact ⟨h.sl.keep (Same.refl H) fun b hb => .inl (sub.subset hb), h.nd.sublist sub, fun a ha => h.own a (sub.subset ha), h.fr, fun p hp => (h.hd p hp).mono fun b o a _ => AT.less (fun b hb => sub.subset hb) a, h.pin⟩
theorem Sim.drop (h : Sim c L (Tm ++ l) env σ H) : Sim c L Tm env σ H := h.less (List.sublist_append_left _ _)
theorem Step.refl {G : List Addr} (h : Sim c L Tm env σ H) (g : ∀ b ∈ L.flatten ++ Tm, b ∈ G := by exact fun _ hb => hb) : Step c H H G Tm L [] env σ := ⟨Same.refl H, by rw [List.append_nil]; exact h, fun b hb => .inl (by rw [List.append_nil] at hb; exact g b hb)⟩
theorem Step.wider {G G' : List Addr} (h : Step c H H' G Tm L' l env σ) (g : ∀ b ∈ G, b ∈ G') : Step c H H' G' Tm L' l env σ := ⟨h.same, h.sim, fun b hb => (h.gr b hb).imp (g b) id⟩
theorem mem_less {A B C D : List Addr} (s : ∀ b ∈ C, b ∈ D) : ∀ b ∈ A ++ (B ++ C), b ∈ A ++ (B ++ D) := fun b hb => by
  rcases List.mem_append.mp hb with z | z
  · exact List.mem_append_left _ z
  · rcases List.mem_append.mp z with z | z
    · exact List.mem_append_right _ (List.mem_append_left _ z)
    · exact List.mem_append_right _ (List.mem_append_right _ (s b z))
theorem Step.sub {G l' : List Addr} (h : Step c H H' G Tm L' l env σ) (s : l'.Sublist l) : Step c H H' G Tm L' l' env σ :=
  ⟨h.same, h.sim.less ((List.Sublist.refl _).append s), fun b hb => h.gr b (mem_less (fun b hb => s.subset hb) b hb)⟩
theorem Step.drop {G : List Addr} (h : Step c H H' G Tm L' l env σ) : Step c H H' G Tm L' [] env σ := h.sub (List.nil_sublist _)
theorem Step.sim0 {G : List Addr} (h : Step c H H' G Tm L' l env σ) : Sim c L' Tm env σ H' := h.sim.drop
theorem Step.perm {G l' : List Addr} (h : Step c H H' G Tm L' l env σ) (p : l'.Perm l) : Step c H H' G Tm L' l' env σ := by
  have pp : (L'.flatten ++ (Tm ++ l')).Perm (L'.flatten ++ (Tm ++ l)) := (p.append_left _).append_left _
  have mem : ∀ b, b ∈ L'.flatten ++ (Tm ++ l') → b ∈ L'.flatten ++ (Tm ++ l) := fun b hb => pp.mem_iff.mp hb
  exact ⟨h.same, ⟨h.sim.sl.keep (Same.refl _) fun b hb => .inl (mem b hb), pp.nodup_iff.mpr h.sim.nd, fun a ha => h.sim.own a (mem a ha), h.sim.fr, fun p hp => (h.sim.hd p hp).mono fun b o a _ => AT.less mem a, h.sim.pin⟩, fun b hb => h.gr b (mem b hb)⟩
theorem Step.trans {G l1 l2 : List Addr} {L1 L2 : List (List Addr)} {env1 env2 : VEnv} (a : Step c H H1 G Tm L1 l1 env1 σ) (b : Step c H1 H2 (L1.flatten ++ (Tm ++ l1)) (Tm ++ l1) L2 l2 env2 σ) : Step c H H2 G Tm L2 (l1 ++ l2) env2 σ :=
  ⟨a.same.trans b.same, by rw [← List.append_assoc]; exact b.sim, fun x hx => by
    rw [← List.append_assoc Tm] at hx
    rcases b.gr x hx with z | z
    · exact a.gr x z
    · exact .inr (a.same.free z)⟩
theorem Step.then {G l1 l2 : List Addr} {L1 L2 : List (List Addr)} {env1 env2 : VEnv} (a : Step c H H1 G Tm L1 l1 env1 σ) (b : Step c H1 H2 (L1.flatten ++ (Tm ++ l1)) Tm L2 l2 env2 σ) : Step c H H2 G Tm L2 l2 env2 σ :=
  ⟨a.same.trans b.same, b.sim, fun x hx => by
    rcases b.gr x hx with z | z
    · exact a.gr x z
    · exact .inr (a.same.free z)⟩
theorem Sim.nowhere (S : Sim c L Tm env σ H) {b : Addr} (n : H b = none) : c.Own b ∧ b ∉ L.flatten ++ Tm := by
  refine ⟨?_, fun z => ?_⟩
  · by_cases z : b ∈ c.rw
    · exact .inr z
    · cases q : c.H0 b with
      | none => exact .inl q
      | some u => have := S.fr b u q z; rw [n] at this; cases this
  · obtain ⟨_, o', e⟩ := S.own b z
    rw [n] at e; cases e
theorem Step.news (h : Sim c L Tm env σ H) (sm : Same H H') (nd : l.Nodup) (hl : ∀ b ∈ l, H b = none ∧ ∃ o, H' b = some o) : Step c H H' (L.flatten ++ Tm) Tm L l env σ := by
  have gr : ∀ b ∈ L.flatten ++ (Tm ++ l), b ∈ L.flatten ++ Tm ∨ H b = none := fun b hb => by
    rw [← List.append_assoc] at hb
    rcases List.mem_append.mp hb with z | z
    · exact .inl z
    · exact .inr (hl b z).1
  refine ⟨sm, ⟨h.sl.keep sm gr, ?_, fun a ha => ?_, fun b u e r => sm b u (h.fr b u e r), fun p hp => ((h.hd p hp).mono fun b o a e => ⟨a.1, fun z => (gr b z).elim a.2 fun n => by rw [e] at n; cases n⟩).keep (Kp.same sm), h.pin⟩, gr⟩
  · rw [← List.append_assoc, List.nodup_append]
    exact ⟨h.nd, nd, fun a ha b hb z => by subst z; exact (h.nowhere (hl a hb).1).2 ha⟩
  · rw [← List.append_assoc] at ha
    rcases List.mem_append.mp ha with z | z
    · obtain ⟨q, u, e⟩ := h.own a z
      exact ⟨q, u, sm a u e⟩
    · exact ⟨(h.nowhere (hl a z).1).1, (hl a z).2⟩
theorem same_new {p : Addr} {o : HO} (n : H p = none) : Same H (upd H p o) := fun b u e => by rw [upd_ne (ne_of_none e n)]; exact e
theorem Step.new {p : Addr} {o : HO} (h : Sim c L Tm env σ H) (n : H p = none) : Step c H (upd H p o) (L.flatten ++ Tm) Tm L [p] env σ :=
  Step.news h (same_new n) (by simp) fun b hb => by simp at hb; subst hb; exact ⟨n, o, upd_same⟩
theorem Sim.tmp (S : Sim c L (Tm ++ l) env σ H) : l.Nodup ∧ (∀ b ∈ l, c.B b) ∧ ∀ b ∈ l, b ∉ L.flatten ++ Tm := by
  have nd := S.nd
  rw [← List.append_assoc] at nd
  have nd' := List.nodup_append.mp nd
  exact ⟨nd'.2.1, fun b hb => .inr (S.own b (by simp [hb])).1, fun b hb z => nd'.2.2 b z b hb rfl⟩
theorem Res.shared {r : R} {v : V} {m : Option Nat} {la : List Addr} (h : Res c (L.flatten ++ (Tm ++ la)) H r v l) (hm : r.m = .o m) (S : Sim c L (Tm ++ la) env σ H) (hl : ∀ b ∈ l, b ∈ la) : RS c.K (AT c.B (L.flatten ++ Tm)) H v r.d := by
  obtain ⟨d, m'⟩ := r
  cases hm
  obtain ⟨_, hb, hx⟩ := S.tmp
  refine RO.share (RO.mono (fun b o a _ => AT.less (fun b hb => ?_) a) h.dep) fun b hb' => ⟨hb b (hl b hb'), hx b (hl b hb')⟩
  rw [← List.append_assoc]
  exact List.mem_append_left _ hb
end
def ExR (c : Cn) (H : Hp) (ex : Exn) (cls : Value) (d : Option Addr) : Prop :=
  ∃ C, c.cl ex.cls = some C ∧ cls = .ref C ∧ match ex.fld with
    | none => d = none
    | some (f, dt) => ∃ dd v, d = some dd ∧ H dd = some (.xd [(f, v)]) ∧ RS c.K (fun _ => True) H v dt
def Kont (c : Cn) (σ : Sg) (L : List (List Addr)) (Tm : List Addr) (H : Hp) (Qv : R → VEnv → Prop) (Q : VK) : Prop :=
  ∀ r v l L' env' H', Qv r env' → Step c H H' (L.flatten ++ Tm) Tm L' l env' σ → Res c (L'.flatten ++ (Tm ++ l)) H' r v l → Q v H'
def KontX (c : Cn) (σ : Sg) (L : List (List Addr)) (Tm : List Addr) (H : Hp) (X : Exn → VEnv → Prop) (W : WX) : Prop :=
  ∀ ex cls d L' env' H', X ex env' → Step c H H' (L.flatten ++ Tm) Tm L' [] env' σ → ExR c H' ex cls d → W cls d σ H'
abbrev WE := VEnv → (R → VEnv → Prop) → (Exn → VEnv → Prop) → Prop
def rdE (c : Cn) (W : WX) (w : WE) : TE := fun σ H Q => ∃ env L Tm Qv X, Sim c L Tm env σ H ∧ w env Qv X ∧ Kont c σ L Tm H Qv Q ∧ KontX c σ L Tm H X W
abbrev WT := VEnv → (Bool → VEnv → Prop) → (Exn → VEnv → Prop) → Prop
def rdT (c : Cn) (W : WX) (w : WT) : TT := fun σ H Q => ∃ env L Tm Qv X, Sim c L Tm env σ H ∧ w env Qv X ∧
  (∀ b L' env' H', Qv b env' → Step c H H' (L.flatten ++ Tm) Tm L' [] env' σ → Q b H') ∧ KontX c σ L Tm H X W
inductive Ress (c : Cn) (T : List Addr) (H : Hp) : List R → List V → List Addr → Prop
  | nil : Ress c T H [] [] []
  | cons {r : R} {rs : List R} {v : V} {vs : List V} {l1 l2 : List Addr} : Res c T H r v l1 → Ress c T H rs vs l2 → Ress c T H (r :: rs) (v :: vs) (l1 ++ l2)
abbrev WA := VEnv → (List R → VEnv → Prop) → (Exn → VEnv → Prop) → Prop
def rdA (c : Cn) (W : WX) (w : WA) : TA := fun σ H Q => ∃ env L Tm Qv X, Sim c L Tm env σ H ∧ w env Qv X ∧
  (∀ rs vs l L' env' H', Qv rs env' → Step c H H' (L.flatten ++ Tm) Tm L' l env' σ → Ress c (L'.flatten ++ (Tm ++ l)) H' rs vs l → Q vs H') ∧ KontX c σ L Tm H X W
theorem PE.imp {X : Cx} {e : Expr} {t t' : TE} (h : PE X e t) (q : ∀ σ H Q, t' σ H Q → t σ H Q) : PE X e t' := ⟨fun pins s σ H Q I w => h.run pins s σ H Q I (q _ _ _ w)⟩
theorem PT.imp {X : Cx} {e : Expr} {t t' : TT} (h : PT X e t) (q : ∀ σ H Q, t' σ H Q → t σ H Q) : PT X e t' := ⟨fun pins s σ H Q I w => h.run pins s σ H Q I (q _ _ _ w)⟩
theorem PW.imp {X : Cx} {e : Expr} {t t' : TT} (h : PW X e t) (q : ∀ σ H Q, t' σ H Q → t σ H Q) : PW X e t' := ⟨fun wh pins s σ H Q I w => h.run wh pins s σ H Q I (q _ _ _ w)⟩
theorem PA.imp {X : Cx} {e : List Expr} {t t' : TA} (h : PA X e t) (q : ∀ σ H Q, t' σ H Q → t σ H Q) : PA X e t' := ⟨fun pos pins s σ H Q I w => h.run pos pins s σ H Q I (q _ _ _ w)⟩
theorem PS.imp {X : Cx} {e : Stmt} {t t' : TS} (h : PS X e t) (q : ∀ D σ H, t' D σ H → t D σ H) : PS X e t' := ⟨fun pins s σ H D I w => h.run pins s σ H D I (q _ _ _ w)⟩
theorem PSs.imp {X : Cx} {e : List Stmt} {t t' : TS} (h : PSs X e t) (q : ∀ D σ H, t' D σ H → t D σ H) : PSs X e t' := ⟨fun pins s σ H D I w => h.run pins s σ H D I (q _ _ _ w)⟩
def readR (d : D) (m : Md) : R := if flatD d then ⟨d, mA⟩ else match m with
  | .o (some 0) => ⟨d, mS⟩
  | _ => ⟨d, .b⟩
theorem Res.ofRead {c : Cn} {T : List Addr} {H : Hp} {d : D} {m : Md} {v : V} {l : List Addr} (h : Res c T H ⟨d, m⟩ v l) : Res c T H (readR d m) v [] := by
  unfold readR
  by_cases f : flatD d = true
  · rw [if_pos f]; exact Res.flat h.read f
  · rw [if_neg f]
    match m, h with
    | .b, h => exact ⟨h.read, rfl⟩
    | .o none, h => exact ⟨h.read, rfl⟩
    | .o (some (n + 1)), h => exact ⟨h.read, rfl⟩
    | .o (some 0), h =>
      have h' := h.dep
      generalize hm : (some 0 : Option Nat) = m0 at h'
      cases h' with
      | sh r => exact .sh r
      | flat r f' => exact absurd f' f
      | lst p _ _ => subst hm; cases p
      | dct p _ _ _ => subst hm; cases p
      | tup hs r => subst hm; exact .sh (.tup hs (ROs.zero r))
      | opq a => subst hm; exact RO.sh (.opq a)
      | wtp a => subst hm; exact RO.sh (.wtp a)
      | ins p _ _ _ _ => subst hm; cases p
end VL
set_option maxRecDepth 100000
set_option maxHeartbeats 4000000
namespace VL
open PySem PySem.Spec PyProof.Rows L2
section
variable {c : Cn} {W : WX} {L L' : List (List Addr)} {T T' Tm l : List Addr} {env env' : VEnv} {σ : Sg} {H H' H1 H2 : Hp}
def wVar (i : Nat) : WE := fun env Q _ => ∃ d m, env[i]? = some (some (d, m)) ∧ Q (readR d m) env
def wMv (i : Nat) : WE := fun env Q _ => ∃ d m, env[i]? = some (some (d, m)) ∧ if flatD d = true then Q ⟨d, mA⟩ env else match m with
  | .b => Q ⟨d, .b⟩ env
  | .o m => Q ⟨d, .o m⟩ (env.set i none)
def wC (d : D) : WE := fun env Q _ => Q ⟨d, mA⟩ env
theorem rd_var {i : Nat} {σ : Sg} {H : Hp} {Q : VK} (h : rdE c W (wVar i) σ H Q) : tVar i σ H Q := by
  obtain ⟨env, L, Tm, Qv, X, S, ⟨d, m, e, q⟩, k, _⟩ := h
  obtain ⟨v, l, hv, hl, r⟩ := S.sl.get e
  refine ⟨v, hv, k _ _ [] _ _ _ q (Step.refl S) ?_⟩
  rw [List.append_nil]
  exact r.ofRead
theorem flatten_set {L : List (List Addr)} {i : Nat} {l : List Addr} (e : L[i]? = some l) : ((L.set i []).flatten ++ l).Perm L.flatten := by
  induction L generalizing i with
  | nil => simp at e
  | cons a L ih => cases i with
    | zero => simp at e; subst e; simp; exact List.perm_append_comm
    | succ i =>
      simp at e
      simp only [List.set_cons_succ, List.flatten_cons, List.append_assoc]
      exact (ih e).append_left a
theorem Slots.kill {i : Nat} (h : Slots c T H env σ L) : Slots c T H (env.set i none) σ (L.set i []) := by
  induction h generalizing i with
  | nil => exact .nil
  | non h ih => cases i with
    | zero => exact .non h
    | succ i => exact .non ih
  | bor r h ih => cases i with
    | zero => exact .non h
    | succ i => exact .bor r ih
  | own r h ih => cases i with
    | zero => exact .non h
    | succ i => exact .own r ih
theorem perm_mid {a b t : List Addr} {x : List Addr} (p : (a ++ x).Perm b) : (a ++ (t ++ x)).Perm (b ++ t) := by
  have : (a ++ (t ++ x)).Perm ((a ++ x) ++ t) := by
    rw [List.append_assoc]; exact List.perm_append_comm.append_left a
  exact this.trans (p.append_right t)
theorem Sim.move {i : Nat} (S : Sim c L Tm env σ H) (e : L[i]? = some l) : Step c H H (L.flatten ++ Tm) Tm (L.set i []) l (env.set i none) σ := by
  have p := perm_mid (t := Tm) (flatten_set e)
  have mem : ∀ b, b ∈ (L.set i []).flatten ++ (Tm ++ l) ↔ b ∈ L.flatten ++ Tm := fun b => p.mem_iff
  refine ⟨Same.refl H, ⟨(S.sl.kill).keep (Same.refl H) fun b hb => .inl ((mem b).mp hb), p.nodup_iff.mpr S.nd, fun a ha => S.own a ((mem a).mp ha), S.fr, fun p hp => (S.hd p hp).mono fun b o a _ => AT.less (fun b hb => (mem b).mp hb) a, S.pin⟩, fun b hb => .inl ((mem b).mp hb)⟩
theorem rd_mv {i : Nat} {σ : Sg} {H : Hp} {Q : VK} (h : rdE c W (wMv i) σ H Q) : tVar i σ H Q := by
  obtain ⟨env, L, Tm, Qv, X, S, ⟨d, m, e, q⟩, k, _⟩ := h
  obtain ⟨v, l, hv, hl, r⟩ := S.sl.get e
  refine ⟨v, hv, ?_⟩
  by_cases f : flatD d = true
  · rw [if_pos f] at q
    refine k _ _ [] _ _ _ q (Step.refl S) ?_
    exact Res.flat r.read f
  · rw [if_neg f] at q
    cases m with
    | b =>
      refine k _ _ [] _ _ _ q (Step.refl S) ?_
      exact ⟨r.read, rfl⟩
    | o m =>
      have st := S.move hl
      refine k _ _ l _ _ _ q st ?_
      exact Res.keep r (Same.refl H) fun b hb => st.gr b hb
theorem rd_C {v : V} {d : D} (hr : ∀ K A H, RS K A H v d) (f : flatD d = true) {σ : Sg} {H : Hp} {Q : VK} (h : rdE c W (wC d) σ H Q) : tC v σ H Q := by
  obtain ⟨env, L, Tm, Qv, X, S, q, k, _⟩ := h
  exact k _ _ [] _ _ _ q (Step.refl S) (Res.flat (hr c.K (fun _ => True) H) f)
end
section
variable {X : Cx} {c : Cn} {W : WX} {pos : Pos}
theorem ve_var (i : Nat) {x : Str} (hN : X.N[i]? = some x := by rfl) (hv : Vis X.env.scope x := by first | exact Or.inl rfl | exact Or.inr (Or.inl rfl) | exact Or.inr (Or.inr rfl)) (hd : (x == ("__debug__" : Str)) = false := by decide)
    (hcd : (x == ("__classdict__" : Str)) = false := by decide) : PE X (.Name x pos) (rdE c W (wVar i)) := PE.imp (pe_var hN hv hd hcd) fun _ _ _ => rd_var
theorem ve_mv (i : Nat) {x : Str} (hN : X.N[i]? = some x := by rfl) (hv : Vis X.env.scope x := by first | exact Or.inl rfl | exact Or.inr (Or.inl rfl) | exact Or.inr (Or.inr rfl)) (hd : (x == ("__debug__" : Str)) = false := by decide)
    (hcd : (x == ("__classdict__" : Str)) = false := by decide) : PE X (.Name x pos) (rdE c W (wMv i)) := PE.imp (pe_var hN hv hd hcd) fun _ _ _ => rd_mv
theorem ve_int {i : Int} {j} : PE X (.Constant (.int i) j pos) (rdE c W (wC (.int i))) := PE.imp pe_int fun _ _ _ => rd_C (fun _ _ _ => .int i) rfl
theorem ve_bl {b : Bool} {j} : PE X (.Constant (.bool b) j pos) (rdE c W (wC (.bool b))) := PE.imp pe_bl fun _ _ _ => rd_C (fun _ _ _ => .bl b) rfl
theorem ve_non {j} : PE X (.Constant .none j pos) (rdE c W (wC .none)) := PE.imp pe_non fun _ _ _ => rd_C (fun _ _ _ => .non) rfl
theorem ve_str {x : Str} {j} : PE X (.Constant (.str x) j pos) (rdE c W (wC (.str x))) := PE.imp pe_str fun _ _ _ => rd_C (fun _ _ _ => .str x) rfl
theorem ve_gint {x : Str} {i : Int} {t : Tok} (hm : X.mg x = some (.int i t)) (hg : Gl X x := by rfl) (hd : (x == ("__debug__" : Str)) = false := by decide) : PE X (.Name x pos) (rdE c W (wC (.int i))) :=
  PE.imp (pe_glob (v := .int i) hg hm ⟨_, rfl⟩ hd) fun _ _ _ => rd_C (fun _ _ _ => .int i) rfl
end
abbrev WO := R → R → (R → Prop) → Prop
def wBin (wo : WO) (wa wb : WE) : WE := fun env Q X => wa env (fun ra e1 => wb e1 (fun rb e2 => wo ra rb fun r => Q r e2) X) X
def OpS (c : Cn) (r2 : R2) (wo : WO) : Prop :=
  ∀ (L : List (List Addr)) (Tm la lb : List Addr) (env : VEnv) (σ : Sg) (H : Hp) (ra rb : R) (x y : V) (Qv : R → Prop) (Q : VK),
    Sim c L (Tm ++ (la ++ lb)) env σ H → Res c (L.flatten ++ (Tm ++ (la ++ lb))) H ra x la → Res c (L.flatten ++ (Tm ++ (la ++ lb))) H rb y lb → wo ra rb Qv →
    (∀ r v l H', Qv r → Step c H H' (L.flatten ++ (Tm ++ (la ++ lb))) Tm L l env σ → Res c (L.flatten ++ (Tm ++ l)) H' r v l → Q v H') → r2 x y H Q
theorem OpS.or {c : Cn} {r r' : R2} {w w' : WO} (h : OpS c r w) (h' : OpS c r' w') : OpS c (fun x y H Q => r x y H Q ∨ r' x y H Q) (fun a b Q => w a b Q ∨ w' a b Q) := by
  intro L Tm la lb env σ H ra rb x y Qv Q S h1 h2 hw k
  rcases hw with hw | hw
  · exact .inl (h L Tm la lb env σ H ra rb x y Qv Q S h1 h2 hw k)
  · exact .inr (h' L Tm la lb env σ H ra rb x y Qv Q S h1 h2 hw k)
section
variable {X : Cx} {c : Cn} {W : WX} {pos : Pos} {wa wb : WE} {wo : WO} {r2 : R2} {a b : Expr}
theorem KontX.step {c : Cn} {σ : Sg} {L L1 : List (List Addr)} {Tm la : List Addr} {H H1 : Hp} {env1 : VEnv} {X : Exn → VEnv → Prop} {W : WX} (k : KontX c σ L Tm H X W) (st : Step c H H1 (L.flatten ++ Tm) Tm L1 la env1 σ) : KontX c σ L1 (Tm ++ la) H1 X W :=
  fun ex cls d L' env' H' hx s e => k ex cls d L' env' H' hx (by
    have z := st.trans s
    exact z.drop) e
theorem rd_bin (hs : OpS c r2 wo) {σ : Sg} {H : Hp} {Q : VK} (h : rdE c W (wBin wo wa wb) σ H Q) : tOp r2 (rdE c W wa) (rdE c W wb) σ H Q := by
  obtain ⟨env, L, Tm, Qv, X, S, w, k, kx⟩ := h
  refine ⟨env, L, Tm, _, X, S, w, fun ra x la L1 env1 H1 h1 st1 r1 => ?_, kx⟩
  refine ⟨env1, L1, Tm ++ la, _, X, st1.sim, h1, fun rb y lb L2 env2 H2 h2 st2 r2' => ?_, kx.step st1⟩
  have r1' := r1.keep st2.same st2.gr
  have st12 := st1.trans st2
  rw [List.append_assoc] at r1' r2'
  exact hs L2 Tm la lb env2 σ H2 ra rb x y (fun r => Qv r env2) Q st12.sim r1' r2' h2 fun r v l H' q st3 r3 => k r v l L2 env2 H' q (Step.then st12 st3) r3
theorem ve_op {op : Operator} (ho : OpR X (binaryOp op) r2) (hs : OpS c r2 wo) (ha : PE X a (rdE c W wa)) (hb : PE X b (rdE c W wb)) : PE X (.BinOp a op b pos) (rdE c W (wBin wo wa wb)) :=
  PE.imp (pe_op ho ha hb) fun _ _ _ => rd_bin hs
theorem ve_cmp {op : CmpOp} (ho : OpR X (compareOp op) r2) (hs : OpS c r2 wo) (ha : PE X a (rdE c W wa)) (hb : PE X b (rdE c W wb)) (hm : behindInMarks op b = false := by first | exact nomark _ | with_unfolding_all rfl) : PE X (.Compare a [op] [b] pos) (rdE c W (wBin wo wa wb)) :=
  PE.imp (pe_cmpR ho ha hb hm) fun _ _ _ => rd_bin hs
def wTest (w : WE) : WT := fun env Q X => w env (fun r e => ∃ k, r.d = .bool k ∧ Q k e) X
theorem rd_test' {t : TE} {w : WE} (ht : ∀ σ H Q, rdE c W w σ H Q → t σ H Q) {σ : Sg} {H : Hp} {Q : Bool → Hp → Prop} (h : rdT c W (wTest w) σ H Q) : t σ H fun x H' => ∃ k, x = .bl k ∧ Q k H' := by
  obtain ⟨env, L, Tm, Qv, X, S, w, k, kx⟩ := h
  refine ht _ _ _ ⟨env, L, Tm, _, X, S, w, fun r v l L1 env1 H1 ⟨b, e, q⟩ st r1 => ?_, kx⟩
  obtain ⟨d, m⟩ := r
  cases e
  have := r1.read
  cases this
  exact ⟨b, rfl, k b L1 env1 H1 q st.drop⟩
theorem vt_cmp {op : CmpOp} (ho : OpR X (compareOp op) r2) (hs : OpS c r2 wo) (ha : PE X a (rdE c W wa)) (hb : PE X b (rdE c W wb)) (hm : behindInMarks op b = false := by first | exact nomark _ | with_unfolding_all rfl) : PT X (.Compare a [op] [b] pos) (rdT c W (wTest (wBin wo wa wb))) :=
  PT.imp (pt_cmpR ho ha hb hm) fun _ _ _ => rd_test' fun _ _ _ => rd_bin hs
theorem vt_val {e : Expr} {w : WE} (h : PE X e (rdE c W w)) (he : ∀ whole, isTrue e X.env whole = (do let v ← whole; standAt e.pos; holding [v] (truthy v)) := by intro _; rfl) : PT X e (rdT c W (wTest w)) :=
  PT.imp (pt_val h he) fun _ _ _ => rd_test' fun _ _ _ z => z
end
section
variable {c : Cn}
theorem flat_end1 {L : List (List Addr)} {Tm l : List Addr} {env : VEnv} {σ : Sg} {H : Hp} {d : D} {v : V} {Qv : R → Prop} {Q : VK} (S : Sim c L (Tm ++ l) env σ H) (q : Qv ⟨d, mA⟩) (r : RS c.K (fun _ => True) H v d) (f : flatD d = true)
    (k : ∀ r v l' H', Qv r → Step c H H' (L.flatten ++ (Tm ++ l)) Tm L l' env σ → Res c (L.flatten ++ (Tm ++ l')) H' r v l' → Q v H') : Q v H :=
  k _ _ [] _ q (Step.refl S.drop fun b hb => by rw [← List.append_assoc]; exact List.mem_append_left _ hb) (Res.flat r f)
def woI (C : Int → Int → Prop) (g : Int → Int → D) : WO := fun ra rb Q => ∃ i j, ra.d = .int i ∧ rb.d = .int j ∧ C i j ∧ Q ⟨g i j, mA⟩
theorem ops_I {C : Int → Int → Prop} {g : Int → Int → V} {gd : Int → Int → D} (hg : ∀ K A H i j, RS K A H (g i j) (gd i j)) (hf : ∀ i j, flatD (gd i j) = true) : OpS c (rI C g) (woI C gd) := by
  intro L Tm la lb env σ H ra rb x y Qv Q S h1 h2 ⟨i, j, e1, e2, hc, q⟩ k
  obtain ⟨d1, m1⟩ := ra; obtain ⟨d2, m2⟩ := rb
  cases e1; cases e2
  have a1 := h1.read; have a2 := h2.read
  cases a1; cases a2
  exact ⟨i, j, rfl, rfl, hc, flat_end1 S q (hg c.K _ H i j) (hf i j) k⟩
def woI0 (g : Int → Int → D) : WO := fun ra rb Q => ∃ i j, ra.d = .int i ∧ rb.d = .int j ∧ Q ⟨g i j, mA⟩
theorem ops_I0 {g : Int → Int → V} {gd : Int → Int → D} (hg : ∀ K A H i j, RS K A H (g i j) (gd i j)) (hf : ∀ i j, flatD (gd i j) = true) : OpS c (rI0 g) (woI0 gd) := by
  intro L Tm la lb env σ H ra rb x y Qv Q S h1 h2 ⟨i, j, e1, e2, q⟩ k
  obtain ⟨d1, m1⟩ := ra; obtain ⟨d2, m2⟩ := rb
  cases e1; cases e2
  have a1 := h1.read; have a2 := h2.read
  cases a1; cases a2
  exact ⟨i, j, rfl, rfl, flat_end1 S q (hg c.K _ H i j) (hf i j) k⟩
end
end VL
set_option maxRecDepth 100000
set_option maxHeartbeats 4000000
namespace VL
open PySem PySem.Spec PyProof.Rows L2
def wNil : WA := fun env Q _ => Q [] env
def wCons (w : WE) (wa : WA) : WA := fun env Q X => w env (fun r e => wa e (fun rs e' => Q (r :: rs) e') X) X
section
variable {c : Cn} {T T' l : List Addr} {H H' : Hp}
theorem Ress.keep {rs : List R} {vs : List V} (h : Ress c T H rs vs l) (s : Same H H') (g : ∀ b ∈ T', b ∈ T ∨ H b = none) : Ress c T' H' rs vs l := by
  induction h with
  | nil => exact .nil
  | cons r _ ih => exact .cons (r.keep s g) ih
theorem Ress.read {rs : List R} {vs : List V} (h : Ress c T H rs vs l) : RSs c.K (fun _ => True) H vs (rs.map (·.d)) := by
  induction h with
  | nil => exact .nil
  | cons r _ ih => exact .cons r.read ih
theorem Ress.len {rs : List R} {vs : List V} (h : Ress c T H rs vs l) : rs.length = vs.length := by
  induction h with
  | nil => rfl
  | cons r _ ih => simp [ih]
end
section
variable {X : Cx} {c : Cn} {W : WX} {pos : Pos} {w : WE} {wa : WA} {e : Expr} {es : List Expr}
theorem va_nil : PA X [] (rdA c W wNil) := PA.imp pa_nil fun σ H Q h => by
  obtain ⟨env, L, Tm, Qv, X, S, q, k, _⟩ := h
  exact k [] [] [] L env H q (Step.refl S) .nil
theorem va_cons (he : PE X e (rdE c W w)) (hr : PA X es (rdA c W wa)) (hs : starEach (e :: es) X.env = (false, eval e X.env) :: starEach es X.env := by rfl) : PA X (e :: es) (rdA c W (wCons w wa)) := PA.imp (pa_cons he hr hs) fun σ H Q h => by
  obtain ⟨env, L, Tm, Qv, X, S, q, k, kx⟩ := h
  refine ⟨env, L, Tm, _, X, S, q, fun r x la L1 env1 H1 h1 st1 r1 => ?_, kx⟩
  refine ⟨env1, L1, Tm ++ la, _, X, st1.sim, h1, fun rs vs lb L2 env2 H2 h2 st2 r2 => ?_, kx.step st1⟩
  have e := r1.keep st2.same st2.gr
  rw [List.append_assoc] at e r2
  exact k (r :: rs) (x :: vs) (la ++ lb) L2 env2 H2 h2 (st1.trans st2) (.cons e r2)
end
abbrev FSpec := List D → (R → Prop) → (Exn → Prop) → Prop
def spOf (K : PySem.W.Frag) (cl : Str → Option Addr) (S : FSpec) : Sp := fun vs H Q E => ∃ ds P0 Qv X, RSs K P0 H vs ds ∧ S ds Qv X ∧
  (∀ r v l H', Qv r → Same H H' → l.Nodup → (∀ b ∈ l, H b = none ∧ ∃ o, H' b = some o) → Res ⟨K, P0, H, [], cl, [], []⟩ l H' r v l → Q v H') ∧
  (∀ ex cls d H', X ex → Same H H' → ExR ⟨K, P0, H, [], cl, [], []⟩ H' ex cls d → E cls d H')
structure Def (P : Program) (w : World) (K : PySem.W.Frag) (mg : Str → Option Value) (base : Heap) (cl : Str → Option Addr) (x : Str) (n : Nat) (S : FSpec) (k : Nat) : Prop where
  ex : ∃ (f : Addr) (fd : FuncData) (ps : List Str), ps.length = n ∧ FnOk P w K mg base (L2.CX P w) k f fd ps (spOf K cl S) ∧ mg x = some (.ref f) ∧ PySem.W.keepIn K (.ref f) = true ∧ Binds K fd ps []
def isB : Md → Bool
  | .b => true
  | .o _ => false
def outR (rs : List R) (r : R) : R := if rs.any (fun r => isB r.m) = true then (match r.m with | .o none => r | _ => ⟨r.d, .b⟩) else r
def wCall (S : FSpec) (wa : WA) : WE := fun env Q X => wa env (fun rs e => S (rs.map (·.d)) (fun r => Q (outR rs r) e) (fun ex => X ex e)) X
section
variable {c : Cn} {L : List (List Addr)} {Tm l : List Addr} {env : VEnv} {σ : Sg} {H : Hp}
theorem Ress.shared {rs : List R} {vs : List V} {la : List Addr} (h : Ress c (L.flatten ++ (Tm ++ la)) H rs vs l) (hm : rs.any (fun r => isB r.m) = false) (S : Sim c L (Tm ++ la) env σ H) (hl : ∀ b ∈ l, b ∈ la) : RSs c.K (AT c.B (L.flatten ++ Tm)) H vs (rs.map (·.d)) := by
  induction h with
  | nil => exact .nil
  | @cons r rs v vs l1 l2 hr _ ih =>
    simp only [List.any_cons, Bool.or_eq_false_iff] at hm
    obtain ⟨d, m⟩ := r
    cases m with
    | b => simp [isB] at hm
    | o m => exact .cons (hr.shared rfl S fun b hb => hl b (List.mem_append_left _ hb)) (ih hm.2 fun b hb => hl b (List.mem_append_right _ hb))
theorem Res.come {P0 : Addr → Prop} {cl : Str → Option Addr} {H1 : Hp} {r : R} {v : V} (S : Sim c L Tm env σ H) (h : Res ⟨c.K, P0, H, [], cl, [], []⟩ l H1 r v l) (nl : ∀ b ∈ l, H b = none)
    (hp : ∀ b, P0 b → AT c.B (L.flatten ++ Tm) b) : Res c (L.flatten ++ (Tm ++ l)) H1 r v l := by
  obtain ⟨d, m⟩ := r
  cases m with
  | b => exact h
  | o m =>
    refine RO.mono (fun b o a e => ?_) h.dep
    obtain ⟨a1, a2⟩ := a
    have fin : ∀ {x : Addr}, AT c.B (L.flatten ++ Tm) x → x ∉ l → AT c.B (L.flatten ++ (Tm ++ l)) x := fun {x} q n => ⟨q.1, fun z => by
      rw [← List.append_assoc] at z
      exact (List.mem_append.mp z).elim q.2 n⟩
    rcases a1 with a1 | a1 | a1
    · exact fin (hp b a1) a2
    · obtain ⟨o1, o2⟩ := S.nowhere a1
      exact fin ⟨.inr o1, o2⟩ a2
    · cases a1
theorem Res.toAll {P0 : Addr → Prop} {cl : Str → Option Addr} {H0 H1 : Hp} {T T' : List Addr} {d : D} {v : V} (h : Res ⟨c.K, P0, H0, [], cl, [], []⟩ T H1 ⟨d, .o none⟩ v l) : Res c T' H1 ⟨d, .o none⟩ v l := RO.all rfl h.dep
end
section
variable {X : Cx} {c : Cn} {W : WX} {pos p : Pos} {wa : WA} {e : Expr} {es : List Expr} {x : Str} {n k : Nat} {S : FSpec}
theorem rd_call {σ : Sg} {H : Hp} {Q : VK} {K : PySem.W.Frag} {cl : Str → Option Addr} (hK : c.K = K) (hcl : c.cl = cl) (h : rdE c W (wCall S wa) σ H Q) : tCallS (spOf K cl S) (L2.WE W) (rdA c W wa) σ H Q := by
  subst hK; subst hcl
  obtain ⟨env, L, Tm, Qv, X, S0, q, k, kx⟩ := h
  refine ⟨env, L, Tm, _, X, S0, q, fun rs vs l L1 env1 H1 h1 st1 r1 => ?_, kx⟩
  have S1 : Sim c L1 Tm env1 σ H1 := st1.sim0
  have up : ∀ {H' : Hp} {l' : List Addr}, Step c H1 H' (L1.flatten ++ Tm) Tm L1 l' env1 σ → Step c H H' (L.flatten ++ Tm) Tm L1 l' env1 σ := fun z => Step.then st1 (z.wider fun b hb => by rw [← List.append_assoc]; exact List.mem_append_left _ hb)
  have kx' : ∀ ex cls d H', X ex env1 → Same H1 H' → ExR c H' ex cls d → W cls d σ H' := fun ex cls d H' hx s ee => by
    refine kx ex cls d L1 env1 H' hx ?_ ee
    exact up (Step.news (l := []) S1 s List.nodup_nil (fun b hb => by cases hb))
  by_cases hb : rs.any (fun r => isB r.m) = true
  · refine ⟨_, fun _ => True, _, _, r1.read, h1, fun r v l' H' hq s nd nl rr => ?_, fun ex cls d H' hx s ee => kx' ex cls d H' hx s ee⟩
    unfold outR at hq
    rw [if_pos hb] at hq
    obtain ⟨d, m⟩ := r
    match m with
    | .o none => exact k _ v l' L1 env1 H' hq (up (Step.news S1 s nd nl)) rr.toAll
    | .o (some j) => exact k _ v [] L1 env1 H' hq (up (Step.news S1 s nd nl).drop) ⟨rr.read, rfl⟩
    | .b => exact k _ v [] L1 env1 H' hq (up (Step.news S1 s nd nl).drop) ⟨rr.read, rfl⟩
  · have hb' : rs.any (fun r => isB r.m) = false := by simpa using hb
    refine ⟨_, AT c.B (L1.flatten ++ Tm), _, _, r1.shared hb' st1.sim (fun _ z => z), h1, fun r v l' H' hq s nd nl rr => ?_, fun ex cls d H' hx s ee => kx' ex cls d H' hx s ee⟩
    unfold outR at hq
    rw [if_neg hb] at hq
    exact k _ v l' L1 env1 H' hq (up (Step.news S1 s nd nl)) (rr.come S1 (fun b hb => (nl b hb).1) fun _ z => z)
theorem ve_call (hd : Def X.prog X.w X.K X.mg X.base c.cl x n S k) (hr : Room k X.A) (tk : Takes X W) (ha : PA X (e :: es) (rdA c W wa)) (hK : c.K = X.K := by rfl) (hg : Gl X x := by rfl)
    (hdb : (x == ("__debug__" : Str)) = false := by decide) (he : starEach (e :: es) X.env = (false, eval e X.env) :: starEach es X.env := by rfl) (hpl : (backTo pos (starEach es X.env)).any (·.1) = false := by rfl) :
    PE X (.Call (.Name x p) (e :: es) [] pos) (rdE c W (wCall S wa)) := by
  obtain ⟨f, fd, ps, hl, F, hm, hk, hb⟩ := hd.ex
  exact PE.imp (pe_callS F hr hg hm hk hb (fun σ => passAt tk σ) ha hdb he hpl) fun σ H Q => rd_call hK rfl
end
abbrev WF := List R → (R → Prop) → Prop
def CallS (c : Cn) (r : List V → Hp → VK → Prop) (wf : WF) : Prop :=
  ∀ (L : List (List Addr)) (Tm l : List Addr) (env : VEnv) (σ : Sg) (H : Hp) (rs : List R) (vs : List V) (Qv : R → Prop) (Q : VK),
    Sim c L (Tm ++ l) env σ H → Ress c (L.flatten ++ (Tm ++ l)) H rs vs l → wf rs Qv →
    (∀ r v l' H', Qv r → Step c H H' (L.flatten ++ (Tm ++ l)) Tm L l' env σ → Res c (L.flatten ++ (Tm ++ l')) H' r v l' → Q v H') → r vs H Q
def wCB (wf : WF) (wa : WA) : WE := fun env Q X => wa env (fun rs e => wf rs fun r => Q r e) X
section
variable {X : Cx} {c : Cn} {W : WX} {pos p : Pos} {wa : WA} {wf : WF} {e : Expr} {es : List Expr} {x : Str} {r : List V → Hp → VK → Prop}
theorem CallS.or {r r' : List V → Hp → VK → Prop} {w w' : WF} (h : CallS c r w) (h' : CallS c r' w') : CallS c (fun xs H Q => r xs H Q ∨ r' xs H Q) (fun rs Q => w rs Q ∨ w' rs Q) := by
  intro L Tm l env σ H rs vs Qv Q S h1 hw k
  rcases hw with hw | hw
  · exact .inl (h L Tm l env σ H rs vs Qv Q S h1 hw k)
  · exact .inr (h' L Tm l env σ H rs vs Qv Q S h1 hw k)
theorem CallS.imp {w w' : WF} (h : CallS c r w) (q : ∀ rs Q, w' rs Q → w rs Q) : CallS c r w' := fun L Tm l env σ H rs vs Qv Q S h1 hw k => h L Tm l env σ H rs vs Qv Q S h1 (q _ _ hw) k
theorem OpS.imp {r2 : R2} {w w' : WO} (h : OpS c r2 w) (q : ∀ a b Q, w' a b Q → w a b Q) : OpS c r2 w' := fun L Tm la lb env σ H ra rb x y Qv Q S h1 h2 hw k => h L Tm la lb env σ H ra rb x y Qv Q S h1 h2 (q _ _ _ hw) k
theorem rd_cb (hs : CallS c r wf) {σ : Sg} {H : Hp} {Q : VK} (h : rdE c W (wCB wf wa) σ H Q) : tCB r (rdA c W wa) σ H Q := by
  obtain ⟨env, L, Tm, Qv, X, S0, q, k, kx⟩ := h
  refine ⟨env, L, Tm, _, X, S0, q, fun rs vs l L1 env1 H1 h1 st1 r1 => ?_, kx⟩
  exact hs L1 Tm l env1 σ H1 rs vs _ Q st1.sim r1 h1 fun r v l' H' hq st2 r2 => k r v l' L1 env1 H' hq (Step.then st1 st2) r2
theorem ve_callB {id : String} (hc : CallR X (.builtin id) r) (hs : CallS c r wf) (hm : X.mg x = none) (hv : bootBuiltins x = some (.builtin id)) (ha : PA X (e :: es) (rdA c W wa)) (hg : Gl X x := by rfl) (hn : x ≠ "__name__" := by decide) (hdb : (x == ("__debug__" : Str)) = false := by decide)
    (he : starEach (e :: es) X.env = (false, eval e X.env) :: starEach es X.env := by rfl) (hpl : (backTo pos (starEach es X.env)).any (·.1) = false := by rfl) : PE X (.Call (.Name x p) (e :: es) [] pos) (rdE c W (wCB wf wa)) :=
  PE.imp (pe_callB hc hg hm hv ha hn hdb he hpl) fun _ _ _ => rd_cb hs
theorem ve_callTy {T : String} (hc : CallR X (.type T) r) (hs : CallS c r wf) (hm : X.mg x = none) (hv : bootBuiltins x = some (.type T)) (ha : PA X (e :: es) (rdA c W wa)) (hg : Gl X x := by rfl) (hn : x ≠ "__name__" := by decide) (hdb : (x == ("__debug__" : Str)) = false := by decide)
    (he : starEach (e :: es) X.env = (false, eval e X.env) :: starEach es X.env := by rfl) (hpl : (backTo pos (starEach es X.env)).any (·.1) = false := by rfl) : PE X (.Call (.Name x p) (e :: es) [] pos) (rdE c W (wCB wf wa)) :=
  PE.imp (pe_callTy hc hg hm hv ha hn hdb he hpl) fun _ _ _ => rd_cb hs
end
section
variable {c : Cn}
theorem ress1 {T l : List Addr} {H : Hp} {r : R} {vs : List V} (h : Ress c T H [r] vs l) : ∃ v, vs = [v] ∧ Res c T H r v l := by
  cases h with
  | cons h1 h2 => cases h2; exact ⟨_, rfl, by rw [List.append_nil]; exact h1⟩
theorem ress2 {T l : List Addr} {H : Hp} {r r' : R} {vs : List V} (h : Ress c T H [r, r'] vs l) : ∃ v v' l1 l2, vs = [v, v'] ∧ l = l1 ++ l2 ∧ Res c T H r v l1 ∧ Res c T H r' v' l2 := by
  cases h with
  | cons h1 h2 =>
    obtain ⟨v, rfl, h3⟩ := ress1 h2
    exact ⟨_, _, _, _, rfl, rfl, h1, h3⟩
def wLen : WF := fun rs Q => ∃ r, rs = [r] ∧ match r.d with
  | .list ds => Q ⟨.int ds.length, mA⟩
  | .tuple ds => Q ⟨.int ds.length, mA⟩
  | .str z => z.length ≤ sizeLine ∧ Q ⟨.int z.length, mA⟩
  | .dict [(.list [], .list ns)] => Q ⟨.int ns.length, mA⟩
  | _ => False
theorem len_R {X : Cx} : CallR X (.builtin "len") (fun xs H Q => (∃ p ys, xs = [.ref p] ∧ (SqL X.K H p ys ∨ SqT X.K H p ys) ∧ Q (.int ys.length) H) ∨ (∃ z, xs = [.str z] ∧ z.length ≤ sizeLine ∧ Q (.int z.length) H)) := call_len_seq.or call_len_str
theorem script_inv {ds : List (D × D)} {t : Bool} {q : List D} {y : D} {kvs : List (D × V)} {H : Hp} {a : Addr} (h : DictAt H a kvs t) (e : kvs.map (·.1) = ds.map (·.1)) (z : mkDict t ds = .dict [(.list q, y)]) : False := by
  unfold mkDict at z
  cases t with
  | true => simp at z
  | false =>
    simp at z
    subst z
    rcases h with ⟨_, k', _, q⟩ | ⟨q, _⟩
    · subst q
      cases k' with
      | nil => simp at e
      | cons p k' =>
        simp at e
        obtain ⟨p1, p3⟩ := p
        cases p1 with
        | inl i => exact nomatch e.1
        | inr i => exact nomatch e.1
    · cases q
theorem s_len : CallS c (fun xs H Q => (∃ p ys, xs = [.ref p] ∧ (SqL c.K H p ys ∨ SqT c.K H p ys) ∧ Q (.int ys.length) H) ∨ (∃ z, xs = [.str z] ∧ z.length ≤ sizeLine ∧ Q (.int z.length) H)) wLen := by
  intro L Tm l env σ H rs vs Qv Q S h ⟨r, e, q⟩ k
  subst e
  obtain ⟨v, rfl, hr⟩ := ress1 h
  obtain ⟨d, m⟩ := r
  have hr' := hr.read
  simp only at q hr'
  generalize hd : d = d0 at hr'
  cases hr' with
  | non => subst hd; exact q.elim
  | bl b => subst hd; exact q.elim
  | int i => subst hd; exact q.elim
  | str z => subst hd; exact .inr ⟨z, rfl, q.1, flat_end1 S q.2 (.int _) rfl k⟩
  | lst ha _ r => subst hd; refine .inl ⟨_, _, rfl, .inl (SqL.of ha), ?_⟩; rw [r.len]; exact flat_end1 S q (.int _) rfl k
  | tup ha r => subst hd; refine .inl ⟨_, _, rfl, .inr (SqT.of ha), ?_⟩; rw [r.len]; exact flat_end1 S q (.int _) rfl k
  | dct ha _ e r =>
    subst hd
    split at q
    · rename_i z; exact absurd z (by simp [mkDict])
    · rename_i z; exact absurd z (by simp [mkDict])
    · rename_i z; exact absurd z (by simp [mkDict])
    · rename_i z; exact (script_inv ha e z).elim
    · exact q.elim
  | opq a =>
    subst hd
    split at q
    · rename_i z; exact absurd z (by simp [opD])
    · rename_i z; exact absurd z (by simp [opD])
    · rename_i z; exact absurd z (by simp [opD])
    · rename_i z; simp [opD] at z
    · exact q.elim
  | wtp a =>
    subst hd
    split at q
    · rename_i z; exact absurd z (by simp [wtD])
    · rename_i z; exact absurd z (by simp [wtD])
    · rename_i z; exact absurd z (by simp [wtD])
    · rename_i z; simp [wtD] at z
    · exact q.elim
  | ins _ _ _ _ _ =>
    subst hd
    split at q
    · rename_i z; exact absurd z (by simp [insD])
    · rename_i z; exact absurd z (by simp [insD])
    · rename_i z; exact absurd z (by simp [insD])
    · rename_i z; simp [insD] at z
    · exact q.elim
  | @scr a ns ha =>
    subst hd
    refine .inl ⟨_, _, rfl, .inl ha.seq, ?_⟩
    simp only [scriptD, List.length_map] at q ⊢
    exact flat_end1 S q (.int _) rfl k
def wI1 (g : Int → D) : WF := fun rs Q => ∃ r i, rs = [r] ∧ r.d = .int i ∧ Q ⟨g i, mA⟩
theorem s_I1 {g : Int → V} {gd : Int → D} (hg : ∀ K A H i, RS K A H (g i) (gd i)) (hf : ∀ i, flatD (gd i) = true) : CallS c (fun xs H Q => ∃ i, xs = [.int i] ∧ Q (g i) H) (wI1 gd) := by
  intro L Tm l env σ H rs vs Qv Q S h ⟨r, i, e, e2, q⟩ k
  subst e
  obtain ⟨v, rfl, hr⟩ := ress1 h
  obtain ⟨d, m⟩ := r
  cases e2
  have := hr.read
  cases this
  exact ⟨i, rfl, flat_end1 S q (hg _ _ _ _) (hf i) k⟩
end
end VL
set_option maxRecDepth 100000
set_option maxHeartbeats 4000000
namespace VL
open PySem PySem.Spec PyProof.Rows L2
def minM : Option Nat → Option Nat → Option Nat
  | none, b => b
  | a, none => a
  | some a, some b => some (min a b)
theorem minM_l (a b : Option Nat) : leM (minM a b) a = true := by
  cases a <;> cases b <;> simp [minM, leM] <;> omega
theorem minM_r (a b : Option Nat) : leM (minM a b) b = true := by
  cases a <;> cases b <;> simp [minM, leM] <;> omega
theorem leM_trans {a b c : Option Nat} (h : leM a b = true) (g : leM b c = true) : leM a c = true := by
  cases a <;> cases b <;> cases c <;> simp [leM] at * <;> omega
def joinM : List R → Option (Option Nat)
  | [] => some none
  | r :: rs => if flatD r.d = true then joinM rs else match r.m with
    | .b => none
    | .o m => (joinM rs).map (minM m)
def kidOk (n : Option Nat) (r : R) : Prop := flatD r.d = true ∨ ∃ m, r.m = .o m ∧ leM n m = true
theorem joinM_ok {rs : List R} {n : Option Nat} (h : joinM rs = some n) : ∀ r ∈ rs, kidOk n r := by
  induction rs generalizing n with
  | nil => intro r hr; cases hr
  | cons r rs ih =>
    unfold joinM at h
    intro r' hr'
    by_cases f : flatD r.d = true
    · rw [if_pos f] at h
      rcases List.mem_cons.mp hr' with rfl | z
      · exact .inl f
      · exact ih h _ z
    · rw [if_neg f] at h
      obtain ⟨d, m⟩ := r
      cases m with
      | b => cases h
      | o m =>
        obtain ⟨k, hk, e⟩ := Option.map_eq_some_iff.mp h
        subst e
        rcases List.mem_cons.mp hr' with rfl | z
        · exact .inr ⟨m, rfl, minM_l m k⟩
        · rcases ih hk _ z with f' | ⟨m', e', q⟩
          · exact .inl f'
          · exact .inr ⟨m', e', leM_trans (minM_r m k) q⟩
section
variable {c : Cn} {T T' l : List Addr} {H H' : Hp}
theorem RO.lower {m n : Option Nat} {v : V} {d : D} (h : RO c.K (AT c.B T) H m v d l) (hn : leM n m = true) (nd : l.Nodup) (hb : ∀ b ∈ l, c.B b) :
    ∃ l' : List Addr, l'.Sublist l ∧ ∀ T' : List Addr, (∀ b ∈ T', b ∈ T) → (∀ b ∈ l, b ∈ T' → b ∈ l') → RO c.K (AT c.B T') H n v d l' := by
  by_cases z : n = some 0
  · subst z
    exact ⟨[], List.nil_sublist _, fun T' h1 h2 => .sh (RO.share (RO.mono (fun b o a _ => AT.less h1 a) h) fun b hb' => ⟨hb b hb', fun q => by have := h2 b hb' q; cases this⟩)⟩
  · exact RO.weak hn z h nd hb
theorem Ress.kids {rs : List R} {vs : List V} {n : Option Nat} (h : Ress c T H rs vs l) (hk : ∀ r ∈ rs, kidOk n r) (nd : l.Nodup) (hb : ∀ b ∈ l, c.B b) :
    ∃ l' : List Addr, l'.Sublist l ∧ ∀ T' : List Addr, (∀ b ∈ T', b ∈ T) → (∀ b ∈ l, b ∈ T' → b ∈ l') → ROs c.K (AT c.B T') H n vs (rs.map (·.d)) l' := by
  induction h with
  | nil => exact ⟨[], List.Sublist.refl _, fun _ _ _ => .nil⟩
  | @cons r rs v vs l1 l2 hr _ ih =>
    have nd' := List.nodup_append.mp nd
    obtain ⟨k2, s2, q2⟩ := ih (fun r hr => hk r (List.mem_cons_of_mem _ hr)) nd'.2.1 fun b hb' => hb b (List.mem_append_right _ hb')
    have h1 : ∃ k1 : List Addr, k1.Sublist l1 ∧ ∀ T' : List Addr, (∀ b ∈ T', b ∈ T) → (∀ b ∈ l1, b ∈ T' → b ∈ k1) → RO c.K (AT c.B T') H n v r.d k1 := by
      rcases hk r List.mem_cons_self with f | ⟨m, e, q⟩
      · exact ⟨[], List.nil_sublist _, fun T' _ _ => .flat (hr.read.flat f) f⟩
      · obtain ⟨d, m'⟩ := r
        cases e
        exact RO.lower hr.dep q nd'.1 fun b hb' => hb b (List.mem_append_left _ hb')
    obtain ⟨k1, s1, q1⟩ := h1
    refine ⟨k1 ++ k2, s1.append s2, fun T' g1 g2 => .cons (q1 T' g1 fun b hb' ht => ?_) (q2 T' g1 fun b hb' ht => ?_)⟩
    · rcases List.mem_append.mp (g2 b (List.mem_append_left _ hb') ht) with e | e
      · exact e
      · exact absurd rfl (nd'.2.2 b hb' b (s2.subset e))
    · rcases List.mem_append.mp (g2 b (List.mem_append_right _ hb') ht) with e | e
      · exact absurd rfl (nd'.2.2 b (s1.subset e) b hb')
      · exact e
theorem ROs.keepT {m : Option Nat} {vs : List V} {ds : List D} (h : ROs c.K (AT c.B T) H m vs ds l) (s : Same H H') (g : ∀ b ∈ T', b ∈ T ∨ H b = none) : ROs c.K (AT c.B T') H' m vs ds l :=
  (ROs.mono (fun b o a e => ⟨a.1, fun z => (g b z).elim a.2 fun n => by rw [e] at n; cases n⟩) h).keep (Kp.same s) fun b _ o e => s b o e
end
section
variable {c : Cn} {L L' : List (List Addr)} {Tm l l' : List Addr} {env : VEnv} {σ : Sg} {H H' : Hp}
theorem kids_ready {rs : List R} {vs : List V} {n : Option Nat} (S : Sim c L (Tm ++ l) env σ H) (h : Ress c (L.flatten ++ (Tm ++ l)) H rs vs l) (hn : joinM rs = some n) :
    ∃ l' : List Addr, l'.Sublist l ∧ ROs c.K (AT c.B (L.flatten ++ (Tm ++ l'))) H n vs (rs.map (·.d)) l' := by
  obtain ⟨nd, hb, hx⟩ := S.tmp
  obtain ⟨l', s, q⟩ := h.kids (joinM_ok hn) nd hb
  refine ⟨l', s, q _ (fun b hb' => ?_) fun b hb1 hb2 => ?_⟩
  · rcases List.mem_append.mp hb' with z | z
    · exact List.mem_append_left _ z
    · rcases List.mem_append.mp z with z | z
      · exact List.mem_append_right _ (List.mem_append_left _ z)
      · exact List.mem_append_right _ (List.mem_append_right _ (s.subset z))
  · rw [← List.append_assoc] at hb2
    exact (List.mem_append.mp hb2).elim (fun z => absurd z (hx b hb1)) id
end
def wLst : WF := fun rs Q => rs.length ≤ 1000 ∧ match joinM rs with
  | some n => Q ⟨.list (rs.map (·.d)), .o (succM n)⟩
  | none => Q ⟨.list (rs.map (·.d)), .b⟩
def wTup : WF := fun rs Q => rs.length ≤ 1000 ∧ match joinM rs with
  | some n => Q ⟨.tuple (rs.map (·.d)), .o n⟩
  | none => Q ⟨.tuple (rs.map (·.d)), .b⟩
section
variable {c : Cn} {W : WX} {X : Cx} {wa : WA} {es : List Expr} {pos : Pos}
theorem le_line {n : Nat} (h : n ≤ 1000) : n ≤ sizeLine := Nat.le_of_lt (small1000 h)
theorem new_end {L : List (List Addr)} {Tm l l' : List Addr} {env : VEnv} {σ : Sg} {H : Hp} {p : Addr} {o : HO} (S : Sim c L (Tm ++ l) env σ H) (np : H p = none) (s : l'.Sublist l) : Step c H (upd H p o) (L.flatten ++ (Tm ++ l)) Tm L (p :: l') env σ := by
  have S' : Sim c L (Tm ++ l') env σ H := S.less ((List.Sublist.refl _).append s)
  have st' := Step.new (o := o) S' np
  refine Step.perm (l := l' ++ [p]) ⟨st'.same, by rw [← List.append_assoc]; exact st'.sim, fun b hb => ?_⟩ (List.perm_append_singleton p l').symm
  rw [← List.append_assoc Tm] at hb
  rcases st'.gr b hb with z | z
  · exact .inl (mem_less (fun b hb => s.subset hb) b z)
  · exact .inr z
theorem s_lst : CallS c (fun xs H Q => xs.length ≤ sizeLine ∧ ∀ p, H p = none → Q (.ref p) (upd H p (.lst xs))) wLst := by
  intro L Tm l env σ H rs vs Qv Q S h ⟨hz, q⟩ k
  refine ⟨by rw [← h.len]; exact le_line hz, fun p np => ?_⟩
  cases hj : joinM rs with
  | none =>
    rw [hj] at q
    exact k _ _ [] _ q (new_end S np (List.nil_sublist _)).drop ⟨.lst upd_same trivial (h.read.keep (Kp.same (same_new np))), rfl⟩
  | some n =>
    rw [hj] at q
    obtain ⟨l', s, r⟩ := kids_ready S h hj
    refine k _ _ (p :: l') _ q (new_end S np s) (RO.lst (pop_succ n) upd_same (ROs.keepT r (same_new np) fun b hb => ?_))
    rcases List.mem_append.mp hb with z | z
    · exact .inl (List.mem_append_left _ z)
    · rcases List.mem_append.mp z with z | z
      · exact .inl (List.mem_append_right _ (List.mem_append_left _ z))
      · rcases List.mem_cons.mp z with z | z
        · subst z; exact .inr np
        · exact .inl (List.mem_append_right _ (List.mem_append_right _ z))
theorem s_tup : CallS c (fun xs H Q => xs.length ≤ sizeLine ∧ ∀ p, H p = none → Q (.ref p) (upd H p (.tup xs))) wTup := by
  intro L Tm l env σ H rs vs Qv Q S h ⟨hz, q⟩ k
  refine ⟨by rw [← h.len]; exact le_line hz, fun p np => ?_⟩
  have tp : (upd H p (.tup vs)) p = some (.tup vs) := upd_same
  cases hj : joinM rs with
  | none =>
    rw [hj] at q
    exact k _ _ [] _ q (new_end S np (List.nil_sublist _)).drop ⟨.tup tp (h.read.keep (Kp.same (same_new np))), rfl⟩
  | some n =>
    rw [hj] at q
    obtain ⟨l', s, r⟩ := kids_ready S h hj
    refine k _ _ l' _ q ((new_end S np s).sub (List.sublist_cons_self p l')) (RO.tup tp (ROs.keepT r (same_new np) fun b hb => .inl hb))
theorem ve_lst (ha : PA X es (rdA c W wa)) : PE X (.List es pos) (rdE c W (wCB wLst wa)) := PE.imp (pe_lst ha) fun _ _ _ => rd_cb s_lst
theorem ve_tup {x1} (ha : PA X es (rdA c W wa)) : PE X (.Tuple es x1 pos) (rdE c W (wCB wTup wa)) := PE.imp (pe_tup ha) fun _ _ _ => rd_cb s_tup
end
end VL
set_option maxRecDepth 100000
set_option maxHeartbeats 4000000
namespace VL
open PySem PySem.Spec PyProof.Rows L2
def kidM : Md → Md
  | .b => .b
  | .o none => .o none
  | .o (some 0) => .o (some 0)
  | .o (some (k + 1)) => .o (some k)
def subL (m : Md) (d : D) : R := if flatD d = true then ⟨d, mA⟩ else ⟨d, kidM m⟩
def subT (m : Md) (d : D) : R := if flatD d = true then ⟨d, mA⟩ else ⟨d, m⟩
section
variable {K : PySem.W.Frag} {A : Addr → Prop} {c : Cn} {T l : List Addr} {H : Hp}
theorem ROs.get : ∀ {m : Option Nat} {vs : List V} {ds : List D} {l : List Addr} {i : Nat} {d : D}, ROs K A H m vs ds l → ds[i]? = some d → ∃ v l', vs[i]? = some v ∧ RO K A H m v d l' ∧ l'.Sublist l
  | _, _, _, _, _, _, .nil, e => by simp at e
  | _, _, _, _, 0, _, .cons h _, e => by simp at e; subst e; exact ⟨_, _, rfl, h, List.sublist_append_left _ _⟩
  | _, _, _, _, i + 1, d, .cons _ r, e => by
    obtain ⟨v, l', h1, h2, h3⟩ := ROs.get (i := i) r (by simpa using e)
    exact ⟨v, l', by simpa using h1, h2, h3.trans (List.sublist_append_right _ _)⟩
theorem ROs.len : ∀ {m : Option Nat} {vs : List V} {ds : List D} {l : List Addr}, ROs K A H m vs ds l → vs.length = ds.length
  | _, _, _, _, .nil => rfl
  | _, _, _, _, .cons _ r => by simp [ROs.len r]
theorem RS.lst_inv {v : V} {ds : List D} (h : RS K A H v (.list ds)) : ∃ a xs, v = .ref a ∧ H a = some (.lst xs) ∧ A a ∧ RSs K A H xs ds := by
  generalize e : PyData.list ds = d at h
  cases h with
  | lst ha a r => cases e; exact ⟨_, _, rfl, ha, a, r⟩
  | dct _ _ _ _ => simp [mkDict] at e
  | scr _ => simp [scriptD] at e
  | opq a => simp [opD] at e
  | wtp a => simp [wtD] at e
  | ins _ _ _ _ _ => simp [insD] at e
  | _ => cases e
theorem RS.tup_inv {v : V} {ds : List D} (h : RS K A H v (.tuple ds)) : ∃ a xs, v = .ref a ∧ H a = some (.tup xs) ∧ RSs K A H xs ds := by
  generalize e : PyData.tuple ds = d at h
  cases h with
  | tup ha r => cases e; exact ⟨_, _, rfl, ha, r⟩
  | dct _ _ _ _ => simp [mkDict] at e
  | scr _ => simp [scriptD] at e
  | opq a => simp [opD] at e
  | wtp a => simp [wtD] at e
  | ins _ _ _ _ _ => simp [insD] at e
  | _ => cases e
theorem RO.lst_inv {m : Option Nat} {v : V} {ds : List D} (h : RO K A H m v (.list ds) l) : (m = some 0 ∧ l = [] ∧ RS K A H v (.list ds)) ∨ ∃ n a xs l', popM m = some n ∧ v = .ref a ∧ H a = some (.lst xs) ∧ ROs K A H n xs ds l' ∧ l = a :: l' := by
  generalize e : PyData.list ds = d at h
  cases h with
  | sh r => exact .inl ⟨rfl, rfl, r⟩
  | flat r f => subst e; simp [flatD] at f
  | lst p ha r => cases e; exact .inr ⟨_, _, _, _, p, rfl, ha, r, rfl⟩
  | dct _ _ _ _ => simp [mkDict] at e
  | opq a => simp [opD] at e
  | wtp a => simp [wtD] at e
  | ins _ _ _ _ _ => simp [insD] at e
  | tup _ _ => cases e
theorem Res.kidL {m : Md} {ds : List D} {v : V} (h : Res c T H ⟨.list ds, m⟩ v l) : ∃ a xs, v = .ref a ∧ H a = some (.lst xs) ∧ xs.length = ds.length ∧
    ∀ (i : Nat) (d : D), ds[i]? = some d → ∃ v' l', xs[i]? = some v' ∧ l'.Sublist l ∧ Res c T H ⟨d, kidM m⟩ v' l' := by
  have sh : ∀ {A : Addr → Prop} {v : V}, RS c.K A H v (.list ds) → ∃ a xs, v = .ref a ∧ H a = some (.lst xs) ∧ xs.length = ds.length ∧ ∀ (i : Nat) (d : D), ds[i]? = some d → ∃ v', xs[i]? = some v' ∧ RS c.K A H v' d := fun {A v} h => by
    obtain ⟨a, xs, e, ha, _, r⟩ := h.lst_inv
    exact ⟨a, xs, e, ha, r.len, fun i d e => r.get e⟩
  cases m with
  | b =>
    obtain ⟨a, xs, e, ha, hl, q⟩ := sh h.1
    exact ⟨a, xs, e, ha, hl, fun i d e => let ⟨v', e', r⟩ := q i d e; ⟨v', [], e', List.nil_sublist _, r, rfl⟩⟩
  | o m =>
    rcases RO.lst_inv h.dep with ⟨rfl, rfl, r⟩ | ⟨n, a, xs, l', p, e, ha, r, rfl⟩
    · obtain ⟨a, xs, e, ha, hl, q⟩ := sh r
      exact ⟨a, xs, e, ha, hl, fun i d e => let ⟨v', e', r⟩ := q i d e; ⟨v', [], e', List.nil_sublist _, RO.sh r⟩⟩
    · refine ⟨a, xs, e, ha, r.len, fun i d e => ?_⟩
      obtain ⟨v', l1, h1, h2, h3⟩ := r.get e
      refine ⟨v', l1, h1, h3.trans (List.sublist_cons_self _ _), ?_⟩
      match m, p with
      | none, p => cases p; exact h2
      | some (k + 1), p => cases p; exact h2
theorem Res.kidT {m : Md} {ds : List D} {v : V} (h : Res c T H ⟨.tuple ds, m⟩ v l) : ∃ a xs, v = .ref a ∧ H a = some (.tup xs) ∧ xs.length = ds.length ∧
    ∀ (i : Nat) (d : D), ds[i]? = some d → ∃ v' l', xs[i]? = some v' ∧ l'.Sublist l ∧ Res c T H ⟨d, m⟩ v' l' := by
  cases m with
  | b =>
    obtain ⟨a, xs, e, ha, r⟩ := h.1.tup_inv
    exact ⟨a, xs, e, ha, r.len, fun i d e => let ⟨v', e', r'⟩ := r.get e; ⟨v', [], e', List.nil_sublist _, r', rfl⟩⟩
  | o m =>
    have h' := h.dep
    generalize e : PyData.tuple ds = d at h'
    cases h' with
    | opq a => simp [opD] at e
    | wtp a => simp [wtD] at e
    | ins _ _ _ _ _ => simp [insD] at e
    | sh r =>
      subst e
      obtain ⟨a, xs, e, ha, r⟩ := r.tup_inv
      exact ⟨a, xs, e, ha, r.len, fun i d e => let ⟨v', e', r'⟩ := r.get e; ⟨v', [], e', List.nil_sublist _, RO.sh r'⟩⟩
    | flat r f =>
      subst e
      obtain ⟨a, xs, e, ha, r⟩ := r.tup_inv
      have f' : flatAll ds = true := by simpa [flatD] using f
      exact ⟨a, xs, e, ha, r.len, fun i d e => let ⟨v', e', r'⟩ := r.get e; ⟨v', [], e', List.nil_sublist _, RO.flat r' (flat_get f' e)⟩⟩
    | tup ha r =>
      cases e
      exact ⟨_, _, rfl, ha, r.len, fun i d e => let ⟨v', l1, h1, h2, h3⟩ := r.get e; ⟨v', l1, h1, h3, h2⟩⟩
    | lst _ _ _ => cases e
    | dct _ _ _ _ => simp [mkDict] at e
where
  flat_get : ∀ {ds : List D} {i : Nat} {d : D}, flatAll ds = true → ds[i]? = some d → flatD d = true
    | [], _, _, _, e => by simp at e
    | x :: ds, 0, d, f, e => by simp [flatAll] at f e; subst e; exact f.1
    | x :: ds, i + 1, d, f, e => by simp [flatAll] at f e; exact flat_get f.2 e
theorem Res.ofSub {m : Md} {d : D} {v : V} (h : Res c T H ⟨d, m⟩ v l) : ∃ l', l'.Sublist l ∧ Res c T H (if flatD d = true then ⟨d, mA⟩ else ⟨d, m⟩) v l' := by
  by_cases f : flatD d = true
  · rw [if_pos f]; exact ⟨[], List.nil_sublist _, Res.flat h.read f⟩
  · rw [if_neg f]; exact ⟨l, List.Sublist.refl _, h⟩
theorem atI_tr {α β : Type} {xs : List α} {ys : List β} {i : Int} {y : β} (hl : xs.length = ys.length) (h : atI ys i = some y) : ∃ j : Nat, ys[j]? = some y ∧ ∀ x, xs[j]? = some x → atI xs i = some x := by
  unfold atI at h ⊢
  rw [← hl] at h
  cases hj : ixN xs.length i with
  | none => rw [hj] at h; cases h
  | some j => rw [hj] at h; exact ⟨j, h, fun x e => e⟩
end
def wIx : WO := fun ra rb Q => ∃ i, rb.d = .int i ∧ match ra.d with
  | .list ds => ∃ d, atI ds i = some d ∧ Q (subL ra.m d)
  | .tuple ds => ∃ d, atI ds i = some d ∧ Q (subT ra.m d)
  | .str z => z.length ≤ sizeLine ∧ ∃ k, atI z.cps.toList i = some k ∧ Q ⟨.str ⟨#[k]⟩, mA⟩
  | _ => False
section
variable {X : Cx} {c : Cn} {W : WX} {pos : Pos} {wa wb : WE} {a b : Expr}
theorem temp_end {L : List (List Addr)} {Tm l l' : List Addr} {env : VEnv} {σ : Sg} {H : Hp} {r : R} {v : V} {Qv : R → Prop} {Q : VK} (S : Sim c L (Tm ++ l) env σ H) (s : l'.Sublist l) (q : Qv r) (h : Res c (L.flatten ++ (Tm ++ l)) H r v l')
    (k : ∀ r v l' H', Qv r → Step c H H' (L.flatten ++ (Tm ++ l)) Tm L l' env σ → Res c (L.flatten ++ (Tm ++ l')) H' r v l' → Q v H') : Q v H :=
  k r v l' H q ⟨Same.refl H, S.less ((List.Sublist.refl _).append s), fun b hb => .inl (mem_less (fun b hb => s.subset hb) b hb)⟩ (h.keep (Same.refl H) fun b hb => .inl (mem_less (fun b hb => s.subset hb) b hb))
theorem s_ix : OpS c (rIx c.K) wIx := by
  intro L Tm la lb env σ H ra rb x y Qv Q S h1 h2 ⟨i, e2, q⟩ k
  obtain ⟨d, m⟩ := ra
  obtain ⟨d2, m2⟩ := rb
  cases e2
  have r2 := h2.read
  cases r2
  have sub : ∀ {l' : List Addr}, l'.Sublist la → l'.Sublist (la ++ lb) := fun s => s.trans (List.sublist_append_left _ _)
  match d, q with
  | .list ds, ⟨d, e, q⟩ =>
    obtain ⟨a, xs, rfl, ha, hl, g⟩ := Res.kidL (ds := ds) (m := m) h1
    obtain ⟨j, e1, e2⟩ := atI_tr hl e
    obtain ⟨v', l', e3, s, r⟩ := g j d e1
    obtain ⟨l'', s', r'⟩ := r.ofSub
    exact .inl ⟨a, xs, i, v', rfl, rfl, SqL.of ha, e2 v' e3, temp_end S (sub (s'.trans s)) q r' k⟩
  | .tuple ds, ⟨d, e, q⟩ =>
    obtain ⟨a, xs, rfl, ha, hl, g⟩ := Res.kidT (ds := ds) (m := m) h1
    obtain ⟨j, e1, e2⟩ := atI_tr hl e
    obtain ⟨v', l', e3, s, r⟩ := g j d e1
    obtain ⟨l'', s', r'⟩ := r.ofSub
    exact .inr (.inl ⟨a, xs, i, v', rfl, rfl, SqT.of ha, e2 v' e3, temp_end S (sub (s'.trans s)) q r' k⟩)
  | .str z, ⟨hz, kk, e, q⟩ =>
    have := h1.read
    cases this
    exact .inr (.inr ⟨z, i, kk, rfl, rfl, hz, e, flat_end1 S q (.str _) rfl k⟩)
theorem ve_ix (ha : PE X a (rdE c W wa)) (hb : PE X b (rdE c W wb)) (hK : c.K = X.K := by rfl) (hs : PlainIx b := by exact fun _ _ => rfl) : PE X (.Subscript a b pos) (rdE c W (wBin wIx wa wb)) :=
  PE.imp (pe_ix ix_seq ha hb hs) fun _ _ _ => by rw [← hK]; exact rd_bin s_ix
end
def cpR (ds : List D) (b : Bool) : R := ⟨.list ds, if flatAll ds = true then mA else if b = true then .b else .o (some 1)⟩
section
variable {c : Cn} {L : List (List Addr)} {Tm l : List Addr} {env : VEnv} {σ : Sg} {H : Hp} {Qv : R → Prop} {Q : VK}
theorem flat_kids {K : PySem.W.Frag} {A A' : Addr → Prop} {xs : List V} {ds : List D} (h : RSs K A H xs ds) (f : flatAll ds = true) : ROs K A' H none xs ds [] := by
  induction xs generalizing ds with
  | nil => cases h; exact .nil
  | cons x xs ih =>
    cases h with
    | cons h r =>
      simp only [flatAll, Bool.and_eq_true] at f
      exact .cons (l1 := []) (l2 := []) (.flat (h.flat f.1) f.1) (ih r f.2)
theorem cp_end {p : Addr} {xs : List V} {ds : List D} {b : Bool} (S : Sim c L (Tm ++ l) env σ H) (np : H p = none) (h : RSs c.K (fun _ => True) H xs ds) (h' : b = false → RSs c.K (AT c.B (L.flatten ++ Tm)) H xs ds) (q : Qv (cpR ds b))
    (k : ∀ r v l' H', Qv r → Step c H H' (L.flatten ++ (Tm ++ l)) Tm L l' env σ → Res c (L.flatten ++ (Tm ++ l')) H' r v l' → Q v H') : Q (.ref p) (upd H p (.lst xs)) := by
  have s := same_new (o := .lst xs) np
  unfold cpR at q
  have st := new_end (o := .lst xs) S np (List.nil_sublist l)
  by_cases f : flatAll ds = true
  · rw [if_pos f] at q
    exact k _ _ [p] _ q st (RO.lst (by rfl) upd_same (flat_kids (h.keep (Kp.same s)) f))
  · rw [if_neg f] at q
    cases b with
    | true => exact k _ _ [] _ q st.drop ⟨.lst upd_same trivial (h.keep (Kp.same s)), rfl⟩
    | false =>
      refine k _ _ [p] _ q st (RO.lst (n := some 0) (by rfl) upd_same (ROs.toSh (((h' rfl).mono fun b o a e => ⟨a.1, fun z => ?_⟩).keep (Kp.same s))))
      rw [← List.append_assoc] at z
      rcases List.mem_append.mp z with z | z
      · exact a.2 z
      · simp at z; subst z; rw [np] at e; cases e
end
end VL
set_option maxRecDepth 100000
set_option maxHeartbeats 4000000
namespace VL
open PySem PySem.Spec PyProof.Rows L2
section
variable {c : Cn}
def woAdd : WO := fun ra rb Q => match ra.d, rb.d with
  | .int i, .int j => Q ⟨.int (i + j), mA⟩
  | .str x, .str y => x.length + y.length ≤ sizeLine ∧ Q ⟨.str (x ++ y), mA⟩
  | .list xs, .list ys => xs.length + ys.length ≤ sizeLine ∧ Q (cpR (xs ++ ys) (isB ra.m || isB rb.m))
  | _, _ => False
def rAdd : R2 := fun x y H Q => rI0 (fun i j => .int (i + j)) x y H Q ∨ (∃ i j, x = .str i ∧ y = .str j ∧ i.length + j.length ≤ sizeLine ∧ Q (.str (i ++ j)) H) ∨ rCat x y H Q
theorem op_add3 {X : Cx} : OpR X (binaryOp .Add) rAdd := op_add.or (op_add_str.or op_cat)
theorem Res.lstS {L : List (List Addr)} {Tm l la : List Addr} {env : VEnv} {σ : Sg} {H : Hp} {ds : List D} {m : Md} {v : V} (h : Res c (L.flatten ++ (Tm ++ la)) H ⟨.list ds, m⟩ v l) (hm : isB m = false) (S : Sim c L (Tm ++ la) env σ H) (hl : ∀ b ∈ l, b ∈ la) :
    ∃ a xs, v = .ref a ∧ H a = some (.lst xs) ∧ RSs c.K (AT c.B (L.flatten ++ Tm)) H xs ds := by
  cases m with
  | b => cases hm
  | o m =>
    obtain ⟨a, xs, e, ha, _, r⟩ := (Res.shared (m := m) h rfl S hl).lst_inv
    exact ⟨a, xs, e, ha, r⟩
theorem s_add : OpS c rAdd woAdd := by
  intro L Tm la lb env σ H ra rb x y Qv Q S h1 h2 q k
  obtain ⟨d1, m1⟩ := ra
  obtain ⟨d2, m2⟩ := rb
  have r1 := h1.read
  have r2 := h2.read
  unfold woAdd at q
  simp only at q r1 r2
  split at q
  · cases r1; cases r2
    exact .inl ⟨_, _, rfl, rfl, flat_end1 S q (.int _) rfl k⟩
  · cases r1; cases r2
    exact .inr (.inl ⟨_, _, rfl, rfl, q.1, flat_end1 S q.2 (.str _) rfl k⟩)
  · rename_i xs ys
    obtain ⟨a, us, rfl, ha, _, r1'⟩ := r1.lst_inv
    obtain ⟨b, ws, rfl, hb, _, r2'⟩ := r2.lst_inv
    refine .inr (.inr ⟨a, b, us, ws, rfl, rfl, ha, hb, by rw [r1'.len, r2'.len]; exact q.1, fun p np => ?_⟩)
    refine cp_end S np (RSs.append r1' r2') (fun hm => ?_) q.2 k
    simp only [Bool.or_eq_false_iff] at hm
    obtain ⟨a', us', e1, ha', s1⟩ := Res.lstS (m := m1) h1 hm.1 S fun b hb => List.mem_append_left _ hb
    obtain ⟨b', ws', e2, hb', s2⟩ := Res.lstS (m := m2) h2 hm.2 S fun b hb => List.mem_append_right _ hb
    cases e1; cases e2
    rw [ha] at ha'; cases ha'
    rw [hb] at hb'; cases hb'
    exact RSs.append s1 s2
  · exact q.elim
def woMul : WO := fun ra rb Q => match ra.d, rb.d with
  | .int i, .int j => (CMul i j ∨ CMulW i j) ∧ Q ⟨.int (i * j), mA⟩
  | .list xs, .int k => -(2 ^ 63) ≤ k ∧ k < 2 ^ 63 ∧ xs.length * k.toNat ≤ sizeLine ∧ Q (cpR (List.replicate k.toNat xs).flatten (isB ra.m))
  | _, _ => False
def rMul : R2 := fun x y H Q => rI CMul (fun i j => .int (i * j)) x y H Q ∨ rI CMulW (fun i j => .int (i * j)) x y H Q ∨ rRep x y H Q
theorem op_mul3 {X : Cx} : OpR X (binaryOp .Mult) rMul := op_mul.or (op_mulW.or op_rep)
theorem s_mul : OpS c rMul woMul := by
  intro L Tm la lb env σ H ra rb x y Qv Q S h1 h2 q k
  obtain ⟨d1, m1⟩ := ra
  obtain ⟨d2, m2⟩ := rb
  have r1 := h1.read
  have r2 := h2.read
  unfold woMul at q
  simp only at q r1 r2
  split at q
  · cases r1; cases r2
    rcases q.1 with z | z
    · exact .inl ⟨_, _, rfl, rfl, z, flat_end1 S q.2 (.int _) rfl k⟩
    · exact .inr (.inl ⟨_, _, rfl, rfl, z, flat_end1 S q.2 (.int _) rfl k⟩)
  · rename_i xs kk
    cases r2
    obtain ⟨a, us, rfl, ha, _, r1'⟩ := r1.lst_inv
    refine .inr (.inr ⟨a, kk, us, rfl, rfl, ha, q.1, q.2.1, by rw [r1'.len]; exact q.2.2.1, fun p np => ?_⟩)
    refine cp_end S np (RSs.rep r1' _) (fun hm => ?_) q.2.2.2 k
    obtain ⟨a', us', e1, ha', s1⟩ := Res.lstS (m := m1) h1 hm S fun b hb => List.mem_append_left _ hb
    cases e1
    rw [ha] at ha'; cases ha'
    exact RSs.rep s1 _
  · exact q.elim
end
section
variable {X : Cx} {c : Cn} {W : WX} {pos : Pos} {wa wb : WE} {a b : Expr}
theorem ve_add (ha : PE X a (rdE c W wa)) (hb : PE X b (rdE c W wb)) : PE X (.BinOp a .Add b pos) (rdE c W (wBin woAdd wa wb)) := ve_op op_add3 s_add ha hb
theorem ve_mul (ha : PE X a (rdE c W wa)) (hb : PE X b (rdE c W wb)) : PE X (.BinOp a .Mult b pos) (rdE c W (wBin woMul wa wb)) := ve_op op_mul3 s_mul ha hb
def woSub : WO := woI0 fun i j => .int (i - j)
theorem ve_sub (ha : PE X a (rdE c W wa)) (hb : PE X b (rdE c W wb)) : PE X (.BinOp a .Sub b pos) (rdE c W (wBin woSub wa wb)) := ve_op op_sub (ops_I0 (fun _ _ _ _ _ => .int _) fun _ _ => rfl) ha hb
def woMod : WO := woI (fun _ j => 0 < j) fun i j => .int (i % j)
theorem ve_mod (ha : PE X a (rdE c W wa)) (hb : PE X b (rdE c W wb)) : PE X (.BinOp a .Mod b pos) (rdE c W (wBin woMod wa wb)) := ve_op op_mod (ops_I (fun _ _ _ _ _ => .int _) fun _ _ => rfl) ha hb
def woFd : WO := woI (fun i j => CDiv i j ∨ CDivW i j) fun i j => .int (i / j)
theorem op_fd {X : Cx} : OpR X (binaryOp .FloorDiv) (rI (fun i j => CDiv i j ∨ CDivW i j) fun i j => .int (i / j)) := by
  intro pins s σ H x y v u Q I rx ry ⟨i, j, e1, e2, hc, q⟩
  rcases hc with hc | hc
  · exact op_fdiv pins s σ H x y v u Q I rx ry ⟨i, j, e1, e2, hc, q⟩
  · exact op_fdivW pins s σ H x y v u Q I rx ry ⟨i, j, e1, e2, hc, q⟩
theorem ve_fd (ha : PE X a (rdE c W wa)) (hb : PE X b (rdE c W wb)) : PE X (.BinOp a .FloorDiv b pos) (rdE c W (wBin woFd wa wb)) := ve_op op_fd (ops_I (fun _ _ _ _ _ => .int _) fun _ _ => rfl) ha hb
def woPow : WO := woI CPow fun i j => .int (i ^ j.toNat)
theorem ve_pow (ha : PE X a (rdE c W wa)) (hb : PE X b (rdE c W wb)) : PE X (.BinOp a .Pow b pos) (rdE c W (wBin woPow wa wb)) := ve_op op_pow (ops_I (fun _ _ _ _ _ => .int _) fun _ _ => rfl) ha hb
def wNeg (w : WE) : WE := fun env Q X => w env (fun r e => ∃ i, r.d = .int i ∧ Q ⟨.int (-i), mA⟩ e) X
theorem rd_un {r1 : V → Hp → VK → Prop} {w : WE} {g : R → (D → Prop) → Prop} (hg : ∀ (c : Cn) T H r v l (Qd : D → Prop) (Q : VK), Res c T H r v l → g r Qd → (∀ d v, Qd d → flatD d = true → RS c.K (fun _ => True) H v d → Q v H) → r1 v H Q)
    {σ : Sg} {H : Hp} {Q : VK} (h : rdE c W (fun env Q X => w env (fun r e => g r fun d => Q ⟨d, mA⟩ e) X) σ H Q) : tUn r1 (rdE c W w) σ H Q := by
  obtain ⟨env, L, Tm, Qv, X, S, q, k, kx⟩ := h
  refine ⟨env, L, Tm, _, X, S, q, fun r v l L1 env1 H1 h1 st r1' => ?_, kx⟩
  exact hg c _ H1 r v l _ Q r1' h1 fun d v q f rs => k ⟨d, mA⟩ v [] L1 env1 H1 q st.drop (Res.flat rs f)
theorem ve_neg (ha : PE X a (rdE c W wa)) : PE X (.UnaryOp .USub a pos) (rdE c W (wNeg wa)) := PE.imp (pe_un un_neg ha) fun σ H Q h => by
  refine rd_un (g := fun r Q => ∃ i, r.d = .int i ∧ Q (.int (-i))) (fun c T H r v l Qd Q hr ⟨i, e, q⟩ k => ?_) h
  obtain ⟨d, m⟩ := r
  cases e
  have := hr.read
  cases this
  exact ⟨i, rfl, k _ _ q rfl (.int _)⟩
end
def scalD : D → D → Option Bool
  | .int i, .int j => some (decide (i = j))
  | .str x, .str y => some (decide (x = y))
  | .bool a, .bool b => some (decide (a = b))
  | .none, .none => some true
  | .none, .int _ => some false | .int _, .none => some false
  | .none, .bool _ => some false | .bool _, .none => some false
  | .none, .str _ => some false | .str _, .none => some false
  | .int _, .str _ => some false | .str _, .int _ => some false
  | .bool _, .str _ => some false | .str _, .bool _ => some false
  | _, _ => none
def woEq : WO := fun ra rb Q => match scalD ra.d rb.d with
  | some b => Q ⟨.bool b, mA⟩
  | none => SeqAt.shaped ra.d = true ∧ SeqAt.shaped rb.d = true ∧ Q ⟨.bool (PyData.eqv ra.d rb.d), mA⟩
def woNe : WO := fun ra rb Q => match scalD ra.d rb.d with
  | some b => Q ⟨.bool (!b), mA⟩
  | none => SeqAt.shaped ra.d = true ∧ SeqAt.shaped rb.d = true ∧ Q ⟨.bool (!PyData.eqv ra.d rb.d), mA⟩
section
variable {c : Cn}
theorem scal_sound {K : PySem.W.Frag} {A : Addr → Prop} {H : Hp} {x y : V} {d e : D} {b : Bool} (h1 : RS K A H x d) (h2 : RS K A H y e) (h : scalD d e = some b) : scal x y = true ∧ decide (x = y) = b := by
  unfold scalD at h
  split at h <;> first | (cases h1; cases h2; cases h; simp [scal]; done) | cases h
theorem s_eq : OpS c (fun x y H Q => rEq x y H Q ∨ rEqD c.K x y H Q) woEq := by
  intro L Tm la lb env σ H ra rb x y Qv Q S h1 h2 q k
  unfold woEq at q
  cases hs : scalD ra.d rb.d with
  | some b =>
    rw [hs] at q
    obtain ⟨e1, e2⟩ := scal_sound h1.read h2.read hs
    refine .inl ⟨e1, ?_⟩
    rw [e2]
    exact flat_end1 S q (.bl _) rfl k
  | none =>
    rw [hs] at q
    obtain ⟨s1, s2, q⟩ := q
    exact .inr ⟨ra.d, rb.d, h1.read.dp (SeqAt.canLay_of_shaped s1), h2.read.dp (SeqAt.canLay_of_shaped s2), s1, s2, flat_end1 S q (.bl _) rfl k⟩
theorem s_ne : OpS c (fun x y H Q => rNe x y H Q ∨ rNeD c.K x y H Q) woNe := by
  intro L Tm la lb env σ H ra rb x y Qv Q S h1 h2 q k
  unfold woNe at q
  cases hs : scalD ra.d rb.d with
  | some b =>
    rw [hs] at q
    obtain ⟨e1, e2⟩ := scal_sound h1.read h2.read hs
    refine .inl ⟨e1, ?_⟩
    rw [e2]
    exact flat_end1 S q (.bl _) rfl k
  | none =>
    rw [hs] at q
    obtain ⟨s1, s2, q⟩ := q
    exact .inr ⟨ra.d, rb.d, h1.read.dp (SeqAt.canLay_of_shaped s1), h2.read.dp (SeqAt.canLay_of_shaped s2), s1, s2, flat_end1 S q (.bl _) rfl k⟩
def isNon : D → Bool
  | .none => true
  | _ => false
def woIsN : WO := fun ra rb Q => rb.d = .none ∧ Q ⟨.bool (isNon ra.d), mA⟩
theorem non_sound {K : PySem.W.Frag} {A : Addr → Prop} {H : Hp} {x : V} {d : D} (h : RS K A H x d) : decide (x = .non) = isNon d := by
  cases h <;> simp [isNon, mkDict, scriptD, opD, insD, wtD]
theorem s_isN : OpS c (fun x y H Q => y = .non ∧ Q (.bl (decide (x = .non))) H) woIsN := by
  intro L Tm la lb env σ H ra rb x y Qv Q S h1 h2 ⟨e, q⟩ k
  obtain ⟨d2, m2⟩ := rb
  cases e
  have := h2.read
  cases this
  refine ⟨rfl, ?_⟩
  rw [non_sound h1.read]
  exact flat_end1 S q (.bl _) rfl k
end
section
variable {X : Cx} {c : Cn} {W : WX} {pos : Pos} {wa wb : WE} {a b : Expr}
def woLt : WO := woI0 fun i j => .bool (decide (i < j))
def woGt : WO := woI0 fun i j => .bool (decide (j < i))
def woGe : WO := woI0 fun i j => .bool (decide (j ≤ i))
theorem s_lt : OpS c (rI0 fun i j => .bl (decide (i < j))) woLt := ops_I0 (fun _ _ _ _ _ => .bl _) fun _ _ => rfl
theorem s_gt : OpS c (rI0 fun i j => .bl (decide (j < i))) woGt := ops_I0 (fun _ _ _ _ _ => .bl _) fun _ _ => rfl
theorem s_ge : OpS c (rI0 fun i j => .bl (decide (j ≤ i))) woGe := ops_I0 (fun _ _ _ _ _ => .bl _) fun _ _ => rfl
structure CmpOk (X : Cx) (c : Cn) (op : CmpOp) (wo : WO) : Prop where
  ok : ∃ r2, OpR X (compareOp op) r2 ∧ OpS c r2 wo
theorem c_lt : CmpOk X c .Lt woLt := ⟨_, op_lt, s_lt⟩
theorem c_gt : CmpOk X c .Gt woGt := ⟨_, op_gt, s_gt⟩
theorem c_ge : CmpOk X c .GtE woGe := ⟨_, op_ge, s_ge⟩
theorem c_eq {k : Nat} (hr : Room k X.A) (hK : c.K = X.K := by rfl) : CmpOk X c .Eq woEq := ⟨_, op_eq.or (op_eqD hr.units), by rw [← hK]; exact s_eq⟩
theorem c_ne {k : Nat} (hr : Room k X.A) (hK : c.K = X.K := by rfl) : CmpOk X c .NotEq woNe := ⟨_, op_ne.or (op_neD hr.units), by rw [← hK]; exact s_ne⟩
theorem c_isN : CmpOk X c .Is woIsN := ⟨_, op_isN, s_isN⟩
theorem ve_c {op : CmpOp} {wo : WO} (h : CmpOk X c op wo) (ha : PE X a (rdE c W wa)) (hb : PE X b (rdE c W wb)) (hm : behindInMarks op b = false := by first | exact nomark _ | with_unfolding_all rfl) : PE X (.Compare a [op] [b] pos) (rdE c W (wBin wo wa wb)) := by
  obtain ⟨r2, ho, hs⟩ := h.ok
  exact ve_cmp ho hs ha hb hm
theorem vt_c {op : CmpOp} {wo : WO} (h : CmpOk X c op wo) (ha : PE X a (rdE c W wa)) (hb : PE X b (rdE c W wb)) (hm : behindInMarks op b = false := by first | exact nomark _ | with_unfolding_all rfl) : PT X (.Compare a [op] [b] pos) (rdT c W (wTest (wBin wo wa wb))) := by
  obtain ⟨r2, ho, hs⟩ := h.ok
  exact vt_cmp ho hs ha hb hm
end
def wAnd (w u : WT) : WT := fun env Q X => w env (fun b e => if b = true then u e Q X else Q false e) X
def wOr (w u : WT) : WT := fun env Q X => w env (fun b e => if b = true then Q true e else u e Q X) X
def wNot (w : WT) : WT := fun env Q X => w env (fun b e => Q (!b) e) X
def wAndV (wa wb : WE) : WE := fun env Q X => wa env (fun r e => ∃ b, r.d = .bool b ∧ if b = true then wb e Q X else Q ⟨.bool false, mA⟩ e) X
def wNotV (wa : WE) : WE := fun env Q X => wa env (fun r e => ∃ b, r.d = .bool b ∧ Q ⟨.bool (!b), mA⟩ e) X
section
variable {X : Cx} {c : Cn} {W : WX} {pos : Pos} {wa wb : WE} {w u : WT} {a b : Expr} {rest : List Expr}
theorem Kont.next {σ : Sg} {L L1 : List (List Addr)} {Tm la : List Addr} {H H1 : Hp} {env1 : VEnv} {Qv : R → VEnv → Prop} {Q : VK} (k : Kont c σ L Tm H Qv Q) (st : Step c H H1 (L.flatten ++ Tm) Tm L1 la env1 σ) : Kont c σ L1 Tm H1 Qv Q :=
  fun r v l L' env' H' q s r' => k r v l L' env' H' q (Step.then st (s.wider fun b hb => by rw [← List.append_assoc]; exact List.mem_append_left _ hb)) r'
theorem KontX.next {σ : Sg} {L L1 : List (List Addr)} {Tm la : List Addr} {H H1 : Hp} {env1 : VEnv} {X : Exn → VEnv → Prop} {W : WX} (k : KontX c σ L Tm H X W) (st : Step c H H1 (L.flatten ++ Tm) Tm L1 la env1 σ) : KontX c σ L1 Tm H1 X W :=
  fun ex cls d L' env' H' hx s e => k ex cls d L' env' H' hx (Step.then st (s.wider fun b hb => by rw [← List.append_assoc]; exact List.mem_append_left _ hb)) e
theorem vw_and1 (ha : PT X a (rdT c W w)) : PW X (.BoolOp .And [a] pos) (rdT c W w) := pw_and1 ha
theorem vw_or1 (ha : PT X a (rdT c W w)) : PW X (.BoolOp .Or [a] pos) (rdT c W w) := pw_or1 ha
theorem vw_and (ha : PT X a (rdT c W w)) (hb : PW X (.BoolOp .And (b :: rest) pos) (rdT c W u)) : PW X (.BoolOp .And (a :: b :: rest) pos) (rdT c W (wAnd w u)) := PW.imp (pw_and ha hb) fun σ H Q h => by
  obtain ⟨env, L, Tm, Qv, X, S, q, k, kx⟩ := h
  refine ⟨env, L, Tm, _, X, S, q, fun b L1 env1 H1 h1 st => ?_, kx⟩
  cases b with
  | true => exact ⟨env1, L1, Tm, Qv, X, st.sim0, h1, fun b L2 env2 H2 h2 st2 => k b L2 env2 H2 h2 (Step.then st (st2.wider fun b hb => by rw [← List.append_assoc]; exact List.mem_append_left _ hb)), kx.next st⟩
  | false => exact k false L1 env1 H1 h1 st
theorem vw_or (ha : PT X a (rdT c W w)) (hb : PW X (.BoolOp .Or (b :: rest) pos) (rdT c W u)) : PW X (.BoolOp .Or (a :: b :: rest) pos) (rdT c W (wOr w u)) := PW.imp (pw_or ha hb) fun σ H Q h => by
  obtain ⟨env, L, Tm, Qv, X, S, q, k, kx⟩ := h
  refine ⟨env, L, Tm, _, X, S, q, fun b L1 env1 H1 h1 st => ?_, kx⟩
  cases b with
  | false => exact ⟨env1, L1, Tm, Qv, X, st.sim0, h1, fun b L2 env2 H2 h2 st2 => k b L2 env2 H2 h2 (Step.then st (st2.wider fun b hb => by rw [← List.append_assoc]; exact List.mem_append_left _ hb)), kx.next st⟩
  | true => exact k true L1 env1 H1 h1 st
theorem vt_not (ha : PT X a (rdT c W w)) : PT X (.UnaryOp .Not a pos) (rdT c W (wNot w)) := PT.imp (pt_not ha) fun σ H Q h => by
  obtain ⟨env, L, Tm, Qv, X, S, q, k, kx⟩ := h
  exact ⟨env, L, Tm, _, X, S, q, fun b L1 env1 H1 h1 st => k (!b) L1 env1 H1 h1 st, kx⟩
theorem ve_one {op} (ha : PE X a (rdE c W wa)) : PE X (.BoolOp op [a] pos) (rdE c W wa) := pe_one ha
theorem ve_and (ha : PE X a (rdE c W wa)) (hb : PE X (.BoolOp .And (b :: rest) pos) (rdE c W wb)) : PE X (.BoolOp .And (a :: b :: rest) pos) (rdE c W (wAndV wa wb)) := PE.imp (pe_and ha hb) fun σ H Q h => by
  obtain ⟨env, L, Tm, Qv, X, S, q, k, kx⟩ := h
  refine ⟨env, L, Tm, _, X, S, q, fun r v l L1 env1 H1 ⟨b, e, h1⟩ st hr => ?_, kx⟩
  obtain ⟨d, m⟩ := r
  cases e
  have := hr.read
  cases this
  refine ⟨b, rfl, ?_⟩
  cases b with
  | true => exact ⟨env1, L1, Tm, Qv, X, st.sim0, h1, k.next st, kx.next st⟩
  | false => exact k _ _ [] L1 env1 H1 h1 st.drop (Res.flat (A := fun _ => True) (.bl _) rfl)
theorem ve_not (ha : PE X a (rdE c W wa)) : PE X (.UnaryOp .Not a pos) (rdE c W (wNotV wa)) := PE.imp (pe_not ha) fun σ H Q h => by
  obtain ⟨env, L, Tm, Qv, X, S, q, k, kx⟩ := h
  refine ⟨env, L, Tm, _, X, S, q, fun r v l L1 env1 H1 ⟨b, e, h1⟩ st hr => ?_, kx⟩
  obtain ⟨d, m⟩ := r
  cases e
  have := hr.read
  cases this
  exact ⟨b, rfl, k _ _ [] L1 env1 H1 h1 st.drop (Res.flat (A := fun _ => True) (.bl _) rfl)⟩
def wIfE (t : WT) (wa wb : WE) : WE := fun env Q X => t env (fun b e => if b = true then wa e Q X else wb e Q X) X
theorem ve_ifE {t : Expr} (hc : PT X t (rdT c W w)) (ha : PE X a (rdE c W wa)) (hb : PE X b (rdE c W wb)) : PE X (.IfExp t a b pos) (rdE c W (wIfE w wa wb)) := PE.imp (pe_ifExp hc ha hb) fun σ H Q h => by
  obtain ⟨env, L, Tm, Qv, X, S, q, k, kx⟩ := h
  refine ⟨env, L, Tm, _, X, S, q, fun b L1 env1 H1 h1 st => ?_, kx⟩
  cases b with
  | true => exact ⟨env1, L1, Tm, Qv, X, st.sim0, h1, k.next st, kx.next st⟩
  | false => exact ⟨env1, L1, Tm, Qv, X, st.sim0, h1, k.next st, kx.next st⟩
end
end VL
set_option maxRecDepth 100000
set_option maxHeartbeats 4000000
namespace VL
open PySem PySem.Spec PyProof.Rows L2
def NavP (H : Hp) : V → List Int → V → Prop
  | v, [], w => w = v
  | v, i :: p, w => ∃ a xs u, v = .ref a ∧ (H a = some (.lst xs) ∨ H a = some (.tup xs)) ∧ atI xs i = some u ∧ NavP H u p w
def depP : Option Nat → D → List Int → Option (Option Nat)
  | m, _, [] => some m
  | m, .list ds, i :: p => (popM m).bind fun n => (atI ds i).bind fun d => depP n d p
  | m, .tuple ds, i :: p => (atI ds i).bind fun d => depP m d p
  | _, _, _ => none
def getP : D → List Int → Option D
  | d, [] => some d
  | .list ds, i :: p => (atI ds i).bind fun d => getP d p
  | .tuple ds, i :: p => (atI ds i).bind fun d => getP d p
  | _, _ => none
def setP : D → List Int → D → Option D
  | _, [], e => some e
  | .list ds, i :: p, e => (ixN ds.length i).bind fun j => (ds[j]?).bind fun d => (setP d p e).map fun d' => .list (ds.set j d')
  | .tuple ds, i :: p, e => (ixN ds.length i).bind fun j => (ds[j]?).bind fun d => (setP d p e).map fun d' => .tuple (ds.set j d')
  | _, _, _ => none
section
variable {K : PySem.W.Frag} {A A' : Addr → Prop} {H H' : Hp}
theorem flat_kidsM {m : Option Nat} {xs : List V} {ds : List D} (h : RSs K A H xs ds) (f : flatAll ds = true) : ROs K A' H m xs ds [] := by
  induction xs generalizing ds with
  | nil => cases h; exact .nil
  | cons x xs ih =>
    cases h with
    | cons h r =>
      simp only [flatAll, Bool.and_eq_true] at f
      exact .cons (l1 := []) (l2 := []) (.flat (h.flat f.1) f.1) (ih r f.2)
theorem RO.tup_inv {m : Option Nat} {v : V} {ds : List D} {l : List Addr} (h : RO K A H m v (.tuple ds) l) : ∃ a xs, v = .ref a ∧ H a = some (.tup xs) ∧ ROs K A H m xs ds l := by
  generalize e : PyData.tuple ds = d at h
  cases h with
  | sh r => subst e; obtain ⟨a, xs, q, ha, r⟩ := r.tup_inv; exact ⟨a, xs, q, ha, ROs.toSh r⟩
  | flat r f => subst e; obtain ⟨a, xs, q, ha, r⟩ := r.tup_inv; exact ⟨a, xs, q, ha, flat_kidsM r (by simpa [flatD] using f)⟩
  | tup ha r => cases e; exact ⟨_, _, rfl, ha, r⟩
  | lst _ _ _ => cases e
  | dct _ _ _ _ => simp [mkDict] at e
  | opq a => simp [opD] at e
  | wtp a => simp [wtD] at e
  | ins _ _ _ _ _ => simp [insD] at e
theorem ROs.split : ∀ {m : Option Nat} {xs : List V} {ds : List D} {l : List Addr} {j : Nat} {d : D}, ROs K A H m xs ds l → ds[j]? = some d →
    ∃ u lj lr, xs[j]? = some u ∧ l.Perm (lr ++ lj) ∧ RO K A H m u d lj ∧
      ∀ (A' : Addr → Prop) (H' : Hp) (u' : V) (d' : D) (l' : List Addr), Kp A' H H' → (∀ b ∈ lr, ∀ o, H b = some o → H' b = some o) → (∀ b o, A b → H b = some o → A' b) → RO K A' H' m u' d' l' →
        ∃ l'', l''.Perm (lr ++ l') ∧ ROs K A' H' m (xs.set j u') (ds.set j d') l''
  | _, _, _, _, _, _, .nil, e => by simp at e
  | m, _, _, _, 0, _, .cons (l1 := l1) (l2 := l2) h r, e => by
    simp at e; subst e
    refine ⟨_, l1, l2, rfl, List.perm_append_comm, h, fun A' H' u' d' l' k q hA n => ⟨l' ++ l2, List.perm_append_comm, .cons n ?_⟩⟩
    exact ROs.keep k (ROs.mono hA r) q
  | m, _, _, _, j + 1, d, .cons (l1 := l1) (l2 := l2) h r, e => by
    obtain ⟨u, lj, lr, h1, h2, h3, h4⟩ := ROs.split (j := j) r (by simpa using e)
    refine ⟨u, lj, l1 ++ lr, by simpa using h1, ?_, h3, fun A' H' u' d' l' k q hA n => ?_⟩
    · rw [List.append_assoc]; exact h2.append_left _
    · obtain ⟨l'', p, n'⟩ := h4 A' H' u' d' l' k (fun b hb => q b (List.mem_append_right _ hb)) hA n
      refine ⟨l1 ++ l'', ?_, .cons (RO.keep k (RO.mono hA h) fun b hb => q b (List.mem_append_left _ hb)) n'⟩
      rw [List.append_assoc]; exact p.append_left _
theorem set_same {α : Type} : ∀ {xs : List α} {j : Nat} {u : α}, xs[j]? = some u → xs.set j u = xs
  | [], _, _, e => by simp at e
  | x :: xs, 0, u, e => by simp at e; subst e; rfl
  | x :: xs, j + 1, u, e => by simp at e; simp [set_same e]
theorem atI_ix {α : Type} {xs : List α} {i : Int} {x : α} (h : atI xs i = some x) : ∃ j, ixN xs.length i = some j ∧ xs[j]? = some x := by
  unfold atI at h
  cases hj : ixN xs.length i with
  | none => rw [hj] at h; cases h
  | some j => rw [hj] at h; exact ⟨j, rfl, h⟩
theorem atI_of {α : Type} {xs : List α} {i : Int} {x : α} {j n : Nat} (hn : xs.length = n) (h : ixN n i = some j) (e : xs[j]? = some x) : atI xs i = some x := by
  unfold atI
  rw [hn, h]
  exact e
theorem RO.path : ∀ (p : List Int) {m mp : Option Nat} {v : V} {d dp : D} {l : List Addr}, RO K A H m v d l → depP m d p = some mp → getP d p = some dp →
    ∃ vp lp lr, NavP H v p vp ∧ l.Perm (lr ++ lp) ∧ RO K A H mp vp dp lp ∧
      ∀ (A' : Addr → Prop) (H' : Hp) (dn : D) (ln : List Addr), Kp A' H H' → (∀ b ∈ lr, ∀ o, H b = some o → H' b = some o) → (∀ b o, A b → H b = some o → A' b) → RO K A' H' mp vp dn ln →
        ∃ d' l', setP d p dn = some d' ∧ l'.Perm (lr ++ ln) ∧ RO K A' H' m v d' l'
  | [], m, mp, v, d, dp, l, h, e, g => by
    simp only [depP, getP, Option.some.injEq] at e g
    subst e g
    exact ⟨v, l, [], rfl, by simp, h, fun A' H' dn ln _ _ _ n => ⟨dn, ln, rfl, by simp, n⟩⟩
  | i :: p, m, mp, v, .list ds, dp, l, h, e, g => by
    simp only [depP, Option.bind_eq_some_iff] at e
    simp only [getP, Option.bind_eq_some_iff] at g
    obtain ⟨n, hn, d, hd, e⟩ := e
    obtain ⟨d2, hd2, g⟩ := g
    rw [hd] at hd2; cases hd2
    obtain ⟨j, hj, hdj⟩ := atI_ix hd
    rcases h.lst_inv with ⟨rfl, _, _⟩ | ⟨n', a, xs, l', hn', rfl, ha, r, rfl⟩
    · cases hn
    · rw [hn] at hn'; cases hn'
      obtain ⟨u, lj, lr, h1, h2, h3, h4⟩ := r.split hdj
      obtain ⟨vp, lp, lr2, q1, q2, q3, q4⟩ := RO.path p h3 e g
      refine ⟨vp, lp, a :: (lr ++ lr2), ⟨a, xs, u, rfl, .inl ha, atI_of r.len hj h1, q1⟩, ?_, q3, fun A' H' dn ln k q hA n => ?_⟩
      · have := h2.trans (q2.append_left lr)
        rw [← List.append_assoc] at this
        exact this.cons a
      · obtain ⟨d', l1, s1, p1, r1⟩ := q4 A' H' dn ln k (fun b hb => q b (List.mem_cons_of_mem _ (List.mem_append_right _ hb))) hA n
        obtain ⟨l2, p2, r2⟩ := h4 A' H' u d' l1 k (fun b hb => q b (List.mem_cons_of_mem _ (List.mem_append_left _ hb))) hA r1
        rw [set_same h1] at r2
        refine ⟨.list (ds.set j d'), a :: l2, ?_, ?_, .lst hn (q a List.mem_cons_self _ ha) r2⟩
        · simp only [setP, hj, hdj, s1, Option.bind_some, Option.map_some]
        · have := p2.trans (p1.append_left lr)
          rw [← List.append_assoc] at this
          exact this.cons a
  | i :: p, m, mp, v, .tuple ds, dp, l, h, e, g => by
    simp only [depP, Option.bind_eq_some_iff] at e
    simp only [getP, Option.bind_eq_some_iff] at g
    obtain ⟨d, hd, e⟩ := e
    obtain ⟨d2, hd2, g⟩ := g
    rw [hd] at hd2; cases hd2
    obtain ⟨j, hj, hdj⟩ := atI_ix hd
    obtain ⟨a, xs, rfl, ha, r⟩ := h.tup_inv
    obtain ⟨u, lj, lr, h1, h2, h3, h4⟩ := r.split hdj
    obtain ⟨vp, lp, lr2, q1, q2, q3, q4⟩ := RO.path p h3 e g
    refine ⟨vp, lp, lr ++ lr2, ⟨a, xs, u, rfl, .inr ha, atI_of r.len hj h1, q1⟩, ?_, q3, fun A' H' dn ln k q hA n => ?_⟩
    · have := h2.trans (q2.append_left lr)
      rw [← List.append_assoc] at this
      exact this
    · obtain ⟨d', l1, s1, p1, r1⟩ := q4 A' H' dn ln k (fun b hb => q b (List.mem_append_right _ hb)) hA n
      obtain ⟨l2, p2, r2⟩ := h4 A' H' u d' l1 k (fun b hb => q b (List.mem_append_left _ hb)) hA r1
      rw [set_same h1] at r2
      refine ⟨.tuple (ds.set j d'), l2, ?_, ?_, .tup (k.tup _ _ ha) r2⟩
      · simp only [setP, hj, hdj, s1, Option.bind_some, Option.map_some]
      · have := p2.trans (p1.append_left lr)
        rw [← List.append_assoc] at this
        exact this
theorem ROs.append {m : Option Nat} {xs ys : List V} {ds es : List D} {l l' : List Addr} (h : ROs K A H m xs ds l) (r : ROs K A H m ys es l') : ROs K A H m (xs ++ ys) (ds ++ es) (l ++ l') := by
  induction xs generalizing ds l with
  | nil => cases h; exact r
  | cons x xs ih =>
    cases h with
    | cons h1 h2 => rw [List.append_assoc]; exact .cons h1 (ih h2)
theorem NavP.keep (s : Same H H') : ∀ {p : List Int} {v w : V}, NavP H v p w → NavP H' v p w
  | [], _, _, h => h
  | _ :: _, _, _, ⟨a, xs, u, e, h1, h2, h3⟩ => ⟨a, xs, u, e, h1.imp (s _ _) (s _ _), h2, NavP.keep s h3⟩
theorem NavP.inj : ∀ {p : List Int} {v w w' : V}, NavP H v p w → NavP H v p w' → w' = w
  | [], _, _, _, h, h' => by cases h; exact h'
  | _ :: _, _, _, _, ⟨a, xs, u, e, h1, h2, h3⟩, ⟨a', xs', u', e', h1', h2', h3'⟩ => by
    subst e
    cases e'
    have : xs = xs' := by
      rcases h1 with h1 | h1 <;> rcases h1' with h1' | h1' <;> rw [h1] at h1' <;> cases h1' <;> rfl
    subst this
    rw [h2] at h2'; cases h2'
    exact NavP.inj h3 h3'
theorem NavP.snoc : ∀ {p : List Int} {v w u : V} {a : Addr} {xs : List V} {i : Int}, NavP H v p w → w = .ref a → (H a = some (.lst xs) ∨ H a = some (.tup xs)) → atI xs i = some u → NavP H v (p ++ [i]) u
  | [], v, w, u, a, xs, i, h, e, h1, h2 => by
    have : w = v := h
    subst this
    exact ⟨a, xs, u, e, h1, h2, rfl⟩
  | _ :: _, v, w, u, a, xs, i, ⟨b, ys, z, e0, g1, g2, g3⟩, e, h1, h2 => ⟨b, ys, z, e0, g1, g2, NavP.snoc g3 e h1 h2⟩
theorem RS.nav : ∀ {p : List Int} {v : V} {d dp : D}, RS K A H v d → getP d p = some dp → ∃ w, NavP H v p w ∧ RS K A H w dp
  | [], v, d, dp, h, e => by simp [getP] at e; subst e; exact ⟨v, rfl, h⟩
  | i :: p, v, .list ds, dp, h, e => by
    simp only [getP, Option.bind_eq_some_iff] at e
    obtain ⟨d, hd, e⟩ := e
    obtain ⟨a, xs, rfl, ha, _, r⟩ := h.lst_inv
    obtain ⟨j, hj, hdj⟩ := atI_ix hd
    obtain ⟨u, hu, ru⟩ := r.get hdj
    obtain ⟨w, n, rw⟩ := RS.nav ru e
    exact ⟨w, ⟨a, xs, u, rfl, .inl ha, atI_of r.len hj hu, n⟩, rw⟩
  | i :: p, v, .tuple ds, dp, h, e => by
    simp only [getP, Option.bind_eq_some_iff] at e
    obtain ⟨d, hd, e⟩ := e
    obtain ⟨a, xs, rfl, ha, r⟩ := h.tup_inv
    obtain ⟨j, hj, hdj⟩ := atI_ix hd
    obtain ⟨u, hu, ru⟩ := r.get hdj
    obtain ⟨w, n, rw⟩ := RS.nav ru e
    exact ⟨w, ⟨a, xs, u, rfl, .inr ha, atI_of r.len hj hu, n⟩, rw⟩
  | i :: p, v, .none, dp, h, e => by simp [getP] at e
  | i :: p, v, .bool _, dp, h, e => by simp [getP] at e
  | i :: p, v, .int _, dp, h, e => by simp [getP] at e
  | i :: p, v, .str _, dp, h, e => by simp [getP] at e
  | i :: p, v, .dict _, dp, h, e => by simp [getP] at e
end
def killB (env : VEnv) : VEnv := env.map fun s => match s with
  | some (_, .b) => none
  | s => s
section
variable {c : Cn} {L : List (List Addr)} {T T' Tm l : List Addr} {env : VEnv} {σ : Sg} {H H' : Hp} {a : Addr}
theorem Slots.change {i : Nat} {d : D} {m : Option Nat} {v : V} {li : List Addr} (h : Slots c T H env σ L) (hv : σ[i]? = some (some v)) (hL : L[i]? = some l)
    (keep : ∀ (k : Nat) (lk : List Addr) (d : D) (m : Option Nat) (v : V), k ≠ i → L[k]? = some lk → RO c.K (AT c.B T) H m v d lk → RO c.K (AT c.B T') H' m v d lk)
    (new : RO c.K (AT c.B T') H' m v d li) : Slots c T' H' (killB (env.set i (some (d, .o m)))) σ (L.set i li) := by
  induction h generalizing i with
  | nil => simp at hv
  | @non e x σ L h ih => cases i with
    | zero =>
      simp at hv
      subst hv
      exact .own new (rest h fun k lk d m v e r => keep (k + 1) lk d m v (by omega) (by simpa using e) r)
    | succ i => exact .non (ih (by simpa using hv) (by simpa using hL) fun k lk d m v hk e r => keep (k + 1) lk d m v (by omega) (by simpa using e) r)
  | @bor e d0 v0 σ L r h ih => cases i with
    | zero =>
      simp at hv
      subst hv
      exact .own new (rest h fun k lk d m v e r => keep (k + 1) lk d m v (by omega) (by simpa using e) r)
    | succ i => exact .non (ih (by simpa using hv) (by simpa using hL) fun k lk d m v hk e r => keep (k + 1) lk d m v (by omega) (by simpa using e) r)
  | @own e d0 m0 v0 l0 σ L r h ih => cases i with
    | zero =>
      simp at hv
      subst hv
      exact .own new (rest h fun k lk d m v e r => keep (k + 1) lk d m v (by omega) (by simpa using e) r)
    | succ i => exact .own (keep 0 l0 d0 m0 v0 (by omega) rfl r) (ih (by simpa using hv) (by simpa using hL) fun k lk d m v hk e r => keep (k + 1) lk d m v (by omega) (by simpa using e) r)
where
  rest {env : VEnv} {σ : Sg} {L : List (List Addr)} (h : Slots c T H env σ L)
      (keep : ∀ (k : Nat) (lk : List Addr) (d : D) (m : Option Nat) (v : V), L[k]? = some lk → RO c.K (AT c.B T) H m v d lk → RO c.K (AT c.B T') H' m v d lk) : Slots c T' H' (killB env) σ L := by
    induction h with
    | nil => exact .nil
    | non h ih => exact .non (ih fun k lk d m v e r => keep (k + 1) lk d m v (by simpa using e) r)
    | bor r h ih => exact .non (ih fun k lk d m v e r => keep (k + 1) lk d m v (by simpa using e) r)
    | own r h ih => exact .own (keep 0 _ _ _ _ rfl r) (ih fun k lk d m v e r => keep (k + 1) lk d m v (by simpa using e) r)
theorem mem_flatten_of {L : List (List Addr)} {k : Nat} {lk : List Addr} (e : L[k]? = some lk) {b : Addr} (hb : b ∈ lk) : b ∈ L.flatten := List.mem_flatten.mpr ⟨lk, List.mem_of_getElem? e, hb⟩
theorem apart_of {L : List (List Addr)} {i k : Nat} {li lk : List Addr} (nd : L.flatten.Nodup) (hi : L[i]? = some li) (hk : L[k]? = some lk) (n : k ≠ i) {b : Addr} (h1 : b ∈ li) (h2 : b ∈ lk) : False := by
  induction L generalizing i k with
  | nil => simp at hi
  | cons x L ih =>
    rw [List.flatten_cons] at nd
    have nd' := List.nodup_append.mp nd
    cases i with
    | zero =>
      simp at hi; subst hi
      cases k with
      | zero => exact n rfl
      | succ k => exact nd'.2.2 b h1 b (mem_flatten_of (by simpa using hk) h2) rfl
    | succ i =>
      cases k with
      | zero => simp at hk; subst hk; exact nd'.2.2 b h2 b (mem_flatten_of (by simpa using hi) h1) rfl
      | succ k => exact ih nd'.2.1 (by simpa using hi) (by simpa using hk) (by omega)
theorem Sim.change {i : Nat} {d : D} {m : Option Nat} {v : V} {li : List Addr} {o o' : HO} (S : Sim c L Tm env σ H) (hv : σ[i]? = some (some v)) (hL : L[i]? = some l) (ha : a ∈ l) (ho : H a = some o) (mo : mutO o)
    (new : RO c.K (AT c.B (L.set i li).flatten) (upd H a o') m v d li) (sub : ∀ b ∈ li, b ∈ l ∨ b ∈ Tm) (nd : li.Nodup) : Sim c (L.set i li) [] (killB (env.set i (some (d, .o m)))) σ (upd H a o') := by
  have ndL := (List.nodup_append.mp S.nd).1
  have haT : a ∈ L.flatten ++ Tm := List.mem_append_left _ (mem_flatten_of hL ha)
  have p1 := flatten_set hL
  have p2 : ((L.set i li).flatten).Perm ((L.set i []).flatten ++ li) := by
    have hi : i < L.length := (List.getElem?_eq_some_iff.mp hL).1
    have := flatten_set (L := L.set i li) (i := i) (l := li) (by simp [hi])
    rw [List.set_set] at this
    exact this.symm
  have memT : ∀ b ∈ (L.set i li).flatten, b ∈ L.flatten ++ Tm := fun b hb => by
    rcases List.mem_append.mp (p2.mem_iff.mp hb) with z | z
    · exact List.mem_append_left _ (p1.mem_iff.mp (List.mem_append_left _ z))
    · rcases sub b z with z | z
      · exact List.mem_append_left _ (mem_flatten_of hL z)
      · exact List.mem_append_right _ z
  have kp : Kp (AT c.B (L.flatten ++ Tm)) H (upd H a o') := Kp.write ho mo fun z => z.2 haT
  refine ⟨?_, ?_, fun b hb => ?_, fun b u e r => ?_, fun p hp => ((S.hd p hp).keep kp).mono fun b o a _ => AT.less (fun b hb => memT b (by rwa [List.append_nil] at hb)) a, S.pin⟩
  · rw [List.append_nil]
    refine S.sl.change hv hL (fun k lk d m v hk e r => ?_) new
    have r' := RO.keep kp r fun b hb u q => by rw [upd_ne (fun z => by subst z; exact apart_of ndL hL e hk ha hb)]; exact q
    exact RO.mono (fun b u x _ => AT.less memT x) r'
  · rw [List.append_nil]
    refine p2.nodup_iff.mpr (List.nodup_append.mpr ⟨?_, nd, fun b hb b' hb' z => ?_⟩)
    · exact (List.nodup_append.mp (p1.nodup_iff.mpr ndL)).1
    · subst z
      rcases sub b hb' with z | z
      · exact (List.nodup_append.mp (p1.nodup_iff.mpr ndL)).2.2 b hb b z rfl
      · exact (List.nodup_append.mp S.nd).2.2 b (p1.mem_iff.mp (List.mem_append_left _ hb)) b z rfl
  · rw [List.append_nil] at hb
    obtain ⟨q, u, e⟩ := S.own b (memT b hb)
    refine ⟨q, ?_⟩
    by_cases z : b = a
    · subst z; exact ⟨_, upd_same⟩
    · exact ⟨u, by rw [upd_ne z]; exact e⟩
  · have := S.fr b u e r
    rw [upd_ne (fun z => ?_)]
    · exact this
    · subst z
      rcases (S.own b haT).1 with z | z
      · rw [z] at e; cases e
      · exact r z
end
end VL
set_option maxRecDepth 100000
set_option maxHeartbeats 4000000
namespace VL
open PySem PySem.Spec PyProof.Rows L2
abbrev WP := VEnv → (Nat → List Int → VEnv → Prop) → (Exn → VEnv → Prop) → Prop
def rdP (c : Cn) (W : WX) (w : WP) : TE := fun σ H Q => ∃ env L Tm Qv X, Sim c L Tm env σ H ∧ w env Qv X ∧
  (∀ i p v v0 L' env' H', Qv i p env' → Step c H H' (L.flatten ++ Tm) Tm L' [] env' σ → σ[i]? = some (some v0) → NavP H' v0 p v → Q v H') ∧ KontX c σ L Tm H X W
def wPVar (i : Nat) : WP := fun env Q _ => (∃ s, env[i]? = some (some s)) ∧ Q i [] env
section
variable {X : Cx} {c : Cn} {W : WX} {pos : Pos} {wp : WP} {wi : WE} {o i : Expr}
theorem vp_var (i : Nat) {x : Str} (hN : X.N[i]? = some x := by rfl) (hv : Vis X.env.scope x := by first | exact Or.inl rfl | exact Or.inr (Or.inl rfl) | exact Or.inr (Or.inr rfl)) (hd : (x == ("__debug__" : Str)) = false := by decide)
    (hcd : (x == ("__classdict__" : Str)) = false := by decide) : PE X (.Name x pos) (rdP c W (wPVar i)) := PE.imp (pe_var hN hv hd hcd) fun σ H Q h => by
  obtain ⟨env, L, Tm, Qv, X, S, ⟨⟨⟨d, m⟩, e⟩, q⟩, k, _⟩ := h
  obtain ⟨v, l, hv, hl, r⟩ := S.sl.get e
  exact ⟨v, hv, k i [] v v L env H q (Step.refl S) hv rfl⟩
end
structure DV where
  nx : VEnv → Prop
  rt : R → VEnv → Prop
  ex : Exn → VEnv → Prop
abbrev WS := VEnv → DV → Prop
structure Ret (c : Cn) (r : R) (v : V) (l : List Addr) (H : Hp) (env : VEnv) : Prop where
  fr : ∀ b o, c.H0 b = some o → b ∉ c.rw → H b = some o
  nd : l.Nodup
  own : ∀ b ∈ l, c.Own b ∧ ∃ o, H b = some o
  res : Res c l H r v l
  sim : ∃ L σ, Sim c L l env σ H ∧ Res c (L.flatten ++ l) H r v l
def rdS (c : Cn) (W : WX) (w : WS) : TS := fun D σ H => ∃ env L Dv, Sim c L [] env σ H ∧ w env Dv ∧
  (∀ env' L' σ' H', Dv.nx env' → Sim c L' [] env' σ' H' → D.nx σ' H') ∧
  (∀ r v l H' e, Dv.rt r e → Ret c r v l H' e → D.rt v H') ∧
  (∀ ex env' L' σ' H' cls d, Dv.ex ex env' → Sim c L' [] env' σ' H' → ExR c H' ex cls d → W cls d σ' H')
section
variable {X : Cx} {c : Cn} {W : WX} {pos : Pos} {w u : WS} {we : WE} {e : Expr} {st : Stmt} {rest : List Stmt}
theorem rd_first {σ : Sg} {H : Hp} {Q : VK} {env : VEnv} {L : List (List Addr)} {Dv : DV} {Qv : R → VEnv → Prop} (S : Sim c L [] env σ H) (hw : we env Qv (fun ex e => Dv.ex ex e))
    (hx : ∀ ex env' L' σ' H' cls d, Dv.ex ex env' → Sim c L' [] env' σ' H' → ExR c H' ex cls d → W cls d σ' H')
    (k : ∀ r v l L' env' H', Qv r env' → Sim c L' l env' σ H' → Res c (L'.flatten ++ l) H' r v l → Q v H') : rdE c W we σ H Q :=
  ⟨env, L, [], Qv, _, S, hw, fun r v l L' env' H' q st hr => k r v l L' env' H' q st.sim hr, fun ex cls d L' env' H' hq st he => hx ex env' L' σ H' cls d hq st.sim0 he⟩
def wNext : WS := fun env Dv => Dv.nx env
def wSeq (w u : WS) : WS := fun env Dv => w env { Dv with nx := fun e => u e Dv }
theorem vss_nil : PSs X [] (rdS c W wNext) := PSs.imp pss_nil fun D σ H h => by
  obtain ⟨env, L, Dv, S, q, k, _, _⟩ := h
  exact k env L σ H q S
theorem vss_cons (h1 : PS X st (rdS c W w)) (h2 : PSs X rest (rdS c W u)) : PSs X (st :: rest) (rdS c W (wSeq w u)) := PSs.imp (pss_cons h1 h2) fun D σ H h => by
  obtain ⟨env, L, Dv, S, q, k, kr, kx⟩ := h
  exact ⟨env, L, _, S, q, fun env' L' σ' H' h' S' => ⟨env', L', Dv, S', h', k, kr, kx⟩, kr, kx⟩
theorem vss_one (h1 : PS X st (rdS c W w)) : PSs X [st] (rdS c W w) := pss_one h1
theorem Slots.put {T T' : List Addr} {H : Hp} {env : VEnv} {σ : Sg} {L : List (List Addr)} {i : Nat} {d : D} {m : Md} {v : V} {l : List Addr} (h : Slots c T H env σ L) (r : Res c T H ⟨d, m⟩ v l) (s : ∀ b ∈ T', b ∈ T) : Slots c T' H (env.set i (some (d, m))) (σ.set i (some v)) (L.set i l) := by
  have hk := h.keep (T' := T') (Same.refl H) fun b hb => .inl (s b hb)
  have rk := r.keep (T' := T') (Same.refl H) fun b hb => .inl (s b hb)
  clear h r
  induction hk generalizing i with
  | nil => exact .nil
  | non h ih => cases i with
    | zero => exact fin rk h
    | succ i => exact .non ih
  | bor r0 h ih => cases i with
    | zero => exact fin rk h
    | succ i => exact .bor r0 ih
  | own r0 h ih => cases i with
    | zero => exact fin rk h
    | succ i => exact .own r0 ih
where
  fin {T : List Addr} {H : Hp} {env : VEnv} {σ : Sg} {L : List (List Addr)} {d : D} {m : Md} {v : V} {l : List Addr} (r : Res c T H ⟨d, m⟩ v l) (h : Slots c T H env σ L) : Slots c T H (some (d, m) :: env) (some v :: σ) (l :: L) := by
    cases m with
    | b => obtain ⟨r, e⟩ := r; subst e; exact .bor r h
    | o m => exact .own r h
theorem flatten_put {L : List (List Addr)} {i : Nat} {l l0 : List Addr} (e : L[i]? = some l0) : ((L.set i l).flatten).Perm ((L.set i []).flatten ++ l) := by
  have hi : i < L.length := (List.getElem?_eq_some_iff.mp e).1
  have := flatten_set (L := L.set i l) (i := i) (l := l) (by simp [hi])
  rw [List.set_set] at this
  exact this.symm
def PinF (c : Cn) (is : List Nat) : Prop := ∀ p ∈ c.pin, p.1 ∉ is
theorem pinF_nil {c : Cn} {is : List Nat} (h : c.pin = []) : PinF c is := fun p hp => by rw [h] at hp; cases hp
theorem pinF_one {c : Cn} {is : List Nat} {j : Nat} {v : V} (h : c.pin = [(j, v)]) (hj : j ∉ is) : PinF c is := fun p hp => by
  rw [h] at hp
  rw [List.mem_singleton.mp hp]; exact hj
theorem PinF.sub {c : Cn} {is js : List Nat} (h : PinF c is) (s : ∀ i ∈ js, i ∈ is) : PinF c js := fun p hp z => h p hp (s _ z)
theorem PinF.set {c : Cn} {i : Nat} {σ : Sg} {x : Option V} (h : PinF c [i]) (s : ∀ p ∈ c.pin, σ[p.1]? = some (some p.2)) : ∀ p ∈ c.pin, (σ.set i x)[p.1]? = some (some p.2) := fun p hp => by
  rw [List.getElem?_set_ne (fun e => h p hp (by rw [e]; exact List.mem_singleton.mpr rfl))]
  exact s p hp
theorem Sim.put {σ : Sg} {H : Hp} {env : VEnv} {L : List (List Addr)} {i : Nat} {r : R} {v : V} {l Tm : List Addr} (S : Sim c L (Tm ++ l) env σ H) (hr : Res c (L.flatten ++ (Tm ++ l)) H r v l) (pf : PinF c [i]) : ∃ L', Sim c L' Tm (env.set i (some (r.d, r.m))) (σ.set i (some v)) H ∧ ∀ b ∈ L'.flatten ++ Tm, b ∈ L.flatten ++ (Tm ++ l) := by
  obtain ⟨d, m⟩ := r
  obtain ⟨len1, len2⟩ := S.sl.len
  by_cases hi : i < L.length
  · obtain ⟨l0, e0⟩ : ∃ l0, L[i]? = some l0 := ⟨L[i], List.getElem?_eq_getElem hi⟩
    have p1 := flatten_set e0
    have p2 := flatten_put (l := l) e0
    have sub : ∀ b ∈ (L.set i l).flatten ++ Tm, b ∈ L.flatten ++ (Tm ++ l) := fun b hb => by
      rcases List.mem_append.mp hb with z | z
      · rcases List.mem_append.mp (p2.mem_iff.mp z) with z | z
        · exact List.mem_append_left _ (p1.mem_iff.mp (List.mem_append_left _ z))
        · exact List.mem_append_right _ (List.mem_append_right _ z)
      · exact List.mem_append_right _ (List.mem_append_left _ z)
    refine ⟨L.set i l, ⟨S.sl.put hr sub, ?_, fun a ha => S.own a (sub a ha), S.fr, fun p hp => (S.hd p hp).mono fun b o a _ => AT.less sub a, pf.set S.pin⟩, sub⟩
    have nd := S.nd
    have nd1 : (L.flatten ++ (Tm ++ l)).Perm (((L.set i []).flatten ++ l0) ++ (l ++ Tm)) := p1.symm.append List.perm_append_comm
    have nd2 := nd1.nodup_iff.mp nd
    have sl : ((L.set i []).flatten ++ (l ++ Tm)).Sublist (((L.set i []).flatten ++ l0) ++ (l ++ Tm)) := (List.sublist_append_left _ _).append (List.Sublist.refl _)
    have nd3 := nd2.sublist sl
    refine (List.Perm.nodup_iff ?_).mpr nd3
    rw [← List.append_assoc]
    exact p2.append_right Tm
  · have e1 : env.set i (some (d, m)) = env := List.set_eq_of_length_le (by omega)
    have e2 : σ.set i (some v) = σ := List.set_eq_of_length_le (by omega)
    rw [e1, e2]
    exact ⟨L, S.drop, fun b hb => by rw [← List.append_assoc]; exact List.mem_append_left _ hb⟩
def wSet (i : Nat) (we : WE) : WS := fun env Dv => we env (fun r e => Dv.nx (e.set i (some (r.d, r.m)))) Dv.ex
theorem vs_set {i : Nat} {x : Str} {pos' : Pos} (he : PE X e (rdE c W we)) (hN : X.N.Nodup) (hi : X.N[i]? = some x := by rfl) (hx : Loc X.env.scope x := by first | exact .inl rfl | exact .inr rfl) (hs : swapsWith e (some (.Name x pos')) pos.line X.env = pure false := by rfl)
    (hf : X.fn x = true ∨ X.env.scope.names.lookup x = some .local := by first | exact .inl rfl | exact .inr rfl | assumption) (pf : PinF c [i] := by first | exact pinF_nil rfl | exact pinF_one rfl (by decide) | assumption) : PS X (.Assign [.Name x pos'] e pos) (rdS c W (wSet i we)) := PS.imp (ps_set hN hi hx he hs hf) fun D σ H h => by
  obtain ⟨env, L, Dv, S, q, k, kr, kx⟩ := h
  refine rd_first S q kx fun r v l L' env' H' hq S' hr => ?_
  obtain ⟨L2, S2, _⟩ := Sim.put (Tm := []) (i := i) (l := l) (r := r) S' hr pf
  exact k _ L2 _ H' hq S2
def wRet (we : WE) : WS := fun env Dv => we env (fun r e => isB r.m = false ∧ Dv.rt r e) Dv.ex
theorem vs_ret (he : PE X e (rdE c W we)) : PS X (.Return (some e) pos) (rdS c W (wRet we)) := PS.imp (ps_ret he) fun D σ H h => by
  obtain ⟨env, L, Dv, S, q, k, kr, kx⟩ := h
  refine rd_first S q kx fun r v l L' env' H' ⟨hb, hq⟩ S' hr => ?_
  refine kr r v l H' env' hq ⟨S'.fr, ?_, fun b hb => S'.own b (List.mem_append_right _ hb), ?_, L', σ, S', hr⟩
  · exact (List.nodup_append.mp S'.nd).2.1
  · exact hr.keep (Same.refl _) fun b hb => .inl (List.mem_append_right _ hb)
def wIf (t : WT) (w u : WS) : WS := fun env Dv => t env (fun b e => if b = true then w e Dv else u e Dv) Dv.ex
theorem vs_if {t : Expr} {a b : List Stmt} {wt : WT} (ht : PT X t (rdT c W wt)) (ha : PSs X a (rdS c W w)) (hb : PSs X b (rdS c W u)) : PS X (.If t a b pos) (rdS c W (wIf wt w u)) := PS.imp (ps_if ht ha hb) fun D σ H h => by
  obtain ⟨env, L, Dv, S, q, k, kr, kx⟩ := h
  refine ⟨env, L, [], _, _, S, q, fun b L' env' H' hq st => ?_, fun ex cls d L' env' H' hq st he => kx ex env' L' σ H' cls d hq st.sim0 he⟩
  cases b with
  | true => exact ⟨env', L', Dv, st.sim0, hq, k, kr, kx⟩
  | false => exact ⟨env', L', Dv, st.sim0, hq, k, kr, kx⟩
end
end VL
set_option maxRecDepth 100000
set_option maxHeartbeats 4000000
namespace VL
open PySem PySem.Spec PyProof.Rows L2
section
variable {c : Cn} {L : List (List Addr)} {l : List Addr} {env : VEnv} {σ : Sg} {H : Hp}
theorem Sim.mutL {i : Nat} {p : List Int} {d : D} {m mp n : Option Nat} {v v0 : V} {ds : List D} (S : Sim c L l env σ H) (e : env[i]? = some (some (d, .o m))) (hv : σ[i]? = some (some v0)) (nav : NavP H v0 p v)
    (g : getP d p = some (.list ds)) (dp : depP m d p = some mp) (pn : popM mp = some n) :
    ∃ a xs, v = .ref a ∧ H a = some (.lst xs) ∧ xs.length = ds.length ∧ RSs c.K (fun _ => True) H xs ds ∧
      ∀ xs' ds' d', (∀ lk, ROs c.K (AT c.B (L.flatten ++ l)) H n xs ds lk → lk.Nodup → (∀ b ∈ lk, c.B b ∧ b ∉ l) → ∃ lk', (∀ b ∈ lk', b ∈ lk ∨ b ∈ l) ∧ lk'.Nodup ∧
            ∀ T', (∀ b ∈ T', b ∈ L.flatten ++ l) → (∀ b ∈ l ++ lk, b ∈ T' → b ∈ lk') → ∃ lk2 : List Addr, lk2.Perm lk' ∧ ROs c.K (AT c.B T') H n xs' ds' lk2) →
        setP d p (.list ds') = some d' → ∃ L', Sim c L' [] (killB (env.set i (some (d', .o m)))) σ (upd H a (.lst xs')) := by
  obtain ⟨v1, li, hv1, hL, r⟩ := S.sl.get e
  rw [hv] at hv1; cases hv1
  obtain ⟨vp, lp, lr, nav', pm, rp, up⟩ := RO.path p r.dep dp g
  have := nav'.inj nav
  subst this
  rcases rp.lst_inv with ⟨rfl, _, _⟩ | ⟨n', a, xs, lk, hn', rfl, ha, rk, rfl⟩
  · cases pn
  rw [pn] at hn'; cases hn'
  refine ⟨a, xs, rfl, ha, rk.len, ROs.share (ROs.mono (fun _ _ _ _ => trivial) rk) fun _ _ => trivial, fun xs' ds' d' hk hs => ?_⟩
  have ndT := S.nd
  have ndL : L.flatten.Nodup := (List.nodup_append.mp ndT).1
  have liT : ∀ b ∈ li, b ∈ L.flatten := fun b hb => mem_flatten_of hL hb
  have ndli : li.Nodup := by
    have p1 := flatten_set hL
    exact (List.nodup_append.mp (p1.nodup_iff.mpr ndL)).2.1
  have nd2 : (lr ++ (a :: lk)).Nodup := pm.nodup_iff.mp ndli
  have nd3 := List.nodup_append.mp nd2
  have nd4 := List.nodup_cons.mp nd3.2.1
  have inli : ∀ b ∈ lr ++ (a :: lk), b ∈ li := fun b hb => pm.mem_iff.mpr hb
  have notl : ∀ b ∈ li, b ∉ l := fun b hb z => (List.nodup_append.mp ndT).2.2 b (liT b hb) b z rfl
  obtain ⟨lk', sub, ndk, mk⟩ := hk lk rk nd4.2 fun b hb => by
    have hb' := inli b (List.mem_append_right _ (List.mem_cons_of_mem _ hb))
    exact ⟨.inr (S.own b (List.mem_append_left _ (liT b hb'))).1, notl b hb'⟩
  have ali : a ∈ li := inli a (by simp)
  have hi : i < L.length := (List.getElem?_eq_some_iff.mp hL).1
  have ndn : (lr ++ (a :: lk')).Nodup := by
    refine List.nodup_append.mpr ⟨nd3.1, List.nodup_cons.mpr ⟨fun z => ?_, ndk⟩, fun b hb b' hb' z => ?_⟩
    · rcases sub a z with z | z
      · exact nd4.1 z
      · exact notl a ali z
    · subst z
      rcases List.mem_cons.mp hb' with z | z
      · subst z; exact nd3.2.2 b hb b (by simp) rfl
      · rcases sub b z with z | z
        · exact nd3.2.2 b hb b (by simp [z]) rfl
        · exact notl b (inli b (List.mem_append_left _ hb)) z
  have memT : ∀ b ∈ (L.set i (lr ++ (a :: lk'))).flatten, b ∈ L.flatten ++ l := fun b hb => by
    rcases List.mem_append.mp ((flatten_put hL).mem_iff.mp hb) with z | z
    · exact List.mem_append_left _ ((flatten_set hL).mem_iff.mp (List.mem_append_left _ z))
    · rcases List.mem_append.mp z with z | z
      · exact List.mem_append_left _ (liT b (inli b (List.mem_append_left _ z)))
      · rcases List.mem_cons.mp z with z | z
        · subst z; exact List.mem_append_left _ (liT b ali)
        · rcases sub b z with z | z
          · exact List.mem_append_left _ (liT b (inli b (by simp [z])))
          · exact List.mem_append_right _ z
  have aT : a ∈ (L.set i (lr ++ (a :: lk'))).flatten := (flatten_put hL).mem_iff.mpr (by simp)
  obtain ⟨lk2, pk, kids⟩ := mk _ memT fun b hb hb' => by
    rcases List.mem_append.mp ((flatten_put hL).mem_iff.mp hb') with z | z
    · -- in another slot
      exfalso
      rcases List.mem_append.mp hb with y | y
      · exact (List.nodup_append.mp ndT).2.2 b ((flatten_set hL).mem_iff.mp (List.mem_append_left _ z)) b y rfl
      · have p1 := flatten_set hL
        exact (List.nodup_append.mp (p1.nodup_iff.mpr ndL)).2.2 b z b (inli b (by simp [y])) rfl
    · rcases List.mem_append.mp hb with y | y
      · rcases List.mem_append.mp z with z | z
        · exact absurd y (notl b (inli b (List.mem_append_left _ z)))
        · rcases List.mem_cons.mp z with z | z
          · subst z; exact absurd y (notl b ali)
          · exact z
      · rcases List.mem_append.mp z with z | z
        · exact absurd rfl (nd3.2.2 b z b (by simp [y]))
        · rcases List.mem_cons.mp z with z | z
          · subst z; exact absurd y nd4.1
          · exact z
  have kp : Kp (AT c.B (L.set i (lr ++ (a :: lk'))).flatten) H (upd H a (.lst xs')) := Kp.write ha trivial fun z => z.2 aT
  have ne : ∀ b, b ≠ a → ∀ o, H b = some o → (upd H a (.lst xs')) b = some o := fun b hb o q => by rw [upd_ne hb]; exact q
  have kids' : ROs c.K (AT c.B (L.set i (lr ++ (a :: lk'))).flatten) (upd H a (.lst xs')) n xs' ds' lk2 := kids.keep kp fun b hb => ne b fun z => by
    subst z
    rcases sub b (pk.mem_iff.mp hb) with z | z
    · exact nd4.1 z
    · exact notl b ali z
  obtain ⟨d2, l2, hs2, pm2, r2⟩ := up (AT c.B (L.set i (lr ++ (a :: lk'))).flatten) (upd H a (.lst xs')) (.list ds') (a :: lk2) kp (fun b hb => ne b fun z => by subst z; exact nd3.2.2 b hb b (by simp) rfl)
    (fun b o x _ => AT.less memT x) (RO.lst pn upd_same kids')
  rw [hs] at hs2; cases hs2
  replace pm2 : l2.Perm (lr ++ (a :: lk')) := pm2.trans ((pk.cons a).append_left lr)
  have mem2 : ∀ b, b ∈ (L.set i l2).flatten ↔ b ∈ (L.set i (lr ++ (a :: lk'))).flatten := fun b => by
    rw [(flatten_put (l := l2) hL).mem_iff, (flatten_put (l := lr ++ (a :: lk')) hL).mem_iff, List.mem_append, List.mem_append, pm2.mem_iff]
  refine ⟨L.set i l2, S.change hv hL ali ha trivial (RO.mono (fun b o x _ => AT.less (fun b hb => (mem2 b).mp hb) x) r2) (fun b hb => ?_) (pm2.nodup_iff.mpr ndn)⟩
  rcases List.mem_append.mp (pm2.mem_iff.mp hb) with z | z
  · exact .inl (inli b (List.mem_append_left _ z))
  · rcases List.mem_cons.mp z with z | z
    · subst z; exact .inl ali
    · rcases sub b z with z | z
      · exact .inl (inli b (by simp [z]))
      · exact .inr z
theorem Res.item {r : R} {v : V} {n : Option Nat} (S : Sim c L l env σ H) (h : Res c (L.flatten ++ l) H r v l) (hk : kidOk n r) :
    ∃ k : List Addr, k.Sublist l ∧ ∀ T', (∀ b ∈ T', b ∈ L.flatten ++ l) → (∀ b ∈ l, b ∈ T' → b ∈ k) → RO c.K (AT c.B T') H n v r.d k := by
  rcases hk with f | ⟨m, e, q⟩
  · exact ⟨[], List.nil_sublist _, fun T' _ _ => .flat (h.read.flat f) f⟩
  · obtain ⟨d, m'⟩ := r
    cases e
    have nd := List.nodup_append.mp S.nd
    exact RO.lower h.dep q nd.2.1 fun b hb => .inr (S.own b (List.mem_append_right _ hb)).1
end
def isL (env : VEnv) (i : Nat) (p : List Int) : Prop := ∃ d m ds, env[i]? = some (some (d, m)) ∧ getP d p = some (.list ds)
theorem isL.ty {c : Cn} {L : List (List Addr)} {l : List Addr} {env : VEnv} {σ : Sg} {H : Hp} {i : Nat} {p : List Int} {v v0 : V} (h : isL env i p) (S : Sim c L l env σ H) (hv : σ[i]? = some (some v0)) (nav : NavP H v0 p v) {K : PySem.W.Frag} : ∃ a xs, v = .ref a ∧ H a = some (.lst xs) ∧ tyV K "list" v H := by
  obtain ⟨d, m, ds, e, g⟩ := h
  obtain ⟨v1, li, hv1, _, r⟩ := S.sl.get e
  rw [hv] at hv1; cases hv1
  obtain ⟨w, n, rw⟩ := RS.nav r.read g
  have := n.inj nav
  subst this
  obtain ⟨a, xs, rfl, ha, _, _⟩ := rw.lst_inv
  exact ⟨a, xs, rfl, ha, Or.inl ⟨rfl, _, Or.inl (Or.inl ha)⟩⟩
structure OwnL (env : VEnv) (i : Nat) (p : List Int) (ds : List D) (d : D) (m n : Option Nat) : Prop where
  at_ : env[i]? = some (some (d, .o m))
  get : getP d p = some (.list ds)
  dep : ∃ mp, depP m d p = some mp ∧ popM mp = some n
def wApp (wp : WP) (we : WE) : WS := fun env Dv => wp env (fun i p e => isL e i p ∧ we e (fun r e' => ∃ d m ds n d', OwnL e' i p ds d m n ∧ kidOk n r ∧ ds.length < 1000000 ∧
  setP d p (.list (ds ++ [r.d])) = some d' ∧ Dv.nx (killB (e'.set i (some (d', .o m))))) Dv.ex) Dv.ex
section
variable {X : Cx} {c : Cn} {W : WX} {pos apos cpos : Pos} {wp : WP} {we : WE} {o e : Expr}
theorem line_big {n : Nat} (h : n < 1000000) : n < sizeLine := Nat.lt_of_lt_of_le h (by rw [sizeLine_eq]; omega)
theorem rd_tgt {σ : Sg} {H : Hp} {Q : V → Hp → Prop} {env : VEnv} {L : List (List Addr)} {Dv : DV} {Qv : Nat → List Int → VEnv → Prop} (S : Sim c L [] env σ H) (hw : wp env Qv Dv.ex)
    (hx : ∀ ex env' L' σ' H' cls d, Dv.ex ex env' → Sim c L' [] env' σ' H' → ExR c H' ex cls d → W cls d σ' H')
    (k : ∀ i p v v0 L' env' H', Qv i p env' → Sim c L' [] env' σ H' → σ[i]? = some (some v0) → NavP H' v0 p v → Q v H') : rdP c W wp σ H Q :=
  ⟨env, L, [], Qv, _, S, hw, fun i p v v0 L' env' H' q st hv nav => k i p v v0 L' env' H' q st.sim0 hv nav, fun ex cls d L' env' H' hq st he => hx ex env' L' σ H' cls d hq st.sim0 he⟩
theorem rd_arg {σ : Sg} {H : Hp} {Q : VK} {env : VEnv} {L : List (List Addr)} {Dv : DV} {Qv : R → VEnv → Prop} (S : Sim c L [] env σ H) (hw : we env Qv Dv.ex)
    (hx : ∀ ex env' L' σ' H' cls d, Dv.ex ex env' → Sim c L' [] env' σ' H' → ExR c H' ex cls d → W cls d σ' H')
    (k : ∀ r v l L' env' H', Qv r env' → Same H H' → Sim c L' l env' σ H' → Res c (L'.flatten ++ l) H' r v l → Q v H') : rdE c W we σ H Q :=
  ⟨env, L, [], Qv, _, S, hw, fun r v l L' env' H' q st hr => k r v l L' env' H' q st.same st.sim hr, fun ex cls d L' env' H' hq st he => hx ex env' L' σ H' cls d hq st.sim0 he⟩
theorem vs_app (ho : PE X o (rdP c W wp)) (he : PE X e (rdE c W we))
    (hb : PE X o (rdP c W wp) → PE X e (rdE c W we) → PE X (.Call (.Attribute o "append" apos) [e] [] cpos) (tBM X.K "list" rAppend (rdP c W wp) (tCons (rdE c W we) tNil)) := by exact fun ho he => pe_bm PySem.F.plainAttrs_list PySem.F.slot_list_append PySem.F.type_list_append mt_append ho (pa_cons he pa_nil)) :
    PS X (.Expr (.Call (.Attribute o "append" apos) [e] [] cpos) pos) (rdS c W (wApp wp we)) := PS.imp (ps_expr (hb ho he)) fun D σ H h => by
  obtain ⟨env, L, Dv, S, q, k, kr, kx⟩ := h
  refine rd_tgt S q kx fun i p v v0 L1 env1 H1 ⟨h0, h1⟩ S1 hv nav => ?_
  obtain ⟨_, _, _, _, ty⟩ := h0.ty S1 hv nav (K := X.K)
  refine ⟨ty, rd_arg S1 h1 kx fun r y l L2 env2 H2 ⟨d, m, ds, n, d', ⟨e1, e2, mp, e3, e4⟩, e5, e6, e7, h2⟩ sm S2 hr => ?_⟩
  obtain ⟨a, xs, rfl, ha, hl, _, up⟩ := S2.mutL e1 hv (nav.keep sm) e2 e3 e4
  obtain ⟨kk, ks, kq⟩ := Res.item S2 hr e5
  suffices hk : _ by
    obtain ⟨L3, S3⟩ := up (xs ++ [y]) _ d' hk e7
    exact ⟨a, xs, y, rfl, rfl, ha, by rw [hl]; exact line_big e6, k _ L3 σ _ h2 S3⟩
  · refine fun lk rk nd hlk => ⟨lk ++ kk, fun b hb => (List.mem_append.mp hb).imp id fun z => ks.subset z, List.nodup_append.mpr ⟨nd, (List.nodup_append.mp S2.nd).2.1.sublist ks, fun b hb b' hb' z => by subst z; exact (hlk b hb).2 (ks.subset hb')⟩, fun T' h1 h2 => ⟨_, List.Perm.refl _, ?_⟩⟩
    have rk' : ROs c.K (AT c.B T') H2 n xs ds lk := ROs.mono (fun b o x _ => AT.less h1 x) rk
    have ri := kq T' h1 fun b hb hb' => by
      rcases List.mem_append.mp (h2 b (List.mem_append_left _ hb) hb') with z | z
      · exact absurd hb (hlk b z).2
      · exact z
    have := ROs.append rk' (.cons ri .nil)
    simpa using this
end
section
variable {X : Cx} {c : Cn} {W : WX} {pos tpos : Pos} {wp : WP} {wi we : WE} {o i e : Expr}
end
end VL
set_option maxRecDepth 100000
set_option maxHeartbeats 4000000
namespace VL
open PySem PySem.Spec PyProof.Rows L2
def slLe : Option (D × Md) → Option (D × Md) → Prop
  | none, _ => True
  | some (d, .b), some (d', _) => d = d'
  | some (d, .o m), some (d', .o m') => d = d' ∧ leM m m' = true
  | _, _ => False
def envLe : VEnv → VEnv → Prop
  | [], [] => True
  | s :: e, s' :: e' => slLe s s' ∧ envLe e e'
  | _, _ => False
theorem slLe.refl (s : Option (D × Md)) : slLe s s := by
  match s with
  | none => exact True.intro
  | some (d, .b) => exact rfl
  | some (d, .o m) => exact ⟨rfl, leM_refl m⟩
theorem envLe.refl : ∀ e : VEnv, envLe e e
  | [] => True.intro
  | s :: e => ⟨slLe.refl s, envLe.refl e⟩
section
variable {c : Cn} {T : List Addr} {H : Hp}
theorem Slots.lower : ∀ {e e0 : VEnv} {σ : Sg} {L : List (List Addr)}, Slots c T H e σ L → envLe e0 e → L.flatten.Nodup → (∀ b ∈ L.flatten, c.B b) →
    ∃ L0 : List (List Addr), L0.flatten.Sublist L.flatten ∧ ∀ T', (∀ b ∈ T', b ∈ T) → (∀ b ∈ L.flatten, b ∈ T' → b ∈ L0.flatten) → Slots c T' H e0 σ L0 := by
  intro e e0 σ L h
  induction h generalizing e0 with
  | nil =>
    intro le nd hb
    cases e0 with
    | nil => exact ⟨[], List.Sublist.refl _, fun _ _ _ => .nil⟩
    | cons _ _ => exact le.elim
  | @non e x σ L h ih =>
    intro le nd hb
    cases e0 with
    | nil => exact le.elim
    | cons s e0 =>
      obtain ⟨L0, sb, q⟩ := ih le.2 (by simpa using nd) (by simpa using hb)
      have hs : s = none := by
        match s, le.1 with
        | none, _ => rfl
        | some (_, .b), z => exact z.elim
        | some (_, .o _), z => exact z.elim
      subst hs
      exact ⟨[] :: L0, by simpa using sb, fun T' h1 h2 => .non (q T' h1 (by simpa using h2))⟩
  | @bor e d v σ L r h ih =>
    intro le nd hb
    cases e0 with
    | nil => exact le.elim
    | cons s e0 =>
      obtain ⟨L0, sb, q⟩ := ih le.2 (by simpa using nd) (by simpa using hb)
      refine ⟨[] :: L0, by simpa using sb, fun T' h1 h2 => ?_⟩
      have hr := q T' h1 (by simpa using h2)
      match s, le.1 with
      | none, _ => exact .non hr
      | some (_, .b), z => cases z; exact .bor r hr
      | some (_, .o _), z => exact z.elim
  | @own e d m v l σ L r h ih =>
    intro le nd hb
    cases e0 with
    | nil => exact le.elim
    | cons s e0 =>
      rw [List.flatten_cons] at nd hb
      have nd' := List.nodup_append.mp nd
      obtain ⟨L0, sb, q⟩ := ih le.2 nd'.2.1 (fun b hb' => hb b (List.mem_append_right _ hb'))
      match s, le.1 with
      | none, _ =>
        refine ⟨[] :: L0, by simpa using sb.trans (List.sublist_append_right _ _), fun T' h1 h2 => .non (q T' h1 fun b hb1 hb2 => by simpa using h2 b (by simp [hb1]) hb2)⟩
      | some (_, .b), z =>
        cases z
        refine ⟨[] :: L0, by simpa using sb.trans (List.sublist_append_right _ _), fun T' h1 h2 => .bor ?_ (q T' h1 fun b hb1 hb2 => by simpa using h2 b (by simp [hb1]) hb2)⟩
        exact RO.share (RO.mono (fun _ _ _ _ => trivial) r) fun _ _ => trivial
      | some (_, .o m0), z =>
        obtain ⟨z1, z2⟩ := z
        cases z1
        obtain ⟨l0, s0, q0⟩ := RO.lower r z2 nd'.1 fun b hb' => hb b (List.mem_append_left _ hb')
        refine ⟨l0 :: L0, by simpa using s0.append sb, fun T' h1 h2 => .own (q0 T' h1 fun b hb1 hb2 => ?_) (q T' h1 fun b hb1 hb2 => ?_)⟩
        · rcases List.mem_append.mp (by simpa using h2 b (by simp [hb1]) hb2 : b ∈ l0 ++ L0.flatten) with z | z
          · exact z
          · exact absurd rfl (nd'.2.2 b hb1 b (sb.subset z))
        · rcases List.mem_append.mp (by simpa using h2 b (by simp [hb1]) hb2 : b ∈ l0 ++ L0.flatten) with z | z
          · exact absurd rfl (nd'.2.2 b (s0.subset z) b hb1)
          · exact z
theorem Sim.lower {L : List (List Addr)} {Tm : List Addr} {e e0 : VEnv} {σ : Sg} (S : Sim c L Tm e σ H) (le : envLe e0 e) : ∃ L0, Sim c L0 Tm e0 σ H := by
  have nd := List.nodup_append.mp S.nd
  obtain ⟨L0, sb, q⟩ := S.sl.lower le nd.1 fun b hb => .inr (S.own b (List.mem_append_left _ hb)).1
  have sb' : (L0.flatten ++ Tm).Sublist (L.flatten ++ Tm) := sb.append (List.Sublist.refl _)
  refine ⟨L0, q _ (fun b hb => sb'.subset hb) fun b h1 h2 => ?_, S.nd.sublist sb', fun a ha => S.own a (sb'.subset ha), S.fr, fun p hp => (S.hd p hp).mono fun b o a _ => AT.less (fun b hb => sb'.subset hb) a, S.pin⟩
  rcases List.mem_append.mp h2 with z | z
  · exact z
  · exact absurd rfl (nd.2.2 b h1 b z)
end
section
variable {X : Cx} {c : Cn} {W : WX} {w : WS} {st : Stmt}
end
def putAll : VEnv → List Nat → List R → VEnv
  | e, i :: is, r :: rs => putAll (e.set i (some (r.d, r.m))) is rs
  | e, _, _ => e
def setAll : Sg → List Nat → List V → Sg
  | σ, i :: is, v :: vs => setAll (σ.set i (some v)) is vs
  | σ, _, _ => σ
section
variable {c : Cn} {H : Hp}
theorem Sim.putAllG {Tm : List Addr} : ∀ {is : List Nat} {rs : List R} {vs : List V} {l : List Addr} {L : List (List Addr)} {env : VEnv} {σ : Sg} {T : List Addr}, Ress c T H rs vs l → Sim c L (Tm ++ l) env σ H → (∀ b ∈ L.flatten ++ (Tm ++ l), b ∈ T) → PinF c is →
    ∃ L', Sim c L' Tm (VL.putAll env is rs) (setAll σ is vs) H ∧ ∀ b ∈ L'.flatten ++ Tm, b ∈ L.flatten ++ (Tm ++ l) := by
  intro is rs vs l L env σ T h
  induction h generalizing is L env σ with
  | nil => intro S _ _; cases is <;> exact ⟨L, by simpa [VL.putAll, setAll] using S, fun b hb => by simpa using hb⟩
  | @cons r rs v vs l1 l2 hr _ ih =>
    intro S g pf
    cases is with
    | nil => exact ⟨L, S.drop, fun b hb => by rw [← List.append_assoc]; exact List.mem_append_left _ hb⟩
    | cons i is =>
      have pm : (Tm ++ (l1 ++ l2)).Perm ((Tm ++ l2) ++ l1) := by
        rw [List.append_assoc]; exact List.perm_append_comm.append_left _
      have S' : Sim c L ((Tm ++ l2) ++ l1) env σ H := by
        have mem : ∀ b, b ∈ L.flatten ++ ((Tm ++ l2) ++ l1) → b ∈ L.flatten ++ (Tm ++ (l1 ++ l2)) := fun b hb => (pm.append_left _).mem_iff.mpr hb
        exact ⟨S.sl.keep (Same.refl _) fun b hb => .inl (mem b hb), (pm.append_left _).nodup_iff.mp S.nd, fun a ha => S.own a (mem a ha), S.fr, fun p hp => (S.hd p hp).mono fun b o a _ => AT.less mem a, S.pin⟩
      have hr' : Res c (L.flatten ++ ((Tm ++ l2) ++ l1)) H r v l1 := hr.keep (Same.refl _) fun b hb => .inl (g b ((pm.append_left _).mem_iff.mpr hb))
      obtain ⟨L1, S1, g1⟩ := Sim.put (i := i) S' hr' (pf.sub fun j hj => by rw [List.mem_singleton.mp hj]; exact List.mem_cons_self)
      obtain ⟨L2, S2, g2⟩ := ih (is := is) S1 (fun b hb => g b ((pm.append_left _).mem_iff.mpr (g1 b hb))) (pf.sub fun j hj => List.mem_cons_of_mem _ hj)
      exact ⟨L2, S2, fun b hb => (pm.append_left _).mem_iff.mpr (g1 b (g2 b hb))⟩
theorem Sim.putAll {Tm : List Addr} {is : List Nat} {rs : List R} {vs : List V} {l : List Addr} {L : List (List Addr)} {env : VEnv} {σ : Sg} {T : List Addr} (h : Ress c T H rs vs l) (S : Sim c L (Tm ++ l) env σ H) (g : ∀ b ∈ L.flatten ++ (Tm ++ l), b ∈ T) (pf : PinF c is) :
    ∃ L', Sim c L' Tm (VL.putAll env is rs) (setAll σ is vs) H := let ⟨L', S', _⟩ := Sim.putAllG h S g pf; ⟨L', S'⟩
theorem Res.items {T l : List Addr} {m : Md} {ds : List D} {v : V} (h : Res c T H ⟨.tuple ds, m⟩ v l) : ∃ a xs l', v = .ref a ∧ H a = some (.tup xs) ∧ l'.Sublist l ∧ Ress c T H (ds.map (subT m)) xs l' := by
  cases m with
  | b =>
    obtain ⟨a, xs, e, ha, r⟩ := h.1.tup_inv
    have : ∀ {xs : List V} {ds : List D}, RSs c.K (fun _ => True) H xs ds → Ress c T H (ds.map (subT .b)) xs [] := by
      intro xs ds r
      induction xs generalizing ds with
      | nil => cases r; exact .nil
      | cons x xs ih =>
        cases r with
        | @cons _ _ d ds h r =>
          have hx : Res c T H (subT .b d) x [] := by
            unfold subT
            by_cases f : flatD d = true
            · rw [if_pos f]; exact Res.flat h f
            · rw [if_neg f]; exact ⟨h, rfl⟩
          exact .cons (l1 := []) (l2 := []) hx (ih r)
    exact ⟨a, xs, [], e, ha, List.nil_sublist _, this r⟩
  | o m =>
    obtain ⟨a, xs, e, ha, r⟩ := h.dep.tup_inv
    have : ∀ {xs : List V} {ds : List D} {l : List Addr}, ROs c.K (AT c.B T) H m xs ds l → ∃ l', l'.Sublist l ∧ Ress c T H (ds.map (subT (.o m))) xs l' := by
      intro xs ds l r
      induction xs generalizing ds l with
      | nil => cases r; exact ⟨[], List.Sublist.refl _, .nil⟩
      | cons x xs ih =>
        cases r with
        | @cons _ _ _ d ds l1 l2 h r =>
          obtain ⟨l', s, q⟩ := ih r
          by_cases f : flatD d = true
          · refine ⟨[] ++ l', s.trans (List.sublist_append_right _ _), .cons ?_ q⟩
            unfold subT
            rw [if_pos f]; exact Res.flat (A := fun _ => True) (RO.of_flat h f) f
          · refine ⟨l1 ++ l', (List.Sublist.refl _).append s, .cons ?_ q⟩
            unfold subT
            rw [if_neg f]; exact h
    obtain ⟨l', s, q⟩ := this r
    exact ⟨a, xs, l', e, ha, s, q⟩
theorem Ress.keepT {T T' l : List Addr} {rs : List R} {vs : List V} (h : Ress c T H rs vs l) (g : ∀ b ∈ T', b ∈ T) : Ress c T' H rs vs l := h.keep (Same.refl H) fun b hb => .inl (g b hb)
end
structure Tg where
  is : List Nat
  f : R → Option (List R)
def tgN (i : Nat) : Tg := ⟨[i], fun r => some [r]⟩
def tgT (is : List Nat) : Tg := ⟨is, fun r => match r.d with
  | .tuple ds => if ds.length = is.length then some (ds.map (subT r.m)) else none
  | _ => none⟩
structure TgOk (X : Cx) (tg : Expr) (g : Tg) : Prop where
  ok : ∃ t, PG X tg t ∧ ∀ (c : Cn) (T : List Addr) (H : Hp) (r : R) (v : V) (l : List Addr) (rs : List R), c.K = X.K → Res c T H r v l → g.f r = some rs →
    ∃ vs l', l'.Sublist l ∧ Ress c T H rs vs l' ∧ vs.length = g.is.length ∧ ∀ σ Q, Q (setAll σ g.is vs) H → t v σ H Q
section
variable {X : Cx} {c : Cn} {pos : Pos} {t t' : TG}
theorem tg_name {i : Nat} {x : Str} (hN : X.N.Nodup) (hi : X.N[i]? = some x := by rfl) (hx : Loc X.env.scope x := by first | exact .inl rfl | exact .inr rfl) (hf : X.fn x = true ∨ X.env.scope.names.lookup x = some .local := by first | exact .inl rfl | exact .inr rfl | assumption) : TgOk X (.Name x pos) (tgN i) :=
  ⟨_, pg_name hN hi hx hf, fun c T H r v l rs _ hr e => by
    cases e
    exact ⟨[v], l, List.Sublist.refl _, by simpa using Ress.cons hr .nil, rfl, fun σ Q q => q⟩⟩
inductive NamesAt (X : Cx) : List Expr → List Nat → TGs → Prop
  | nil : NamesAt X [] [] gNil
  | cons {e : Expr} {es : List Expr} {i : Nat} {is : List Nat} {u : TGs} : PG X e (gName i) → NamesAt X es is u → ((assignEach (e :: es) X.env).map (·.2) = assign e X.env :: (assignEach es X.env).map (·.2)) → NamesAt X (e :: es) (i :: is) (gCons (gName i) u)
theorem na_nil : NamesAt X [] [] gNil := .nil
theorem na_cons {i : Nat} {is : List Nat} {x : Str} {p : Pos} {es : List Expr} {u : TGs} (h : NamesAt X es is u) (hN : X.N.Nodup) (hi : X.N[i]? = some x := by rfl) (hx : Loc X.env.scope x := by first | exact .inl rfl | exact .inr rfl) (hf : X.fn x = true ∨ X.env.scope.names.lookup x = some .local := by first | exact .inl rfl | exact .inr rfl | assumption)
    (hs : (assignEach (.Name x p :: es) X.env).map (·.2) = assign (.Name x p) X.env :: (assignEach es X.env).map (·.2) := by rfl) : NamesAt X (.Name x p :: es) (i :: is) (gCons (gName i) u) := .cons (pg_name hN hi hx hf) h hs
theorem NamesAt.pgs {es : List Expr} {is : List Nat} {u : TGs} (h : NamesAt X es is u) : PGs X es u := by
  induction h with
  | nil => exact pgs_nil
  | cons h1 _ hs ih => exact pgs_cons h1 ih hs
theorem NamesAt.run {es : List Expr} {is : List Nat} {u : TGs} (h : NamesAt X es is u) : ∀ {vs : List V} {σ : Sg} {H : Hp} {Q : Sg → Hp → Prop}, vs.length = is.length → Q (setAll σ is vs) H → u vs σ H Q := by
  induction h with
  | nil =>
    intro vs σ H Q hl q
    cases vs with
    | nil => exact ⟨rfl, q⟩
    | cons _ _ => cases hl
  | cons _ _ _ ih =>
    intro vs σ H Q hl q
    cases vs with
    | nil => cases hl
    | cons v vs => exact ⟨v, vs, rfl, ih (by simpa using hl) q⟩
theorem tg_tup {es : List Expr} {is : List Nat} {u : TGs} {k : Nat} (hc : X.calm = true) (h : NamesAt X es is u) (hn : (assignEach es X.env).length = is.length := by rfl) (hst : (assignEach es X.env).findIdx? (·.1) = none := by rfl) : TgOk X (.Tuple es k pos) (tgT is) :=
  ⟨_, pg_tup hc h.pgs hn hst, fun c T H r v l rs hK hr e => by
    obtain ⟨d, m⟩ := r
    unfold tgT at e
    simp only at e
    split at e
    · rename_i ds
      split at e
      · rename_i hl
        cases e
        obtain ⟨a, xs, l', rfl, ha, s, rs⟩ := Res.items (ds := ds) (m := m) hr
        have lx : xs.length = ds.length := by rw [← rs.len, List.length_map]
        exact ⟨xs, l', s, rs, by rw [lx]; exact hl, fun σ Q q => ⟨a, xs, rfl, SqT.of ha, by rw [lx]; exact hl, h.run (by rw [lx]; exact hl) q⟩⟩
      · cases e
    · cases e⟩
end
def wAsg (g : Tg) (we : WE) : WS := fun env Dv => we env (fun r e => ∃ rs, g.f r = some rs ∧ Dv.nx (putAll e g.is rs)) Dv.ex
section
variable {X : Cx} {c : Cn} {W : WX} {pos : Pos} {we : WE} {g : Tg} {tg e : Expr}
theorem vs_asg (he : PE X e (rdE c W we)) (hg : TgOk X tg g) (hK : c.K = X.K := by rfl) (hs : swapsWithSole [tg] e pos.line X.env = pure false := by rfl) (hw : swappedStores [tg] e X.env = pure none := by rfl)
    (h1 : (assignEach [tg] X.env).map (·.2) = [assign tg X.env] := by rfl) (pf : PinF c g.is := by first | exact pinF_nil rfl | exact pinF_one rfl (by decide) | assumption) : PS X (.Assign [tg] e pos) (rdS c W (wAsg g we)) := by
  obtain ⟨t, hp, run⟩ := hg.ok
  refine PS.imp (ps_asg he hp hs hw h1) fun D σ H h => ?_
  obtain ⟨env, L, Dv, S, q, k, kr, kx⟩ := h
  refine rd_first S q kx fun r v l L' env' H' ⟨rs, hq, hn⟩ S' hr => ?_
  obtain ⟨vs, l', s, rr, hl, go⟩ := run c _ H' r v l rs hK hr hq
  have S2 : Sim c L' ([] ++ l') env' σ H' := S'.less s
  obtain ⟨L2, S3⟩ := Sim.putAll (is := g.is) (Tm := []) rr S2 (fun b hb => by
    rcases List.mem_append.mp hb with z | z
    · exact List.mem_append_left _ z
    · exact List.mem_append_right _ (s.subset z)) pf
  exact go σ _ (k _ L2 _ H' hn S3)
theorem rd_args {σ : Sg} {H : Hp} {Q : List V → Hp → Prop} {wa : WA} {env : VEnv} {L : List (List Addr)} {Dv : DV} {Qv : List R → VEnv → Prop} (S : Sim c L [] env σ H) (hw : wa env Qv Dv.ex)
    (hx : ∀ ex env' L' σ' H' cls d, Dv.ex ex env' → Sim c L' [] env' σ' H' → ExR c H' ex cls d → W cls d σ' H')
    (k : ∀ rs vs l L' env' H', Qv rs env' → Sim c L' l env' σ H' → Ress c (L'.flatten ++ l) H' rs vs l → Q vs H') : rdA c W wa σ H Q :=
  ⟨env, L, [], Qv, _, S, hw, fun rs vs l L' env' H' q st hr => k rs vs l L' env' H' q st.sim hr, fun ex cls d L' env' H' hq st he => hx ex env' L' σ H' cls d hq st.sim0 he⟩
end
section
variable {X : Cx} {c : Cn} {W : WX} {pos : Pos} {t : WT} {w : WS} {te : Expr} {body : List Stmt}
end
end VL
set_option maxRecDepth 100000
set_option maxHeartbeats 4000000
namespace VL
open PySem PySem.Spec PyProof.Rows L2
theorem PI.imp {X : Cx} {tg iter : Expr} {w w' : TI} (h : PI X tg iter w) (q : ∀ σ H R, w' σ H R → w σ H R) : PI X tg iter w' := ⟨fun pins s σ H R I hw => h.run pins s σ H R I (q _ _ _ hw)⟩
theorem PI.or {X : Cx} {tg iter : Expr} {w w' : TI} (h : PI X tg iter w) (h' : PI X tg iter w') : PI X tg iter (fun σ H R => w σ H R ∨ w' σ H R) := ⟨fun pins s σ H R I hw => hw.elim (fun z => h.run pins s σ H R I z) fun z => h'.run pins s σ H R I z⟩
def iSeq (K : PySem.W.Frag) (tl : TE) : TI := fun σ H R => tl σ H fun x H1 => ∃ a, x = .ref a ∧ (((∃ xs, SqL K H1 a xs) ∧ R (Itl K a) H1) ∨ ((∃ xs, SqT K H1 a xs) ∧ R (Itt K a) H1))
theorem pi_seq {X : Cx} {tg l : Expr} {tl : TE} (hl : PE X l tl) : PI X tg l (iSeq X.K tl) := by
  refine ⟨fun pins s σ H R I h => ?_⟩
  refine thn (hl.run pins s σ H _ I h) fun v s1 ⟨x, H1, I1, r1, q1⟩ => ?_
  obtain ⟨a, e, q⟩ := q1
  subst e
  cases r1
  rcases q with ⟨⟨xs, hq⟩, q⟩ | ⟨⟨xs, hq⟩, q⟩
  · obtain ⟨its, rv, p, hz⟩ := I1.list hq
    refine wpAny_pyIter_list p.isList ?_
    refine ⟨s1.heap.objs.size, [s1.heap.objs.size], _, _, H1, rfl, I1.kept (t' := s1.toks) fun b o e => Heap.get?_push_of_some _ e, turn_list a _, ⟨_, Heap.get?_push_size _ rfl, rfl, rfl⟩, fun b hb => ?_, q⟩
    have e : b = s1.heap.objs.size := by simpa using hb
    subst e
    exact I1.fpOk (Nat.le_refl _) (I1.hok.fresh (Nat.le_refl _))
  · obtain ⟨its, rv, p, hz⟩ := I1.tuple hq
    refine wpAny_pyIter_tuple (show s1.heap.IsTuple a its.toArray from p) ?_
    refine ⟨s1.heap.objs.size, [s1.heap.objs.size], _, _, H1, rfl, I1.kept (t' := s1.toks) fun b o e => Heap.get?_push_of_some _ e, turn_tuple a _, ⟨_, Heap.get?_push_size _ rfl, rfl, rfl⟩, fun b hb => ?_, q⟩
    have e : b = s1.heap.objs.size := by simpa using hb
    subst e
    exact I1.fpOk (Nat.le_refl _) (I1.hok.fresh (Nat.le_refl _))
def seqOf : D → Option (List D)
  | .list ds => some ds
  | .tuple ds => some ds
  | _ => none
def itemR (m : Md) (d : D) : R := if flatD d = true then ⟨d, mA⟩ else match m with
  | .b => ⟨d, .b⟩
  | .o _ => ⟨d, mS⟩
section
variable {c : Cn} {L : List (List Addr)} {Tm l T : List Addr} {env : VEnv} {σ : Sg} {H H' : Hp}
theorem seq_run {K : PySem.W.Frag} {A : Addr → Prop} {v : V} {d : D} {ds : List D} (h : RS K A H v d) (e : seqOf d = some ds) :
    ∃ a xs, v = .ref a ∧ RSs K A H xs ds ∧ ((d = .list ds ∧ H a = some (.lst xs)) ∨ (d = .tuple ds ∧ H a = some (.tup xs))) := by
  match d, e with
  | .list ds', e =>
    cases e
    obtain ⟨a, xs, q, ha, _, r⟩ := h.lst_inv
    exact ⟨a, xs, q, r, .inl ⟨rfl, ha⟩⟩
  | .tuple ds', e =>
    cases e
    obtain ⟨a, xs, q, ha, r⟩ := h.tup_inv
    exact ⟨a, xs, q, r, .inr ⟨rfl, ha⟩⟩
end
def wFor (g : Tg) (we : WE) (w : WS) : WS := fun env Dv => we env (fun r e => ∃ ds, seqOf r.d = some ds ∧ isB r.m = false ∧ ∃ (I : Nat → VEnv → Prop) (e0 : VEnv), envLe e0 e ∧ I 0 e0 ∧
  (∀ i d e, ds[i]? = some d → I i e → ∃ rs, g.f (itemR mS d) = some rs ∧ w (putAll e g.is rs) { Dv with nx := fun e2 => ∃ e3, envLe e3 e2 ∧ I (i + 1) e3 }) ∧ (∀ e, I ds.length e → Dv.nx e)) Dv.ex
def Cn.with (c : Cn) (hd : List (V × D)) : Cn := { c with hd := hd }
section
variable {X : Cx} {c : Cn} {W : WX} {pos : Pos} {g : Tg} {we : WE} {w : WS} {tg iter : Expr} {body : List Stmt}
theorem Sim.unhd {c : Cn} {p : V × D} {L : List (List Addr)} {Tm : List Addr} {e : VEnv} {σ : Sg} {H : Hp} (S : Sim (c.with (p :: c.hd)) L Tm e σ H) : Sim c L Tm e σ H :=
  ⟨(by
    have := S.sl
    exact un this), S.nd, S.own, S.fr, fun q hq => S.hd q (List.mem_cons_of_mem _ hq), S.pin⟩
where
  un {c : Cn} {hd : List (V × D)} {T : List Addr} {H : Hp} {e : VEnv} {σ : Sg} {L : List (List Addr)} (h : Slots (c.with hd) T H e σ L) : Slots c T H e σ L := by
    induction h with
    | nil => exact .nil
    | non _ ih => exact .non ih
    | bor r _ ih => exact .bor r ih
    | own r _ ih => exact .own r ih
theorem Sim.addhd {c : Cn} {v : V} {d : D} {L : List (List Addr)} {Tm : List Addr} {e : VEnv} {σ : Sg} {H : Hp} (S : Sim c L Tm e σ H) (h : RS c.K (AT c.B (L.flatten ++ Tm)) H v d) : Sim (c.with ((v, d) :: c.hd)) L Tm e σ H :=
  ⟨up S.sl, S.nd, S.own, S.fr, fun q hq => by
    rcases List.mem_cons.mp hq with z | z
    · subst z; exact h
    · exact S.hd q z, S.pin⟩
where
  up {c : Cn} {hd : List (V × D)} {T : List Addr} {H : Hp} {e : VEnv} {σ : Sg} {L : List (List Addr)} (h : Slots c T H e σ L) : Slots (c.with hd) T H e σ L := by
    induction h with
    | nil => exact .nil
    | non _ ih => exact .non ih
    | bor r _ ih => exact .bor r ih
    | own r _ ih => exact .own r ih
theorem Res.share0 {r : R} {v : V} {l : List Addr} {L : List (List Addr)} {env : VEnv} {σ : Sg} {H : Hp} (h : Res c (L.flatten ++ l) H r v l) (hb : isB r.m = false) (S : Sim c L l env σ H) : RS c.K (AT c.B (L.flatten ++ [])) H v r.d := by
  obtain ⟨d, m⟩ := r
  cases m with
  | b => cases hb
  | o m => exact Res.shared (Tm := []) (la := l) (m := m) h rfl S fun b hb => hb
structure Walked (J : It) (xs : List V) (H : Hp) : Prop where
  go : ∀ (i : Nat) x, xs[i]? = some x → J.go i H
  stop : ∀ (i : Nat), xs.length ≤ i → J.stop i H
  yld : ∀ (i : Nat) x y H', xs[i]? = some x → J.yld i H y H' → H' = H ∧ y = x
theorem walked_l {K : PySem.W.Frag} {a : Addr} {xs : List V} {H : Hp} (p : H a = some (.lst xs)) : Walked (Itl K a) xs H :=
  ⟨fun i x e => ⟨xs, x, SqL.of p, e⟩, fun i e => ⟨xs, SqL.of p, e⟩, fun i x y H' e ⟨h1, h2⟩ => ⟨h1, Option.some.inj ((h2 xs (SqL.of p)).symm.trans e)⟩⟩
theorem walked_t {K : PySem.W.Frag} {a : Addr} {xs : List V} {H : Hp} (p : H a = some (.tup xs)) : Walked (Itt K a) xs H :=
  ⟨fun i x e => ⟨xs, x, SqT.of p, e⟩, fun i e => ⟨xs, SqT.of p, e⟩, fun i x y H' e ⟨h1, h2⟩ => ⟨h1, Option.some.inj ((h2 xs (SqT.of p)).symm.trans e)⟩⟩
theorem Res.ofItem {T : List Addr} {H : Hp} {v : V} {d : D} (h : RS c.K (AT c.B T) H v d) : Res c T H (itemR mS d) v [] := by
  unfold itemR
  by_cases f : flatD d = true
  · rw [if_pos f]; exact Res.flat h f
  · rw [if_neg f]; exact RO.sh h
theorem vs_for (hp : PassesOwn (model X.prog X.w) X.A X.env X.xe) (hc : X.calm = true) (he : PE X iter (rdE c W we)) (hg : TgOk X tg g) (hb : ∀ hd, PSs X body (rdS (c.with hd) W w)) (hK : c.K = X.K := by rfl)
    (hs : ∀ x, foldedSetIterable iter X.env x = pure x := by intro _; rfl) (pf : PinF c g.is := by first | exact pinF_nil rfl | exact pinF_one rfl (by decide) | assumption) : PS X (.For tg iter body [] pos) (rdS c W (wFor g we w)) := by
  obtain ⟨t, hpg, run⟩ := hg.ok
  refine PS.imp (ps_for (tb := fun D σ H => ∃ hd, rdS (c.with hd) W w D σ H) hp hc (pi_seq he) hpg ⟨fun pins s σ H D I hh => hh.elim fun hd z => (hb hd).run pins s σ H D I z⟩ hs) fun D σ H h => ?_
  obtain ⟨env, L, Dv, S, q, k, kr, kx⟩ := h
  refine rd_first S q kx fun r v l L1 e1 H1 ⟨ds, hd, hm, I, e0, le, i0, step, last⟩ S1 hr => ?_
  have sh := hr.share0 hm S1
  have S2 : Sim c L1 [] e1 σ H1 := Sim.drop (Tm := []) (l := l) S1
  obtain ⟨L0, S0⟩ := (S2.addhd sh).lower le
  have go : ∀ (J : It), (∀ L e σ H, Sim (c.with ((v, r.d) :: c.hd)) L [] e σ H → ∃ xs, Walked J xs H ∧ RSs c.K (AT c.B (L.flatten ++ [])) H xs ds) →
      ∃ Wv : Nat → Nat → Sg → Hp → Prop, (∃ m, Wv 0 m σ H1) ∧ ∀ i m σ H, Wv i m σ H → (J.stop i H ∧ D.nx σ H) ∨ (J.go i H ∧ ∃ N : Sg → Hp → Prop, (∀ σ' H', N σ' H' → ∃ m', m' < m ∧ Wv (i + 1) m' σ' H') ∧ ∀ x H', J.yld i H x H' → t x σ H' fun σ2 H2 => ∃ hd, rdS (c.with hd) W w { D with nx := N, ct := N, bk := D.nx } σ2 H2) := by
    intro J hP
    refine ⟨fun i m σ H => m = ds.length - i ∧ i ≤ ds.length ∧ ∃ e L, Sim (c.with ((v, r.d) :: c.hd)) L [] e σ H ∧ I i e, ⟨ds.length, by simp, Nat.zero_le _, e0, L0, S0, i0⟩, ?_⟩
    rintro i m σ2 H2 ⟨rfl, hi, e, L, S, ii⟩
    obtain ⟨xs, wk, rs⟩ := hP L e σ2 H2 S
    by_cases hlt : i < ds.length
    · obtain ⟨x, hx, rx⟩ := rs.get (List.getElem?_eq_getElem hlt)
      refine .inr ⟨wk.go i x hx, fun σ' H' => ∃ e L, Sim (c.with ((v, r.d) :: c.hd)) L [] e σ' H' ∧ I (i + 1) e, fun σ' H' ⟨e, L, S, ii⟩ => ⟨ds.length - (i + 1), by omega, rfl, hlt, e, L, S, ii⟩, fun y H' hy => ?_⟩
      obtain ⟨rfl, rfl⟩ := wk.yld i x y H' hx hy
      obtain ⟨qs, hq, hw⟩ := step i _ e (List.getElem?_eq_getElem hlt) ii
      have hit : Res (c.with ((v, r.d) :: c.hd)) (L.flatten ++ []) H' (itemR mS ds[i]) y [] := Res.ofItem (c := c.with ((v, r.d) :: c.hd)) rx
      obtain ⟨vs, l', s, rr, hl', go⟩ := run (c.with ((v, r.d) :: c.hd)) _ H' _ y _ qs hK hit hq
      have el : l' = [] := List.sublist_nil.mp s
      subst el
      obtain ⟨L3, S3⟩ := Sim.putAll (is := g.is) (Tm := []) (l := []) rr (by simpa using S) (fun b hb => by simpa using hb) pf
      refine go σ2 _ ⟨(v, r.d) :: c.hd, _, L3, _, S3, hw, fun env' L' σ' H'' ⟨e3, le3, i3⟩ S' => ?_, fun r v l H' e h hr => kr r v l H' e h ⟨hr.fr, hr.nd, hr.own, hr.res, let ⟨L, σ, q, z⟩ := hr.sim; ⟨L, σ, q.unhd, z⟩⟩, fun ex env' L' σ' H' cls d hx S' he => kx ex env' L' σ' H' cls d hx S'.unhd he⟩
      obtain ⟨L4, S4⟩ := S'.lower le3
      exact ⟨e3, L4, S4, i3⟩
    · have e' : i = ds.length := by omega
      subst e'
      exact   .inl ⟨wk.stop _ (by rw [rs.len]; omega), k e L σ2 H2 (last e ii) S.unhd⟩
  obtain ⟨a, xs, rfl, rs, hk⟩ := seq_run sh hd
  rcases hk with ⟨hd2, ha⟩ | ⟨hd2, ha⟩
  · refine ⟨a, rfl, .inl ⟨⟨xs, SqL.of ha⟩, go _ fun L e σ H S => ?_⟩⟩
    have := S.hd _ List.mem_cons_self
    rw [hd2] at this
    obtain ⟨a', xs', ea, ha', _, r'⟩ := this.lst_inv
    cases ea
    exact ⟨xs', walked_l ha', r'⟩
  · refine ⟨a, rfl, .inr ⟨⟨xs, SqT.of ha⟩, go _ fun L e σ H S => ?_⟩⟩
    have := S.hd _ List.mem_cons_self
    rw [hd2] at this
    obtain ⟨a', xs', ea, ha', r'⟩ := this.tup_inv
    cases ea
    exact ⟨xs', walked_t ha', r'⟩
end
def rangeOf : List R → Option (Int × Int)
  | [⟨.int j, _⟩] => some (0, j)
  | [⟨.int i, _⟩, ⟨.int j, _⟩] => some (i, j)
  | _ => none
theorem range1 {rs : List R} {lo hi : Int} (h : rangeOf rs = some (lo, hi)) (hl : rs.length = 1) : ∃ m, rs = [⟨.int hi, m⟩] ∧ lo = 0 := by
  unfold rangeOf at h
  split at h
  · cases h; exact ⟨_, rfl, rfl⟩
  · cases hl
  · cases h
def small (i : Int) : Prop := -(2 ^ 62) ≤ i ∧ i < 2 ^ 62
def wForR (n i : Nat) (wa : WA) (w : WS) : WS := fun env Dv => wa env (fun rs e => ∃ lo hi, rs.length = n ∧ rangeOf rs = some (lo, hi) ∧ small lo ∧ small hi ∧ ∃ (I : Nat → VEnv → Prop) (e0 : VEnv), envLe e0 e ∧ I 0 e0 ∧
  (∀ (k : Nat) e, k < (hi - lo).toNat → I k e → w (e.set i (some (.int (lo + k), mA))) { Dv with nx := fun e2 => ∃ e3, envLe e3 e2 ∧ I (k + 1) e3 }) ∧ (∀ e, I (hi - lo).toNat e → Dv.nx e)) Dv.ex
section
variable {X : Cx} {c : Cn} {W : WX} {pos p cpos ppos : Pos} {wa : WA} {w : WS} {tg : Expr} {body : List Stmt}
theorem rd_forR {i : Nat} {lo : Int} {n : Nat} {I : Nat → VEnv → Prop} {e0 e1 : VEnv} {σ : Sg} {H1 : Hp} {D : Ends} {Dv : DV} {L1 : List (List Addr)} (S1 : Sim c L1 [] e1 σ H1) (le : envLe e0 e1) (i0 : I 0 e0)
    (step : ∀ (k : Nat) e, k < n → I k e → w (e.set i (some (.int (lo + k), mA))) { Dv with nx := fun e2 => ∃ e3, envLe e3 e2 ∧ I (k + 1) e3 }) (last : ∀ e, I n e → Dv.nx e)
    (k : ∀ env' L' σ' H', Dv.nx env' → Sim c L' [] env' σ' H' → D.nx σ' H') (kr : ∀ r v l H' e, Dv.rt r e → Ret c r v l H' e → D.rt v H')
    (kx : ∀ ex env' L' σ' H' cls d, Dv.ex ex env' → Sim c L' [] env' σ' H' → ExR c H' ex cls d → W cls d σ' H') (pf : PinF c [i]) :
    ∃ Wv : Nat → Nat → Sg → Hp → Prop, (∃ m, Wv 0 m σ H1) ∧ ∀ j m σ H, Wv j m σ H → ((Itr lo n).stop j H ∧ D.nx σ H) ∨ ((Itr lo n).go j H ∧ ∃ N : Sg → Hp → Prop, (∀ σ' H', N σ' H' → ∃ m', m' < m ∧ Wv (j + 1) m' σ' H') ∧ ∀ x H', (Itr lo n).yld j H x H' → gName i x σ H' fun σ2 H2 => rdS c W w { D with nx := N, ct := N, bk := D.nx } σ2 H2) := by
  obtain ⟨L0, S0⟩ := S1.lower le
  refine ⟨fun j m σ H => m = n - j ∧ j ≤ n ∧ ∃ e L, Sim c L [] e σ H ∧ I j e, ⟨n, by simp, Nat.zero_le _, e0, L0, S0, i0⟩, ?_⟩
  rintro j m σ2 H2 ⟨rfl, hj, e, L, S, ii⟩
  by_cases hlt : j < n
  · refine .inr ⟨hlt, fun σ' H' => ∃ e L, Sim c L [] e σ' H' ∧ I (j + 1) e, fun σ' H' ⟨e, L, S, ii⟩ => ⟨n - (j + 1), by omega, rfl, hlt, e, L, S, ii⟩, fun y H' hy => ?_⟩
    obtain ⟨rfl, rfl⟩ := hy
    have hr : Res c (L.flatten ++ ([] ++ [])) H' ⟨.int (lo + j), mA⟩ (.int (lo + j)) [] := Res.flat (A := fun _ => True) (.int _) rfl
    obtain ⟨L3, S3, _⟩ := Sim.put (i := i) (Tm := []) (l := []) S hr pf
    refine ⟨_, L3, _, S3, step j e hlt ii, fun env' L' σ' H'' ⟨e3, le3, i3⟩ S' => ?_, kr, kx⟩
    obtain ⟨L4, S4⟩ := S'.lower le3
    exact ⟨e3, L4, S4, i3⟩
  · have e' : j = n := by omega
    subst e'
    exact .inl ⟨Nat.le_refl _, k e L σ2 H2 (last e ii) S⟩
theorem vs_forR1 {i : Nat} {x : Str} {a : Expr} (hp : PassesOwn (model X.prog X.w) X.A X.env X.xe) (hc : X.calm = true) (hm : X.mg "range" = none) (ha : PA X [a] (rdA c W wa)) (hb : PSs X body (rdS c W w)) (hN : X.N.Nodup) (hi : X.N[i]? = some x := by rfl) (hx : Loc X.env.scope x := by first | exact .inl rfl | exact .inr rfl) (hf : X.fn x = true ∨ X.env.scope.names.lookup x = some .local := by first | exact .inl rfl | exact .inr rfl | assumption)
    (hg : Gl X "range" := by rfl) (hs1 : starEach [a] X.env = [(false, eval a X.env)] := by rfl) (hs : ∀ x, foldedSetIterable (.Call (.Name "range" p) [a] [] cpos) X.env x = pure x := by intro _; rfl) (pf : PinF c [i] := by first | exact pinF_nil rfl | exact pinF_one rfl (by decide) | assumption) :
    PS X (.For (.Name x ppos) (.Call (.Name "range" p) [a] [] cpos) body [] pos) (rdS c W (wForR 1 i wa w)) := PS.imp (ps_for hp hc (pi_range1 hg hm ha hs1) (pg_name hN hi hx hf) hb hs) fun D σ H h => by
  obtain ⟨env, L, Dv, S, q, k, kr, kx⟩ := h
  refine rd_args S q kx fun rs vs l L1 e1 H1 ⟨lo, hi, hl, hr, s1, s2, I, e0, le, i0, step, last⟩ S1 hrs => ?_
  obtain ⟨m, rfl, rfl⟩ := range1 hr hl
  obtain ⟨v', e, r⟩ := ress1 hrs
  subst e
  have := r.read
  cases this
  refine ⟨hi, rfl, s2.1, s2.2, ?_⟩
  have e : (hi - 0).toNat = hi.toNat := by rw [Int.sub_zero]
  rw [e] at step last
  exact rd_forR (Sim.drop (Tm := []) (l := l) S1) le i0 step last k kr kx pf
end
end VL
set_option maxRecDepth 100000
set_option maxHeartbeats 4000000
namespace VL
open PySem PySem.Spec PyProof.Rows L2
def bS : Option (D × Md) → Option (D × Md)
  | some (d, .o (some 0)) => some (d, .o (some 0))
  | some (d, .o m) => if flatD d = true then some (d, .o m) else some (d, .b)
  | s => s
def bEnv (e : VEnv) : VEnv := e.map bS
def wipeE (e : VEnv) : List Nat → VEnv
  | [] => e
  | v :: vs => (wipeE e vs).set v none
section
variable {c : Cn} {L : List (List Addr)} {Tm T : List Addr} {env : VEnv} {σ : Sg} {H H1 : Hp}
theorem flatten_nils {α β : Type} (L : List α) : (L.map fun _ => ([] : List β)).flatten = [] := by
  induction L with
  | nil => rfl
  | cons _ _ ih => simpa using ih
theorem Slots.borrow (h : Slots c T H env σ L) : Slots c T H (bEnv env) σ (L.map fun _ => []) := by
  induction h with
  | nil => exact .nil
  | non _ ih => exact .non ih
  | bor r _ ih => exact .bor r ih
  | @own e d m v l σ L r _ ih =>
    have rd : RS c.K (fun _ => True) H v d := RO.share (RO.mono (fun _ _ _ _ => trivial) r) fun _ _ => trivial
    match m, r with
    | some 0, r => exact .own (.sh (RO.zero r)) ih
    | none, r =>
      show Slots c T H ((if flatD d = true then some (d, .o none) else some (d, .b)) :: bEnv e) _ _
      by_cases f : flatD d = true
      · rw [if_pos f]; exact .own (.flat (rd.flat f) f) ih
      · rw [if_neg f]; exact .bor rd ih
    | some (k + 1), r =>
      show Slots c T H ((if flatD d = true then some (d, .o (some (k + 1))) else some (d, .b)) :: bEnv e) _ _
      by_cases f : flatD d = true
      · rw [if_pos f]; exact .own (.flat (rd.flat f) f) ih
      · rw [if_neg f]; exact .bor rd ih
theorem Slots.kill2 {i : Nat} {x : Option V} (h : Slots c T H env σ L) : Slots c T H (env.set i none) (σ.set i x) (L.set i []) := by
  induction h generalizing i with
  | nil => exact .nil
  | non h ih => cases i with
    | zero => exact .non h
    | succ i => exact .non ih
  | bor r h ih => cases i with
    | zero => exact .non h
    | succ i => exact .bor r ih
  | own r h ih => cases i with
    | zero => exact .non h
    | succ i => exact .own r ih
theorem set_nil {α β : Type} (L : List α) (i : Nat) : (L.map fun _ => ([] : List β)).set i [] = L.map fun _ => [] := by
  induction L generalizing i with
  | nil => rfl
  | cons _ _ ih => cases i with
    | zero => rfl
    | succ i => simp [ih]
theorem Slots.wiped (h : Slots c T H env σ (L.map fun _ => [])) : ∀ vs : List Nat, Slots c T H (wipeE env vs) (wipe σ vs) (L.map fun _ => [])
  | [] => h
  | v :: vs => by
    have := (Slots.wiped h vs).kill2 (i := v) (x := none)
    rw [set_nil] at this
    exact this
theorem wipe_get (σ : Sg) (vs : List Nat) (i : Nat) : (wipe σ vs)[i]? = if i ∈ vs then (σ[i]?).map (fun _ => none) else σ[i]? := by
  induction vs with
  | nil => simp [wipe]
  | cons v vs ih =>
    unfold wipe
    rw [List.getElem?_set, ih, wipe_length]
    by_cases e : v = i
    · subst e
      simp only [List.mem_cons, true_or, if_true]
      by_cases h : v < σ.length
      · simp [h]
      · simp [h]
    · rw [if_neg e]
      have : (i ∈ v :: vs) ↔ i ∈ vs := by simp [Ne.symm e]
      simp only [this]
theorem Sim.block {K : List Addr} (S : Sim c L Tm env σ H1) (sm : Same H1 H) (nk : K.Nodup) (hk : ∀ b ∈ K, H1 b = none ∧ ∃ o, H b = some o) (vs : List Nat) (pf : PinF c vs) :
    Sim c (L.map fun _ => []) (L.flatten ++ (Tm ++ K)) (wipeE (bEnv env) vs) (wipe σ vs) H := by
  have S' := (Step.news S sm nk hk).sim
  refine ⟨?_, ?_, fun a ha => S'.own a ?_, S'.fr, fun p hp => (S'.hd p hp).mono fun b o a _ => AT.less (fun b hb => ?_) a, fun p hp => by rw [wipe_get, if_neg (pf p hp)]; exact S.pin p hp⟩
  · rw [flatten_nils, List.nil_append]
    exact (S'.sl.borrow).wiped vs
  · rw [flatten_nils, List.nil_append]; exact S'.nd
  · rw [flatten_nils, List.nil_append] at ha; exact ha
  · rw [flatten_nils, List.nil_append] at hb; exact hb
theorem setAll_len : ∀ (is : List Nat) (xs : List V) (σ : Sg), (setAll σ is xs).length = σ.length
  | [], _, _ => by simp [setAll]
  | i :: is, [], _ => by simp [setAll]
  | i :: is, x :: xs, σ => by simp only [setAll]; rw [setAll_len is xs]; simp
theorem setAll_get {σ : Sg} : ∀ (is : List Nat) (xs : List V) (σ : Sg) (j : Nat), j ∉ is → (setAll σ is xs)[j]? = σ[j]?
  | [], _, _, _, _ => by simp [setAll]
  | i :: is, [], _, _, _ => by simp [setAll]
  | i :: is, x :: xs, σ, j, h => by
    simp only [setAll]
    rw [setAll_get (σ := σ) is xs _ j (fun z => h (List.mem_cons_of_mem _ z)), List.getElem?_set_ne (fun z => h (by simp [z]))]
theorem wipe_setAll {σ : Sg} {is vs : List Nat} {xs : List V} (h : ∀ i ∈ is, i ∈ vs) : wipe (setAll (wipe σ vs) is xs) vs = wipe σ vs := by
  apply List.ext_getElem?
  intro j
  rw [wipe_get, wipe_get]
  by_cases hj : j ∈ vs
  · rw [if_pos hj, if_pos hj]
    have l1 : (setAll (wipe σ vs) is xs).length = σ.length := by rw [setAll_len, wipe_length]
    by_cases hl : j < σ.length
    · rw [List.getElem?_eq_getElem (by omega), List.getElem?_eq_getElem hl]; rfl
    · rw [List.getElem?_eq_none (by omega), List.getElem?_eq_none (by omega)]
  · rw [if_neg hj, if_neg hj, setAll_get (σ := σ) is xs _ j (fun z => hj (h j z)), wipe_get, if_neg hj]
end
abbrev W0 : WX := fun _ _ _ _ => False
def wYes : WT := fun env Q _ => Q true env
section
variable {X : Cx} {c : Cn} {W : WX}
theorem PTs.imp {es : List Expr} {t t' : TT} (h : PTs X es t) (q : ∀ σ H Q, t' σ H Q → t σ H Q) : PTs X es t' := ⟨fun pins s σ H Q I w => h.run pins s σ H Q I (q _ _ _ w)⟩
theorem vts_nil : PTs X [] (rdT c W wYes) := PTs.imp pts_nil fun σ H Q h => by
  obtain ⟨env, L, Tm, Qv, X, S, q, k, _⟩ := h
  exact k true L env H q (Step.refl S)
theorem vts_one {e : Expr} {w : WT} (h : PT X e (rdT c W w)) : PTs X [e] (rdT c W w) := pts_one h
end
def wTurn (wt : WT) (wl : WE) (km : Option Nat) (e : VEnv) (yes : D → Prop) (no : Prop) : Prop :=
  wt e (fun b e2 => if b = true then wl e2 (fun r' _ => kidOk km r' ∧ yes r'.d) (fun _ _ => False) else no) (fun _ _ => False)
structure Acc (c : Cn) (L : List (List Addr)) (Tm : List Addr) (H1 : Hp) (Dn : Addr) (km : Option Nat) (acc : List V) (accD : List D) (lk : List Addr) (H : Hp) : Prop where
  same : Same H1 H
  nd : (Dn :: lk).Nodup
  new : ∀ b ∈ Dn :: lk, H1 b = none ∧ ∃ o, H b = some o
  at_ : H Dn = some (.lst acc)
  kids : ROs c.K (AT c.B (L.flatten ++ (Tm ++ (Dn :: lk)))) H km acc accD lk
section
variable {c : Cn} {L : List (List Addr)} {Tm : List Addr} {env : VEnv} {σ : Sg} {H H1 : Hp} {Dn : Addr} {km : Option Nat} {acc : List V} {accD : List D} {lk : List Addr} {tt : WT} {wl : WE}
theorem Acc.start (S : Sim c L Tm env σ H1) (n : H1 Dn = none) : Acc c L Tm H1 Dn km [] [] [] (upd H1 Dn (.lst [])) :=
  ⟨same_new n, by simp, fun b hb => by simp at hb; subst hb; exact ⟨n, _, upd_same⟩, upd_same, .nil⟩
theorem Acc.sim (A : Acc c L Tm H1 Dn km acc accD lk H) (S : Sim c L Tm env σ H1) (vs : List Nat) (pf : PinF c vs) : Sim c (L.map fun _ => []) (L.flatten ++ (Tm ++ (Dn :: lk))) (wipeE (bEnv env) vs) (wipe σ vs) H := S.block A.same A.nd A.new vs pf
theorem Acc.add {H4 : Hp} {r : R} {y : V} {l : List Addr} {L' : List (List Addr)} {env' : VEnv} {σ' : Sg} (A : Acc c L Tm H1 Dn km acc accD lk H) (S : Sim c L Tm env σ H1)
    (st : Step c H H4 ((L.map fun _ => ([] : List Addr)).flatten ++ (L.flatten ++ (Tm ++ (Dn :: lk)))) (L.flatten ++ (Tm ++ (Dn :: lk))) L' l env' σ') (hr : Res c (L'.flatten ++ ((L.flatten ++ (Tm ++ (Dn :: lk))) ++ l)) H4 r y l) (hk : kidOk km r) :
    H4 Dn = some (.lst acc) ∧ ∃ lk', Acc c L Tm H1 Dn km (acc ++ [y]) (accD ++ [r.d]) lk' (upd H4 Dn (.lst (acc ++ [y]))) := by
  have hD : H4 Dn = some (.lst acc) := st.same _ _ A.at_
  refine ⟨hD, ?_⟩
  have nd4 := st.sim.nd
  rw [← List.append_assoc] at nd4
  have ndl := List.nodup_append.mp nd4
  have fresh : ∀ b ∈ l, H b = none := fun b hb => by
    rcases st.gr b (by simp [hb]) with z | z
    · exact absurd rfl (ndl.2.2 b (by rw [flatten_nils, List.nil_append] at z; exact List.mem_append_right _ z) b hb)
    · exact z
  have own4 : ∀ b ∈ l, c.B b := fun b hb => .inr (st.sim.own b (by simp [hb])).1
  have item : ∃ kk : List Addr, kk.Sublist l ∧ RO c.K (AT c.B (L.flatten ++ (Tm ++ (Dn :: (lk ++ kk))))) H4 km y r.d kk := by
    rcases hk with f | ⟨m, e, q⟩
    · exact ⟨[], List.nil_sublist _, .flat (hr.read.flat f) f⟩
    · obtain ⟨d, m'⟩ := r
      cases e
      obtain ⟨kk, ks, kq⟩ := RO.lower hr.dep q ndl.2.1 own4
      refine ⟨kk, ks, kq _ (fun b hb => ?_) fun b hb hb' => ?_⟩
      · simp only [List.mem_append, List.mem_cons] at hb ⊢
        rcases hb with z | z | z | z | z
        · exact .inr (.inl (.inl z))
        · exact .inr (.inl (.inr (.inl z)))
        · exact .inr (.inl (.inr (.inr (.inl z))))
        · exact .inr (.inl (.inr (.inr (.inr z))))
        · exact .inr (.inr (ks.subset z))
      · simp only [List.mem_append, List.mem_cons] at hb'
        have no : ∀ {P : Prop}, b ∈ L.flatten ++ (Tm ++ (Dn :: lk)) → P := fun z => absurd rfl (ndl.2.2 b (List.mem_append_right _ z) b hb)
        rcases hb' with z | z | z | z | z
        · exact no (List.mem_append_left _ z)
        · exact no (by simp [z])
        · exact no (by simp [z])
        · exact no (by simp [z])
        · exact z
  obtain ⟨kk, ks, ki⟩ := item
  have kkl : ∀ b ∈ kk, H b = none := fun b hb => fresh b (ks.subset hb)
  have ndn : (Dn :: (lk ++ kk)).Nodup := by
    rw [← List.cons_append]
    refine List.nodup_append.mpr ⟨A.nd, ndl.2.1.sublist ks, fun b hb b' hb' z => ?_⟩
    subst z
    obtain ⟨_, o, e⟩ := A.new b hb
    rw [kkl b hb'] at e; cases e
  have ndn' := List.nodup_cons.mp ndn
  have grow : ∀ b ∈ L.flatten ++ (Tm ++ (Dn :: (lk ++ kk))), b ∈ L.flatten ++ (Tm ++ (Dn :: lk)) ∨ H b = none := fun b hb => by
    simp only [List.mem_append, List.mem_cons] at hb ⊢
    rcases hb with z | z | z | z | z
    · exact .inl (.inl z)
    · exact .inl (.inr (.inl z))
    · exact .inl (.inr (.inr (.inl z)))
    · exact .inl (.inr (.inr (.inr z)))
    · exact .inr (kkl b z)
  have DT : Dn ∈ L.flatten ++ (Tm ++ (Dn :: (lk ++ kk))) := by simp
  have kp : Kp (AT c.B (L.flatten ++ (Tm ++ (Dn :: (lk ++ kk))))) H4 (upd H4 Dn (.lst (acc ++ [y]))) := Kp.write hD trivial fun z => z.2 DT
  have ne : ∀ b ∈ lk ++ kk, ∀ o, H4 b = some o → (upd H4 Dn (.lst (acc ++ [y]))) b = some o := fun b hb o q => by
    rw [upd_ne (fun z => by subst z; exact ndn'.1 hb)]; exact q
  have hn : H1 Dn = none := (A.new Dn List.mem_cons_self).1
  refine ⟨lk ++ kk, fun b o e => ?_, ndn, fun b hb => ?_, upd_same, ?_⟩
  · rw [upd_ne (ne_of_none e hn)]; exact st.same _ _ (A.same _ _ e)
  · rcases List.mem_cons.mp hb with z | z
    · subst z; exact ⟨hn, _, upd_same⟩
    · rcases List.mem_append.mp z with y' | y'
      · obtain ⟨n, o, e⟩ := A.new b (List.mem_cons_of_mem _ y')
        exact ⟨n, o, ne b z o (st.same _ _ e)⟩
      · obtain ⟨_, o, e⟩ := st.sim.own b (by simp [ks.subset y'])
        exact ⟨A.same.free (kkl b y'), o, ne b z o e⟩
  · have k1 := ROs.keepT A.kids st.same grow
    have k2 := k1.keep kp fun b hb => ne b (List.mem_append_left _ hb)
    have k3 := ki.keep kp fun b hb => ne b (List.mem_append_right _ hb)
    have := ROs.append k2 (.cons k3 .nil)
    simpa using this
theorem Acc.skip {H3 : Hp} {l : List Addr} {L' : List (List Addr)} {env' : VEnv} {σ' : Sg} (A : Acc c L Tm H1 Dn km acc accD lk H)
    (st : Step c H H3 ((L.map fun _ => ([] : List Addr)).flatten ++ (L.flatten ++ (Tm ++ (Dn :: lk)))) (L.flatten ++ (Tm ++ (Dn :: lk))) L' l env' σ') : Acc c L Tm H1 Dn km acc accD lk H3 :=
  ⟨A.same.trans st.same, A.nd, fun b hb => let ⟨n, o, e⟩ := A.new b hb; ⟨n, o, st.same _ _ e⟩, st.same _ _ A.at_, ROs.keepT A.kids st.same fun b hb => .inl hb⟩
theorem Acc.done {Qv : R → VEnv → Prop} {Q : VK} {Hs : Hp} {Ls : List (List Addr)} {la : List Addr} (A : Acc c L Tm H1 Dn km acc accD lk H) (st : Step c Hs H1 (Ls.flatten ++ Tm) Tm L la env σ) (k : Kont c σ Ls Tm Hs Qv Q) (q : Qv ⟨.list accD, .o (succM km)⟩ env) : Q (.ref Dn) H := by
  have S : Sim c L Tm env σ H1 := st.sim0
  have st2 := Step.news S A.same A.nd A.new
  refine k _ _ (Dn :: lk) L env H q (Step.then st (st2.wider fun b hb => by rw [← List.append_assoc]; exact List.mem_append_left _ hb)) ?_
  exact RO.lst (pop_succ km) A.at_ A.kids
theorem turn_run {is vs : List Nat} {rs : List R} {xs : List V} {yes : D → Prop} {no : Prop} {t : TG} {x : V} {Nx : Hp → Prop} (A : Acc c L Tm H1 Dn km acc accD lk H) (S : Sim c L Tm env σ H1) (his : ∀ i ∈ is, i ∈ vs) (pf : PinF c vs)
    (rr : Ress c ((L.map fun _ => ([] : List Addr)).flatten ++ (L.flatten ++ (Tm ++ (Dn :: lk)))) H rs xs []) (go : ∀ σ Q, Q (setAll σ is xs) H → t x σ H Q) (hz : acc.length < 1000000)
    (hw : wTurn tt wl km (putAll (wipeE (bEnv env) vs) is rs) yes no) (hy : ∀ y d lk' H', yes d → Acc c L Tm H1 Dn km (acc ++ [y]) (accD ++ [d]) lk' H' → Nx H') (hn : ∀ H', no → Acc c L Tm H1 Dn km acc accD lk H' → Nx H') :
    t x (wipe σ vs) H fun σ2 H2 => wipe σ2 vs = wipe σ vs ∧ rdT c W0 tt σ2 H2 fun b H3 =>
      if b = true then rdE c W0 wl σ2 H3 fun y H4 => ∃ acc', H4 Dn = some (.lst acc') ∧ acc'.length < sizeLine ∧ Nx (upd H4 Dn (.lst (acc' ++ [y]))) else Nx H3 := by
  refine go _ _ ⟨wipe_setAll his, ?_⟩
  have B := A.sim S vs pf
  obtain ⟨L2, S2, g2⟩ := Sim.putAllG (is := is) (Tm := L.flatten ++ (Tm ++ (Dn :: lk))) (l := []) rr (by simpa using B) (fun b hb => by simpa using hb) (pf.sub his)
  have stA : Step c H H ((L.map fun _ => ([] : List Addr)).flatten ++ (L.flatten ++ (Tm ++ (Dn :: lk)))) (L.flatten ++ (Tm ++ (Dn :: lk))) L2 [] (putAll (wipeE (bEnv env) vs) is rs) (setAll (wipe σ vs) is xs) :=
    ⟨Same.refl H, by simpa using S2, fun b hb => .inl (by simpa using g2 b (by simpa using hb))⟩
  refine ⟨_, L2, _, _, _, S2, hw, fun b L3 e3 H3 h3 st3 => ?_, fun ex cls d L' env' H' hx _ _ => hx.elim⟩
  have st13 := Step.then stA (st3.wider fun b hb => by simpa using hb)
  cases b with
  | false => exact hn H3 h3 (A.skip st13)
  | true =>
    refine ⟨e3, L3, _, _, _, st3.sim0, h3, fun r y l L4 e4 H4 ⟨hk, h4⟩ st4 hr => ?_, fun ex cls d L' env' H' hx _ _ => hx.elim⟩
    have st14 := Step.then st13 (st4.wider fun b hb => by simpa using hb)
    obtain ⟨h5, lk', A5⟩ := A.add S st14 hr hk
    exact ⟨acc, h5, line_big hz, hy y r.d lk' _ h4 A5⟩
end
end VL
set_option maxRecDepth 100000
set_option maxHeartbeats 4000000
namespace VL
open PySem PySem.Spec PyProof.Rows L2
def wLc (vs : List Nat) (g : Tg) (we : WE) (tt : WT) (wl : WE) : WE := fun env Q X => we env (fun r e => ∃ ds, seqOf r.d = some ds ∧ ds.length ≤ 1000000 ∧ ∃ (km : Option Nat) (I : Nat → List D → Prop), I 0 [] ∧
  (∀ i d acc, ds[i]? = some d → I i acc → ∃ rs, g.f (itemR r.m d) = some rs ∧ acc.length ≤ i ∧ wTurn tt wl km (putAll (wipeE (bEnv e) vs) g.is rs) (fun y => I (i + 1) (acc ++ [y])) (I (i + 1) acc)) ∧
  (∀ acc, I ds.length acc → Q ⟨.list acc, .o (succM km)⟩ e)) X
def wLcR (n : Nat) (vs : List Nat) (i : Nat) (wa : WA) (tt : WT) (wl : WE) : WE := fun env Q X => wa env (fun rs e => ∃ lo hi, rs.length = n ∧ rangeOf rs = some (lo, hi) ∧ small lo ∧ small hi ∧ hi - lo ≤ 1000000 ∧ ∃ (km : Option Nat) (I : Nat → List D → Prop), I 0 [] ∧
  (∀ (k : Nat) acc, k < (hi - lo).toNat → I k acc → acc.length ≤ k ∧ wTurn tt wl km ((wipeE (bEnv e) vs).set i (some (.int (lo + k), mA))) (fun y => I (k + 1) (acc ++ [y])) (I (k + 1) acc)) ∧
  (∀ acc, I (hi - lo).toNat acc → Q ⟨.list acc, .o (succM km)⟩ e)) X
abbrev RunTg (K : PySem.W.Frag) (g : Tg) (t : TG) : Prop := ∀ (c : Cn) (T : List Addr) (H : Hp) (r : R) (v : V) (l : List Addr) (rs : List R), c.K = K → Res c T H r v l → g.f r = some rs →
    ∃ vs l', l'.Sublist l ∧ Ress c T H rs vs l' ∧ vs.length = g.is.length ∧ ∀ σ Q, Q (setAll σ g.is vs) H → t v σ H Q
theorem run_name {K : PySem.W.Frag} {i : Nat} : RunTg K (tgN i) (gName i) := fun c T H r v l rs _ hr e => by
  cases e
  exact ⟨[v], l, List.Sublist.refl _, by simpa using Ress.cons hr .nil, rfl, fun σ Q q => q⟩
def gAll : List Nat → TGs
  | [] => gNil
  | i :: is => gCons (gName i) (gAll is)
theorem gAll_run : ∀ {is : List Nat} {vs : List V} {σ : Sg} {H : Hp} {Q : Sg → Hp → Prop}, vs.length = is.length → Q (setAll σ is vs) H → gAll is vs σ H Q
  | [], [], _, _, _, _, q => ⟨rfl, q⟩
  | [], _ :: _, _, _, _, hl, _ => by cases hl
  | _ :: _, [], _, _, _, hl, _ => by cases hl
  | i :: is, v :: vs, σ, H, Q, hl, q => ⟨v, vs, rfl, gAll_run (by simpa using hl) q⟩
theorem run_tup {K : PySem.W.Frag} {is : List Nat} : RunTg K (tgT is) (gTup K is.length (gAll is)) := fun c T H r v l rs hK hr e => by
  obtain ⟨d, m⟩ := r
  unfold tgT at e
  simp only at e
  split at e
  · rename_i ds
    split at e
    · rename_i hl
      cases e
      obtain ⟨a, xs, l', rfl, ha, s, rs⟩ := Res.items (ds := ds) (m := m) hr
      have lx : xs.length = ds.length := by rw [← rs.len, List.length_map]
      exact ⟨xs, l', s, rs, by rw [lx]; exact hl, fun σ Q q => ⟨a, xs, rfl, SqT.of ha, by rw [lx]; exact hl, gAll_run (by rw [lx]; exact hl) q⟩⟩
    · cases e
  · cases e
section
variable {X : Cx} {c : Cn} {W : WX} {we wl : WE} {tt : WT} {g : Tg} {vs : List Nat}
theorem rd_lc {K : PySem.W.Frag} {t : TG} (hK : c.K = K) (run : RunTg K g t) (his : ∀ i ∈ g.is, i ∈ vs) (pf : PinF c vs) {σ : Sg} {H : Hp} {Q : VK} (h : rdE c W (wLc vs g we tt wl) σ H Q) : tLc (iSeq K (rdE c W we)) t (rdT c W0 tt) (rdE c W0 wl) vs σ H Q := by
  obtain ⟨env, L, Tm, Qv, X, S, q, k, kx⟩ := h
  refine ⟨env, L, Tm, _, X, S, q, fun r v l L1 e1 H1 ⟨ds, hd, hlen, km, I, i0, step, last⟩ st hr => ?_, kx⟩
  have S1 : Sim c L1 Tm e1 σ H1 := st.sim0
  have rd := hr.read
  have item : ∀ {H' : Hp} {K' : List Addr} {x : V} {d : D} {xs : List V} {a : Addr} {i : Nat}, Same H1 H' → (∀ b ∈ K', H1 b = none) → v = .ref a → (H1 a = some (.lst xs) ∧ r.d = .list ds ∨ H1 a = some (.tup xs) ∧ r.d = .tuple ds) → ds[i]? = some d → xs[i]? = some x → Res c ((L1.map fun _ => ([] : List Addr)).flatten ++ (L1.flatten ++ (Tm ++ K'))) H' (itemR r.m d) x [] := by
    intro H' K' x d xs a i sm hk ev ha hdi hx
    rw [flatten_nils, List.nil_append]
    obtain ⟨dd, m⟩ := r
    have kid : ∀ {A : Addr → Prop}, RS c.K A H1 v dd → RS c.K A H1 x d := fun {A} h => by
      subst ev
      rcases ha with ⟨ha, e⟩ | ⟨ha, e⟩
      · simp only at e; subst e
        obtain ⟨a', xs', ea, ha', _, r'⟩ := h.lst_inv
        cases ea
        rw [ha] at ha'; cases ha'
        obtain ⟨x', hx', rx⟩ := r'.get hdi
        rw [hx] at hx'; cases hx'
        exact rx
      · simp only at e; subst e
        obtain ⟨a', xs', ea, ha', r'⟩ := h.tup_inv
        cases ea
        rw [ha] at ha'; cases ha'
        obtain ⟨x', hx', rx⟩ := r'.get hdi
        rw [hx] at hx'; cases hx'
        exact rx
    unfold itemR
    by_cases f : flatD d = true
    · rw [if_pos f]; exact Res.flat ((kid rd).keep (Kp.same sm)) f
    · rw [if_neg f]
      cases m with
      | b => exact ⟨(kid rd).keep (Kp.same sm), rfl⟩
      | o m =>
        have sh := Res.shared (r := ⟨dd, .o m⟩) hr rfl st.sim (fun b hb => hb)
        refine RO.sh (((kid sh).mono fun b o a e => ⟨a.1, fun z => ?_⟩).keep (Kp.same sm))
        rw [← List.append_assoc] at z
        rcases List.mem_append.mp z with z | z
        · exact a.2 z
        · rw [hk b z] at e; cases e
  have go : ∀ (J : It) (xs : List V) (a : Addr), v = .ref a → (H1 a = some (.lst xs) ∧ r.d = .list ds ∨ H1 a = some (.tup xs) ∧ r.d = .tuple ds) → (∀ H', Same H1 H' → Walked J xs H') → xs.length = ds.length →
      ∀ Dn, H1 Dn = none → ∃ Wv : Nat → Nat → Hp → Prop, (∃ m, Wv 0 m (upd H1 Dn (.lst []))) ∧ ∀ i m H, Wv i m H →
        (J.stop i H ∧ Q (.ref Dn) H) ∨ (J.go i H ∧ ∃ Nx : Hp → Prop, (∀ H', Nx H' → ∃ m', m' < m ∧ Wv (i + 1) m' H') ∧ ∀ x H', J.yld i H x H' → t x (wipe σ vs) H' fun σ2 H2 => wipe σ2 vs = wipe σ vs ∧ rdT c W0 tt σ2 H2 fun b H3 =>
          if b = true then rdE c W0 wl σ2 H3 fun y H4 => ∃ acc, H4 Dn = some (.lst acc) ∧ acc.length < sizeLine ∧ Nx (upd H4 Dn (.lst (acc ++ [y]))) else Nx H3) := by
    intro J xs a ev ha wk hl Dn nD
    refine ⟨fun i m H => m = ds.length - i ∧ i ≤ ds.length ∧ ∃ acc accD lk, Acc c L1 Tm H1 Dn km acc accD lk H ∧ I i accD, ⟨ds.length, by simp, Nat.zero_le _, [], [], [], Acc.start S1 nD, i0⟩, ?_⟩
    rintro i m H2 ⟨rfl, hi, acc, accD, lk, A, ii⟩
    have wk2 := wk H2 A.same
    by_cases hlt : i < ds.length
    · obtain ⟨x, hx⟩ : ∃ x, xs[i]? = some x := ⟨xs[i], List.getElem?_eq_getElem (by omega)⟩
      refine .inr ⟨wk2.go i x hx, fun H' => ∃ acc accD lk, Acc c L1 Tm H1 Dn km acc accD lk H' ∧ I (i + 1) accD, fun H' ⟨acc, accD, lk, A, ii⟩ => ⟨ds.length - (i + 1), by omega, rfl, hlt, acc, accD, lk, A, ii⟩, fun y H' hy => ?_⟩
      obtain ⟨rfl, rfl⟩ := wk2.yld i x y H' hx hy
      obtain ⟨rs, hq, hle, hw⟩ := step i _ accD (List.getElem?_eq_getElem hlt) ii
      have it := item (K' := Dn :: lk) A.same (fun b hb => (A.new b hb).1) ev ha (List.getElem?_eq_getElem hlt) hx
      obtain ⟨xs', l', s, rr, hl', gg⟩ := run c _ H' _ y _ rs hK it hq
      have el : l' = [] := List.sublist_nil.mp s
      subst el
      have la : acc.length = accD.length := A.kids.len
      exact turn_run A S1 his pf rr gg (by omega) hw (fun y d lk' H' hy A' => ⟨_, _, lk', A', hy⟩) fun H' hn A' => ⟨_, _, _, A', hn⟩
    · have e' : i = ds.length := by omega
      subst e'
      exact .inl ⟨wk2.stop _ (by omega), A.done st k (last accD ii)⟩
  obtain ⟨a, xs, ev, rs, hk⟩ := seq_run rd hd
  subst ev
  rcases hk with ⟨hd2, ha⟩ | ⟨hd2, ha⟩
  · exact ⟨a, rfl, .inl ⟨⟨xs, SqL.of ha⟩, go _ xs a rfl (.inl ⟨ha, hd2⟩) (fun H' sm => walked_l (sm _ _ ha)) rs.len⟩⟩
  · exact ⟨a, rfl, .inr ⟨⟨xs, SqT.of ha⟩, go _ xs a rfl (.inr ⟨ha, hd2⟩) (fun H' sm => walked_t (sm _ _ ha)) rs.len⟩⟩
theorem rd_lcR {n i : Nat} {wa : WA} {Q : VK} (his : i ∈ vs) (pf : PinF c vs) {σ : Sg} {H : Hp} {lo hi : Int} {km : Option Nat} {I : Nat → List D → Prop} {L L1 : List (List Addr)} {Tm la : List Addr} {e1 : VEnv} {H1 : Hp} {Qv : R → VEnv → Prop} (st : Step c H H1 (L.flatten ++ Tm) Tm L1 la e1 σ) (k : Kont c σ L Tm H Qv Q)
    (hsm : hi - lo ≤ 1000000) (i0 : I 0 []) (step : ∀ (k : Nat) acc, k < (hi - lo).toNat → I k acc → acc.length ≤ k ∧ wTurn tt wl km ((wipeE (bEnv e1) vs).set i (some (.int (lo + k), mA))) (fun y => I (k + 1) (acc ++ [y])) (I (k + 1) acc))
    (last : ∀ acc, I (hi - lo).toNat acc → Qv ⟨.list acc, .o (succM km)⟩ e1) : ∀ Dn, H1 Dn = none → ∃ Wv : Nat → Nat → Hp → Prop, (∃ m, Wv 0 m (upd H1 Dn (.lst []))) ∧ ∀ j m H, Wv j m H →
        ((Itr lo (hi - lo).toNat).stop j H ∧ Q (.ref Dn) H) ∨ ((Itr lo (hi - lo).toNat).go j H ∧ ∃ Nx : Hp → Prop, (∀ H', Nx H' → ∃ m', m' < m ∧ Wv (j + 1) m' H') ∧ ∀ x H', (Itr lo (hi - lo).toNat).yld j H x H' → gName i x (wipe σ vs) H' fun σ2 H2 => wipe σ2 vs = wipe σ vs ∧ rdT c W0 tt σ2 H2 fun b H3 =>
          if b = true then rdE c W0 wl σ2 H3 fun y H4 => ∃ acc, H4 Dn = some (.lst acc) ∧ acc.length < sizeLine ∧ Nx (upd H4 Dn (.lst (acc ++ [y]))) else Nx H3) := by
  have S1 : Sim c L1 Tm e1 σ H1 := st.sim0
  intro Dn nD
  refine ⟨fun j m H => m = (hi - lo).toNat - j ∧ j ≤ (hi - lo).toNat ∧ ∃ acc accD lk, Acc c L1 Tm H1 Dn km acc accD lk H ∧ I j accD, ⟨_, rfl, Nat.zero_le _, [], [], [], Acc.start S1 nD, i0⟩, ?_⟩
  rintro j m H2 ⟨rfl, hj, acc, accD, lk, A, ii⟩
  by_cases hlt : j < (hi - lo).toNat
  · refine .inr ⟨hlt, fun H' => ∃ acc accD lk, Acc c L1 Tm H1 Dn km acc accD lk H' ∧ I (j + 1) accD, fun H' ⟨acc, accD, lk, A, ii⟩ => ⟨(hi - lo).toNat - (j + 1), by omega, rfl, hlt, acc, accD, lk, A, ii⟩, fun y H' hy => ?_⟩
    obtain ⟨rfl, rfl⟩ := hy
    obtain ⟨hle, hw⟩ := step j accD hlt ii
    have rr : Ress c ((L1.map fun _ => ([] : List Addr)).flatten ++ (L1.flatten ++ (Tm ++ (Dn :: lk)))) H' [⟨.int (lo + j), mA⟩] [.int (lo + j)] [] := .cons (l1 := []) (l2 := []) (Res.flat (A := fun _ => True) (.int _) rfl) .nil
    have la : acc.length = accD.length := A.kids.len
    exact turn_run (is := [i]) A S1 (by simpa using his) pf rr (fun σ Q q => q) (by omega) hw (fun y d lk' H' hy A' => ⟨_, _, lk', A', hy⟩) fun H' hn A' => ⟨_, _, _, A', hn⟩
  · have e' : j = (hi - lo).toNat := by omega
    subst e'
    exact .inl ⟨Nat.le_refl _, A.done st k (last accD ii)⟩
end
abbrev Blk (X : Cx) (scope : Scope) (P : Cx → Prop) : Prop := ∀ (s : Shared) (H : Hp) (C : Addr) (cl : List (Str × Addr)) (fp : List Addr), P (X.blk s H scope (compEnvC scope cl C X.env) fp)
section
variable {X : Cx} {c : Cn} {W : WX} {we wl : WE} {wa : WA} {tt : WT} {tg iter elt : Expr} {ifs : List Expr} {scope : Scope} {own : List (Str × Nat)} {pos : Pos}
theorem rd_lcR1 {i : Nat} (his : i ∈ own.map (·.2)) (pf : PinF c (own.map (·.2))) {σ : Sg} {H : Hp} {Q : VK} (h : rdE c W (wLcR 1 (own.map (·.2)) i wa tt wl) σ H Q) : tLc (iRng1 (rdA c W wa)) (gName i) (rdT c W0 tt) (rdE c W0 wl) (own.map (·.2)) σ H Q := by
  obtain ⟨env, L, Tm, Qv, X, S, q, k, kx⟩ := h
  refine ⟨env, L, Tm, _, X, S, q, fun rs vs l L1 e1 H1 ⟨lo, hi, hl, hr, s1, s2, hsm, km, I, i0, step, last⟩ st hrs => ?_, kx⟩
  obtain ⟨m, rfl, rfl⟩ := range1 hr hl
  obtain ⟨v', e, r⟩ := ress1 hrs
  subst e
  have := r.read
  cases this
  refine ⟨hi, rfl, s2.1, s2.2, ?_⟩
  have := rd_lcR (n := 1) (wa := wa) his pf st k hsm i0 step last
  have e : (hi - 0).toNat = hi.toNat := by rw [Int.sub_zero]
  rw [e] at this
  exact this
theorem ve_lcR1 {i : Nat} {a : Expr} {p cpos : Pos} (hc : X.calm = true) (hN : X.N.Nodup) (own : List (Str × Nat)) (hm : X.mg "range" = none) (ha : PA X [a] (rdA c W wa)) (hg : Blk X scope fun Y => PG Y tg (gName i)) (ht : Blk X scope fun Y => PTs Y ifs (rdT c W0 tt)) (he : Blk X scope fun Y => PE Y elt (rdE c W0 wl))
    (hgl : Gl X "range" := by rfl) (hs1 : starEach [a] X.env = [(false, eval a X.env)] := by rfl) (ok : BlkOk X.N X.env.scope scope own := by first | exact blkOk_by (by decide +kernel) | exact blkOk_by (by rfl) | exact blkOk_by (by with_unfolding_all rfl)) (his : i ∈ own.map (·.2) := by decide) (hs : ∀ x, foldedSetIterable (.Call (.Name "range" p) [a] [] cpos) X.env x = pure x := by intro _; rfl) (pf : PinF c (own.map (·.2)) := by first | exact pinF_nil rfl | exact pinF_one rfl (by decide) | assumption) :
    PE X (.ListComp elt [⟨tg, .Call (.Name "range" p) [a] [] cpos, ifs, 0⟩] scope pos) (rdE c W (wLcR 1 (own.map (·.2)) i wa tt wl)) :=
  PE.imp (pe_lc hc hN (pi_range1 hgl hm ha hs1) ok hg ht he hs) fun σ H Q => rd_lcR1 his pf
theorem rd_setPE {i : Nat} {σ : Sg} {H : Hp} {D : Ends} {t : TE} {w : WE} (ht : ∀ σ H Q, rdE c W w σ H Q → t σ H Q) (pf : PinF c [i]) (h : rdS c W (wSet i w) D σ H) : tAsg t (gName i) D σ H := by
  obtain ⟨env, L, Dv, S, q, k, kr, kx⟩ := h
  refine ht _ _ _ (rd_first S q kx fun r v l L' env' H' hq S' hr => ?_)
  obtain ⟨L2, S2, _⟩ := Sim.put (Tm := []) (i := i) (l := l) (r := r) S' hr pf
  exact k _ L2 _ H' hq S2
theorem vs_setLcN {i n : Nat} {y : Str} {py spos : Pos} (hc : X.calm = true) (hN : X.N.Nodup) (own : List (Str × Nat)) (hi : PE X iter (rdE c W we)) (hg : Blk X scope fun Y => PG Y tg (gName i)) (ht : Blk X scope fun Y => PTs Y ifs (rdT c W0 tt)) (he : Blk X scope fun Y => PE Y elt (rdE c W0 wl))
    (hy : X.N[n]? = some y := by rfl) (hyl : X.env.scope.names.lookup y = some .local := by rfl) (hsw : swapsWith (.ListComp elt [⟨tg, iter, ifs, 0⟩] scope pos) (some (.Name y py)) spos.line X.env = pure true := by exact sw_true rfl rfl rfl (by decide +kernel))
    (ok : BlkOk X.N X.env.scope scope own := by first | exact blkOk_by (by decide +kernel) | exact blkOk_by (by rfl) | exact blkOk_by (by with_unfolding_all rfl)) (his : i ∈ own.map (·.2) := by decide) (hK : c.K = X.K := by rfl) (hs : ∀ x, foldedSetIterable iter X.env x = pure x := by intro _; rfl) (pf : PinF c (own.map (·.2)) := by first | exact pinF_nil rfl | exact pinF_one rfl (by decide) | assumption) (pn : PinF c [n] := by first | exact pinF_nil rfl | exact pinF_one rfl (by decide) | assumption) :
    PS X (.Assign [.Name y py] (.ListComp elt [⟨tg, iter, ifs, 0⟩] scope pos) spos) (rdS c W (wSet n (wLc (own.map (·.2)) (tgN i) we tt wl))) :=
  PS.imp (ps_setLc hc hN hy hyl hsw (pi_seq hi) ok hg ht he hs) fun D σ H => rd_setPE (fun σ H Q => rd_lc hK run_name (by simpa [tgN] using his) pf) pn
theorem vs_setLcR1 {i n : Nat} {y : Str} {py spos : Pos} {a : Expr} {p cpos : Pos} (hc : X.calm = true) (hN : X.N.Nodup) (own : List (Str × Nat)) (hm : X.mg "range" = none) (ha : PA X [a] (rdA c W wa)) (hg : Blk X scope fun Y => PG Y tg (gName i)) (ht : Blk X scope fun Y => PTs Y ifs (rdT c W0 tt)) (he : Blk X scope fun Y => PE Y elt (rdE c W0 wl))
    (hy : X.N[n]? = some y := by rfl) (hyl : X.env.scope.names.lookup y = some .local := by rfl) (hsw : swapsWith (.ListComp elt [⟨tg, .Call (.Name "range" p) [a] [] cpos, ifs, 0⟩] scope pos) (some (.Name y py)) spos.line X.env = pure true := by exact sw_true rfl rfl rfl (by decide +kernel))
    (hgl : Gl X "range" := by rfl) (hs1 : starEach [a] X.env = [(false, eval a X.env)] := by rfl) (ok : BlkOk X.N X.env.scope scope own := by first | exact blkOk_by (by decide +kernel) | exact blkOk_by (by rfl) | exact blkOk_by (by with_unfolding_all rfl)) (his : i ∈ own.map (·.2) := by decide) (hs : ∀ x, foldedSetIterable (.Call (.Name "range" p) [a] [] cpos) X.env x = pure x := by intro _; rfl) (pf : PinF c (own.map (·.2)) := by first | exact pinF_nil rfl | exact pinF_one rfl (by decide) | assumption) (pn : PinF c [n] := by first | exact pinF_nil rfl | exact pinF_one rfl (by decide) | assumption) :
    PS X (.Assign [.Name y py] (.ListComp elt [⟨tg, .Call (.Name "range" p) [a] [] cpos, ifs, 0⟩] scope pos) spos) (rdS c W (wSet n (wLcR 1 (own.map (·.2)) i wa tt wl))) :=
  PS.imp (ps_setLc hc hN hy hyl hsw (pi_range1 hgl hm ha hs1) ok hg ht he hs) fun D σ H => rd_setPE (fun σ H Q => rd_lcR1 his pf) pn
end
end VL
set_option maxRecDepth 100000
set_option maxHeartbeats 4000000
namespace VL
open PySem PySem.Spec PyProof.Rows L2
def argS (d : D) : Option (D × Md) := some (d, if flatD d = true then mA else mS)
def startE (N : List Str) (ds : List D) : VEnv := ds.map argS ++ List.replicate (N.length - ds.length) none
abbrev cnOf (K : PySem.W.Frag) (cl : Str → Option Addr) (P0 : Addr → Prop) (H : Hp) : Cn := ⟨K, P0, H, [], cl, [], []⟩
abbrev WXE (E : XK) : WX := fun cls d _ H => E cls d H
theorem start_sim {K : PySem.W.Frag} {cl : Str → Option Addr} {P0 : Addr → Prop} {H : Hp} {vs : List V} {ds : List D} {N : List Str} (r : RSs K P0 H vs ds) : ∃ L, Sim (cnOf K cl P0 H) L [] (startE N ds) (L2.start N vs) H := by
  have tail : ∀ n : Nat, ∀ T, Slots (cnOf K cl P0 H) T H (List.replicate n none) (List.replicate n none) (List.replicate n []) := by
    intro n T
    induction n with
    | zero => exact .nil
    | succ n ih => exact .non ih
  have hl := r.len
  have rep : ∀ n : Nat, (List.replicate n ([] : List Addr)).flatten = [] := by intro n; induction n with
    | zero => rfl
    | succ n ih => simpa [List.replicate_succ] using ih
  have body : ∀ {vs : List V} {ds : List D} (n : Nat), RSs K P0 H vs ds → Slots (cnOf K cl P0 H) [] H (ds.map argS ++ List.replicate n none) (vs.map some ++ List.replicate n none) (List.replicate ds.length [] ++ List.replicate n []) := by
    intro vs ds n r
    induction vs generalizing ds with
    | nil => cases r; simpa using tail n []
    | cons v vs ih =>
      cases r with
      | @cons _ _ d ds h r =>
        have ih' := ih r
        simp only [List.map_cons, List.cons_append, List.length_cons, List.replicate_succ]
        unfold argS
        by_cases f : flatD d = true
        · rw [if_pos f]; exact .own (.flat (h.flat f) f) ih'
        · rw [if_neg f]
          exact .own (.sh (h.mono fun b o a _ => ⟨.inl a, by simp⟩)) ih'
  have fl : (List.replicate ds.length ([] : List Addr) ++ List.replicate (N.length - ds.length) []).flatten = [] := by
    rw [List.flatten_append, rep, rep]; rfl
  refine ⟨List.replicate ds.length [] ++ List.replicate (N.length - ds.length) [], ?_, by rw [fl]; simp, fun a ha => by rw [fl] at ha; simp at ha, fun b o e _ => e, fun p hp => (by cases hp), fun p hp => (by cases hp)⟩
  rw [fl]
  have := body (N.length - ds.length) r
  unfold startE L2.start
  rw [hl]
  exact this
abbrev cxV (P : Program) (w : World) (K : PySem.W.Frag) (mg : Str → Option Value) (base : Heap) (N : List Str) (x : Str) (st : Stmt) (f : Addr) (cdv : Value) (A : Around) (outer : List Env) (s : Shared) (H : Hp) (E : XK) : Cx := cxOf (L2.CX P w) P w K mg base N x (defScope st) f cdv A outer s H E
section
variable {P : Program} {w : World} {K : PySem.W.Frag} {mg : Str → Option Value} {base : Heap} {cl : Str → Option Addr}
end
structure Err (K : PySem.W.Frag) (mg : Str → Option Value) (cl : Str → Option Addr) (x : Str) (C : Addr) : Prop where
  at_ : cl x = some C
  gC : mg x = some (.ref C)
  xP : PySem.W.excIn K C [.type "ValueError", .type "Exception", .type "BaseException", .type "object"] "ValueError.__new__" = true
  kP : PySem.W.keepIn K (.ref C) = true
  bP : PySem.W.subIn K (.ref C) (.type "BaseException") = some true
  tP : PySem.W.typeIn K (.ref C) = some (.type "type")
def wRaise (x : Str) : WS := fun env Dv => Dv.ex ⟨x, none⟩ env
section
variable {X : Cx} {c : Cn} {W : WX} {pos p p2 pos2 : Pos} {x m : Str} {j : Nat} {C : Addr}
theorem vs_raise (T : Err X.K X.mg c.cl x C) (hc : X.calm = true) (tk : Takes X W) (hg : Gl X x := by rfl) (hdb : (x == ("__debug__" : Str)) = false := by decide) :
    PS X (.Raise (some (.Call (.Name x p) [.Constant (.str m) j p2] [] pos2)) none pos) (rdS c W (wRaise x)) :=
  PS.imp (ps_raise hc tk (pmk_own PySem.F.excBase_ValueError T.xP T.gC T.kP (raises_own T.bP T.tP) hg hdb)) fun D σ H h => by
    obtain ⟨env, L, Dv, S, q, k, kr, kx⟩ := h
    exact kx _ env L σ H _ _ q S ⟨C, T.at_, rfl, rfl⟩
end
def tyIs (T : String) : D → Bool
  | .none => false
  | .bool _ => T == "bool" || T == "int"
  | .int _ => T == "int"
  | .str _ => T == "str"
  | .list _ => T == "list"
  | .tuple _ => T == "tuple"
  | .dict _ => T == "dict"
def noDict : D → Prop
  | .dict _ => False
  | _ => True
def wIsi (T : String) (we : WE) : WE := fun env Q X => we env (fun r e => noDict r.d ∧ Q ⟨.bool (tyIs T r.d), mA⟩ e) X
section
variable {X : Cx} {c : Cn} {W : WX} {pos p p2 : Pos} {we : WE} {e : Expr} {T : String} {y : Str}
structure TyAsk (T : String) : Prop where
  non : kitB "NoneType" T = some (tyIs T .none)
  bl : ∀ b, kitB "bool" T = some (tyIs T (.bool b))
  int : ∀ i, kitB "int" T = some (tyIs T (.int i))
  str : ∀ s, kitB "str" T = some (tyIs T (.str s))
  lst : ∀ ds, kitB "list" T = some (tyIs T (.list ds))
  tup : ∀ ds, kitB "tuple" T = some (tyIs T (.tuple ds))
theorem ta_bool : TyAsk "bool" := ⟨by decide +kernel, fun b => (by decide +kernel : kitB "bool" "bool" = some true), fun _ => (by decide +kernel : kitB "int" "bool" = some false), fun _ => (by decide +kernel : kitB "str" "bool" = some false), fun _ => (by decide +kernel : kitB "list" "bool" = some false), fun _ => (by decide +kernel : kitB "tuple" "bool" = some false)⟩
theorem ta_str : TyAsk "str" := ⟨by decide +kernel, fun b => (by decide +kernel : kitB "bool" "str" = some false), fun _ => (by decide +kernel : kitB "int" "str" = some false), fun _ => (by decide +kernel : kitB "str" "str" = some true), fun _ => (by decide +kernel : kitB "list" "str" = some false), fun _ => (by decide +kernel : kitB "tuple" "str" = some false)⟩
theorem ta_tuple : TyAsk "tuple" := ⟨by decide +kernel, fun b => (by decide +kernel : kitB "bool" "tuple" = some false), fun _ => (by decide +kernel : kitB "int" "tuple" = some false), fun _ => (by decide +kernel : kitB "str" "tuple" = some false), fun _ => (by decide +kernel : kitB "list" "tuple" = some false), fun _ => (by decide +kernel : kitB "tuple" "tuple" = some true)⟩
theorem rs_type {A : Addr → Prop} {H : Hp} {v : V} {d : D} {K : PySem.W.Frag} (ta : TyAsk T) (h : RS K A H v d) (nd : noDict d) : ∃ t, TyX K H v t ∧ PySem.W.kitOne K t (.type T) = some (tyIs T d) := by
  cases h with
  | non => exact ⟨_, .base .non, kit_ty ta.non⟩
  | bl b => exact ⟨_, .base (.bl b), kit_ty (ta.bl b)⟩
  | int i => exact ⟨_, .base (.int i), kit_ty (ta.int i)⟩
  | str s => exact ⟨_, .base (.str s), kit_ty (ta.str s)⟩
  | lst ha _ r => exact ⟨_, .base (.lst ha), kit_ty (ta.lst _)⟩
  | tup ha r => exact ⟨_, .base (.tup ha), kit_ty (ta.tup _)⟩
  | dct _ _ _ _ => exact absurd nd (by simp [mkDict, noDict])
  | scr _ => exact absurd nd (by simp [scriptD, noDict])
  | opq _ => exact absurd nd (by simp [opD, noDict])
  | wtp _ => exact absurd nd (by simp [wtD, noDict])
  | ins _ _ _ _ _ => exact absurd nd (by simp [insD, noDict])
theorem ve_isi (ta : TyAsk T) (hm : X.mg "isinstance" = none) (hmy : X.mg y = none) (hv : bootBuiltins y = some (.type T)) (he : PE X e (rdE c W we)) (hK : c.K = X.K := by rfl) (hg : Gl X "isinstance" := by rfl) (hgy : Gl X y := by rfl) (hny : y ≠ "__name__" := by decide) (hdy : (y == ("__debug__" : Str)) = false := by decide)
    (hs : starEach [e, .Name y p2] X.env = (false, eval e X.env) :: starEach [.Name y p2] X.env := by rfl) (hpl : (backTo pos (starEach [.Name y p2] X.env)).any (·.1) = false := by rfl) :
    PE X (.Call (.Name "isinstance" p) [e, .Name y p2] [] pos) (rdE c W (wIsi T we)) :=
  PE.imp (pe_callB call_isi hg hm (by decide +kernel) (pa_cons he (pa_cons (pe_bltn (v := .ty T) hgy hmy hv rfl hny hdy) pa_nil) hs) (by decide) (by decide) hs hpl) fun σ H Q h => by
    obtain ⟨env, L, Tm, Qv, X, S, q, k, kx⟩ := h
    refine ⟨env, L, Tm, _, X, S, q, fun r v l L1 e1 H1 ⟨nd, h1⟩ st hr => ?_, kx⟩
    obtain ⟨t, tx, kt⟩ := rs_type (K := c.K) ta hr.read nd
    rw [← hK]
    exact ⟨v, .ty T, t, .type T, _, rfl, .ty T, tx, kt, k _ _ [] L1 e1 H1 h1 st.drop (Res.flat (A := fun _ => True) (.bl _) rfl)⟩
end
def Catches (K : PySem.W.Frag) (cl : Str → Option Addr) (C : Value) (catch_ : Exn → Bool) : Prop := ∀ ex D, cl ex.cls = some D → PySem.W.exmOne K (.ref D) C = some (catch_ ex)
theorem Sim.kill {c : Cn} {L : List (List Addr)} {Tm : List Addr} {env : VEnv} {σ : Sg} {H : Hp} {i : Nat} (S : Sim c L Tm env σ H) (pf : PinF c [i]) : ∃ L', Sim c L' Tm (env.set i none) (σ.set i none) H := by
  have sub : ((L.set i []).flatten ++ Tm).Sublist (L.flatten ++ Tm) := by
    refine List.Sublist.append ?_ (List.Sublist.refl _)
    have : ∀ (L : List (List Addr)) (i : Nat), (L.set i []).flatten.Sublist L.flatten := by
      intro L
      induction L with
      | nil => intro i; simp
      | cons x L ih => intro i; cases i with
        | zero => simp
        | succ i => simpa using (List.Sublist.refl x).append (ih i)
    exact this L i
  exact ⟨L.set i [], (S.sl.kill2 (x := none)).keep (Same.refl _) fun b hb => .inl (sub.subset hb), S.nd.sublist sub, fun a ha => S.own a (sub.subset ha), S.fr, fun p hp => (S.hd p hp).mono fun b o a _ => AT.less (fun b hb => sub.subset hb) a, pf.set S.pin⟩
section
variable {X : Cx} {c : Cn} {W : WX} {pos np pos' : Pos} {w : WS} {catch_ : Exn → Bool} {i : Nat} {x n : Str} {C : Value} {body suite : List Stmt} {b₀ : Stmt} {ws : Addr → Exn → WS}
def wIsE (i : Nat) (a : Addr) (b : Bool) : WE := fun env Q _ => (∃ m, env[i]? = some (some (opD a, m))) ∧ Q ⟨.bool b, mA⟩ env
theorem RS.opq_inv {K : PySem.W.Frag} {A : Addr → Prop} {H : Hp} {v : V} {a : Addr} (h : RS K A H v (opD a)) : v = .ref a := by
  generalize e : opD a = d at h
  cases h with
  | opq b =>
    simp only [opD, PyData.dict.injEq, List.cons.injEq, Prod.mk.injEq, PyData.int.injEq, and_true, true_and] at e
    have : a = b := Int.natCast_inj.mp e
    subst this; rfl
  | dct hd _ ek _ => exact (script_inv hd ek e.symm).elim
  | scr _ => simp [opD, scriptD] at e
  | wtp _ => simp [opD, wtD] at e
  | ins _ _ _ _ _ => simp [opD, insD] at e
  | _ => cases e
theorem ve_isE {a D : Addr} {oe : Obj} {pn : List (Addr × Obj)} {nn y : Str} {p p1 p2 : Pos} {cv : Value} {cV : V} {b : Bool} (T : ExcC X.K D) (hz : Zc (.ref D) none oe) (hf : ∃ vs, oe.data = .fields vs) (hk : PySem.W.kitOne X.K (.ref D) cv = some b) (hcv : ∀ u, RelV cV u → u = cv)
    (hy : PE (X.suite a ((a, oe) :: pn)) (.Name y p2) (tC cV)) (hm : X.mg "isinstance" = none) (hK : c.K = X.K := by rfl) (hi : X.N[i]? = some nn := by rfl) (hv : Vis X.env.scope nn := by exact Or.inl rfl) (hg : Gl X "isinstance" := by rfl) (hd : (nn == ("__debug__" : Str)) = false := by decide) (hcd : (nn == ("__classdict__" : Str)) = false := by decide)
    (hs : starEach [.Name nn p1, .Name y p2] X.env = (false, eval (.Name nn p1) X.env) :: starEach [.Name y p2] X.env := by rfl) (hpl : (backTo pos (starEach [.Name y p2] X.env)).any (·.1) = false := by rfl) :
    PE (X.suite a ((a, oe) :: pn)) (.Call (.Name "isinstance" p) [.Name nn p1, .Name y p2] [] pos) (rdE c W (wIsE i a b)) :=
  PE.imp (pe_callB (X := X.suite a ((a, oe) :: pn)) (call_isE T hz hf) hg hm (by decide +kernel) (pa_cons (pe_var (X := X.suite a ((a, oe) :: pn)) (i := i) hi hv hd hcd) (pa_cons hy pa_nil) hs) (by decide) (by decide) hs hpl) fun σ H Q h => by
    obtain ⟨env, L, Tm, Qv, X, S, ⟨⟨m, q⟩, q2⟩, k, kx⟩ := h
    obtain ⟨v, l, hv, hl, r⟩ := S.sl.get q
    have := RS.opq_inv r.read
    subst this
    exact ⟨_, hv, cV, cv, b, rfl, hcv, hk, k _ _ [] L env H q2 (Step.refl S) (Res.flat (A := fun _ => True) (.bl _) rfl)⟩
end
end VL
set_option maxRecDepth 100000
set_option maxHeartbeats 4000000
namespace VL
open PySem PySem.Spec PyProof.Rows L2
theorem scriptD_inj {ns ms : List Int} (h : scriptD ns = scriptD ms) : ns = ms := by
  simp only [scriptD, PyData.dict.injEq, List.cons.injEq, Prod.mk.injEq, PyData.list.injEq, and_true, true_and] at h
  have : ∀ {ns ms : List Int}, ns.map PyData.int = ms.map PyData.int → ns = ms := by
    intro ns
    induction ns with
    | nil => intro ms h; cases ms with
      | nil => rfl
      | cons _ _ => simp at h
    | cons n ns ih => intro ms h; cases ms with
      | nil => simp at h
      | cons m ms =>
        simp at h
        rw [h.1, ih (by simpa using h.2)]
  exact this h
theorem RS.scr_inv {K : PySem.W.Frag} {A : Addr → Prop} {H : Hp} {v : V} {ns : List Int} (h : RS K A H v (scriptD ns)) : ∃ a, v = .ref a ∧ SqF K H a (ns.map V.int) := by
  generalize e : scriptD ns = d at h
  cases h with
  | scr h => rw [scriptD_inj e]; exact ⟨_, rfl, h⟩
  | dct hd _ ek _ => exact (script_inv hd ek e.symm).elim
  | opq _ => simp [opD, scriptD] at e
  | wtp _ => simp [wtD, scriptD] at e
  | ins _ _ _ _ _ => simp [insD, scriptD] at e
  | _ => cases e
def wIxS : WO := fun ra rb Q => ∃ ns i k, ra.d = scriptD ns ∧ rb.d = .int i ∧ atI ns i = some k ∧ Q ⟨.int k, mA⟩
section
variable {X : Cx} {c : Cn} {W : WX} {pos p2 : Pos} {wa wb : WE} {a b : Expr}
theorem s_ixS : OpS c (rIx c.K) wIxS := by
  intro L Tm la lb env σ H ra rb x y Qv Q S h1 h2 ⟨ns, i, kk, e1, e2, e3, q⟩ k
  obtain ⟨d, m⟩ := ra
  obtain ⟨d2, m2⟩ := rb
  cases e1
  cases e2
  have r2 := h2.read
  cases r2
  obtain ⟨a, rfl, hq⟩ := h1.read.scr_inv
  obtain ⟨j, g1, g2⟩ := atI_tr (xs := ns.map V.int) (ys := ns) (by simp) e3
  exact .inl ⟨a, _, i, .int kk, rfl, rfl, hq.seq, g2 _ (by rw [List.getElem?_map, g1]; rfl), flat_end1 S q (.int _) rfl k⟩
theorem ve_ixS (ha : PE X a (rdE c W wa)) (hb : PE X b (rdE c W wb)) (hK : c.K = X.K := by rfl) (hs : PlainIx b := by exact fun _ _ => rfl) : PE X (.Subscript a b pos) (rdE c W (wBin wIxS wa wb)) :=
  PE.imp (pe_ix ix_seq ha hb hs) fun _ _ _ => by rw [← hK]; exact rd_bin s_ixS
end
def cutL {α : Type} (xs : List α) (lo hi : Option Int) : List α := (xs.drop (HT.sIx xs.length 0 lo)).take (HT.sIx xs.length xs.length hi - HT.sIx xs.length 0 lo)
abbrev WPt := VEnv → (Option Int → VEnv → Prop) → (Exn → VEnv → Prop) → Prop
def wNoP : WPt := fun env Q _ => Q none env
def wPt (w : WE) : WPt := fun env Q X => w env (fun r e => ∃ i, r.d = .int i ∧ Q (some i) e) X
def rdO (c : Cn) (W : WX) (w : WPt) : TO := fun σ H Q => ∃ env L Tm Qv X, Sim c L Tm env σ H ∧ w env Qv X ∧
  (∀ o L' env' H', Qv o env' → Step c H H' (L.flatten ++ Tm) Tm L' [] env' σ → Q o H') ∧ KontX c σ L Tm H X W
theorem PO.imp {X : Cx} {e : Option Expr} {t t' : TO} (h : PO X e t) (q : ∀ σ H Q, t' σ H Q → t σ H Q) : PO X e t' := ⟨fun pins s σ H Q I w => h.run pins s σ H Q I (q _ _ _ w)⟩
section
variable {X : Cx} {c : Cn} {W : WX} {pos p2 : Pos} {wa wb : WE} {a e : Expr} {lo hi : Option Expr} {wl wh : WPt}
theorem vo_none : PO X none (rdO c W wNoP) := PO.imp po_none fun σ H Q h => by
  obtain ⟨env, L, Tm, Qv, X, S, q, k, kx⟩ := h
  exact k none L env H q (Step.refl S)
theorem vo_some (h : PE X e (rdE c W wa)) : PO X (some e) (rdO c W (wPt wa)) := PO.imp (po_some h) fun σ H Q h => by
  obtain ⟨env, L, Tm, Qv, X, S, q, k, kx⟩ := h
  refine ⟨env, L, Tm, _, X, S, q, fun r v l L1 env1 H1 ⟨i, e, q⟩ st hr => ?_, kx⟩
  obtain ⟨d, m⟩ := r
  cases e
  have := hr.read
  cases this
  exact ⟨i, rfl, k (some i) L1 env1 H1 q st.drop⟩
def slR (ra : R) (lo hi : Option Int) (Q : R → Prop) : Prop := match ra.d with
  | .list ds => Q (cpR (cutL ds lo hi) (isB ra.m))
  | .str z => z.length ≤ sizeLine ∧ Q ⟨.str (cutS z lo hi), mA⟩
  | .dict [(.list [], .list ns)] => Q (cpR (cutL ns lo hi) false)
  | .tuple ds => flatAll ds = true ∧ Q ⟨.tuple (cutL ds lo hi), mA⟩
  | _ => False
def wSl (w : WE) (wl wh : WPt) : WE := fun env Q X => w env (fun r e => wl e (fun lo e1 => wh e1 (fun hi e2 => slR r lo hi fun r' => Q r' e2) X) X) X
def rSlAll (K : PySem.W.Frag) : V → Option Int → Option Int → Hp → VK → Prop := fun x lo hi H Q => rSlL K x lo hi H Q ∨ rSlS x lo hi H Q ∨ (∃ a xs, x = .ref a ∧ SqT K H a xs ∧
  (HT.sIx xs.length 0 lo = 0 ∧ HT.sIx xs.length xs.length hi = xs.length → Q (.ref a) H) ∧ (¬ (HT.sIx xs.length 0 lo = 0 ∧ HT.sIx xs.length xs.length hi = xs.length) → ∀ p, H p = none → Q (.ref p) (upd H p (.tup (cutV xs lo hi)))))
theorem RSs.cut {K : PySem.W.Frag} {A : Addr → Prop} {H : Hp} {xs : List V} {ds : List D} (h : RSs K A H xs ds) (lo hi : Option Int) : RSs K A H (cutV xs lo hi) (cutL ds lo hi) := by
  unfold cutV cutL
  rw [h.len]
  exact RSs.take _ (drop _ h)
where
  drop {K : PySem.W.Frag} {A : Addr → Prop} {H : Hp} : ∀ {xs : List V} {ds : List D} (n : Nat), RSs K A H xs ds → RSs K A H (xs.drop n) (ds.drop n)
    | _, _, 0, h => h
    | _, _, _ + 1, .nil => .nil
    | _, _, n + 1, .cons _ r => drop n r
theorem flatAll_cut {ds : List D} (lo hi : Option Int) (h : flatAll ds = true) : flatAll (cutL ds lo hi) = true := by
  unfold cutL
  have d1 : ∀ (n : Nat) (ds : List D), flatAll ds = true → flatAll (ds.drop n) = true := by
    intro n
    induction n with
    | zero => intro ds h; exact h
    | succ n ih => intro ds h; cases ds with
      | nil => exact h
      | cons d ds => simp only [flatAll, Bool.and_eq_true] at h; exact ih ds h.2
  have d2 : ∀ (n : Nat) (ds : List D), flatAll ds = true → flatAll (ds.take n) = true := by
    intro n
    induction n with
    | zero => intro ds h; simp [flatAll]
    | succ n ih => intro ds h; cases ds with
      | nil => exact h
      | cons d ds => simp only [flatAll, Bool.and_eq_true, List.take_succ_cons] at h ⊢; exact ⟨h.1, ih ds h.2⟩
  exact d2 _ _ (d1 _ _ h)
theorem rs_ints {K : PySem.W.Frag} {A : Addr → Prop} {H : Hp} : ∀ ns : List Int, RSs K A H (ns.map V.int) (ns.map PyData.int)
  | [] => .nil
  | n :: ns => .cons (.int n) (rs_ints ns)
theorem slr_end {L : List (List Addr)} {Tm l : List Addr} {env : VEnv} {σ : Sg} {H : Hp} {ra : R} {x : V} {lo hi : Option Int} {Qv : R → Prop} {Q : VK} (S : Sim c L (Tm ++ l) env σ H) (h1 : Res c (L.flatten ++ (Tm ++ l)) H ra x l) (q : slR ra lo hi Qv)
    (k : ∀ r v l' H', Qv r → Step c H H' (L.flatten ++ (Tm ++ l)) Tm L l' env σ → Res c (L.flatten ++ (Tm ++ l')) H' r v l' → Q v H') : rSlAll c.K x lo hi H Q := by
  obtain ⟨d1, m1⟩ := ra
  have r1 := h1.read
  unfold slR at q
  simp only at q r1
  split at q
  · rename_i ds
    obtain ⟨a, us, rfl, ha, _, r1'⟩ := r1.lst_inv
    refine .inl ⟨a, us, rfl, SqL.of ha, fun p np => ?_⟩
    refine cp_end S np (r1'.cut lo hi) (fun hm => ?_) q k
    obtain ⟨a', us', e1, ha', s1⟩ := Res.lstS (m := m1) h1 hm S fun b hb => hb
    cases e1
    rw [ha] at ha'; cases ha'
    exact s1.cut lo hi
  · cases r1
    exact .inr (.inl ⟨_, rfl, q.1, flat_end1 S q.2 (.str _) rfl k⟩)
  · rename_i ns
    generalize hd : PyData.dict [(.list [], .list ns)] = d at r1
    cases r1 with
    | dct h _ e _ => exact (script_inv h e hd.symm).elim
    | opq a => simp [opD] at hd
    | wtp _ => simp [wtD] at hd
    | ins _ _ _ _ _ => simp [insD] at hd
    | @scr a ms ha =>
      have e : ns = ms.map PyData.int := by
        simp only [scriptD, PyData.dict.injEq, List.cons.injEq, Prod.mk.injEq, PyData.list.injEq, and_true, true_and] at hd
        exact hd
      subst e
      refine .inl ⟨a, _, rfl, ha.seq, fun p np => ?_⟩
      exact cp_end S np ((rs_ints ms).cut lo hi) (fun _ => (rs_ints ms).cut lo hi) q k
    | _ => cases hd
  · rename_i ds
    obtain ⟨a, us, rfl, ha, r1'⟩ := r1.tup_inv
    have fc := flatAll_cut lo hi q.1
    refine .inr (.inr ⟨a, us, rfl, SqT.of ha, fun z => ?_, fun z p np => ?_⟩)
    · have e : cutL ds lo hi = ds := by
        unfold cutL
        rw [r1'.len] at z
        rw [z.1, z.2]; simp
      have q2 := q.2
      rw [e] at q2
      exact flat_end1 S q2 r1 (by simpa [flatD] using q.1) k
    · have sm := same_new (o := .tup (cutV us lo hi)) np
      refine k _ _ [] _ q.2 (new_end S np (List.nil_sublist _)).drop ?_
      exact Res.flat (A := fun _ => True) (.tup upd_same ((r1'.cut lo hi).keep (Kp.same sm))) (by simpa [flatD] using fc)
  · exact q.elim
theorem ve_slice (ha : PE X a (rdE c W wa)) (hl : PO X lo (rdO c W wl)) (hh : PO X hi (rdO c W wh)) (hK : c.K = X.K := by rfl) : PE X (.Subscript a (.Slice lo hi none p2) pos) (rdE c W (wSl wa wl wh)) :=
  PE.imp (pe_slice (sl_list.or (sl_str.or sl_tupA)) ha hl hh) fun σ H Q h => by
    obtain ⟨env, L, Tm, Qv, X, S, q, k, kx⟩ := h
    refine ⟨env, L, Tm, _, X, S, q, fun r v l L1 env1 H1 h1 st1 hr => ?_, kx⟩
    refine ⟨env1, L1, Tm ++ l, _, X, st1.sim, h1, fun o L2 env2 H2 h2 st2 => ?_, kx.step st1⟩
    have st2' := st1.trans st2
    rw [List.append_nil] at st2'
    refine ⟨env2, L2, Tm ++ l, _, X, st2'.sim, h2, fun o2 L3 env3 H3 h3 st3 => ?_, kx.step st2'⟩
    have st3' := st2'.trans st3
    rw [List.append_nil] at st3'
    have r1 := hr.keep st2.same st2.gr
    rw [List.append_nil] at r1
    have r2 := r1.keep st3.same st3.gr
    rw [List.append_nil] at r2
    have := slr_end (Q := Q) st3'.sim r2 h3 fun r v l' H' hq st4 hr4 => k r v l' L3 env3 H' hq (Step.then st3' st4) hr4
    rw [← hK]
    exact this
end
section
variable {X : Cx} {c : Cn} {W : WX} {pos p : Pos} {wa : WA} {e e' : Expr}
theorem ve_len1 (hm : X.mg "len" = none) (ha : PA X [e] (rdA c W wa)) (hK : c.K = X.K := by rfl) (hg : Gl X "len" := by rfl) (he : starEach [e] X.env = (false, eval e X.env) :: starEach [] X.env := by rfl) (hpl : (backTo pos (starEach [] X.env)).any (·.1) = false := by rfl) : PE X (.Call (.Name "len" p) [e] [] pos) (rdE c W (wCB wLen wa)) :=
  ve_callB len_R (by rw [← hK]; exact s_len) hm PySem.boot_len ha hg (by decide) (by decide) he hpl
def wAbs : WF := wI1 fun i => .int (if i < 0 then -i else i)
theorem ve_abs1 (hm : X.mg "abs" = none) (ha : PA X [e] (rdA c W wa)) (hg : Gl X "abs" := by rfl) (he : starEach [e] X.env = (false, eval e X.env) :: starEach [] X.env := by rfl) (hpl : (backTo pos (starEach [] X.env)).any (·.1) = false := by rfl) : PE X (.Call (.Name "abs" p) [e] [] pos) (rdE c W (wCB wAbs wa)) :=
  ve_callB call_abs (s_I1 (g := fun i => .int (if i < 0 then -i else i)) (fun _ _ _ _ => .int _) fun _ => rfl) hm (by decide +kernel) ha hg (by decide) (by decide) he hpl
end
end VL
set_option maxRecDepth 100000
set_option maxHeartbeats 4000000
namespace VL
open PySem PySem.Spec PyProof.Rows L2
def FnAt (K : PySem.W.Frag) (x : Str) (st : Stmt) : Prop := ∃ (f : Addr) (oc : Value) (od an : Option Addr) (osl : Array (Option Value)) (kV doc pm cdv ct : Value),
  PySem.W.nsIn K mainGlobals x = some (some (.ref f)) ∧ K.lookup f = some ⟨oc, od, .func (PySem.W.fnOf x x (defArgs st) (defBody st) (defScope st) .none kV doc pm an cdv ct), osl⟩ ∧ PySem.W.codeIn K cdv x = true ∧ PySem.W.keepIn K (.ref f) = true
def ErrAt (K : PySem.W.Frag) (x : Str) : Prop := ∃ C : Addr, PySem.W.nsIn K mainGlobals x = some (some (.ref C)) ∧
  PySem.W.excIn K C [.type "ValueError", .type "Exception", .type "BaseException", .type "object"] "ValueError.__new__" = true ∧ PySem.W.keepIn K (.ref C) = true ∧ PySem.W.subIn K (.ref C) (.type "BaseException") = some true ∧ PySem.W.typeIn K (.ref C) = some (.type "type")
def ExmAt (K : PySem.W.Frag) (x y : Str) (b : Bool) : Prop := ∃ C D : Addr, PySem.W.nsIn K mainGlobals x = some (some (.ref C)) ∧ PySem.W.nsIn K mainGlobals y = some (some (.ref D)) ∧ PySem.W.exmOne K (.ref C) (.ref D) = some b
def KitAt (K : PySem.W.Frag) (x y : Str) (b : Bool) : Prop := ∃ C D : Addr, PySem.W.nsIn K mainGlobals x = some (some (.ref C)) ∧ PySem.W.nsIn K mainGlobals y = some (some (.ref D)) ∧ PySem.W.kitOne K (.ref C) (.ref D) = some b
def NoAt (K : PySem.W.Frag) (x : Str) : Prop := PySem.W.nsIn K mainGlobals x = some none
def IntAt (K : PySem.W.Frag) (x : Str) (i : Int) : Prop := ∃ t, PySem.W.nsIn K mainGlobals x = some (some (.int i t))
def clOf (names : List Str) (mg : Str → Option Value) : Str → Option Addr := fun x => if names.contains x = true then (match mg x with | some (.ref a) => some a | _ => none) else none
def catch_ (l : List Str) : Exn → Bool := fun ex => l.contains ex.cls
section
variable {P : Program} {w : World} {K : PySem.W.Frag} {mg : Str → Option Value} {base h : Heap} {cl : Str → Option Addr} {names : List Str}
theorem NoAt.out {x : Str} (X : K.In h) (G : h.Ns mainGlobals mg) (a : NoAt K x) : mg x = none := PySem.W.mg_none_of X G a
theorem IntAt.out {x : Str} {i : Int} (X : K.In h) (G : h.Ns mainGlobals mg) (a : IntAt K x i) : ∃ t, mg x = some (.int i t) := let ⟨t, e⟩ := a; ⟨t, PySem.W.mg_of X G e⟩
theorem clOf_at {x : Str} {C : Addr} (hx : names.contains x = true) (e : mg x = some (.ref C)) : clOf names mg x = some C := by
  unfold clOf
  rw [if_pos hx, e]
theorem clOf_inv {x : Str} {C : Addr} (e : clOf names mg x = some C) : names.contains x = true ∧ mg x = some (.ref C) := by
  unfold clOf at e
  split at e
  · rename_i hx
    refine ⟨hx, ?_⟩
    split at e
    · rename_i h; cases e; exact h
    · cases e
  · cases e
theorem ErrAt.err {x : Str} (X : K.In h) (G : h.Ns mainGlobals mg) (a : ErrAt K x) (hx : names.contains x = true) : ∃ C, Err K mg (clOf names mg) x C := by
  obtain ⟨C, e, x1, x2, x3, x4⟩ := a
  have g := PySem.W.mg_of X G e
  exact ⟨C, clOf_at hx g, g, x1, x2, x3, x4⟩
theorem catches_of {y : Str} {D : Addr} {l : List Str} (X : K.In h) (G : h.Ns mainGlobals mg) (hy : mg y = some (.ref D)) (hl : ∀ x, names.contains x = true → ExmAt K x y (l.contains x)) : Catches K (clOf names mg) (.ref D) (catch_ l) := by
  intro ex E e
  obtain ⟨h1, h2⟩ := clOf_inv e
  obtain ⟨C, D', e1, e2, e3⟩ := hl _ h1
  have g1 := PySem.W.mg_of X G e1
  have g2 := PySem.W.mg_of X G e2
  rw [h2] at g1; rw [hy] at g2
  cases g1; cases g2
  exact e3
theorem kit_of {x y : Str} {b : Bool} {C D : Addr} (X : K.In h) (G : h.Ns mainGlobals mg) (a : KitAt K x y b) (hx : mg x = some (.ref C)) (hy : mg y = some (.ref D)) : PySem.W.kitOne K (.ref C) (.ref D) = some b := by
  obtain ⟨C', D', e1, e2, e3⟩ := a
  have g1 := PySem.W.mg_of X G e1
  have g2 := PySem.W.mg_of X G e2
  rw [hx] at g1; rw [hy] at g2
  cases g1; cases g2
  exact e3
theorem def_okF {x : Str} {st : Stmt} {f : Addr} {fd : FuncData} {N ps : List Str} {k : Nat} {wf : WS} {S : FSpec} (F : Fun K x x st f fd) (sc : FnScope N ps (defScope st))
    (body : ∀ (cdv : Value) (A : Around) (outer : List Env) (s : Shared) (H : Hp) (E : XK) (P0 : Addr → Prop), Room k (cxV P w K mg base N x st f cdv A outer s H E).A → PSs (cxV P w K mg base N x st f cdv A outer s H E) (defBody st) (rdS (cnOf K cl P0 H) (WXE E) wf))
    (spec : ∀ ds Qv Xv, S ds Qv Xv → ds.length = ps.length ∧ wf (startE N ds) ⟨fun _ => Qv ⟨.none, mA⟩, fun r _ => Qv r, fun ex _ => Xv ex⟩) : FnOk P w K mg base (L2.CX P w) (k + 1) f fd ps (spOf K cl S) := by
  refine F.okX sc (fun vs H Q E h => ?_) (fun cdv A outer s H vs Q E hr h => ?_)
  · obtain ⟨ds, P0, Qv, X, r, hs, _⟩ := h
    rw [r.len, (spec _ _ _ hs).1]
  · obtain ⟨ds, P0, Qv, X, r, hs, hq, hx⟩ := h
    refine ⟨_, body cdv A outer s H E P0 hr, ?_⟩
    obtain ⟨L, S0⟩ := start_sim (cl := cl) (N := N) r
    refine ⟨_, L, _, S0, (spec _ _ _ hs).2, fun env' L' σ' H' h1 S' => ?_, fun r v l H' e9 h1 rr => ?_, fun ex env' L' σ' H' cls d h1 S' he => ?_⟩
    · exact hq ⟨.none, mA⟩ .non [] H' h1 (fun b o e => S'.fr b o e (by simp)) List.nodup_nil (fun b hb => by cases hb) (Res.flat (A := fun _ => True) .non rfl)
    · refine hq r v l H' h1 (fun b o e => rr.fr b o e (by simp)) rr.nd (fun b hb => ?_) rr.res
      obtain ⟨o1, o2⟩ := rr.own b hb
      exact ⟨o1.elim id fun z => (by cases z), o2⟩
    · exact hx ex cls d H' h1 (fun b o e => S'.fr b o e (by simp)) he
theorem def_at {x : Str} {st : Stmt} {N ps : List Str} {k : Nat} {wf : WS} {S : FSpec} (X : K.In h) (G : h.Ns mainGlobals mg) (a : FnAt K x st) (sc : FnScope N ps (defScope st))
    (hb : ∀ (kV doc pm : Value) (an : Option Addr) (cdv ct : Value) (us : List Value), us.length = ps.length → bindArgs (PySem.W.fnOf x x (defArgs st) (defBody st) (defScope st) .none kV doc pm an cdv ct) ⟨us, []⟩ = pure (ps.zip us))
    (body : ∀ (f : Addr) (cdv : Value) (A : Around) (outer : List Env) (s : Shared) (H : Hp) (E : XK) (P0 : Addr → Prop), Room k (cxV P w K mg base N x st f cdv A outer s H E).A → PSs (cxV P w K mg base N x st f cdv A outer s H E) (defBody st) (rdS (cnOf K cl P0 H) (WXE E) wf))
    (spec : ∀ ds Qv Xv, S ds Qv Xv → ds.length = ps.length ∧ wf (startE N ds) ⟨fun _ => Qv ⟨.none, mA⟩, fun r _ => Qv r, fun ex _ => Xv ex⟩) : Def P w K mg base cl x ps.length S (k + 1) := by
  obtain ⟨f, oc, od, an, osl, kV, doc, pm, cdv, ct, e1, e2, e3, e4⟩ := a
  have F := fun_mk (st := st) e2 e3 e4
  exact ⟨f, _, ps, rfl, def_okF F sc (body f) spec, PySem.W.mg_of X G e1, e4, F.binds (ps := ps) hb⟩
end
def LawS : FSpec := fun ds Qv _ => ∃ ns : List Int, ds = [scriptD ns] ∧ ns.length ≤ 63 ∧ (∀ z ∈ ns, Builtin.Int.intBits z ≤ 1048576) ∧ Qv ⟨.bool true, mA⟩
theorem law_sp {K : PySem.W.Frag} {cl : Str → Option Addr} {H : Hp} {a : Addr} {ns : List Int} (hl : ns.length ≤ 63) (hb : ∀ z ∈ ns, Builtin.Int.intBits z ≤ 1048576) (hO : Only H) (hS : SqL K H a (ns.map V.int)) : spOf K cl LawS [.ref a] H (fun v _ => v = .bl true) fun _ _ _ => False := by
  have hF : SqF K H a (ns.map V.int) := by
    rcases hS with (h | ⟨o, h⟩) | h
    · rcases hO a with z | ⟨o, xs, z⟩
      · rw [z] at h; cases h
      · rw [z] at h; cases h
    · exact .inl ⟨o, h⟩
    · exact .inr h
  refine ⟨[scriptD ns], fun _ => True, fun r => r = ⟨.bool true, mA⟩, fun _ => False, .cons (.scr hF) .nil, ⟨ns, rfl, hl, hb, rfl⟩, fun r v l H' e _ _ _ hr => ?_, fun _ _ _ _ e => e.elim⟩
  subst e
  have := hr.read
  cases this
  rfl
theorem ve_gintE {X : Cx} {c : Cn} {W : WX} {pos : Pos} {x : Str} {i : Int} (hm : ∃ t, X.mg x = some (.int i t)) (hg : Gl X x := by rfl) (hd : (x == ("__debug__" : Str)) = false := by decide) : PE X (.Name x pos) (rdE c W (wC (.int i))) := let ⟨_, h⟩ := hm; ve_gint h hg hd
theorem vs_raiseE {X : Cx} {c : Cn} {W : WX} {pos p p2 pos2 : Pos} {x m : Str} {j : Nat} (T : ∃ C, Err X.K X.mg c.cl x C) (hc : X.calm = true) (tk : Takes X W) (hg : Gl X x := by rfl) (hdb : (x == ("__debug__" : Str)) = false := by decide) :
    PS X (.Raise (some (.Call (.Name x p) [.Constant (.str m) j p2] [] pos2)) none pos) (rdS c W (wRaise x)) := let ⟨_, h⟩ := T; vs_raise h hc tk hg hdb
end VL
set_option maxRecDepth 100000
set_option maxHeartbeats 4000000
namespace VL
open PySem PySem.Spec PyProof.Rows L2
def ExcAt (K : PySem.W.Frag) (x : Str) : Prop := ∃ D : Addr, PySem.W.nsIn K mainGlobals x = some (some (.ref D)) ∧
  PySem.W.findIn K (.ref D) "__getattribute__" = some (some (.builtin "BaseException.__getattribute__")) ∧ PySem.W.findIn K (.ref D) "__getattr__" = some none ∧ PySem.W.subIn K (.ref D) (.type "BaseException") = some true ∧ PySem.W.hasDictIn K D = true ∧
  PySem.W.findIn K (.ref D) "__class__" = some (some (.builtin "object.__class__")) ∧ PySem.W.specialIn K (.builtin "object.__class__") "__get__" = some (some (.builtin "getset_descriptor.__get__")) ∧ PySem.W.takesIn K (.builtin "object.__class__") = some true ∧ PySem.W.mroIn K D (.type "object") = some true
def ExcAll (K : PySem.W.Frag) (cl : Str → Option Addr) : Prop := ∀ x D, cl x = some D → ExcC K D
def Clause (K : PySem.W.Frag) (mg : Str → Option Value) (cl : Str → Option Addr) (y : Str) (l : List Str) : Prop := ∃ C : Addr, mg y = some (.ref C) ∧ Catches K cl (.ref C) (catch_ l)
def Asked (K : PySem.W.Frag) (mg : Str → Option Value) (cl : Str → Option Addr) (y : Str) (l : List Str) : Prop := ∃ C : Addr, mg y = some (.ref C) ∧ ∀ x D, cl x = some D → PySem.W.kitOne K (.ref D) (.ref C) = some (l.contains x)
section
variable {P : Program} {w : World} {K : PySem.W.Frag} {mg : Str → Option Value} {base h : Heap} {names : List Str}
theorem excAll_of (X : K.In h) (G : h.Ns mainGlobals mg) (a : ∀ x, names.contains x = true → ExcAt K x) : ExcAll K (clOf names mg) := by
  intro x D e
  obtain ⟨h1, h2⟩ := clOf_inv e
  obtain ⟨D', e1, x1, x2, x3, x4, x5, x6, x7, x8⟩ := a x h1
  have g := PySem.W.mg_of X G e1
  rw [h2] at g
  cases g
  exact ⟨x1, x2, x3, x4, x5, x6, x7, x8⟩
theorem clause_of {y : Str} {l : List Str} (X : K.In h) (G : h.Ns mainGlobals mg) (hy : ∃ C : Addr, PySem.W.nsIn K mainGlobals y = some (some (.ref C))) (hl : ∀ x, names.contains x = true → ExmAt K x y (l.contains x)) : Clause K mg (clOf names mg) y l := by
  obtain ⟨C, e⟩ := hy
  have g := PySem.W.mg_of X G e
  exact ⟨C, g, catches_of X G g hl⟩
theorem asked_of {y : Str} {l : List Str} (X : K.In h) (G : h.Ns mainGlobals mg) (hy : ∃ C : Addr, PySem.W.nsIn K mainGlobals y = some (some (.ref C))) (hl : ∀ x, names.contains x = true → KitAt K x y (l.contains x)) : Asked K mg (clOf names mg) y l := by
  obtain ⟨C, e⟩ := hy
  have g := PySem.W.mg_of X G e
  refine ⟨C, g, fun x D ex => ?_⟩
  obtain ⟨h1, h2⟩ := clOf_inv ex
  exact kit_of X G (hl x h1) h2 g
theorem each_name {p : Str → Prop} {names : List Str} (h : ∀ x ∈ names, p x) : ∀ x, names.contains x = true → p x := fun x hx => h x (by simpa using hx)
end
def wTryN (w : WS) (l : List Str) (i : Nat) (ws : Addr → Exn → WS) : WS := fun env Dv => w env { Dv with ex := fun ex e => if catch_ l ex = true then ex.fld = none ∧ ∀ a, ws a ex (e.set i (some (opD a, mS))) { Dv with nx := fun e' => Dv.nx (e'.set i none), ex := fun _ _ => False } else Dv.ex ex e }
section
variable {X : Cx} {c : Cn} {W : WX} {pos np pos' : Pos} {w : WS} {l : List Str} {i : Nat} {x n : Str} {body suite : List Stmt} {b₀ : Stmt} {ws : Addr → Exn → WS}
theorem vs_tryN (hs : X.stack = X.env :: X.outer) (hf : X.env.frame = some X.env.locals) (hN : X.N.Nodup) (cs : Clause c.K X.mg c.cl x l) (tk : Takes X W)
    (hb : ∀ (W' : WX) (pn : List (Addr × Obj)) (xe : Value → Shared → Prop), Takes (X.tr pn xe) W' → PassesOwn (model X.prog X.w) X.A X.env xe → PSs (X.tr pn xe) body (rdS c W' w))
    (hsu : ∀ (a : Addr) (oe : Obj) (ex : Exn) (D : Addr) (pn : List (Addr × Obj)), c.cl ex.cls = some D → Zc (.ref D) none oe → (∃ vs, oe.data = .fields vs) → PSs (X.suite a ((a, oe) :: pn)) (b₀ :: suite) (rdS c W0 (ws a ex)))
    (hK : c.K = X.K := by rfl) (hi : X.N[i]? = some n := by rfl) (hln : X.env.kindOf n = some .local := by rfl) (hg : Gl X x := by rfl) (hx : x ≠ "__debug__" := by decide) (pf : PinF c [i] := by first | exact pinF_nil rfl | exact pinF_one rfl (by decide) | assumption) : PS X (.Try body [.ExceptHandler (some (.Name x np)) (some n) (b₀ :: suite) pos'] [] [] pos) (rdS c W (wTryN w l i ws)) := by
  obtain ⟨C, hC, ct⟩ := cs
  refine PS.imp (ps_try_as (tb := fun W' => rdS c W' w) (ts := fun a cls d D σ H => ∃ ex DD, cls = Value.ref DD ∧ c.cl ex.cls = some DD ∧ d = none ∧ rdS c W0 (ws a ex) D σ H) (Wout := W) hs hf hN hi hln (c := .ref C) ⟨hg, by simpa using hx, Or.inl hC⟩ tk hb (fun a oe cls d pn hz hv => ⟨fun pins s σ H D I hh => ?_⟩)) fun D σ H h => ?_
  · obtain ⟨ex, DD, e1, e2, e3, hr⟩ := hh
    subst e1; subst e3
    exact (hsu a oe ex DD pn e2 hz hv).run pins s σ H D I hr
  · obtain ⟨env, L, Dv, S, q, k, kr, kx⟩ := h
    refine ⟨env, L, _, S, q, k, kr, fun ex env' L' σ' H' cls d hq S' he => ?_⟩
    obtain ⟨DD, e1, e2, e3⟩ := he
    subst e2
    refine ⟨catch_ l ex, by rw [← hK]; exact ct ex DD e1, fun hb a na => ?_, fun hb => ?_⟩
    · replace hq : ex.fld = none ∧ ∀ a, ws a ex (env'.set i (some (opD a, mS))) { Dv with nx := fun e' => Dv.nx (e'.set i none), ex := fun _ _ => False } := by simpa only [hb, if_true] using hq
      obtain ⟨hfl, hq⟩ := hq
      rw [hfl] at e3
      have hr : Res c (L'.flatten ++ ([] ++ [])) H' ⟨opD a, mS⟩ (.ref a) [] := RO.sh (.opq a)
      obtain ⟨L2, S2, _⟩ := Sim.put (i := i) (Tm := []) (l := []) S' hr pf
      refine ⟨ex, DD, rfl, e1, e3, _, L2, _, S2, hq a, fun e3 L3 σ3 H3 h3 S3 => ?_, kr, fun ex env' L' σ' H' cls d hx _ _ => hx.elim⟩
      obtain ⟨L4, S4⟩ := S3.kill (i := i) pf
      exact k _ L4 _ H3 h3 S4
    · replace hq : Dv.ex ex env' := by simpa [hb] using hq
      exact kx ex env' L' σ' H' _ d hq S' ⟨DD, e1, rfl, e3⟩
theorem ve_isEN {a D : Addr} {ex : Exn} {oe : Obj} {pn : List (Addr × Obj)} {nn y : Str} {p p1 p2 : Pos} {l : List Str} (T : ExcAll X.K c.cl) (eD : c.cl ex.cls = some D) (hz : Zc (.ref D) none oe) (hf : ∃ vs, oe.data = .fields vs) (hk : Asked X.K X.mg c.cl y l) (hm : X.mg "isinstance" = none) (i : Nat) (hK : c.K = X.K := by rfl) (hi : X.N[i]? = some nn := by rfl) (hv : Vis X.env.scope nn := by exact Or.inl rfl) (hg : Gl X "isinstance" := by rfl) (hgy : Gl (X.suite a ((a, oe) :: pn)) y := by rfl) (hd : (nn == ("__debug__" : Str)) = false := by decide) (hcd : (nn == ("__classdict__" : Str)) = false := by decide) (hdy : (y == ("__debug__" : Str)) = false := by decide)
    (hs : starEach [.Name nn p1, .Name y p2] X.env = (false, eval (.Name nn p1) X.env) :: starEach [.Name y p2] X.env := by rfl) (hpl : (backTo pos (starEach [.Name y p2] X.env)).any (·.1) = false := by rfl) :
    PE (X.suite a ((a, oe) :: pn)) (.Call (.Name "isinstance" p) [.Name nn p1, .Name y p2] [] pos) (rdE c W (wIsE i a (l.contains ex.cls))) := by
  obtain ⟨C, hC, hq⟩ := hk
  exact ve_isE (i := i) (cV := .ref C) (cv := .ref C) (T _ _ eD) hz hf (hq _ _ eD) (fun u z => z) (pe_glob (X := X.suite a ((a, oe) :: pn)) (v := .ref C) hgy hC rfl hdy) hm hK hi hv hg hd hcd hs hpl
end
end VL
namespace VL
open PySem PySem.Spec PyProof.Rows L2
theorem lawS_cl {K : PySem.W.Frag} {cl : Str → Option Addr} (vs : List V) (H : Hp) (Q : VK) (E : XK) (h : spOf K (fun _ => none) LawS vs H Q E) : spOf K cl LawS vs H Q E := by
  obtain ⟨ds, P0, Qv, X, r, ⟨ns, e, h1, h2, h3⟩, hq, hx⟩ := h
  exact ⟨ds, P0, Qv, fun _ => False, r, ⟨ns, e, h1, h2, h3⟩, hq, fun _ _ _ _ z => z.elim⟩
section
variable {K : PySem.W.Frag} {x y : Str}
theorem FnAt.mk {st : Stmt} {f : Addr} {oc : Value} {od an : Option Addr} {osl : Array (Option Value)} {kV doc pm cdv ct : Value}
  (h1 : PySem.W.nsIn K mainGlobals x = some (some (.ref f))) (h2 : K.lookup f = some ⟨oc, od, .func (PySem.W.fnOf x x (defArgs st) (defBody st) (defScope st) .none kV doc pm an cdv ct), osl⟩) (h3 : PySem.W.codeIn K cdv x = true) (h4 : PySem.W.keepIn K (.ref f) = true) : FnAt K x st := ⟨f, oc, od, an, osl, kV, doc, pm, cdv, ct, h1, h2, h3, h4⟩
theorem ErrAt.mk {C : Addr} (h1 : PySem.W.nsIn K mainGlobals x = some (some (.ref C)))
  (h2 : PySem.W.excIn K C [.type "ValueError", .type "Exception", .type "BaseException", .type "object"] "ValueError.__new__" = true) (h3 : PySem.W.keepIn K (.ref C) = true) (h4 : PySem.W.subIn K (.ref C) (.type "BaseException") = some true) (h5 : PySem.W.typeIn K (.ref C) = some (.type "type")) : ErrAt K x := ⟨C, h1, h2, h3, h4, h5⟩
theorem ExmAt.mk {b : Bool} {C D : Addr} (h1 : PySem.W.nsIn K mainGlobals x = some (some (.ref C))) (h2 : PySem.W.nsIn K mainGlobals y = some (some (.ref D))) (h3 : PySem.W.exmOne K (.ref C) (.ref D) = some b) : ExmAt K x y b := ⟨C, D, h1, h2, h3⟩
theorem KitAt.mk {b : Bool} {C D : Addr} (h1 : PySem.W.nsIn K mainGlobals x = some (some (.ref C))) (h2 : PySem.W.nsIn K mainGlobals y = some (some (.ref D))) (h3 : PySem.W.kitOne K (.ref C) (.ref D) = some b) : KitAt K x y b := ⟨C, D, h1, h2, h3⟩
theorem NoAt.mk (h : PySem.W.nsIn K mainGlobals x = some none) : NoAt K x := h
theorem IntAt.mk {i : Int} {t : Tok} (h : PySem.W.nsIn K mainGlobals x = some (some (.int i t))) : IntAt K x i := ⟨t, h⟩
def RefAt (K : PySem.W.Frag) (x : Str) : Prop := ∃ C : Addr, PySem.W.nsIn K mainGlobals x = some (some (.ref C))
theorem RefAt.mk {C : Addr} (h : PySem.W.nsIn K mainGlobals x = some (some (.ref C))) : RefAt K x := ⟨C, h⟩
theorem ExcAt.mk {D : Addr} (h0 : PySem.W.nsIn K mainGlobals x = some (some (.ref D)))
  (h1 : PySem.W.findIn K (.ref D) "__getattribute__" = some (some (.builtin "BaseException.__getattribute__"))) (h2 : PySem.W.findIn K (.ref D) "__getattr__" = some none) (h3 : PySem.W.subIn K (.ref D) (.type "BaseException") = some true) (h4 : PySem.W.hasDictIn K D = true)
  (h5 : PySem.W.findIn K (.ref D) "__class__" = some (some (.builtin "object.__class__"))) (h6 : PySem.W.specialIn K (.builtin "object.__class__") "__get__" = some (some (.builtin "getset_descriptor.__get__"))) (h7 : PySem.W.takesIn K (.builtin "object.__class__") = some true) (h8 : PySem.W.mroIn K D (.type "object") = some true) : ExcAt K x := ⟨D, h0, h1, h2, h3, h4, h5, h6, h7, h8⟩
end
end VL
set_option maxRecDepth 100000
set_option maxHeartbeats 4000000
namespace VL
open PySem PySem.Spec PyProof.Rows L2
theorem flat_tup {ds : List D} : flatD (.tuple ds) = flatAll ds := by simp [flatD]
theorem flatAll_ints : ∀ ns : List Int, flatAll (ns.map PyData.int) = true
  | [] => rfl
  | n :: ns => by simp [flatAll, flatD, flatAll_ints ns]
theorem outR_all {rs : List R} {d : D} : outR rs ⟨d, mA⟩ = ⟨d, mA⟩ := by
  unfold outR
  split <;> rfl
theorem wLen_scr {ns : List Int} {m : Md} {Q : R → Prop} : wLen [⟨scriptD ns, m⟩] Q = Q ⟨.int ns.length, mA⟩ := by
  apply propext
  refine ⟨fun ⟨r, e, h⟩ => ?_, fun h => ⟨_, rfl, ?_⟩⟩
  · cases e
    simpa [scriptD] using h
  · simpa [scriptD] using h
theorem envLe.rfl (e : VEnv) : envLe e e := by
  induction e with
  | nil => exact True.intro
  | cons s e ih => exact ⟨slLe.refl s, ih⟩
theorem slr_scr {ns : List Int} {m : Md} {lo hi : Option Int} {Q : R → Prop} : slR ⟨scriptD ns, m⟩ lo hi Q = Q (cpR (cutL (ns.map PyData.int) lo hi) false) := rfl
theorem cutL_map {α β : Type} (f : α → β) (xs : List α) (lo hi : Option Int) : cutL (xs.map f) lo hi = (cutL xs lo hi).map f := by
  unfold cutL
  simp [List.map_take, List.map_drop]
theorem cpR_ints {ns : List Int} {b : Bool} : cpR (ns.map PyData.int) b = ⟨.list (ns.map PyData.int), mA⟩ := by
  unfold cpR
  rw [flatAll_ints, if_pos rfl]
end VL
set_option maxRecDepth 100000
set_option maxHeartbeats 4000000
namespace VL
open PySem PySem.Spec PyProof.Rows L2
theorem itemR_flat {m : Md} {d : D} (f : flatD d = true) : itemR m d = ⟨d, mA⟩ := by unfold itemR; rw [if_pos f]
theorem atI_nat' {α : Type} {xs : List α} {i : Nat} {x : α} (h : xs[i]? = some x) : atI xs (i : Int) = some x := by
  obtain ⟨hl, e⟩ := List.getElem?_eq_some_iff.mp h
  unfold atI ixN
  simp [hl]; exact e
theorem atI_pos {α : Type} {xs : List α} {i : Int} {x : α} (h0 : 0 ≤ i) (h : xs[i.toNat]? = some x) : atI xs i = some x := by
  have := atI_nat' h
  rwa [Int.toNat_of_nonneg h0] at this
theorem kidOk_A {n : Option Nat} {d : D} : kidOk n ⟨d, mA⟩ := .inr ⟨none, rfl, by cases n <;> rfl⟩
theorem cpR_flat {ds : List D} {b : Bool} (f : flatAll ds = true) : cpR ds b = ⟨.list ds, mA⟩ := by unfold cpR; rw [if_pos f]
theorem log2_lt {i : Int} {n : Nat} (h : i.natAbs < 2 ^ (n + 1)) : i.natAbs.log2 ≤ n := by
  by_cases z : i.natAbs = 0
  · rw [z]; simp
  · have := (Nat.log2_lt z).mpr h
    omega
theorem divW {i j : Int} (h0 : 0 < j) (n : Nat) (h : j.natAbs < 2 ^ (n + 1)) (hn : n < 9000) : CDiv i j ∨ CDivW i j := .inr ⟨h0, by have := log2_lt h; omega⟩
theorem wApp_inner {e' : VEnv} {i : Nat} {r : R} {Dv : DV} (ds : List D) (m n : Option Nat) (e : e'[i]? = some (some (.list ds, .o m))) (hm : popM m = some n) (hk : kidOk n r) (hl : ds.length < 1000000) (h : Dv.nx (killB (e'.set i (some (.list (ds ++ [r.d]), .o m))))) :
    ∃ d m ds n d', OwnL e' i [] ds d m n ∧ kidOk n r ∧ ds.length < 1000000 ∧ setP d [] (.list (ds ++ [r.d])) = some d' ∧ Dv.nx (killB (e'.set i (some (d', .o m)))) :=
  ⟨_, m, ds, n, _, ⟨e, rfl, ⟨m, rfl, hm⟩⟩, hk, hl, rfl, h⟩
end VL
set_option maxRecDepth 100000
set_option maxHeartbeats 4000000
namespace VL
open PySem PySem.Spec PyProof.Rows L2
section
variable {env e : VEnv} {Dv : DV} {w u : WS} {we wa wb : WE} {wl : WA} {wo : WO} {wf : WF} {t t2 : WT} {i : Nat} {Q : R → VEnv → Prop} {X : Exn → VEnv → Prop} {QA : List R → VEnv → Prop} {QB : Bool → VEnv → Prop} {q : R → Prop} {x y : Int} {m m' : Md} {ds ds' : List D} {s s' : Str} {b b' : Bool} {d d' : D} {n : Option Nat}
theorem i_sub (h : q ⟨.int (x - y), mA⟩) : woSub ⟨.int x, m⟩ ⟨.int y, m'⟩ q := ⟨x, y, rfl, rfl, h⟩
theorem i_lt (h : q ⟨.bool (decide (x < y)), mA⟩) : woLt ⟨.int x, m⟩ ⟨.int y, m'⟩ q := ⟨x, y, rfl, rfl, h⟩
theorem i_gt (h : q ⟨.bool (decide (y < x)), mA⟩) : woGt ⟨.int x, m⟩ ⟨.int y, m'⟩ q := ⟨x, y, rfl, rfl, h⟩
theorem i_ge (h : q ⟨.bool (decide (y ≤ x)), mA⟩) : woGe ⟨.int x, m⟩ ⟨.int y, m'⟩ q := ⟨x, y, rfl, rfl, h⟩
theorem i_add (h : q ⟨.int (x + y), mA⟩) : woAdd ⟨.int x, m⟩ ⟨.int y, m'⟩ q := h
theorem i_addL (hl : ds.length + ds'.length ≤ sizeLine) (h : q (cpR (ds ++ ds') (isB m || isB m'))) : woAdd ⟨.list ds, m⟩ ⟨.list ds', m'⟩ q := ⟨hl, h⟩
theorem i_mul (hc : CMul x y ∨ CMulW x y) (h : q ⟨.int (x * y), mA⟩) : woMul ⟨.int x, m⟩ ⟨.int y, m'⟩ q := ⟨hc, h⟩
theorem i_mod (hc : 0 < y) (h : q ⟨.int (x % y), mA⟩) : woMod ⟨.int x, m⟩ ⟨.int y, m'⟩ q := ⟨x, y, rfl, rfl, hc, h⟩
theorem i_fd (hc : CDiv x y ∨ CDivW x y) (h : q ⟨.int (x / y), mA⟩) : woFd ⟨.int x, m⟩ ⟨.int y, m'⟩ q := ⟨x, y, rfl, rfl, hc, h⟩
theorem i_pow (hc : CPow x y) (h : q ⟨.int (x ^ y.toNat), mA⟩) : woPow ⟨.int x, m⟩ ⟨.int y, m'⟩ q := ⟨x, y, rfl, rfl, hc, h⟩
theorem i_eqI (h : q ⟨.bool (decide (x = y)), mA⟩) : woEq ⟨.int x, m⟩ ⟨.int y, m'⟩ q := h
theorem i_eqS (h : q ⟨.bool (decide (s = s')), mA⟩) : woEq ⟨.str s, m⟩ ⟨.str s', m'⟩ q := h
theorem i_neI (h : q ⟨.bool (!decide (x = y)), mA⟩) : woNe ⟨.int x, m⟩ ⟨.int y, m'⟩ q := h
theorem i_neS (h : q ⟨.bool (!decide (s = s')), mA⟩) : woNe ⟨.str s, m⟩ ⟨.str s', m'⟩ q := h
theorem i_neB (h : q ⟨.bool (!decide (b = b')), mA⟩) : woNe ⟨.bool b, m⟩ ⟨.bool b', m'⟩ q := h
theorem i_isN (h : q ⟨.bool (isNon d), mA⟩) : woIsN ⟨d, m⟩ ⟨.none, m'⟩ q := ⟨rfl, h⟩
theorem i_lenL (h : q ⟨.int ds.length, mA⟩) : wLen [⟨.list ds, m⟩] q := ⟨_, rfl, h⟩
theorem i_lenT (h : q ⟨.int ds.length, mA⟩) : wLen [⟨.tuple ds, m⟩] q := ⟨_, rfl, h⟩
theorem i_lenS {ns : List Int} (h : q ⟨.int ns.length, mA⟩) : wLen [⟨scriptD ns, m⟩] q := by rw [wLen_scr]; exact h
theorem i_abs (h : q ⟨.int (if x < 0 then -x else x), mA⟩) : wAbs [⟨.int x, m⟩] q := ⟨_, _, rfl, rfl, h⟩
theorem i_lst {rs : List R} {n : Option Nat} (hj : joinM rs = some n) (hl : rs.length ≤ 1000) (h : q ⟨.list (rs.map (·.d)), .o (succM n)⟩) : wLst rs q := by
  unfold wLst; rw [hj]; exact ⟨hl, h⟩
theorem i_tup {rs : List R} {n : Option Nat} (hj : joinM rs = some n) (hl : rs.length ≤ 1000) (h : q ⟨.tuple (rs.map (·.d)), .o n⟩) : wTup rs q := by
  unfold wTup; rw [hj]; exact ⟨hl, h⟩
end
end VL
namespace VL
open PySem PySem.Spec PyProof.Rows L2
end VL
set_option maxRecDepth 100000
set_option maxHeartbeats 4000000
namespace VL
open PySem PySem.Spec PyProof.Rows L2
section
variable {X : Cx} {c : Cn} {W : WX} {pos p p2 pos2 : Pos} {wa : WA} {we wb wc : WE} {e e' a b cc : Expr}
end
end VL
set_option maxRecDepth 100000
set_option maxHeartbeats 4000000
namespace VL
open PySem PySem.Spec PyProof.Rows L2
section
variable {K : PySem.W.Frag} {A : Addr → Prop} {H : Hp}
end
section
variable {X : Cx} {c : Cn} {W : WX} {pos px py apx apy cpx cpy : Pos} {wk : WE} {k : Expr} {x y : Str}
end
end VL
set_option maxRecDepth 100000
set_option maxHeartbeats 4000000
namespace VL
open PySem PySem.Spec PyProof.Rows L2
theorem atI_ixq {α : Type} {xs : List α} {i : Int} {x : α} (h : atI xs i = some x) : ∃ j, ixN xs.length i = some j ∧ xs[j]? = some x := by
  unfold atI at h
  cases hj : ixN xs.length i with
  | none => rw [hj] at h; cases h
  | some j => rw [hj] at h; exact ⟨j, rfl, h⟩
theorem atI_ofq {α : Type} {xs : List α} {i : Int} {j : Nat} {x : α} (hj : ixN xs.length i = some j) (h : xs[j]? = some x) : atI xs i = some x := by
  unfold atI
  rw [hj]; exact h
def tupP : D → List Int → Prop
  | _, [] => True
  | .tuple ds, i :: p => ∃ d, atI ds i = some d ∧ tupP d p
  | _, _ => False
theorem NavP.tup {K : PySem.W.Frag} {H H' : Hp} (ht : ∀ b xs, H b = some (.tup xs) → H' b = some (.tup xs)) : ∀ {p : List Int} {A : Addr → Prop} {d : D} {v w : V}, RS K A H v d → tupP d p → NavP H v p w → NavP H' v p w
  | [], _, _, _, _, _, _, n => n
  | i :: p, A, d, v, w, r, t, n => by
    match d, t, r with
    | .tuple ds, ⟨d0, a0, t0⟩, r =>
      obtain ⟨a, xs, u, rfl, ha, hu, nn⟩ := n
      obtain ⟨a', xs', ea, ha', rs⟩ := r.tup_inv
      cases ea
      have hx : xs = xs' := by
        rcases ha with ha | ha
        · rw [ha] at ha'; cases ha'
        · rw [ha] at ha'; cases ha'; rfl
      subst hx
      obtain ⟨j, hj, hj2⟩ := atI_ixq a0
      obtain ⟨u', hu', ru⟩ := rs.get hj2
      have : atI xs i = some u' := atI_ofq (by rw [rs.len]; exact hj) hu'
      rw [hu] at this; cases this
      exact ⟨a, xs, u, rfl, .inr (ht _ _ ha'), hu, NavP.tup ht ru t0 nn⟩
end VL
set_option maxRecDepth 100000
set_option maxHeartbeats 4000000
namespace VL
open PySem PySem.Spec PyProof.Rows L2
section
variable {X : Cx} {c : Cn} {W : WX} {pos px ppx apx cpx pos2 p3 : Pos} {wp : WP} {o : Expr} {tx : Str} {z : Int} {j3 : _}
end
end VL
set_option maxRecDepth 100000
set_option maxHeartbeats 4000000
namespace VL
open PySem PySem.Spec PyProof.Rows L2
section
variable {env e : VEnv} {Dv : DV} {wa wb wc we : WE} {wo wo' : WO} {i j t : Nat} {Q : R → VEnv → Prop} {X : Exn → VEnv → Prop} {q : R → Prop} {m m' : Md} {ds : List D} {n : Int} {z : Int}
end
end VL
set_option maxRecDepth 100000
set_option maxHeartbeats 4000000
namespace VL
open PySem PySem.Spec PyProof.Rows L2
section
variable {X : Cx} {c : Cn} {W : WX} {apos cpos : Pos} {wl wx : WE} {o e : Expr} {k : Nat}
end
section
variable {X : Cx} {c : Cn} {k : Nat}
end
end VL
set_option maxRecDepth 100000
set_option maxHeartbeats 4000000
namespace VL
open PySem PySem.Spec PyProof.Rows L2
def wTuple : WF := fun rs Q => ∃ r ds, rs = [r] ∧ (r.d = .list ds ∨ r.d = .tuple ds) ∧ flatAll ds = true ∧ Q ⟨.tuple ds, mA⟩
section
variable {X : Cx} {c : Cn} {W : WX} {pos p p1 p2 p3 : Pos} {wa : WA} {we : WE} {e : Expr} {k : Nat}
theorem s_tuple : CallS c (fun xs H Q => ∃ p ys, xs = [.ref p] ∧ ((SqL c.K H p ys ∧ ∀ l, H l = none → Q (.ref l) (upd H l (.tup ys))) ∨ (SqT c.K H p ys ∧ Q (.ref p) H))) wTuple := by
  intro L Tm l env σ H rs vs Qv Q S h ⟨r, ds, e, e2, f, q⟩ k
  subst e
  obtain ⟨v, rfl, hr⟩ := ress1 h
  have r1 := hr.read
  rcases e2 with e2 | e2
  · rw [e2] at r1
    obtain ⟨a, us, rfl, ha, _, r1'⟩ := r1.lst_inv
    refine ⟨a, us, rfl, .inl ⟨SqL.of ha, fun p np => ?_⟩⟩
    have st := new_end (o := .tup us) S np (List.nil_sublist l)
    exact k _ _ [] _ q st.drop (Res.flat (A := fun _ => True) (.tup upd_same (r1'.keep (Kp.same (same_new np)))) (by rw [flat_tup]; exact f))
  · rw [e2] at r1
    obtain ⟨a, us, rfl, ha, r1'⟩ := r1.tup_inv
    exact ⟨a, us, rfl, .inr ⟨SqT.of ha, flat_end1 S q (.tup ha r1') (by rw [flat_tup]; exact f) k⟩⟩
theorem ve_tuple1 (hm : X.mg "tuple" = none) (ha : PA X [e] (rdA c W wa)) (hK : c.K = X.K := by rfl) (hg : Gl X "tuple" := by rfl) (he : starEach [e] X.env = (false, eval e X.env) :: starEach [] X.env := by rfl) (hpl : (backTo pos (starEach [] X.env)).any (·.1) = false := by rfl) : PE X (.Call (.Name "tuple" p) [e] [] pos) (rdE c W (wCB wTuple wa)) :=
  ve_callTy call_tuple_of (by rw [← hK]; exact s_tuple) hm (by decide +kernel) ha hg (by decide) (by decide) he hpl
end
section
variable {q : R → Prop} {m : Md} {ns : List Int} {ds : List D} {Q : R → VEnv → Prop} {env : VEnv} {X : Exn → VEnv → Prop} {we : WE}
theorem i_tupleF (f : flatAll ds = true) (h : q ⟨.tuple ds, mA⟩) : wTuple [⟨.list ds, m⟩] q := ⟨_, _, rfl, .inl rfl, f, h⟩
end
end VL
set_option maxRecDepth 100000
set_option maxHeartbeats 4000000
namespace VL
open PySem PySem.Spec PyProof.Rows L2
section
variable {X : Cx} {c : Cn} {W : WX} {pos apos cpos : Pos} {wp : WP} {we : WE} {o e : Expr}
end
section
variable {X : Cx} {c : Cn} {W : WX} {pos px py apx apy cpx cpy : Pos} {wk : WE} {k : Expr} {x y : Str}
end
section
variable {X : Cx} {c : Cn} {W : WX} {pos p cpos tpos : Pos} {g : Tg} {wa : WA} {w : WS} {elts : List Expr} {kk : Nat} {a : Expr} {body : List Stmt}
end
end VL
set_option maxRecDepth 100000
set_option maxHeartbeats 4000000
namespace VL
open PySem PySem.Spec PyProof.Rows L2
section
variable {κ α : Type} [DecidableEq κ]
def lookK (kvs : List (κ × α)) (k : κ) : Option α := (kvs.find? fun p => decide (p.1 = k)).map (·.2)
def putKK (kvs : List (κ × α)) (k : κ) (v : α) : List (κ × α) :=
  if (kvs.any fun kv => decide (kv.1 = k)) = true then kvs.map (fun kv => if kv.1 = k then (kv.1, v) else kv) else kvs ++ [(k, v)]
theorem lookK_nil {k : κ} : lookK ([] : List (κ × α)) k = none := rfl
theorem lookK_pos {p : κ × α} {r : List (κ × α)} {k : κ} (e : p.1 = k) : lookK (p :: r) k = some p.2 := by simp [lookK, List.find?_cons, e]
theorem lookK_neg {p : κ × α} {r : List (κ × α)} {k : κ} (e : ¬ p.1 = k) : lookK (p :: r) k = lookK r k := by simp [lookK, List.find?_cons, e]
theorem lookK_map (k j : κ) (y : α) : ∀ kvs : List (κ × α), lookK (kvs.map fun kv => if kv.1 = k then (kv.1, y) else kv) j = (lookK kvs j).map fun x => if j = k then y else x
  | [] => rfl
  | p :: r => by
    by_cases h : p.1 = k
    · by_cases hj : p.1 = j
      · rw [lookK_pos hj, List.map_cons, if_pos h, lookK_pos (p := (p.1, y)) hj]
        simp [← hj, h]
      · rw [lookK_neg hj, List.map_cons, if_pos h, lookK_neg (p := (p.1, y)) hj, lookK_map k j y r]
    · by_cases hj : p.1 = j
      · rw [lookK_pos hj, List.map_cons, if_neg h, lookK_pos hj]
        simp [← hj, h]
      · rw [lookK_neg hj, List.map_cons, if_neg h, lookK_neg hj, lookK_map k j y r]
theorem lookK_any (k : κ) : ∀ kvs : List (κ × α), (kvs.any fun kv => decide (kv.1 = k)) = (lookK kvs k).isSome
  | [] => rfl
  | p :: r => by
    by_cases h : p.1 = k
    · rw [lookK_pos h]; simp [h]
    · rw [lookK_neg h, ← lookK_any k r]; simp [h]
theorem lookK_snoc (k j : κ) (y : α) : ∀ kvs : List (κ × α), lookK kvs k = none → lookK (kvs ++ [(k, y)]) j = if j = k then some y else lookK kvs j
  | [], _ => by
    by_cases h : j = k
    · subst h; simp [lookK]
    · simp [lookK, h, Ne.symm h]
  | p :: r, hn => by
    by_cases h : p.1 = k
    · rw [lookK_pos h] at hn; cases hn
    · rw [lookK_neg h] at hn
      by_cases hj : p.1 = j
      · rw [List.cons_append, lookK_pos hj, lookK_pos hj, if_neg (fun z => h (hj.trans z))]
      · rw [List.cons_append, lookK_neg hj, lookK_neg hj, lookK_snoc k j y r hn]
theorem lookK_put (kvs : List (κ × α)) (k j : κ) (y : α) : lookK (putKK kvs k y) j = if j = k then some y else lookK kvs j := by
  unfold putKK
  rw [lookK_any]
  split
  · rename_i h
    rw [lookK_map]
    by_cases hj : j = k
    · subst hj
      obtain ⟨x, hx⟩ := Option.isSome_iff_exists.mp h
      rw [hx]; simp
    · simp [hj]
  · rename_i h
    exact lookK_snoc k j y kvs (by simpa using h)
end
def dctI (kvs : List (Int × D)) : D := mkDict false (kvs.map fun p => (.int p.1, p.2))
def dctT (kvs : List (List Int × D)) : D := mkDict true (kvs.map fun p => (.tuple (p.1.map .int), p.2))
theorem flat_dI (kvs : List (Int × D)) : flatD (dctI kvs) = false := flat_dictF fun p hp q z => by
  obtain ⟨r, _, rfl⟩ := List.mem_map.mp hp
  cases z
theorem flat_dT (kvs : List (List Int × D)) : flatD (dctT kvs) = false := flat_dictT
def flatKV {κ : Type} (kvs : List (κ × D)) : Prop := ∀ p ∈ kvs, flatD p.2 = true
section
variable {K : PySem.W.Frag} {A A' : Addr → Prop} {H H' : Hp}
inductive PrI (K : PySem.W.Frag) (A : Addr → Prop) (H : Hp) : List (Key × V) → List (Int × D) → Prop
  | nil : PrI K A H [] []
  | cons {i : Int} {v : V} {d : D} {r : List (Key × V)} {s : List (Int × D)} : RS K A H v d → PrI K A H r s → PrI K A H ((.inl i, v) :: r) ((i, d) :: s)
inductive PrT (K : PySem.W.Frag) (A : Addr → Prop) (H : Hp) : List (List Key × V) → List (List Int × D) → Prop
  | nil : PrT K A H [] []
  | cons {i : List Int} {v : V} {d : D} {r : List (List Key × V)} {s : List (List Int × D)} : RS K A H v d → PrT K A H r s → PrT K A H ((i.map .inl, v) :: r) ((i, d) :: s)
theorem kD_int {k : Key} {i : Int} (h : kD k = .int i) : k = .inl i := by
  cases k with
  | inl j => cases h; rfl
  | inr x => cases h
theorem kDs_int : ∀ {k : List Key} {i : List Int}, k.map kD = i.map PyData.int → k = i.map .inl
  | [], [], _ => rfl
  | [], _ :: _, h => by cases h
  | _ :: _, [], h => by cases h
  | k :: ks, i :: is, h => by
    simp only [List.map_cons, List.cons.injEq] at h
    rw [kD_int h.1, kDs_int h.2]; rfl
theorem PrI.of : ∀ {k' : List (Key × V)} {kvs : List (Int × D)}, (k'.map fun p => kD p.1) = (kvs.map fun p => PyData.int p.1) → RSs K A H (k'.map (·.2)) (kvs.map (·.2)) → PrI K A H k' kvs
  | [], [], _, _ => .nil
  | [], _ :: _, h, _ => by cases h
  | _ :: _, [], h, _ => by cases h
  | (k, v) :: r, (i, d) :: s, h, hv => by
    simp only [List.map_cons, List.cons.injEq] at h
    cases hv with
    | cons h1 h2 =>
      rw [kD_int h.1]
      exact .cons h1 (PrI.of h.2 h2)
theorem PrT.of : ∀ {k' : List (List Key × V)} {kvs : List (List Int × D)}, (k'.map fun p => PyData.tuple (p.1.map kD)) = (kvs.map fun p => PyData.tuple (p.1.map PyData.int)) → RSs K A H (k'.map (·.2)) (kvs.map (·.2)) → PrT K A H k' kvs
  | [], [], _, _ => .nil
  | [], _ :: _, h, _ => by cases h
  | _ :: _, [], h, _ => by cases h
  | (k, v) :: r, (i, d) :: s, h, hv => by
    simp only [List.map_cons, List.cons.injEq, PyData.tuple.injEq] at h
    cases hv with
    | cons h1 h2 =>
      have := kDs_int h.1
      rw [this]
      exact .cons h1 (PrT.of h.2 h2)
theorem PrI.vals {k' : List (Key × V)} {kvs : List (Int × D)} (h : PrI K A H k' kvs) : RSs K A H (k'.map (·.2)) (kvs.map (·.2)) := by
  induction h with
  | nil => exact .nil
  | cons h _ ih => exact .cons h ih
theorem PrT.vals {k' : List (List Key × V)} {kvs : List (List Int × D)} (h : PrT K A H k' kvs) : RSs K A H (k'.map (·.2)) (kvs.map (·.2)) := by
  induction h with
  | nil => exact .nil
  | cons h _ ih => exact .cons h ih
theorem PrI.keys {k' : List (Key × V)} {kvs : List (Int × D)} (h : PrI K A H k' kvs) : (k'.map fun p => kD p.1) = (kvs.map fun p => PyData.int p.1) := by
  induction h with
  | nil => rfl
  | cons h _ ih => rw [List.map_cons, List.map_cons, ih]; rfl
theorem kD_inls : ∀ is : List Int, (is.map Sum.inl).map kD = is.map PyData.int
  | [] => rfl
  | i :: is => by rw [List.map_cons, List.map_cons, kD_inls is]; rfl
theorem PrT.keys {k' : List (List Key × V)} {kvs : List (List Int × D)} (h : PrT K A H k' kvs) : (k'.map fun p => PyData.tuple (p.1.map kD)) = (kvs.map fun p => PyData.tuple (p.1.map PyData.int)) := by
  induction h with
  | nil => rfl
  | @cons i v d r s h _ ih => rw [List.map_cons, List.map_cons, ih]; show PyData.tuple ((i.map Sum.inl).map kD) :: _ = _; rw [kD_inls]
theorem inls_inj : ∀ {a b : List Int}, a.map (Sum.inl : Int → Key) = b.map Sum.inl → a = b
  | [], [], _ => rfl
  | [], _ :: _, h => by cases h
  | _ :: _, [], h => by cases h
  | a :: as, b :: bs, h => by
    simp only [List.map_cons, List.cons.injEq, Sum.inl.injEq] at h
    rw [h.1, inls_inj h.2]
theorem PrI.any {k' : List (Key × V)} {kvs : List (Int × D)} (h : PrI K A H k' kvs) (i : Int) : (k'.any fun kv => decide (kv.1 = .inl i)) = kvs.any fun kv => decide (kv.1 = i) := by
  induction h with
  | nil => rfl
  | @cons j v d r s h _ ih =>
    rw [List.any_cons, List.any_cons, ih]
    congr 1
    by_cases e : j = i
    · simp [e]
    · have : ¬ (Sum.inl j : Key) = .inl i := fun z => e (Sum.inl.inj z)
      simp [e]
theorem PrT.any {k' : List (List Key × V)} {kvs : List (List Int × D)} (h : PrT K A H k' kvs) (i : List Int) : (k'.any fun kv => decide (kv.1 = i.map .inl)) = kvs.any fun kv => decide (kv.1 = i) := by
  induction h with
  | nil => rfl
  | @cons j v d r s h _ ih =>
    rw [List.any_cons, List.any_cons, ih]
    congr 1
    by_cases e : j = i
    · simp [e]
    · have : ¬ j.map (Sum.inl : Int → Key) = i.map .inl := fun z => e (inls_inj z)
      simp [e, this]
theorem PrI.mapp {k' : List (Key × V)} {kvs : List (Int × D)} (h : PrI K A H k' kvs) (i : Int) {v : V} {d : D} (hv : RS K A H v d) : PrI K A H (k'.map fun kv => if kv.1 = .inl i then (kv.1, v) else kv) (kvs.map fun kv => if kv.1 = i then (kv.1, d) else kv) := by
  induction h with
  | nil => exact .nil
  | @cons j v0 d0 r s h _ ih =>
    rw [List.map_cons, List.map_cons]
    by_cases e : j = i
    · rw [if_pos (show (Sum.inl j : Key) = .inl i by rw [e]), if_pos e]
      exact .cons hv ih
    · rw [if_neg (show ¬ (Sum.inl j : Key) = .inl i from fun z => e (Sum.inl.inj z)), if_neg e]
      exact .cons h ih
theorem PrT.mapp {k' : List (List Key × V)} {kvs : List (List Int × D)} (h : PrT K A H k' kvs) (i : List Int) {v : V} {d : D} (hv : RS K A H v d) : PrT K A H (k'.map fun kv => if kv.1 = i.map .inl then (kv.1, v) else kv) (kvs.map fun kv => if kv.1 = i then (kv.1, d) else kv) := by
  induction h with
  | nil => exact .nil
  | @cons j v0 d0 r s h _ ih =>
    rw [List.map_cons, List.map_cons]
    by_cases e : j = i
    · rw [if_pos (show j.map (Sum.inl : Int → Key) = i.map .inl by rw [e]), if_pos e]
      exact .cons hv ih
    · rw [if_neg (show ¬ j.map (Sum.inl : Int → Key) = i.map .inl from fun z => e (inls_inj z)), if_neg e]
      exact .cons h ih
theorem PrI.snoc {k' : List (Key × V)} {kvs : List (Int × D)} (h : PrI K A H k' kvs) (i : Int) {v : V} {d : D} (hv : RS K A H v d) : PrI K A H (k' ++ [(.inl i, v)]) (kvs ++ [(i, d)]) := by
  induction h with
  | nil => exact .cons hv .nil
  | cons h _ ih => exact .cons h ih
theorem PrT.snoc {k' : List (List Key × V)} {kvs : List (List Int × D)} (h : PrT K A H k' kvs) (i : List Int) {v : V} {d : D} (hv : RS K A H v d) : PrT K A H (k' ++ [(i.map .inl, v)]) (kvs ++ [(i, d)]) := by
  induction h with
  | nil => exact .cons hv .nil
  | cons h _ ih => exact .cons h ih
theorem PrI.put {k' : List (Key × V)} {kvs : List (Int × D)} (h : PrI K A H k' kvs) (i : Int) {v : V} {d : D} (hv : RS K A H v d) : PrI K A H (putK k' (.inl i) v) (putKK kvs i d) := by
  unfold putK putKK
  rw [h.any i]
  split
  · exact h.mapp i hv
  · exact h.snoc i hv
theorem PrT.put {k' : List (List Key × V)} {kvs : List (List Int × D)} (h : PrT K A H k' kvs) (i : List Int) {v : V} {d : D} (hv : RS K A H v d) : PrT K A H (putK k' (i.map .inl) v) (putKK kvs i d) := by
  unfold putK putKK
  rw [h.any i]
  split
  · exact h.mapp i hv
  · exact h.snoc i hv
theorem PrI.len {k' : List (Key × V)} {kvs : List (Int × D)} (h : PrI K A H k' kvs) : k'.length = kvs.length := by
  induction h with
  | nil => rfl
  | cons h _ ih => simp [ih]
theorem PrT.len {k' : List (List Key × V)} {kvs : List (List Int × D)} (h : PrT K A H k' kvs) : k'.length = kvs.length := by
  induction h with
  | nil => rfl
  | cons h _ ih => simp [ih]
theorem PrI.keep {k' : List (Key × V)} {kvs : List (Int × D)} (h : PrI K A H k' kvs) (f : flatKV kvs) (k : Kp (fun _ => False) H H') : PrI K A' H' k' kvs := by
  induction h with
  | nil => exact .nil
  | @cons j v d r s h _ ih =>
    have fd : flatD d = true := f (j, d) List.mem_cons_self
    exact .cons (((h.flat (A' := fun _ => False) fd).keep k).flat fd) (ih fun p hp => f p (List.mem_cons_of_mem _ hp))
theorem PrT.keep {k' : List (List Key × V)} {kvs : List (List Int × D)} (h : PrT K A H k' kvs) (f : flatKV kvs) (k : Kp (fun _ => False) H H') : PrT K A' H' k' kvs := by
  induction h with
  | nil => exact .nil
  | @cons j v d r s h _ ih =>
    have fd : flatD d = true := f (j, d) List.mem_cons_self
    exact .cons (((h.flat (A' := fun _ => False) fd).keep k).flat fd) (ih fun p hp => f p (List.mem_cons_of_mem _ hp))
theorem flatKV_all {κ : Type} : ∀ {kvs : List (κ × D)}, flatKV kvs → flatAll (kvs.map (·.2)) = true
  | [], _ => rfl
  | p :: r, f => by
    rw [List.map_cons, flatAll, flatKV_all fun q hq => f q (List.mem_cons_of_mem _ hq), f p List.mem_cons_self]; rfl
theorem RO.mkT {a : Addr} {k' : List (List Key × V)} {kvs : List (List Int × D)} (ha : H a = some (.dT k')) (pr : PrT K (fun _ => True) H k' kvs) (f : flatKV kvs) : RO K A H none (.ref a) (dctT kvs) [a] := by
  refine RO.dct (l := []) (n := none) rfl (.inr ⟨rfl, k', ha, rfl⟩) ?_ ?_
  · have := pr.keys
    simpa [List.map_map, Function.comp_def] using this
  · have := flat_kidsM (A' := A) (m := none) pr.vals (flatKV_all f)
    simpa [List.map_map, Function.comp_def] using this
end
section
variable {X : Cx} {c : Cn} {W : WX} {pos tpos : Pos} {wd wk we : WE} {o i e : Expr} {k : Nat}
end
end VL
set_option maxRecDepth 100000
set_option maxHeartbeats 4000000
namespace VL
open PySem PySem.Spec PyProof.Rows L2
def seedF (ns : List Int) : Int := ns.foldl (fun s c => (s * 48271 + c % 1000003 + 1) % 2147483647) 5
def cellF (ns : List Int) (p : Int) : Int := if p < ns.length then (ns[p.toNat]?).getD 0 else (seedF (cutL ns none (some 63)) + 7919 * p) % 1000003
def mixF (c k : Int) : Int := (((c % 2147483629 + 1013 * k + 7919) ^ 3 % 2147483647) * 40699 + 3793 * k * k + 11) % 2147483399 / 101
def rowSt (ns : List Int) (p c : Int) (sz : List Int) : Nat → Int × List Int
  | 0 => (c, [])
  | k + 1 => if c < 10 ^ 18 then ((rowSt ns p c sz k).1, (rowSt ns p c sz k).2 ++ [mixF c k % (sz[k]?).getD 1])
    else if 0 < (rowSt ns p c sz k).1 then ((rowSt ns p c sz k).1 / (sz[k]?).getD 1, (rowSt ns p c sz k).2 ++ [(rowSt ns p c sz k).1 % (sz[k]?).getD 1])
    else ((rowSt ns p c sz k).1, (rowSt ns p c sz k).2 ++ [mixF (cellF ns ((p + 1 + k) % 63)) k % (sz[k]?).getD 1])
def rowF (ns : List Int) (p : Int) (sz : List Int) : List Int := (rowSt ns p (cellF ns p) sz sz.length).2
def RowIn : List Int → List Int → Prop
  | [], [] => True
  | s :: r, x :: xs => (0 ≤ x ∧ x < s) ∧ RowIn r xs
  | _, _ => False
theorem RowIn.of : ∀ {sz xs : List Int}, xs.length = sz.length → (∀ (i : Nat) s x, sz[i]? = some s → xs[i]? = some x → 0 ≤ x ∧ x < s) → RowIn sz xs
  | [], [], _, _ => True.intro
  | [], _ :: _, h, _ => by cases h
  | _ :: _, [], h, _ => by cases h
  | s :: sz, x :: xs, h, q => ⟨q 0 s x rfl rfl, RowIn.of (by simpa using h) fun i s x h1 h2 => q (i + 1) s x (by simpa using h1) (by simpa using h2)⟩
def sp_law_cell : FSpec := fun ds Q _ => ∃ ns p, ds = [scriptD ns, .int p] ∧ 0 ≤ p ∧ p < 1000 ∧ ns.length ≤ 63 ∧ Q ⟨.int (cellF ns p), mA⟩
def sp_law_mix : FSpec := fun ds Q _ => ∃ c k, ds = [.int c, .int k] ∧ 0 ≤ k ∧ k < 10000 ∧ Q ⟨.int (mixF c k), mA⟩
def sp_law_row : FSpec := fun ds Q _ => ∃ (ns : List Int) (p : Int) (sz : List Int), ds = [scriptD ns, .int p, .list (sz.map .int)] ∧ 0 ≤ p ∧ p < 1000 ∧ ns.length ≤ 63 ∧ sz.length ≤ 500 ∧ (∀ s ∈ sz, 0 < s ∧ s < 2 ^ 5000) ∧ Q ⟨.list ((rowF ns p sz).map .int), mA⟩
end VL
set_option maxRecDepth 100000
set_option maxHeartbeats 4000000
namespace VL
open PySem PySem.Spec PyProof.Rows L2
def rowD (r : List Int) : D := .list (r.map .int)
def tD (t : List (List Int)) : D := .list (t.map rowD)
def Shape (n : Nat) (t : List (List Int)) : Prop := t.length = n ∧ ∀ r ∈ t, r.length = n ∧ ∀ x ∈ r, 0 ≤ x ∧ x < n
def ent (t : List (List Int)) (a b : Int) : Int := ((t[a.toNat]?).getD [])[b.toNat]?.getD 0
def cellG (w n f a b : Int) : Int :=
  if w = 1 then (2 * b - a) % n else if w = 2 then (f * a + (1 - f) * b) % n
  else if w = 3 ∧ n > 2 ∧ a < 2 ∧ b = n - 1 then 1 - a
  else if w = 6 ∧ a < n - 1 ∧ b = n - 1 then (a + 1) % (n - 1)
  else if w = 4 ∧ a < n / 2 ∧ b < n / 2 then (2 * b - a) % (n / 2)
  else if w = 4 ∧ a ≥ n / 2 ∧ b ≥ n / 2 then n / 2 + (2 * b - a - n / 2) % (n - n / 2)
  else a
theorem cellG_range {w n f a b : Int} (hn : 1 ≤ n) (h0 : 0 ≤ a) (h1 : a < n) : 0 ≤ cellG w n f a b ∧ cellG w n f a b < n := by
  have md : ∀ x k : Int, 0 < k → 0 ≤ x % k ∧ x % k < k := fun x k h => ⟨Int.emod_nonneg _ (by omega), Int.emod_lt_of_pos _ h⟩
  unfold cellG
  split
  · exact md _ _ (by omega)
  split
  · exact md _ _ (by omega)
  split
  · omega
  split
  · rename_i h
    have := md (a + 1) (n - 1) (by omega)
    omega
  split
  · rename_i h
    have := md (2 * b - a) (n / 2) (by omega)
    omega
  split
  · rename_i h
    have := md (2 * b - a - n / 2) (n - n / 2) (by omega)
    omega
  · omega
def tabT (g : Int → Int → Int) (n : Nat) : List (List Int) := (List.range n).map fun a : Nat => (List.range n).map fun b : Nat => g (a : Nat) (b : Nat)
def madeT (w : Int) (n : Nat) (f : Int) : List (List Int) := if w = 5 ∧ n = 4 then [[0, 3, 1, 2], [2, 1, 3, 0], [3, 0, 2, 1], [1, 2, 0, 3]] else tabT (cellG w n f) n
theorem tabT_shape {g : Int → Int → Int} {n : Nat} (h : ∀ a b : Nat, a < n → b < n → 0 ≤ g a b ∧ g a b < n) : Shape n (tabT g n) := by
  refine ⟨by simp [tabT], fun r hr => ?_⟩
  obtain ⟨a, ha, rfl⟩ := List.mem_map.mp hr
  refine ⟨by simp, fun x hx => ?_⟩
  obtain ⟨b, hb, rfl⟩ := List.mem_map.mp hx
  exact h a b (by simpa using ha) (by simpa using hb)
theorem madeT_shape {w f : Int} {n : Nat} (hn : 1 ≤ n) : Shape n (madeT w n f) := by
  unfold madeT
  split
  · rename_i h
    obtain ⟨_, rfl⟩ := h
    unfold Shape
    decide
  · exact tabT_shape fun a b ha hb => cellG_range (by omega) (by omega) (by omega)
def rgI (n : Nat) : List Int := (List.range n).map fun i : Nat => (i : Int)
def Relaid (n : Nat) (t : List (List Int)) (s : List Int) (r : List (List Int)) : Prop := Shape n r ∧ ∀ a b : Nat, a < n → b < n → ent r ((s[a]?).getD 0) ((s[b]?).getD 0) = (s[(ent t a b).toNat]?).getD 0
def Made (n : Nat) (t : List (List Int)) : Prop := ∃ w f : Int, 0 ≤ w ∧ w < 7 ∧ 1 ≤ f ∧ f ≤ 1000 ∧ Int.gcd f n = 1 ∧ t = madeT w n f
def IsTab (n : Nat) (t : List (List Int)) : Prop := Made n t ∨ ∃ t0 s, Made n t0 ∧ s.Perm (rgI n) ∧ Relaid n t0 s t
theorem Made.shape {n : Nat} {t : List (List Int)} (hn : 1 ≤ n) (h : Made n t) : Shape n t := by
  obtain ⟨w, f, _, _, _, _, _, rfl⟩ := h
  exact madeT_shape hn
theorem IsTab.shape {n : Nat} {t : List (List Int)} (hn : 1 ≤ n) (h : IsTab n t) : Shape n t := by
  rcases h with h | ⟨t0, s, _, _, h⟩
  · exact h.shape hn
  · exact h.1
def sp_law_made : FSpec := fun ds Q _ => ∃ (w f : Int) (n : Nat), ds = [.int w, .int (n : Int), .int f] ∧ 0 ≤ w ∧ w < 7 ∧ 1 ≤ n ∧ n ≤ 24 ∧ 1 ≤ f ∧ f ≤ 100 ∧ ∀ f' : Int, 1 ≤ f' → f' ≤ 1000 → Int.gcd f' n = 1 → Q ⟨tD (madeT w n f'), mA⟩
end VL
set_option maxRecDepth 100000
set_option maxHeartbeats 4000000
namespace VL
open PySem PySem.Spec PyProof.Rows L2
def atR (r : List Int) (a : Int) : Int := (r[a.toNat]?).getD 0
theorem ent_rg {t : List (List Int)} {n : Nat} {a b : Int} (h : Shape n t) (a0 : 0 ≤ a) (a1 : a < n) (b0 : 0 ≤ b) (b1 : b < n) : 0 ≤ ent t a b ∧ ent t a b < n := by
  have hl : a.toNat < t.length := by rw [h.1]; omega
  obtain ⟨q1, q2⟩ := h.2 _ (List.getElem_mem hl)
  have hb : b.toNat < (t[a.toNat]).length := by rw [q1]; omega
  have e : ent t a b = (t[a.toNat])[b.toNat] := by
    unfold ent
    rw [List.getElem?_eq_getElem hl]
    show ((t[a.toNat])[b.toNat]?).getD 0 = _
    rw [List.getElem?_eq_getElem hb]; rfl
  rw [e]
  exact q2 _ (List.getElem_mem hb)
section
variable {env e : VEnv} {Dv : DV} {q : R → Prop} {m m' : Md} {ds : List D} {t : List (List Int)} {r : List Int} {n : Nat} {a b A B v : Int} {i k : Nat} {wi : WE} {X : Exn → VEnv → Prop} {Q : Nat → List Int → VEnv → Prop}
end
section
variable {t : List (List Int)} {r : List Int} {m m' : Md} {q : R → Prop}
end
section
variable {wa : WE} {w : WS} {Dv : DV} {t : List (List Int)} {r : List Int} {m : Md} {i : Nat} {e : VEnv}
end
end VL
set_option maxRecDepth 100000
set_option maxHeartbeats 4000000
namespace VL
open PySem PySem.Spec PyProof.Rows L2
section
variable {env e : VEnv} {Dv : DV} {q : R → Prop} {m m' : Md} {ds : List D} {t : List (List Int)} {r : List Int} {s : List (Int × Int)} {n : Nat} {a b A B v : Int} {i j k : Nat} {wi we wd wk wa wl : WE} {w : WS} {X : Exn → VEnv → Prop} {Q : R → VEnv → Prop}
end
end VL
set_option maxRecDepth 100000
set_option maxHeartbeats 4000000
namespace VL
open PySem PySem.Spec PyProof.Rows L2
def KitTAt (K : PySem.W.Frag) (x : Str) (y : String) (b : Bool) : Prop := ∃ C : Addr, PySem.W.nsIn K mainGlobals x = some (some (.ref C)) ∧ PySem.W.kitOne K (.ref C) (.type y) = some b
theorem KitTAt.mk {K : PySem.W.Frag} {x : Str} {y : String} {b : Bool} {C : Addr} (h1 : PySem.W.nsIn K mainGlobals x = some (some (.ref C))) (h2 : PySem.W.kitOne K (.ref C) (.type y) = some b) : KitTAt K x y b := ⟨C, h1, h2⟩
section
variable {P : Program} {w : World} {K : PySem.W.Frag} {mg : Str → Option Value} {base h : Heap} {names : List Str}
end
section
variable {X : Cx} {c : Cn} {W : WX} {pos : Pos}
end
end VL
set_option maxRecDepth 100000
set_option maxHeartbeats 4000000
namespace VL
open PySem PySem.Spec PyProof.Rows L2
section
variable {X : Cx} {c : Cn} {W : WX} {pos p p2 pos2 : Pos} {wa wb : WE} {a b : Expr}
end
end VL
set_option maxRecDepth 100000
set_option maxHeartbeats 4000000
namespace VL
open PySem PySem.Spec PyProof.Rows L2
inductive Out (α : Type) where
  | ok (a : α) | exn (x : Exn) | stuck
namespace Out
variable {α β γ : Type}
def bind (m : Out α) (k : α → Out β) : Out β := match m with | .ok a => k a | .exn x => .exn x | .stuck => .stuck
def map (f : α → β) (m : Out α) : Out β := m.bind fun a => .ok (f a)
@[simp] theorem bind_ok (a : α) (k : α → Out β) : (Out.ok a).bind k = k a := Eq.trans rfl rfl
@[simp] theorem bind_exn (x : Exn) (k : α → Out β) : (Out.exn x).bind k = .exn x := Eq.trans rfl rfl
@[simp] theorem bind_stuck (k : α → Out β) : (Out.stuck : Out α).bind k = .stuck := Eq.trans rfl rfl
@[simp] theorem bind_assoc (m : Out α) (k : α → Out β) (l : β → Out γ) : (m.bind k).bind l = m.bind fun a => (k a).bind l := by cases m <;> rfl
@[simp] theorem map_ok (a : α) (f : α → β) : (Out.ok a).map f = .ok (f a) := Eq.trans rfl rfl
@[simp] theorem bind_id (m : Out α) : (m.bind fun a => .ok a) = m := by cases m <;> rfl
end Out
def lift {α : Type} : Option α → Out α | some a => .ok a | none => .stuck
@[simp] theorem lift_some {α : Type} (a : α) : lift (some a) = .ok a := Eq.trans rfl rfl
@[simp] theorem lift_none {α : Type} : lift (none : Option α) = .stuck := Eq.trans rfl rfl
def noX {α : Type} : Out α → Out α | .exn _ => .stuck | m => m
@[simp] theorem noX_ok {α : Type} (a : α) : noX (.ok a) = .ok a := Eq.trans rfl rfl
def Sat {α : Type} (m : Out α) (Q : α → Prop) (X : Exn → Prop) : Prop := match m with | .ok a => Q a | .exn x => X x | .stuck => False
section
variable {α β : Type} {m : Out α} {k : α → Out β} {Q Q' : α → Prop} {R : β → Prop} {X X' : Exn → Prop}
@[simp] theorem sat_ok {a : α} : Sat (.ok a) Q X ↔ Q a := ⟨fun h => h, fun h => h⟩
@[simp] theorem sat_exn {x : Exn} : Sat (.exn x : Out α) Q X ↔ X x := ⟨fun h => h, fun h => h⟩
@[simp] theorem sat_stuck : Sat (.stuck : Out α) Q X ↔ False := ⟨fun h => h, fun h => h⟩
theorem sat_bind : Sat (m.bind k) R X ↔ Sat m (fun a => Sat (k a) R X) X := by cases m <;> exact Iff.rfl
theorem Sat.mono (h : Sat m Q X) (hq : ∀ a, Q a → Q' a) (hx : ∀ x, X x → X' x) : Sat m Q' X' := by
  cases m with
  | ok a => exact hq _ h
  | exn x => exact hx _ h
  | stuck => exact h
theorem Sat.imp (h : Sat m Q X) (hq : ∀ a, Q a → Q' a) : Sat m Q' X := h.mono hq fun _ h => h
theorem sat_lift {α : Type} {o : Option α} {Q : α → Prop} {X : Exn → Prop} : Sat (lift o) Q X ↔ ∃ a, o = some a ∧ Q a := by cases o <;> simp
theorem sat_noX : Sat (noX m) Q X ↔ Sat m Q fun _ => False := by cases m <;> exact Iff.rfl
theorem Sat.eq (h : Sat m (fun a => a = v) fun _ => False) : m = .ok v := by
  cases m with
  | ok a => exact congrArg _ h
  | exn x => exact h.elim
  | stuck => exact h.elim
end
inductive Fl (ρ σ : Type) where
  | ret (r : ρ) | nxt (s : σ)
def flowT {ρ σ : Type} (k : σ → Out ρ) : Fl ρ σ → Out ρ | .ret r => .ok r | .nxt s => k s
def flowF {ρ σ τ : Type} (k : σ → Out (Fl ρ τ)) : Fl ρ σ → Out (Fl ρ τ) | .ret r => .ok (.ret r) | .nxt s => k s
@[simp] theorem flowT_ret {ρ σ : Type} (k : σ → Out ρ) (r : ρ) : flowT k (.ret r) = .ok r := Eq.trans rfl rfl
@[simp] theorem flowT_nxt {ρ σ : Type} (k : σ → Out ρ) (s : σ) : flowT k (.nxt s) = k s := Eq.trans rfl rfl
@[simp] theorem flowF_ret {ρ σ τ : Type} (k : σ → Out (Fl ρ τ)) (r : ρ) : flowF k (.ret r) = .ok (.ret r) := Eq.trans rfl rfl
@[simp] theorem flowF_nxt {ρ σ τ : Type} (k : σ → Out (Fl ρ τ)) (s : σ) : flowF k (.nxt s) = k s := Eq.trans rfl rfl
section
variable {α β σ ρ : Type}
def forO (f : σ → α → Out σ) : σ → List α → Out σ
  | s, [] => .ok s
  | s, x :: xs => (f s x).bind fun s' => forO f s' xs
def forF (f : σ → α → Out (Fl ρ σ)) : σ → List α → Out (Fl ρ σ)
  | s, [] => .ok (.nxt s)
  | s, x :: xs => (f s x).bind (flowF fun s' => forF f s' xs)
def mapO (f : α → Out β) : List α → Out (List β)
  | [] => .ok []
  | x :: xs => (f x).bind fun y => (mapO f xs).bind fun ys => .ok (y :: ys)
def fmapO (p : α → Out Bool) (f : α → Out β) : List α → Out (List β)
  | [] => .ok []
  | x :: xs => (p x).bind fun b => if b = true then (f x).bind fun y => (fmapO p f xs).bind fun ys => .ok (y :: ys) else fmapO p f xs
def whileO (c : σ → Out Bool) (f : σ → Out σ) : Nat → σ → Out σ
  | 0, _ => .stuck
  | n + 1, s => (c s).bind fun b => if b = true then (f s).bind fun s' => whileO c f n s' else .ok s
end
@[irreducible] def fuel : Nat := 1000000000
abbrev Enc (α : Type) := α → D
def eI : Enc Int := PyData.int
def eB : Enc Bool := PyData.bool
def eS : Enc Str := PyData.str
def eN : Enc Unit := fun _ => PyData.none
def eScr : Enc (List Int) := scriptD
section
variable {α β γ δ ε ζ : Type}
def eL (e : Enc α) : Enc (List α) := fun xs => .list (xs.map e)
def eTL (e : Enc α) : Enc (List α) := fun xs => .tuple (xs.map e)
def e2 (a : Enc α) (b : Enc β) : Enc (α × β) := fun p => .tuple [a p.1, b p.2]
def e3 (a : Enc α) (b : Enc β) (c : Enc γ) : Enc (α × β × γ) := fun p => .tuple [a p.1, b p.2.1, c p.2.2]
def e4 (a : Enc α) (b : Enc β) (c : Enc γ) (d : Enc δ) : Enc (α × β × γ × δ) := fun p => .tuple [a p.1, b p.2.1, c p.2.2.1, d p.2.2.2]
def e5 (a : Enc α) (b : Enc β) (c : Enc γ) (d : Enc δ) (e : Enc ε) : Enc (α × β × γ × δ × ε) := fun p => .tuple [a p.1, b p.2.1, c p.2.2.1, d p.2.2.2.1, e p.2.2.2.2]
def e6 (a : Enc α) (b : Enc β) (c : Enc γ) (d : Enc δ) (e : Enc ε) (f : Enc ζ) : Enc (α × β × γ × δ × ε × ζ) := fun p => .tuple [a p.1, b p.2.1, c p.2.2.1, d p.2.2.2.1, e p.2.2.2.2.1, f p.2.2.2.2.2]
def eO (e : Enc α) : Enc (Option α) | none => .none | some a => e a
def eU (a : Enc α) (b : Enc β) : Enc (α ⊕ β) | .inl x => a x | .inr y => b y
def eK (e : Enc α) : Enc (List (Int × α)) := fun kvs => dctI (kvs.map fun p => (p.1, e p.2))
def eKT (e : Enc α) : Enc (List (List Int × α)) := fun kvs => dctT (kvs.map fun p => (p.1, e p.2))
end
class Fl_ {α : Type} (e : Enc α) : Prop where
  fl : ∀ a, flatD (e a) = true
class Nf {α : Type} (e : Enc α) : Prop where
  nf : ∀ a, flatD (e a) = false
section
variable {α β γ δ ε ζ : Type} {a : Enc α} {b : Enc β} {c : Enc γ} {d : Enc δ} {e : Enc ε} {f : Enc ζ}
instance : Fl_ eI := ⟨fun _ => rfl⟩
instance : Fl_ eB := ⟨fun _ => rfl⟩
instance : Fl_ eS := ⟨fun _ => rfl⟩
instance : Fl_ eN := ⟨fun _ => rfl⟩
instance : Nf eScr := ⟨fun _ => flat_script⟩
instance : Nf (eL a) := ⟨fun _ => rfl⟩
instance : Nf (eK a) := ⟨fun _ => flat_dI _⟩
instance : Nf (eKT a) := ⟨fun _ => flat_dT _⟩
theorem flatAll_map [h : Fl_ a] (xs : List α) : flatAll (xs.map a) = true := by
  induction xs with
  | nil => rfl
  | cons x xs ih => simp [flatAll, h.fl, ih]
instance [Fl_ a] : Fl_ (eTL a) := ⟨fun xs => by simpa [eTL, flatD] using flatAll_map xs⟩
instance [h : Fl_ a] : Fl_ (eO a) := ⟨fun | none => rfl | some x => h.fl x⟩
instance [h : Fl_ a] [g : Fl_ b] : Fl_ (eU a b) := ⟨fun | .inl x => h.fl x | .inr x => g.fl x⟩
instance [ha : Fl_ a] [hb : Fl_ b] : Fl_ (e2 a b) := ⟨fun p => by simp [e2, flatD, flatAll, ha.fl, hb.fl]⟩
instance [ha : Fl_ a] [hb : Fl_ b] [hc : Fl_ c] : Fl_ (e3 a b c) := ⟨fun p => by simp [e3, flatD, flatAll, ha.fl, hb.fl, hc.fl]⟩
instance [ha : Fl_ a] [hb : Fl_ b] [hc : Fl_ c] [hd : Fl_ d] : Fl_ (e4 a b c d) := ⟨fun p => by simp [e4, flatD, flatAll, ha.fl, hb.fl, hc.fl, hd.fl]⟩
instance [ha : Fl_ a] [hb : Fl_ b] [hc : Fl_ c] [hd : Fl_ d] [he : Fl_ e] : Fl_ (e5 a b c d e) := ⟨fun p => by simp [e5, flatD, flatAll, ha.fl, hb.fl, hc.fl, hd.fl, he.fl]⟩
instance [ha : Fl_ a] [hb : Fl_ b] [hc : Fl_ c] [hd : Fl_ d] [he : Fl_ e] [hf : Fl_ f] : Fl_ (e6 a b c d e f) := ⟨fun p => by simp [e6, flatD, flatAll, ha.fl, hb.fl, hc.fl, hd.fl, he.fl, hf.fl]⟩
instance nf2a [h : Nf a] : Nf (e2 a b) := ⟨fun p => by simp [e2, flatD, flatAll, h.nf]⟩
instance nf2b [h : Nf b] : Nf (e2 a b) := ⟨fun p => by simp [e2, flatD, flatAll, h.nf]⟩
instance nf3a [h : Nf a] : Nf (e3 a b c) := ⟨fun p => by simp [e3, flatD, flatAll, h.nf]⟩
instance nf3b [h : Nf b] : Nf (e3 a b c) := ⟨fun p => by simp [e3, flatD, flatAll, h.nf]⟩
instance nf3c [h : Nf c] : Nf (e3 a b c) := ⟨fun p => by simp [e3, flatD, flatAll, h.nf]⟩
instance nf4d [h : Nf d] : Nf (e4 a b c d) := ⟨fun p => by simp [e4, flatD, flatAll, h.nf]⟩
instance nf4a [h : Nf a] : Nf (e4 a b c d) := ⟨fun p => by simp [e4, flatD, flatAll, h.nf]⟩
instance nf5e [h : Nf e] : Nf (e5 a b c d e) := ⟨fun p => by simp [e5, flatD, flatAll, h.nf]⟩
instance nf5a [h : Nf a] : Nf (e5 a b c d e) := ⟨fun p => by simp [e5, flatD, flatAll, h.nf]⟩
end
section
variable {α β σ ρ τ : Type}
abbrev EG := VEnv → Prop
def RE (G : EG) (w : WE) (env env' : VEnv) (md : Md) (e : Enc α) (m : Out α) : Prop :=
  ∀ (Q : R → VEnv → Prop) (X : Exn → VEnv → Prop) (Xe : Exn → Prop), (∀ x v, G v → Xe x → X x v) → Sat m (fun a => Q ⟨e a, md⟩ env') Xe → w env Q X
def RT (G : EG) (w : WT) (env : VEnv) (m : Out Bool) : Prop :=
  ∀ (Q : Bool → VEnv → Prop) (X : Exn → VEnv → Prop) (Xe : Exn → Prop), (∀ x v, G v → Xe x → X x v) → Sat m (fun a => Q a env) Xe → w env Q X
def RA (G : EG) (w : WA) (env env' : VEnv) (f : τ → List R) (m : Out τ) : Prop :=
  ∀ (Q : List R → VEnv → Prop) (X : Exn → VEnv → Prop) (Xe : Exn → Prop), (∀ x v, G v → Xe x → X x v) → Sat m (fun a => Q (f a) env') Xe → w env Q X
def RB (G : EG) (w : WS) (env : VEnv) (m : Out β) (K : β → DV → Prop) : Prop :=
  ∀ (D : DV) (Xe : Exn → Prop), (∀ x v, G v → Xe x → D.ex x v) → Sat m (fun b => K b D) Xe → w env D
def KN (s : σ → VEnv) : σ → DV → Prop := fun V D => ∀ e, envLe (s V) e → D.nx e
def KT (e : Enc ρ) (md : Md) : ρ → DV → Prop := fun r D => ∀ v, D.rt ⟨e r, md⟩ v
def KF (e : Enc ρ) (md : Md) (s : σ → VEnv) : Fl ρ σ → DV → Prop
  | .ret r, D => ∀ v, D.rt ⟨e r, md⟩ v
  | .nxt V, D => ∀ e, envLe (s V) e → D.nx e
def wCut (w : WS) : WS := fun env D => ∃ J : VEnv → Prop, w env { D with nx := fun e => ∃ e', envLe e' e ∧ J e' } ∧ ∀ e, J e → D.nx e
theorem rdS_cut {c : Cn} {W : WX} {w : WS} : ∀ D σ H, rdS c W (wCut w) D σ H → rdS c W w D σ H := fun D σ H h => by
  obtain ⟨env, L, Dv, S, ⟨J, hw, hJ⟩, hn, hr, hx⟩ := h
  refine ⟨env, L, _, S, hw, fun env' L' σ' H' q S' => ?_, hr, hx⟩
  obtain ⟨e', le, j⟩ := q
  obtain ⟨L0, S0⟩ := S'.lower le
  exact hn e' L0 σ' H' (hJ _ j) S0
theorem vs_cut {X : Cx} {c : Cn} {W : WX} {w : WS} {st : Stmt} (h : PS X st (rdS c W w)) : PS X st (rdS c W (wCut w)) := PS.imp h rdS_cut
end
end VL
set_option maxRecDepth 100000
set_option maxHeartbeats 4000000
namespace VL
open PySem PySem.Spec PyProof.Rows L2
section
variable {α β γ δ σ ρ τ : Type} {G : EG} {env env1 env2 env3 : VEnv} {md m1 m2 m3 : Md} {a : Enc α} {b : Enc β} {c : Enc γ} {d : Enc δ} {wa wb wc we : WE} {wl wl' : WA} {wt wu : WT} {A : Out α} {B : Out β} {C : Out γ} {x : α} {y : β} {z : γ} {wo wo' : WO}
theorem re_c (v : D) (e : Enc α) (x : α) (h : e x = v := by rfl) : RE G (wC v) env env mA e (.ok x) := fun Q X Xe _ hs => by
  subst h; exact hs
theorem re_vF (i : Nat) (e : Enc α) (x : α) {m : Md} [f : Fl_ e] (h : env[i]? = some (some (e x, m)) := by rfl) : RE G (wVar i) env env mA e (.ok x) := fun Q X Xe _ hs => by
  refine ⟨_, _, h, ?_⟩
  unfold readR
  rw [if_pos (f.fl x)]; exact hs
theorem re_vS (i : Nat) (e : Enc α) (x : α) [f : Nf e] (h : env[i]? = some (some (e x, mS)) := by rfl) : RE G (wVar i) env env mS e (.ok x) := fun Q X Xe _ hs => by
  refine ⟨_, _, h, ?_⟩
  unfold readR
  rw [f.nf x]; exact hs
theorem re_vA (i : Nat) (e : Enc α) (x : α) [f : Nf e] (h : env[i]? = some (some (e x, mA)) := by rfl) : RE G (wVar i) env env .b e (.ok x) := fun Q X Xe _ hs => by
  refine ⟨_, _, h, ?_⟩
  unfold readR
  rw [f.nf x]; exact hs
theorem re_vB (i : Nat) (e : Enc α) (x : α) [f : Nf e] (h : env[i]? = some (some (e x, .b)) := by rfl) : RE G (wVar i) env env .b e (.ok x) := fun Q X Xe _ hs => by
  refine ⟨_, _, h, ?_⟩
  unfold readR
  rw [f.nf x]; exact hs
theorem re_mF (i : Nat) (e : Enc α) (x : α) {m : Md} [f : Fl_ e] (h : env[i]? = some (some (e x, m)) := by rfl) : RE G (wMv i) env env mA e (.ok x) := fun Q X Xe _ hs => by
  refine ⟨_, _, h, ?_⟩
  rw [if_pos (f.fl x)]; exact hs
theorem re_mO (i : Nat) (e : Enc α) (x : α) {n : Option Nat} [f : Nf e] (h : env[i]? = some (some (e x, .o n)) := by rfl) : RE G (wMv i) env (env.set i none) (.o n) e (.ok x) := fun Q X Xe _ hs => by
  refine ⟨_, _, h, ?_⟩
  rw [f.nf x]; exact hs
def OpP (wo : WO) (a : Enc α) (m1 : Md) (b : Enc β) (m2 : Md) (op : α → β → γ) (c : Enc γ) (md : Md) : Prop := ∀ x y Q, Q ⟨c (op x y), md⟩ → wo ⟨a x, m1⟩ ⟨b y, m2⟩ Q
def OpO (wo : WO) (a : Enc α) (m1 : Md) (b : Enc β) (m2 : Md) (op : α → β → Option γ) (c : Enc γ) (md : Md) : Prop := ∀ x y z Q, op x y = some z → Q ⟨c z, md⟩ → wo ⟨a x, m1⟩ ⟨b y, m2⟩ Q
theorem re_2P {op : α → β → γ} (ho : OpP wo a m1 b m2 op c md) (ha : RE G wa env env1 m1 a (.ok x)) (hb : RE G wb env1 env2 m2 b (.ok y)) : RE G (wBin wo wa wb) env env2 md c (.ok (op x y)) := fun Q X Xe hX hs =>
  ha _ _ Xe hX (hb _ _ Xe hX (ho x y _ hs))
theorem re_2 {op : α → β → Out γ} (ho : ∀ x y Q Xe, Sat (op x y) (fun z => Q ⟨c z, md⟩) Xe → wo ⟨a x, m1⟩ ⟨b y, m2⟩ Q) (ha : RE G wa env env1 m1 a A) (hb : RE G wb env1 env2 m2 b B) : RE G (wBin wo wa wb) env env2 md c (A.bind fun x => B.bind fun y => op x y) := fun Q X Xe hX hs =>
  ha _ _ Xe hX ((sat_bind.mp hs).imp fun x hs => hb _ _ Xe hX ((sat_bind.mp hs).imp fun y hs => ho x y _ _ hs))
theorem re_2Q {op : α → β → Option γ} (ho : OpO wo a m1 b m2 op c md) (ha : RE G wa env env1 m1 a (.ok x)) (hb : RE G wb env1 env2 m2 b (.ok y)) : RE G (wBin wo wa wb) env env2 md c (lift (op x y)) := fun Q X Xe hX hs =>
  ha _ _ Xe hX (hb _ _ Xe hX (let ⟨_, hz, hs⟩ := sat_lift.mp hs; ho x y _ _ hz hs))
theorem opP_out {op : α → β → γ} (ho : OpP wo a m1 b m2 op c md) : ∀ x y Q Xe, Sat (.ok (op x y)) (fun z => Q ⟨c z, md⟩) Xe → wo ⟨a x, m1⟩ ⟨b y, m2⟩ Q := fun x y Q _ h => ho x y Q h
theorem opO_out {op : α → β → Option γ} (ho : OpO wo a m1 b m2 op c md) : ∀ x y Q Xe, Sat (lift (op x y)) (fun z => Q ⟨c z, md⟩) Xe → wo ⟨a x, m1⟩ ⟨b y, m2⟩ Q := fun x y Q _ h => let ⟨_, hz, hs⟩ := sat_lift.mp h; ho x y _ Q hz hs
theorem re_eq {m m' : Out α} (h : RE G we env env1 md a m) (e : m = m' := by rfl) : RE G we env env1 md a m' := e ▸ h
theorem xo_add : OpP woAdd eI m1 eI m2 (fun x y => x + y) eI mA := fun x y Q h => i_add h
theorem xo_sub : OpP woSub eI m1 eI m2 (fun x y => x - y) eI mA := fun x y Q h => i_sub h
theorem xo_lt : OpP woLt eI m1 eI m2 (fun x y => decide (x < y)) eB mA := fun x y Q h => i_lt h
theorem xo_gt : OpP woGt eI m1 eI m2 (fun x y => decide (x > y)) eB mA := fun x y Q h => i_gt h
theorem xo_ge : OpP woGe eI m1 eI m2 (fun x y => decide (x ≥ y)) eB mA := fun x y Q h => i_ge h
theorem xo_eqI : OpP woEq eI m1 eI m2 (fun x y => decide (x = y)) eB mA := fun x y Q h => i_eqI h
theorem xo_eqS : OpP woEq eS m1 eS m2 (fun x y => decide (x = y)) eB mA := fun x y Q h => i_eqS h
theorem xo_neI : OpP woNe eI m1 eI m2 (fun x y => !decide (x = y)) eB mA := fun x y Q h => i_neI h
theorem xo_neS : OpP woNe eS m1 eS m2 (fun x y => !decide (x = y)) eB mA := fun x y Q h => i_neS h
theorem xo_neB : OpP woNe eB m1 eB m2 (fun x y => !decide (x = y)) eB mA := fun x y Q h => i_neB h
open Classical in
@[irreducible] noncomputable def mulO (x y : Int) : Option Int := if CMul x y ∨ CMulW x y then some (x * y) else none
open Classical in
@[irreducible] noncomputable def fdO (x y : Int) : Option Int := if CDiv x y ∨ CDivW x y then some (x / y) else none
@[irreducible] def modO (x y : Int) : Option Int := if 0 < y then some (x % y) else none
@[irreducible] def powO (x y : Int) : Option Int := if 0 ≤ y ∧ y ≤ 1000000 ∧ x.natAbs < 2 ^ 64 then some (x ^ y.toNat) else none
theorem xo_mul : OpO woMul eI m1 eI m2 mulO eI mA := fun x y z Q h q => by
  unfold mulO at h; split at h
  · cases h; exact i_mul (by assumption) q
  · cases h
theorem xo_fd : OpO woFd eI m1 eI m2 fdO eI mA := fun x y z Q h q => by
  unfold fdO at h; split at h
  · cases h; exact i_fd (by assumption) q
  · cases h
theorem xo_mod : OpO woMod eI m1 eI m2 modO eI mA := fun x y z Q h q => by
  unfold modO at h; split at h
  · cases h; exact i_mod (by assumption) q
  · cases h
theorem xo_pow : OpO woPow eI m1 eI m2 powO eI mA := fun x y z Q h q => by
  unfold powO at h; split at h
  · cases h; exact i_pow (by assumption) q
  · cases h
theorem re_mulL {y : Int} (k : Int) (ha : RE G wa env env1 m1 eI (.ok k)) (hb : RE G wb env1 env2 m2 eI (.ok y)) (h : -(2 ^ 64) < k ∧ k < 2 ^ 64 := by decide) : RE G (wBin woMul wa wb) env env2 mA eI (.ok (k * y)) := fun Q X Xe hX hs =>
  ha _ _ Xe hX (hb _ _ Xe hX (sat_ok.mpr (i_mul (.inl (.inl h)) hs)))
theorem re_mulR {x : Int} (k : Int) (ha : RE G wa env env1 m1 eI (.ok x)) (hb : RE G wb env1 env2 m2 eI (.ok k)) (h : -(2 ^ 64) < k ∧ k < 2 ^ 64 := by decide) : RE G (wBin woMul wa wb) env env2 mA eI (.ok (x * k)) := fun Q X Xe hX hs =>
  ha _ _ Xe hX (hb _ _ Xe hX (sat_ok.mpr (i_mul (.inl (.inr h)) hs)))
theorem re_modC {x : Int} (k : Int) (ha : RE G wa env env1 m1 eI (.ok x)) (hb : RE G wb env1 env2 m2 eI (.ok k)) (h : 0 < k := by decide) : RE G (wBin woMod wa wb) env env2 mA eI (.ok (x % k)) := fun Q X Xe hX hs =>
  ha _ _ Xe hX (hb _ _ Xe hX (sat_ok.mpr (i_mod h hs)))
theorem re_fdC {x : Int} (k : Int) (ha : RE G wa env env1 m1 eI (.ok x)) (hb : RE G wb env1 env2 m2 eI (.ok k)) (h : 0 < k ∧ k < 1073741824 := by decide) : RE G (wBin woFd wa wb) env env2 mA eI (.ok (x / k)) := fun Q X Xe hX hs =>
  ha _ _ Xe hX (hb _ _ Xe hX (sat_ok.mpr (i_fd (.inl h) hs)))
theorem re_powC (j k : Int) (ha : RE G wa env env1 m1 eI (.ok j)) (hb : RE G wb env1 env2 m2 eI (.ok k)) (h : CPow j k := by exact ⟨by decide, by decide, by decide⟩) : RE G (wBin woPow wa wb) env env2 mA eI (.ok (j ^ k.toNat)) := fun Q X Xe hX hs =>
  ha _ _ Xe hX (hb _ _ Xe hX (sat_ok.mpr (i_pow h hs)))
theorem re_neg {x : Int} (ha : RE G wa env env1 m1 eI (.ok x)) : RE G (wNeg wa) env env1 mA eI (.ok (-x)) := fun Q X Xe hX hs => ha _ _ Xe hX ⟨x, rfl, hs⟩
theorem flat_L [f : Fl_ a] (xs : List α) : flatAll (xs.map a) = true := flatAll_map xs
@[irreducible] def catO (xs ys : List α) : Option (List α) := if xs.length + ys.length ≤ 1000000 then some (xs ++ ys) else none
theorem sizeL : 1000000 ≤ sizeLine := by rw [sizeLine_eq]; decide
theorem xo_catF [f : Fl_ a] : OpO woAdd (eL a) m1 (eL a) m2 catO (eL a) mA := fun x y z Q h q => by
  unfold catO at h; split at h
  · cases h
    refine i_addL (by rw [List.length_map, List.length_map]; exact Nat.le_trans (by assumption) sizeL) ?_
    rw [← List.map_append, cpR_flat (flat_L _)]; exact q
  · cases h
@[irreducible] def repO (xs : List α) (k : Int) : Option (List α) := if -(2 ^ 63) ≤ k ∧ k < 2 ^ 63 ∧ xs.length * k.toNat ≤ 1000000 then some (List.replicate k.toNat xs).flatten else none
theorem xo_rep [f : Fl_ a] : OpO woMul (eL a) m1 eI m2 repO (eL a) mA := fun x y z Q h q => by
  unfold repO at h; split at h
  · rename_i h'
    cases h
    refine ⟨h'.1, h'.2.1, by rw [List.length_map]; exact Nat.le_trans h'.2.2 sizeL, ?_⟩
    have e : (List.replicate y.toNat (x.map a)).flatten = ((List.replicate y.toNat x).flatten).map a := by
      rw [List.map_flatten, List.map_replicate]
    show Q (cpR (List.replicate y.toNat (x.map a)).flatten _)
    rw [e, cpR_flat (flat_L _)]
    exact q
  · cases h
theorem atI_map {α β : Type} {f : α → β} {xs : List α} {i : Int} {y : α} (h : atI xs i = some y) : atI (xs.map f) i = some (f y) := by
  obtain ⟨j, h1, h2⟩ := atI_ixq h
  exact atI_ofq (by rw [List.length_map]; exact h1) (by rw [List.getElem?_map, h2]; rfl)
theorem ix_end {ds : List D} {m m' : Md} {i : Int} {y : D} {q : R → Prop} (ha : atI ds i = some y) (h : q (subL m y)) : wIx ⟨.list ds, m⟩ ⟨.int i, m'⟩ q := ⟨i, rfl, y, ha, h⟩
theorem xo_ixF [f : Fl_ a] : OpO wIx (eL a) m1 eI m2 (fun xs i => atI xs i) a mA := fun x y z Q h q => ix_end (atI_map h) (by unfold subL; rw [if_pos (f.fl z)]; exact q)
theorem xo_ixT [f : Fl_ a] : OpO wIx (eTL a) m1 eI m2 (fun xs i => atI xs i) a mA := fun x y z Q h q => ⟨y, rfl, a z, atI_map h, by unfold subT; rw [if_pos (f.fl z)]; exact q⟩
theorem xo_ixS {m1 m2 : Md} : OpO wIxS eScr m1 eI m2 (fun xs i => atI xs i) eI mA := fun x y z Q h q => ⟨x, y, z, rfl, rfl, h, q⟩
theorem re_tF {e : Enc α} {p : β} (i : Int) (v : α) [f : Fl_ e] (hb : RE G wb env env1 m1 b (.ok p)) (hi : RE G wc env1 env2 m2 eI (.ok i)) (h : ∃ ds, b p = .tuple ds ∧ atI ds i = some (e v) := by exact ⟨_, rfl, rfl⟩) : RE G (wBin wIx wb wc) env env2 mA e (.ok v) := fun Q X Xe hX hs =>
  hb _ _ Xe hX (hi _ _ Xe hX (by
    obtain ⟨ds, h1, h2⟩ := h
    refine ⟨i, rfl, ?_⟩
    simp only [h1]
    exact ⟨e v, h2, by unfold subT; rw [if_pos (f.fl v)]; exact hs⟩))
theorem ra_nil : RA G wNil env env (fun _ : Unit => []) (.ok ()) := fun Q X Xe _ h => h
theorem ra_cons {f : τ → List R} {M : Out τ} (ha : RE G wa env env1 m1 a A) (hl : RA G wl env1 env2 f M) : RA G (wCons wa wl) env env2 (fun t : α × τ => ⟨a t.1, m1⟩ :: f t.2) (A.bind fun x => M.bind fun t => .ok (x, t)) := fun Q X Xe hX hs =>
  ha _ _ Xe hX ((sat_bind.mp hs).imp fun x hs => hl _ _ Xe hX ((sat_bind.mp hs).imp fun t hs => hs))
theorem ra_consP {f : τ → List R} {t : τ} (ha : RE G wa env env1 m1 a (.ok x)) (hl : RA G wl env1 env2 f (.ok t)) : RA G (wCons wa wl) env env2 (fun t : α × τ => ⟨a t.1, m1⟩ :: f t.2) (.ok (x, t)) := fun Q X Xe hX hs =>
  ha _ _ Xe hX (hl _ _ Xe hX hs)
theorem re_lstP {f : τ → List R} {t : τ} {n : Option Nat} (xs : List α) (hl : RA G wl env env1 f (.ok t)) (hj : joinM (f t) = some n := by rfl) (hn : (f t).length ≤ 1000 := by exact Nat.le_of_ble_eq_true rfl) (he : PyData.list ((f t).map (·.d)) = eL a xs := by rfl) : RE G (wCB wLst wl) env env1 (.o (succM n)) (eL a) (.ok xs) := fun Q X Xe hX hs =>
  hl _ _ Xe hX (sat_ok.mpr (i_lst hj hn (by rw [he]; exact hs)))
theorem re_lst {f : τ → List R} {M : Out τ} {n : Option Nat} (g : τ → List α) (hl : RA G wl env env1 f M) (hj : ∀ t, joinM (f t) = some n := by exact fun _ => rfl) (hn : ∀ t, (f t).length ≤ 1000 := by exact fun _ => Nat.le_of_ble_eq_true rfl) (he : ∀ t, PyData.list ((f t).map (·.d)) = eL a (g t) := by exact fun _ => rfl) : RE G (wCB wLst wl) env env1 (.o (succM n)) (eL a) (M.bind fun t => .ok (g t)) := fun Q X Xe hX hs =>
  hl _ _ Xe hX ((sat_bind.mp hs).imp fun t hs => i_lst (hj t) (hn t) (by rw [he t]; exact hs))
theorem re_tupP {f : τ → List R} {t : τ} {n : Option Nat} (v : α) (hl : RA G wl env env1 f (.ok t)) (hj : joinM (f t) = some n := by rfl) (hn : (f t).length ≤ 1000 := by exact Nat.le_of_ble_eq_true rfl) (he : PyData.tuple ((f t).map (·.d)) = a v := by rfl) : RE G (wCB wTup wl) env env1 (.o n) a (.ok v) := fun Q X Xe hX hs =>
  hl _ _ Xe hX (sat_ok.mpr (i_tup hj hn (by rw [he]; exact hs)))
theorem re_tup {f : τ → List R} {M : Out τ} {n : Option Nat} (g : τ → α) (hl : RA G wl env env1 f M) (hj : ∀ t, joinM (f t) = some n := by exact fun _ => rfl) (hn : ∀ t, (f t).length ≤ 1000 := by exact fun _ => Nat.le_of_ble_eq_true rfl) (he : ∀ t, PyData.tuple ((f t).map (·.d)) = a (g t) := by exact fun _ => rfl) : RE G (wCB wTup wl) env env1 (.o n) a (M.bind fun t => .ok (g t)) := fun Q X Xe hX hs =>
  hl _ _ Xe hX ((sat_bind.mp hs).imp fun t hs => i_tup (hj t) (hn t) (by rw [he t]; exact hs))
theorem joinM_flat {rs : List R} (h : flatAll (rs.map (·.d)) = true) : joinM rs = some none := by
  induction rs with
  | nil => rfl
  | cons r rs ih =>
    simp only [List.map_cons, flatAll, Bool.and_eq_true] at h
    unfold joinM
    rw [if_pos h.1]; exact ih h.2
theorem flat_of_tup {v : α} {ds : List D} [f : Fl_ a] (h : PyData.tuple ds = a v) : flatAll ds = true := by
  have := f.fl v
  rw [← h] at this
  simpa [flatD] using this
theorem re_tupFP {f : τ → List R} {t : τ} (v : α) [fl : Fl_ a] (hl : RA G wl env env1 f (.ok t)) (hn : (f t).length ≤ 1000 := by exact Nat.le_of_ble_eq_true rfl) (he : PyData.tuple ((f t).map (·.d)) = a v := by rfl) : RE G (wCB wTup wl) env env1 mA a (.ok v) := re_tupP v hl (joinM_flat (flat_of_tup he)) hn he
theorem re_tupF {f : τ → List R} {M : Out τ} (g : τ → α) [fl : Fl_ a] (hl : RA G wl env env1 f M) (hn : ∀ t, (f t).length ≤ 1000 := by exact fun _ => Nat.le_of_ble_eq_true rfl) (he : ∀ t, PyData.tuple ((f t).map (·.d)) = a (g t) := by exact fun _ => rfl) : RE G (wCB wTup wl) env env1 mA a (M.bind fun t => .ok (g t)) := re_tup g hl (fun t => joinM_flat (flat_of_tup (he t))) hn he
theorem flat_of_lst {v : List α} {ds : List D} [f : Fl_ a] (h : PyData.list ds = eL a v) : flatAll ds = true := by
  cases h; exact flat_L v
theorem re_lstFP {f : τ → List R} {t : τ} (xs : List α) [fl : Fl_ a] (hl : RA G wl env env1 f (.ok t)) (hn : (f t).length ≤ 1000 := by exact Nat.le_of_ble_eq_true rfl) (he : PyData.list ((f t).map (·.d)) = eL a xs := by rfl) : RE G (wCB wLst wl) env env1 mA (eL a) (.ok xs) := re_lstP xs hl (joinM_flat (flat_of_lst he)) hn he
theorem re_lstF {f : τ → List R} {M : Out τ} (g : τ → List α) [fl : Fl_ a] (hl : RA G wl env env1 f M) (hn : ∀ t, (f t).length ≤ 1000 := by exact fun _ => Nat.le_of_ble_eq_true rfl) (he : ∀ t, PyData.list ((f t).map (·.d)) = eL a (g t) := by exact fun _ => rfl) : RE G (wCB wLst wl) env env1 mA (eL a) (M.bind fun t => .ok (g t)) := re_lst g hl (fun t => joinM_flat (flat_of_lst (he t))) hn he
theorem outR_A {rs : List R} {d : D} : outR rs ⟨d, mA⟩ = ⟨d, mA⟩ := outR_all
theorem re_callP {S : FSpec} {f : τ → List R} {t : τ} {M : Out β} (hl : RA G wl env env1 f (.ok t)) (hS : ∀ Q X, Sat M (fun r => Q ⟨b r, mA⟩) X → S ((f t).map (·.d)) Q X) (hg : G env1 := by trivial) : RE G (wCall S wl) env env1 mA b M := fun Q X Xe hX hs =>
  hl _ _ Xe hX (hS _ _ (hs.mono (fun r h => by rw [outR_A]; exact h) fun x h => hX x _ hg h))
theorem re_call {S : FSpec} {f : τ → List R} {T : Out τ} {M : τ → Out β} (hl : RA G wl env env1 f T) (hS : ∀ t Q X, Sat (M t) (fun r => Q ⟨b r, mA⟩) X → S ((f t).map (·.d)) Q X) (hg : G env1 := by trivial) : RE G (wCall S wl) env env1 mA b (T.bind M) := fun Q X Xe hX hs =>
  hl _ _ Xe hX ((sat_bind.mp hs).imp fun t hs => hS t _ _ (hs.mono (fun r h => by rw [outR_A]; exact h) fun x h => hX x _ hg h))
theorem re_cbP {wf : WF} {f : τ → List R} {t : τ} (v : β) (hl : RA G wl env env1 f (.ok t)) (hw : ∀ Q, Q ⟨b v, md⟩ → wf (f t) Q) : RE G (wCB wf wl) env env1 md b (.ok v) := fun Q X Xe hX hs => hl _ _ Xe hX (hw _ hs)
theorem re_cb {wf : WF} {f : τ → List R} {T : Out τ} {M : τ → Out β} (hl : RA G wl env env1 f T) (hw : ∀ t Q Xe, Sat (M t) (fun v => Q ⟨b v, md⟩) Xe → wf (f t) Q) : RE G (wCB wf wl) env env1 md b (T.bind M) := fun Q X Xe hX hs => hl _ _ Xe hX ((sat_bind.mp hs).imp fun t hs => hw t _ _ hs)
theorem len_L {m : Md} (xs : List α) : ∀ Q : R → Prop, Q ⟨eI (xs.length : Int), mA⟩ → wLen [⟨eL a xs, m⟩] Q := fun Q q => i_lenL (by rw [List.length_map]; exact q)
theorem len_TL {m : Md} (xs : List α) : ∀ Q : R → Prop, Q ⟨eI (xs.length : Int), mA⟩ → wLen [⟨eTL a xs, m⟩] Q := fun Q q => i_lenT (by rw [List.length_map]; exact q)
theorem len_Scr {m : Md} (xs : List Int) : ∀ Q : R → Prop, Q ⟨eI (xs.length : Int), mA⟩ → wLen [⟨eScr xs, m⟩] Q := fun Q q => i_lenS q
def absF (x : Int) : Int := if x < 0 then -x else x
theorem bi_abs {m : Md} (x : Int) : ∀ Q : R → Prop, Q ⟨eI (absF x), mA⟩ → wAbs [⟨eI x, m⟩] Q := fun Q q => i_abs q
theorem bi_tuple {m : Md} [f : Fl_ a] (xs : List α) : ∀ Q : R → Prop, Q ⟨eTL a xs, mA⟩ → wTuple [⟨eL a xs, m⟩] Q := fun Q q => i_tupleF (flat_L xs) q
end
end VL
set_option maxRecDepth 100000
set_option maxHeartbeats 4000000
namespace VL
open PySem PySem.Spec PyProof.Rows L2
class EqE {α : Type} [DecidableEq α] (e : Enc α) (n : outParam Nat) : Prop where
  lay : ∀ a, PyData.canLay0 (e a) = true
  dep : ∀ a, PyData.depth (e a) ≤ n
  eqv : ∀ a b, PyData.eqv (e a) (e b) = decide (a = b)
section
variable {α β γ δ ε : Type} [DecidableEq α] [DecidableEq β] [DecidableEq γ] [DecidableEq δ] [DecidableEq ε] {a : Enc α} {b : Enc β} {c : Enc γ} {d : Enc δ} {e : Enc ε} {n m k j l : Nat}
instance : EqE eI 0 := ⟨fun _ => rfl, fun _ => Nat.le_refl _, fun a b => by
  by_cases h : a = b
  · subst h; simp [eI, PyData.eqv]
  · simp [eI, PyData.eqv, h]⟩
instance : EqE eB 0 := ⟨fun _ => rfl, fun _ => Nat.le_refl _, fun a b => by cases a <;> cases b <;> rfl⟩
theorem eqvAll_map [h : EqE a n] : ∀ xs ys : List α, PyData.eqvAll (xs.map a) (ys.map a) = decide (xs = ys)
  | [], [] => rfl
  | [], y :: ys => by simp [PyData.eqvAll]
  | x :: xs, [] => by simp [PyData.eqvAll]
  | x :: xs, y :: ys => by
    have ih := eqvAll_map xs ys
    simp only [List.map_cons, PyData.eqvAll, h.eqv, ih]
    by_cases h1 : x = y <;> by_cases h2 : xs = ys <;> simp [h1, h2]
theorem layAll_map [h : EqE a n] : ∀ xs : List α, PyData.canLayAll0 (xs.map a) = true
  | [] => rfl
  | x :: xs => by simp [PyData.canLayAll0, h.lay, layAll_map xs]
theorem depAll_map [h : EqE a n] : ∀ xs : List α, PyData.depthAll (xs.map a) ≤ n
  | [] => by simp [PyData.depthAll]
  | x :: xs => by
    have := depAll_map xs
    have := h.dep x
    simp only [List.map_cons, PyData.depthAll]
    omega
instance [h : EqE a n] : EqE (eL a) (n + 1) := ⟨fun xs => by simpa [eL, PyData.canLay0] using layAll_map xs, fun xs => by have := depAll_map (a := a) xs; simp only [eL, PyData.depth]; omega, fun xs ys => by simpa [eL, PyData.eqv] using eqvAll_map xs ys⟩
instance [h : EqE a n] : EqE (eTL a) (n + 1) := ⟨fun xs => by simpa [eTL, PyData.canLay0] using layAll_map xs, fun xs => by have := depAll_map (a := a) xs; simp only [eTL, PyData.depth]; omega, fun xs ys => by simpa [eTL, PyData.eqv] using eqvAll_map xs ys⟩
instance [h : EqE a n] [g : EqE b m] : EqE (e2 a b) (max n m + 1) := ⟨fun p => by simp [e2, PyData.canLay0, PyData.canLayAll0, h.lay, g.lay], fun p => by
  have := h.dep p.1; have := g.dep p.2
  simp only [e2, PyData.depth, PyData.depthAll]; omega, fun p q => by
  obtain ⟨p1, p2⟩ := p; obtain ⟨q1, q2⟩ := q
  simp only [e2, PyData.eqv, PyData.eqvAll, h.eqv, g.eqv, Prod.mk.injEq, Bool.and_true, Bool.decide_and]⟩
instance [h : EqE a n] [g : EqE b m] [i : EqE c k] : EqE (e3 a b c) (max n (max m k) + 1) := ⟨fun p => by simp [e3, PyData.canLay0, PyData.canLayAll0, h.lay, g.lay, i.lay], fun p => by
  have := h.dep p.1; have := g.dep p.2.1; have := i.dep p.2.2
  simp only [e3, PyData.depth, PyData.depthAll]; omega, fun p q => by
  obtain ⟨p1, p2, p3⟩ := p; obtain ⟨q1, q2, q3⟩ := q
  simp only [e3, PyData.eqv, PyData.eqvAll, h.eqv, g.eqv, i.eqv, Prod.mk.injEq, Bool.and_true, Bool.decide_and]⟩
instance [h : EqE a n] [g : EqE b m] [i : EqE c k] [u : EqE d j] : EqE (e4 a b c d) (max n (max m (max k j)) + 1) := ⟨fun p => by simp [e4, PyData.canLay0, PyData.canLayAll0, h.lay, g.lay, i.lay, u.lay], fun p => by
  have := h.dep p.1; have := g.dep p.2.1; have := i.dep p.2.2.1; have := u.dep p.2.2.2
  simp only [e4, PyData.depth, PyData.depthAll]; omega, fun p q => by
  obtain ⟨p1, p2, p3, p4⟩ := p; obtain ⟨q1, q2, q3, q4⟩ := q
  simp only [e4, PyData.eqv, PyData.eqvAll, h.eqv, g.eqv, i.eqv, u.eqv, Prod.mk.injEq, Bool.and_true, Bool.decide_and]⟩
instance [h : EqE a n] [g : EqE b m] [i : EqE c k] [u : EqE d j] [v : EqE e l] : EqE (e5 a b c d e) (max n (max m (max k (max j l))) + 1) := ⟨fun p => by simp [e5, PyData.canLay0, PyData.canLayAll0, h.lay, g.lay, i.lay, u.lay, v.lay], fun p => by
  have := h.dep p.1; have := g.dep p.2.1; have := i.dep p.2.2.1; have := u.dep p.2.2.2.1; have := v.dep p.2.2.2.2
  simp only [e5, PyData.depth, PyData.depthAll]; omega, fun p q => by
  obtain ⟨p1, p2, p3, p4, p5⟩ := p; obtain ⟨q1, q2, q3, q4, q5⟩ := q
  simp only [e5, PyData.eqv, PyData.eqvAll, h.eqv, g.eqv, i.eqv, u.eqv, v.eqv, Prod.mk.injEq, Bool.and_true, Bool.decide_and]⟩
theorem EqE.shaped [h : EqE a n] (hn : n ≤ 64) (x : α) : SeqAt.shaped (a x) = true := by
  unfold SeqAt.shaped
  rw [Bool.and_eq_true]
  exact ⟨h.lay x, decide_eq_true (Nat.le_trans (h.dep x) hn)⟩
variable {m1 m2 : Md}
end
section
variable {α β γ δ σ ρ τ : Type} {G : EG} {env env1 env2 env3 : VEnv} {md m1 m2 m3 : Md} {a : Enc α} {b : Enc β} {c : Enc γ} {d : Enc δ} {wa wb wc we : WE} {wl wl' : WA} {wt wu : WT} {A : Out α} {B : Out β} {C : Out γ} {x : α} {y : β} {z : γ} {wo wo' : WO}
theorem rt_val {A : Out Bool} (ha : RE G wa env env m1 eB A) : RT G (wTest wa) env A := fun Q X Xe hX hs => ha _ _ Xe hX (hs.imp fun b q => ⟨b, rfl, q⟩)
theorem rt_and {A B : Out Bool} (h1 : RT G wt env A) (h2 : RT G wu env B) : RT G (wAnd wt wu) env (A.bind fun p => if p = true then B else .ok false) := fun Q X Xe hX hs => h1 _ _ Xe hX ((sat_bind.mp hs).imp fun p hs => by
  cases p
  · exact hs
  · exact h2 _ _ Xe hX hs)
theorem rt_or {A B : Out Bool} (h1 : RT G wt env A) (h2 : RT G wu env B) : RT G (wOr wt wu) env (A.bind fun p => if p = true then .ok true else B) := fun Q X Xe hX hs => h1 _ _ Xe hX ((sat_bind.mp hs).imp fun p hs => by
  cases p
  · exact h2 _ _ Xe hX hs
  · exact hs)
theorem rt_notP {p : Bool} (h1 : RT G wt env (.ok p)) : RT G (wNot wt) env (.ok (!p)) := fun Q X Xe hX hs => h1 _ _ Xe hX hs
theorem rt_not {A : Out Bool} (h1 : RT G wt env A) : RT G (wNot wt) env (A.bind fun p => .ok (!p)) := fun Q X Xe hX hs => h1 _ _ Xe hX ((sat_bind.mp hs).imp fun p hs => hs)
theorem rt_eq {m m' : Out Bool} (h : RT G wt env m) (e : m = m' := by rfl) : RT G wt env m' := e ▸ h
theorem rt_orF {B : Out Bool} (h1 : RT G wt env (.ok false)) (h2 : RT G wu env B) : RT G (wOr wt wu) env B := fun Q X Xe hX hs => h1 _ _ Xe hX (h2 _ _ Xe hX hs)
theorem re_andP {p q : Bool} (h1 : RE G wa env env mA eB (.ok p)) (h2 : RE G wb env env mA eB (.ok q)) : RE G (wAndV wa wb) env env mA eB (.ok (p && q)) := fun Q X Xe hX hs => h1 _ _ Xe hX ⟨p, rfl, by
  cases p
  · exact hs
  · exact h2 _ _ Xe hX hs⟩
theorem re_and {A B : Out Bool} (h1 : RE G wa env env mA eB A) (h2 : RE G wb env env mA eB B) : RE G (wAndV wa wb) env env mA eB (A.bind fun p => if p = true then B else .ok false) := fun Q X Xe hX hs => h1 _ _ Xe hX ((sat_bind.mp hs).imp fun p hs => ⟨p, rfl, by
  cases p
  · exact hs
  · exact h2 _ _ Xe hX hs⟩)
theorem re_notP {p : Bool} (h1 : RE G wa env env1 mA eB (.ok p)) : RE G (wNotV wa) env env1 mA eB (.ok (!p)) := fun Q X Xe hX hs => h1 _ _ Xe hX ⟨p, rfl, hs⟩
theorem re_if {T : Out Bool} {A B : Out α} (h0 : RT G wt env T) (h1 : RE G wa env env1 md a A) (h2 : RE G wb env env1 md a B) : RE G (wIfE wt wa wb) env env1 md a (T.bind fun p => if p = true then A else B) := fun Q X Xe hX hs => h0 _ _ Xe hX ((sat_bind.mp hs).imp fun p hs => by
  cases p
  · exact h2 _ _ Xe hX hs
  · exact h1 _ _ Xe hX hs)
theorem re_isi {T : String} (v : Bool) (ha : RE G wa env env1 m1 a (.ok x)) (h : noDict (a x) ∧ tyIs T (a x) = v := by exact ⟨True.intro, rfl⟩) : RE G (wIsi T wa) env env1 mA eB (.ok v) := fun Q X Xe hX hs =>
  ha _ _ Xe hX (by
    obtain ⟨h1, h2⟩ := h
    exact ⟨h1, by show Q ⟨.bool (tyIs T (a x)), mA⟩ env1; rw [h2]; exact hs⟩)
theorem re_isE {i : Nat} {ad : Addr} {v : Bool} {m : Md} (h : env[i]? = some (some (opD ad, m)) := by rfl) : RE G (wIsE i ad v) env env mA eB (.ok v) := fun Q X Xe hX hs => ⟨⟨_, h⟩, hs⟩
def RO_ (G : EG) (w : WPt) (env : VEnv) (m : Out (Option Int)) : Prop := ∀ (Q : Option Int → VEnv → Prop) (X : Exn → VEnv → Prop) (Xe : Exn → Prop), (∀ x v, G v → Xe x → X x v) → Sat m (fun o => Q o env) Xe → w env Q X
theorem ro_no : RO_ G wNoP env (.ok none) := fun Q X Xe _ hs => hs
theorem ro_ptP {i : Int} (h : RE G we env env m1 eI (.ok i)) : RO_ G (wPt we) env (.ok (some i)) := fun Q X Xe hX hs => h _ _ Xe hX ⟨i, rfl, hs⟩
theorem re_slF [f : Fl_ a] {wl wh : WPt} {xs : List α} {lo hi : Option Int} (ha : RE G wa env env m1 (eL a) (.ok xs)) (hl : RO_ G wl env (.ok lo)) (hh : RO_ G wh env (.ok hi)) : RE G (wSl wa wl wh) env env mA (eL a) (.ok (cutL xs lo hi)) := fun Q X Xe hX hs =>
  ha _ _ Xe hX (hl _ _ Xe hX (hh _ _ Xe hX (by
    show Q (cpR (cutL (xs.map a) lo hi) _) env
    rw [cutL_map, cpR_flat (flat_L _)]; exact hs)))
theorem re_slT [f : Fl_ a] {wl wh : WPt} {xs : List α} {lo hi : Option Int} (ha : RE G wa env env m1 (eTL a) (.ok xs)) (hl : RO_ G wl env (.ok lo)) (hh : RO_ G wh env (.ok hi)) : RE G (wSl wa wl wh) env env mA (eTL a) (.ok (cutL xs lo hi)) := fun Q X Xe hX hs =>
  ha _ _ Xe hX (hl _ _ Xe hX (hh _ _ Xe hX (by
    refine ⟨flat_L _, ?_⟩
    rw [cutL_map]; exact hs)))
theorem re_slScr {wl wh : WPt} {xs : List Int} {lo hi : Option Int} (ha : RE G wa env env m1 eScr (.ok xs)) (hl : RO_ G wl env (.ok lo)) (hh : RO_ G wh env (.ok hi)) : RE G (wSl wa wl wh) env env mA (eL eI) (.ok (cutL xs lo hi)) := fun Q X Xe hX hs =>
  ha _ _ Xe hX (hl _ _ Xe hX (hh _ _ Xe hX (by
    refine sat_ok.mpr ?_
    show slR ⟨scriptD xs, m1⟩ _ _ _
    rw [slr_scr, cutL_map, cpR_ints]; exact hs)))
@[irreducible] def mapL (f : α → Out β) (xs : List α) : Out (List β) := if xs.length ≤ 1000000 then mapO f xs else .stuck
@[irreducible] def fmapL (p : α → Out Bool) (f : α → Out β) (xs : List α) : Out (List β) := if xs.length ≤ 1000000 then fmapO p f xs else .stuck
def rg (lo hi : Int) : List Int := (List.range (hi - lo).toNat).map fun k : Nat => lo + (k : Int)
@[irreducible] def rgO (lo hi : Int) : Option (List Int) := if -(2 ^ 62) ≤ lo ∧ lo < 2 ^ 62 ∧ -(2 ^ 62) ≤ hi ∧ hi < 2 ^ 62 then some (rg lo hi) else none
def KidE (c : Enc γ) (md : Md) (km : Option Nat) : Prop := ∀ z, kidOk km ⟨c z, md⟩
theorem kid_F [f : Fl_ c] : KidE c md none := fun z => .inl (f.fl z)
theorem kid_A : KidE c mA none := fun _ => kidOk_A
theorem kid_o {n : Option Nat} : KidE c (.o n) n := fun _ => .inr ⟨n, rfl, leM_refl n⟩
theorem lc_turns {tt : WT} {wl : WE} {km : Option Nat} {ent : α → VEnv} {P : α → Out Bool} {F : α → Out γ} {Xe : Exn → Prop}
    (hp : ∀ x, RT (fun _ => True) tt (ent x) (P x)) (hf : ∀ x, ∃ e', RE (fun _ => True) wl (ent x) e' md c (F x)) (hk : KidE c md km) {Q : List γ → Prop} :
    ∀ (xs : List α), Sat (fmapO (fun x => noX (P x)) (fun x => noX (F x)) xs) Q Xe → ∃ J : Nat → List D → Prop, J 0 [] ∧
      (∀ k x acc, xs[k]? = some x → J k acc → acc.length ≤ k ∧ wTurn tt wl km (ent x) (fun y => J (k + 1) (acc ++ [y])) (J (k + 1) acc)) ∧ ∀ acc, J xs.length acc → ∃ zs : List γ, acc = zs.map c ∧ Q zs := by
  intro xs hs
  refine ⟨fun k acc => ∃ zs : List γ, acc = zs.map c ∧ zs.length ≤ k ∧ Sat (fmapO (fun x => noX (P x)) (fun x => noX (F x)) (xs.drop k)) (fun r => Q (zs ++ r)) Xe, ⟨[], rfl, Nat.le_refl _, by simpa using hs⟩, fun k x acc hx hJ => ?_, fun acc hJ => ?_⟩
  · obtain ⟨zs, rfl, hl, hs⟩ := hJ
    refine ⟨by simpa using hl, ?_⟩
    have hd : xs.drop k = x :: xs.drop (k + 1) := by
      have := (List.getElem?_eq_some_iff.mp hx)
      obtain ⟨h1, h2⟩ := this
      rw [← h2]; exact List.drop_eq_getElem_cons h1
    rw [hd] at hs
    unfold fmapO at hs
    have hs := sat_noX.mp (sat_bind.mp hs)
    unfold wTurn
    refine hp x _ _ (fun _ => False) (fun _ _ _ h => h.elim) (hs.imp fun b hs => ?_)
    cases b
    · exact ⟨zs, rfl, by omega, hs⟩
    · rw [if_pos rfl]
      rw [if_pos rfl] at hs
      obtain ⟨e', hf⟩ := hf x
      refine hf _ _ (fun _ => False) (fun _ _ _ h => h.elim) ((sat_noX.mp (sat_bind.mp hs)).imp fun y hs => ⟨hk y, zs ++ [y], by simp, by simp; omega, ?_⟩)
      refine (sat_bind.mp hs).imp fun r hs => ?_
      rw [List.append_assoc]; exact hs
  · obtain ⟨zs, rfl, _, hs⟩ := hJ
    rw [List.drop_length] at hs
    exact ⟨zs, rfl, by simpa [fmapO] using hs⟩
theorem fmapO_true {f : α → Out β} (xs : List α) : fmapO (fun _ => .ok true) f xs = mapO f xs := by
  induction xs with
  | nil => rfl
  | cons x xs ih => simp [fmapO, mapO, ih]
theorem re_lc {g : Tg} {vs : List Nat} {tt : WT} {wl : WE} {km : Option Nat} {ent : α → VEnv} {P : α → Out Bool} {F : α → Out γ} {Xs : Out (List α)}
    (hi : RE G wa env env1 m1 (eL a) Xs) (hg : ∀ x, ∃ rs, g.f (itemR m1 (a x)) = some rs ∧ VL.putAll (wipeE (bEnv env1) vs) g.is rs = ent x)
    (hp : ∀ x, RT (fun _ => True) tt (ent x) (P x)) (hf : ∀ x, ∃ e', RE (fun _ => True) wl (ent x) e' md c (F x)) (hk : KidE c md km) :
    RE G (wLc vs g wa tt wl) env env1 (.o (succM km)) (eL c) (Xs.bind (fmapL (fun x => noX (P x)) (fun x => noX (F x)))) := fun Q X Xe hX hs =>
  hi _ _ Xe hX ((sat_bind.mp hs).imp fun xs hs => by
    unfold fmapL at hs
    split at hs
    · rename_i hl
      obtain ⟨J, j0, js, je⟩ := lc_turns hp hf hk xs hs
      refine ⟨xs.map a, rfl, by rw [List.length_map]; exact hl, km, J, j0, fun k d acc hd hJ => ?_, fun acc hJ => ?_⟩
      · rw [List.getElem?_map] at hd
        obtain ⟨x, hx, rfl⟩ := Option.map_eq_some_iff.mp hd
        obtain ⟨rs, h1, h2⟩ := hg x
        obtain ⟨h3, h4⟩ := js k x acc hx hJ
        exact ⟨rs, h1, h3, by rw [h2]; exact h4⟩
      · rw [List.length_map] at hJ
        obtain ⟨zs, rfl, q⟩ := je acc hJ
        exact q
    · exact hs.elim)
theorem re_lc1 {g : Tg} {vs : List Nat} {wl : WE} {km : Option Nat} {ent : α → VEnv} {F : α → Out γ} {Xs : Out (List α)}
    (hi : RE G wa env env1 m1 (eL a) Xs) (hg : ∀ x, ∃ rs, g.f (itemR m1 (a x)) = some rs ∧ VL.putAll (wipeE (bEnv env1) vs) g.is rs = ent x)
    (hf : ∀ x, ∃ e', RE (fun _ => True) wl (ent x) e' md c (F x)) (hk : KidE c md km) :
    RE G (wLc vs g wa wYes wl) env env1 (.o (succM km)) (eL c) (Xs.bind (mapL fun x => noX (F x))) :=
  re_eq (re_lc (P := fun _ => .ok true) hi hg (fun x Q X Xe _ h => h) hf hk) (by
    congr; funext xs; unfold fmapL mapL; split
    · exact fmapO_true xs
    · rfl)
theorem re_lcR {n i : Nat} {wl : WA} {vs : List Nat} {tt : WT} {we : WE} {km : Option Nat} {ent : Int → VEnv} {P : Int → Out Bool} {F : Int → Out γ} {f : τ → List R} {T : Out τ} {gl gh : τ → Int}
    (hi : RA G wl env env1 f T) (hr : ∀ t, (f t).length = n ∧ rangeOf (f t) = some (gl t, gh t)) (hg : ∀ x, (wipeE (bEnv env1) vs).set i (some (.int x, mA)) = ent x)
    (hp : ∀ x, RT (fun _ => True) tt (ent x) (P x)) (hf : ∀ x, ∃ e', RE (fun _ => True) we (ent x) e' md c (F x)) (hk : KidE c md km) :
    RE G (wLcR n vs i wl tt we) env env1 (.o (succM km)) (eL c) (T.bind fun t => (lift (rgO (gl t) (gh t))).bind (fmapL (fun x => noX (P x)) (fun x => noX (F x)))) := fun Q X Xe hX hs =>
  hi _ _ Xe hX ((sat_bind.mp hs).imp fun t hs => by
    obtain ⟨xs, hx, hs⟩ := sat_lift.mp (sat_bind.mp hs)
    unfold rgO at hx
    split at hx
    · rename_i hb
      cases hx
      unfold fmapL at hs
      have hlen : (rg (gl t) (gh t)).length = (gh t - gl t).toNat := by unfold rg; rw [List.length_map, List.length_range]
      split at hs
      · rename_i hl
        rw [hlen] at hl
        obtain ⟨J, j0, js, je⟩ := lc_turns hp hf hk _ hs
        refine ⟨gl t, gh t, (hr t).1, (hr t).2, ⟨hb.1, hb.2.1⟩, ⟨hb.2.2.1, hb.2.2.2⟩, by omega, km, J, j0, fun k acc hk hJ => ?_, fun acc hJ => ?_⟩
        · have hx : (rg (gl t) (gh t))[k]? = some (gl t + (k : Int)) := by
            unfold rg
            rw [List.getElem?_map, List.getElem?_range hk]; rfl
          rw [hg]
          exact js k _ acc hx hJ
        · rw [← hlen] at hJ
          obtain ⟨zs, rfl, q⟩ := je acc hJ
          exact q
      · exact hs.elim
    · cases hx)
theorem re_lcR1 {n i : Nat} {wl : WA} {vs : List Nat} {we : WE} {km : Option Nat} {ent : Int → VEnv} {F : Int → Out γ} {f : τ → List R} {T : Out τ} {gl gh : τ → Int}
    (hi : RA G wl env env1 f T) (hr : ∀ t, (f t).length = n ∧ rangeOf (f t) = some (gl t, gh t)) (hg : ∀ x, (wipeE (bEnv env1) vs).set i (some (.int x, mA)) = ent x)
    (hf : ∀ x, ∃ e', RE (fun _ => True) we (ent x) e' md c (F x)) (hk : KidE c md km) :
    RE G (wLcR n vs i wl wYes we) env env1 (.o (succM km)) (eL c) (T.bind fun t => (lift (rgO (gl t) (gh t))).bind (mapL fun x => noX (F x))) :=
  re_eq (re_lcR (P := fun _ => .ok true) hi hr hg (fun x Q X Xe _ h => h) hf hk) (by
    congr; funext t; congr; funext xs; unfold fmapL mapL; split
    · exact fmapO_true xs
    · rfl)
end
end VL
set_option maxRecDepth 100000
set_option maxHeartbeats 4000000
namespace VL
open PySem PySem.Spec PyProof.Rows L2
def wPre (w : WS) : WS := fun env D => ∃ e0, envLe e0 env ∧ w e0 D
theorem rdS_pre {c : Cn} {W : WX} {w : WS} : ∀ D σ H, rdS c W (wPre w) D σ H → rdS c W w D σ H := fun D σ H h => by
  obtain ⟨env, L, Dv, S, ⟨e0, le, hw⟩, k⟩ := h
  obtain ⟨L0, S0⟩ := S.lower le
  exact ⟨e0, L0, Dv, S0, hw, k⟩
theorem vss_pre {X : Cx} {c : Cn} {W : WX} {w : WS} {st : List Stmt} (h : PSs X st (rdS c W w)) : PSs X st (rdS c W (wPre w)) := PSs.imp h rdS_pre
section
variable {α β γ δ σ σ' ρ τ : Type} {G : EG} {env env1 env2 env3 : VEnv} {md m1 m2 m3 : Md} {a : Enc α} {b : Enc β} {c : Enc γ} {d : Enc δ} {e : Enc ρ} {wa wb wc we wi : WE} {wl wl' : WA} {wt wu : WT} {A : Out α} {B : Out β} {C : Out γ} {x : α} {y : β} {z : γ} {w u v : WS} {K KA KB : β → DV → Prop} {M MA MB : Out β} {s : σ → VEnv} {I J : Out Int}
def KR (e : Enc ρ) (md : Md) : Fl ρ σ → DV → Prop
  | .ret r, D => ∀ v, D.rt ⟨e r, md⟩ v
  | .nxt _, _ => True
theorem rb_next {V : σ} (h : envLe (s V) env) : RB G wNext env (.ok V) (KN s) := fun D Xe _ hs => hs env h
theorem rb_nextF {V : σ} (h : envLe (s V) env) : RB G wNext env (.ok (.nxt V)) (KF e md s) := fun D Xe _ hs => hs env h
theorem rb_retP (r : ρ) (h : RE G we env env1 md a (.ok x)) (hb : isB md = false := by rfl) (he : a x = e r := by rfl) : RB G (wSeq (wRet we) u) env (.ok r) (KT e md) := fun D Xe hX hs =>
  h _ _ Xe hX ⟨hb, by rw [he]; exact hs _⟩
theorem rb_ret (g : α → ρ) (h : RE G we env env1 md a A) (hb : isB md = false := by rfl) (he : ∀ x, a x = e (g x) := by exact fun _ => rfl) : RB G (wSeq (wRet we) u) env (A.bind fun x => .ok (g x)) (KT e md) := fun D Xe hX hs =>
  h _ _ Xe hX ((sat_bind.mp hs).imp fun x hs => ⟨hb, by rw [he]; exact hs _⟩)
theorem rb_raise {x : Str} (hg : G env := by trivial) : RB G (wSeq (wRaise x) u) env (.exn ⟨x, none⟩) K := fun D Xe hX hs => hX _ _ hg hs
theorem rs_seqN {m : Out σ} {k : σ → Out β} (h1 : RB G w env m (KN s)) (h2 : ∀ V, RB G u (s V) (k V) K) : RB G (wSeq (wCut w) u) env (m.bind k) K := fun D Xe hX hs => by
  refine ⟨fun e => ∃ V, e = s V ∧ Sat (k V) (fun b => K b D) Xe, ?_, ?_⟩
  · refine h1 _ Xe hX ((sat_bind.mp hs).imp fun V hs e le => ⟨s V, le, V, rfl, hs⟩)
  · rintro _ ⟨V, rfl, hs⟩
    exact h2 V D Xe hX hs
theorem rs_seqT {m : Out (Fl ρ σ)} {k : σ → Out ρ} (h1 : RB G w env m (KF e md s)) (h2 : ∀ V, RB G u (s V) (k V) (KT e md)) : RB G (wSeq (wCut w) u) env (m.bind (flowT k)) (KT e md) := fun D Xe hX hs => by
  refine ⟨fun e' => ∃ V, e' = s V ∧ Sat (k V) (fun b => KT e md b D) Xe, ?_, ?_⟩
  · refine h1 _ Xe hX ((sat_bind.mp hs).imp fun V hs => ?_)
    cases V with
    | ret r => exact hs
    | nxt V => exact fun e le => ⟨s V, le, V, rfl, hs⟩
  · rintro _ ⟨V, rfl, hs⟩
    exact h2 V D Xe hX hs
theorem rb_if {T : Out Bool} (ht : RT G wt env T) (h1 : RB G w env MA K) (h2 : RB G v env MB K) : RB G (wIf wt w v) env (T.bind fun p => if p = true then MA else MB) K := fun D Xe hX hs =>
  ht _ _ Xe hX ((sat_bind.mp hs).imp fun p hs => by
    cases p
    · exact h2 D Xe hX hs
    · exact h1 D Xe hX hs)
theorem kt_kt : ∀ b D n, KT e md b D → KT e md b { D with nx := n } := fun _ _ _ h => h
theorem kf_kr : ∀ b D n, KF e md s b D → KR e md b { D with nx := n } := fun b _ _ h => by
  cases b with
  | ret r => exact h
  | nxt V => exact True.intro
theorem rs_ifR {T : Out Bool} (hK : ∀ b D n, K b D → KA b { D with nx := n }) (ht : RT G wt env T) (h1 : RB G w env MA KA) (h2 : RB G u env MB K) : RB G (wSeq (wIf wt w wNext) u) env (T.bind fun p => if p = true then MA else MB) K := fun D Xe hX hs =>
  ht _ _ Xe hX ((sat_bind.mp hs).imp fun p hs => by
    cases p
    · exact h2 D Xe hX hs
    · exact h1 { D with nx := fun e => u e D } Xe hX (hs.imp fun b h => hK b D _ h))
theorem rs_set {i : Nat} {k : α → Out β} (he : RE G we env env1 md a A) (s : α → VEnv) (h2 : ∀ x, RB G u (s x) (k x) K) (hs : ∀ x, env1.set i (some (a x, md)) = s x := by exact fun _ => rfl) : RB G (wSeq (wSet i we) u) env (A.bind k) K := fun D Xe hX h =>
  he _ _ Xe hX ((sat_bind.mp h).imp fun x h => by
    have := h2 x D Xe hX h
    rw [← hs x] at this
    exact this)
theorem rs_asg {g : Tg} {k : α → Out β} (he : RE G we env env1 md a A) (s : α → VEnv) (h2 : ∀ x, RB G u (s x) (k x) K) (hs : ∀ x, ∃ rs, g.f ⟨a x, md⟩ = some rs ∧ VL.putAll env1 g.is rs = s x := by exact fun _ => ⟨_, rfl, rfl⟩) : RB G (wSeq (wAsg g we) u) env (A.bind k) K := fun D Xe hX h =>
  he _ _ Xe hX ((sat_bind.mp h).imp fun x h => by
    obtain ⟨rs, h1, e1⟩ := hs x
    refine ⟨rs, h1, ?_⟩
    have := h2 x D Xe hX h
    rw [← e1] at this
    exact this)
@[irreducible] def appO (xs : List α) (v : α) : Option (List α) := if xs.length < 1000000 then some (xs ++ [v]) else none
theorem rs_app {i : Nat} {m n : Option Nat} {xs : List α} {k : List α → Out β} (he : RE G we env env1 m1 a A) (s : List α → VEnv) (h2 : ∀ ys, RB G u (s ys) (k ys) K)
    (h0 : isL env i [] := by exact ⟨_, _, _, rfl, rfl⟩) (hi : env1[i]? = some (some (eL a xs, .o m)) := by rfl) (hm : popM m = some n := by rfl) (hk : KidE a m1 n := by first | exact kid_F | exact kid_A | exact kid_o) (hs : ∀ ys, killB (env1.set i (some (eL a ys, .o m))) = s ys := by exact fun _ => rfl) :
    RB G (wSeq (wApp (wPVar i) we) u) env (A.bind fun v => (lift (appO xs v)).bind k) K := fun D Xe hX h =>
  ⟨let ⟨d, m, _, h, _⟩ := h0; ⟨_, h⟩, h0, he _ _ Xe hX ((sat_bind.mp h).imp fun v h => by
    obtain ⟨ys, hy, h⟩ := sat_lift.mp (sat_bind.mp h)
    unfold appO at hy
    split at hy
    · rename_i hl
      cases hy
      refine wApp_inner _ m n hi hm (hk v) (by rw [List.length_map]; exact hl) ?_
      have := h2 _ D Xe hX h
      rw [← hs] at this
      simpa [eL] using this
    · cases hy)⟩
theorem drop_cons {xs : List α} {k : Nat} {x : α} (h : xs[k]? = some x) : xs.drop k = x :: xs.drop (k + 1) := by
  obtain ⟨h1, h2⟩ := List.getElem?_eq_some_iff.mp h
  rw [← h2]; exact List.drop_eq_getElem_cons h1
theorem rb_for {g : Tg} {Xs : Out (List α)} {F : σ → α → Out σ} (st : σ) (hi : RE G we env env1 m1 (eL a) Xs) (h0 : envLe (s st) env1) (ent : σ → α → VEnv)
    (hb : ∀ st x, RB G w (ent st x) (F st x) (KN s)) (hg : ∀ st x, ∃ rs, g.f (itemR mS (a x)) = some rs ∧ VL.putAll (s st) g.is rs = ent st x := by exact fun _ _ => ⟨_, rfl, rfl⟩) (hm : isB m1 = false := by rfl) :
    RB G (wFor g we w) env (Xs.bind fun xs => forO F st xs) (KN s) := fun D Xe hX hs =>
  hi _ _ Xe hX ((sat_bind.mp hs).imp fun xs hs => by
    refine ⟨xs.map a, rfl, hm, fun k e => ∃ V, e = s V ∧ Sat (forO F V (xs.drop k)) (fun b => KN s b D) Xe, s st, h0, ⟨st, rfl, hs⟩, fun k d e hd hJ => ?_, fun e hJ => ?_⟩
    · obtain ⟨V, rfl, hs⟩ := hJ
      rw [List.getElem?_map] at hd
      obtain ⟨x, hx, rfl⟩ := Option.map_eq_some_iff.mp hd
      obtain ⟨rs, h1, h2⟩ := hg V x
      refine ⟨rs, h1, ?_⟩
      rw [h2]
      rw [drop_cons hx] at hs
      exact hb V x { D with nx := fun e2 => _ } Xe hX ((sat_bind.mp hs).imp fun V' hs e le => ⟨s V', le, V', rfl, hs⟩)
    · obtain ⟨V, rfl, hs⟩ := hJ
      rw [List.length_map, List.drop_length] at hs
      exact hs _ (envLe.refl _))
theorem rg_get {lo hi : Int} {k : Nat} (hk : k < (hi - lo).toNat) : (rg lo hi)[k]? = some (lo + (k : Int)) := by
  unfold rg
  rw [List.getElem?_map, List.getElem?_range hk]; rfl
theorem rg_len (lo hi : Int) : (rg lo hi).length = (hi - lo).toNat := by unfold rg; rw [List.length_map, List.length_range]
theorem rb_forR {n i : Nat} {f : τ → List R} {T : Out τ} {gl gh : τ → Int} {F : σ → Int → Out σ} (st : σ) (hi : RA G wl env env1 f T) (hr : ∀ t, (f t).length = n ∧ rangeOf (f t) = some (gl t, gh t)) (h0 : envLe (s st) env1) (ent : σ → Int → VEnv)
    (hb : ∀ st x, RB G w (ent st x) (F st x) (KN s)) (hg : ∀ st x, (s st).set i (some (.int x, mA)) = ent st x := by exact fun _ _ => rfl) :
    RB G (wForR n i wl w) env (T.bind fun t => (lift (rgO (gl t) (gh t))).bind fun xs => forO F st xs) (KN s) := fun D Xe hX hs =>
  hi _ _ Xe hX ((sat_bind.mp hs).imp fun t hs => by
    obtain ⟨xs, hx, hs⟩ := sat_lift.mp (sat_bind.mp hs)
    unfold rgO at hx
    split at hx
    · rename_i hbd
      cases hx
      refine ⟨gl t, gh t, (hr t).1, (hr t).2, ⟨hbd.1, hbd.2.1⟩, ⟨hbd.2.2.1, hbd.2.2.2⟩, fun k e => ∃ V, e = s V ∧ Sat (forO F V ((rg (gl t) (gh t)).drop k)) (fun b => KN s b D) Xe, s st, h0, ⟨st, rfl, hs⟩, fun k e hk hJ => ?_, fun e hJ => ?_⟩
      · obtain ⟨V, rfl, hs⟩ := hJ
        rw [hg]
        rw [drop_cons (rg_get hk)] at hs
        exact hb V _ { D with nx := fun e2 => _ } Xe hX ((sat_bind.mp hs).imp fun V' hs e le => ⟨s V', le, V', rfl, hs⟩)
      · obtain ⟨V, rfl, hs⟩ := hJ
        rw [← rg_len, List.drop_length] at hs
        exact hs _ (envLe.refl _)
    · cases hx)
theorem rb_forRF {n i : Nat} {f : τ → List R} {T : Out τ} {gl gh : τ → Int} {F : σ → Int → Out (Fl ρ σ)} (st : σ) (hi : RA G wl env env1 f T) (hr : ∀ t, (f t).length = n ∧ rangeOf (f t) = some (gl t, gh t)) (h0 : envLe (s st) env1) (ent : σ → Int → VEnv)
    (hb : ∀ st x, RB G w (ent st x) (F st x) (KF e md s)) (hg : ∀ st x, (s st).set i (some (.int x, mA)) = ent st x := by exact fun _ _ => rfl) :
    RB G (wForR n i wl w) env (T.bind fun t => (lift (rgO (gl t) (gh t))).bind fun xs => forF F st xs) (KF e md s) := fun D Xe hX hs =>
  hi _ _ Xe hX ((sat_bind.mp hs).imp fun t hs => by
    obtain ⟨xs, hx, hs⟩ := sat_lift.mp (sat_bind.mp hs)
    unfold rgO at hx
    split at hx
    · rename_i hbd
      cases hx
      refine ⟨gl t, gh t, (hr t).1, (hr t).2, ⟨hbd.1, hbd.2.1⟩, ⟨hbd.2.2.1, hbd.2.2.2⟩, fun k e' => ∃ V, e' = s V ∧ Sat (forF F V ((rg (gl t) (gh t)).drop k)) (fun b => KF e md s b D) Xe, s st, h0, ⟨st, rfl, hs⟩, fun k e' hk hJ => ?_, fun e' hJ => ?_⟩
      · obtain ⟨V, rfl, hs⟩ := hJ
        rw [hg]
        rw [drop_cons (rg_get hk)] at hs
        refine hb V _ { D with nx := fun e2 => _ } Xe hX ((sat_bind.mp hs).imp fun V' hs => ?_)
        cases V' with
        | ret r => exact hs
        | nxt V' => exact fun e le => ⟨s V', le, V', rfl, hs⟩
      · obtain ⟨V, rfl, hs⟩ := hJ
        rw [← rg_len, List.drop_length] at hs
        exact hs _ (envLe.refl _)
    · cases hx)
theorem envLe.len : ∀ {e e' : VEnv}, envLe e e' → e.length = e'.length
  | [], [], _ => _root_.rfl
  | _ :: _, _ :: _, h => by simp [envLe.len h.2]
  | [], _ :: _, h => h.elim
  | _ :: _, [], h => h.elim
theorem envLe_set {x : Option (D × Md)} : ∀ {e e' : VEnv} (h : envLe e e') (i : Nat) (_ : True), envLe (e.set i x) (e'.set i x)
  | [], [], _, _, _ => True.intro
  | _ :: _, _ :: _, h, 0, _ => ⟨slLe.refl _, h.2⟩
  | _ :: _, _ :: _, h, i + 1, _ => ⟨h.1, envLe_set h.2 i True.intro⟩
  | [], _ :: _, h, _, _ => h.elim
  | _ :: _, [], h, _, _ => h.elim
def tryO (m : Out β) (l : List Str) (h : Exn → Out β) : Out β := match m with
  | .exn x => if l.contains x.cls = true then (if x.fld.isNone = true then noX (h x) else .stuck) else .exn x
  | m => m
def GE (e0 : VEnv) : EG := fun v => envLe e0 v
theorem rb_try {l : List Str} {i : Nat} {m : Out β} {h : Exn → Out β} {ws : Addr → Exn → WS} (e0 : VEnv) (hw : RB (GE e0) w env m K) (hh : ∀ ad x, RB (fun _ => True) (ws ad x) (e0.set i (some (opD ad, mS))) (h x) K) (hl : ∀ v, envLe e0 v → i < v.length := by exact fun v h => by rw [← envLe.len h]; exact Nat.le_of_ble_eq_true rfl) (hG : ∀ x, G x := by exact fun _ => True.intro) (hK : ∀ b D ex', K b D → K b { D with ex := ex' } := by exact fun _ _ _ h => h) (hK' : ∀ b D, K b D → K b { D with nx := fun e' => D.nx (e'.set i none), ex := fun _ _ => False } := by exact fun _ _ h => h) :
    RB G (wTryN w l i fun ad x => wPre (ws ad x)) env (tryO m l h) K := fun D Xe hX hs => by
  refine hw { D with ex := _ } (fun x => Sat (if l.contains x.cls = true then (if x.fld.isNone = true then noX (h x) else .stuck) else .exn x) (fun b => K b D) Xe) (fun x v' hg hx => ?_) ?_
  · show if catch_ l x = true then _ else _
    unfold catch_
    split
    · rename_i hc
      rw [if_pos hc] at hx
      split at hx
      · rename_i hf
        refine ⟨by simpa using hf, fun ad => ⟨e0.set i (some (opD ad, mS)), envLe_set hg _ True.intro, hh ad x _ (fun _ => False) (fun _ _ _ h => h.elim) ((sat_noX.mp hx).imp fun b q => hK' _ _ q)⟩⟩
      · exact hx.elim
    · rename_i hc
      rw [if_neg hc] at hx
      exact hX x v' (hG _) hx
  · cases m with
    | ok b => exact hK _ _ _ hs
    | exn x => exact hs
    | stuck => exact hs
end
theorem of_KT {ρ : Type} {w : WS} {env : VEnv} {m : Out ρ} {e : Enc ρ} {md : Md} {Qv : R → Prop} {Xv : Exn → Prop} (h : RB (fun _ => True) w env m (KT e md)) (hs : Sat m (fun r => Qv ⟨e r, md⟩) Xv) : w env ⟨fun _ => Qv ⟨.none, mA⟩, fun r _ => Qv r, fun ex _ => Xv ex⟩ :=
  h _ Xv (fun _ _ _ h => h) (hs.imp fun _ q _ => q)
end VL
set_option maxRecDepth 100000
set_option maxHeartbeats 4000000
namespace VL
open PySem PySem.Spec PyProof.Rows L2
theorem el_nil : envLe [] [] := True.intro
theorem el_c {s s' : Option (D × Md)} {e e' : VEnv} (h : slLe s s') (g : envLe e e') : envLe (s :: e) (s' :: e') := ⟨h, g⟩
theorem sl_n {s : Option (D × Md)} : slLe none s := True.intro
theorem sl_o {d : D} {m m' : Option Nat} (h : leM m m' = true := by rfl) : slLe (some (d, .o m)) (some (d, .o m')) := ⟨rfl, h⟩
theorem argS_F {α : Type} {e : Enc α} [f : Fl_ e] (x : α) : argS (e x) = some (e x, mA) := by unfold argS; rw [if_pos (f.fl x)]
theorem argS_N {α : Type} {e : Enc α} [f : Nf e] (x : α) : argS (e x) = some (e x, mS) := by unfold argS; rw [f.nf x]; rfl
section
variable {α β γ δ σ σ' ρ τ : Type} {G : EG} {env env1 env2 env3 : VEnv} {md m1 m2 m3 : Md} {a : Enc α} {b : Enc β} {e : Enc ρ} {wa wb wc we wi : WE} {wl wl' : WA} {wt wu : WT} {A : Out α} {w u v : WS} {K KA KB : β → DV → Prop} {M MA MB : Out β} {s : σ → VEnv}
theorem kx : ∀ b D n, K b D → (fun (_ : β) (_ : DV) => True) b { D with nx := n } := fun _ _ _ _ => True.intro
theorem re_as {x : α} (y : β) (h : RE G we env env1 md a (.ok x)) (e : a x = b y := by rfl) : RE G we env env1 md b (.ok y) := fun Q X Xe hX hs => h _ _ Xe hX (by rw [sat_ok, e]; exact hs)
theorem re_mulLO {B : Out Int} (k : Int) (ha : RE G wa env env1 m1 eI (.ok k)) (hb : RE G wb env1 env2 m2 eI B) (h : -(2 ^ 64) < k ∧ k < 2 ^ 64 := by decide) : RE G (wBin woMul wa wb) env env2 mA eI (B.bind fun y => .ok (k * y)) := fun Q X Xe hX hs =>
  ha _ _ Xe hX (hb _ _ Xe hX ((sat_bind.mp hs).imp fun y hs => i_mul (.inl (.inl h)) hs))
theorem re_modCO {A : Out Int} (k : Int) (ha : RE G wa env env1 m1 eI A) (hb : RE G wb env1 env2 m2 eI (.ok k)) (h : 0 < k := by decide) : RE G (wBin woMod wa wb) env env2 mA eI (A.bind fun x => .ok (x % k)) := fun Q X Xe hX hs =>
  ha _ _ Xe hX ((sat_bind.mp hs).imp fun x hs => hb _ _ Xe hX (sat_ok.mpr (i_mod h hs)))
theorem rb_retI (h : RE G we env env1 md a A) (hb : isB md = false := by rfl) : RB G (wSeq (wRet we) u) env A (KT a md) := fun D Xe hX hs =>
  h _ _ Xe hX (hs.imp fun x hs => ⟨hb, hs _⟩)
theorem rb_retP' {x : α} (r : ρ) (h : RE G we env env1 md a (.ok x)) (hb : isB md = false := by rfl) (he : a x = e r := by rfl) : RB G (wSeq (wRet we) u) env (.ok r) (KT e md) := rb_retP r h hb he
theorem rb_retFP {x : α} (r : ρ) (h : RE G we env env1 md a (.ok x)) (hb : isB md = false := by rfl) (he : a x = e r := by rfl) : RB G (wSeq (wRet we) u) env (.ok (.ret r)) (KF e md s) := fun D Xe hX hs =>
  h _ _ Xe hX ⟨hb, by rw [he]; exact hs _⟩
theorem rb_retRP {x : α} (r : ρ) (h : RE G we env env1 md a (.ok x)) (hb : isB md = false := by rfl) (he : a x = e r := by rfl) : RB G (wSeq (wRet we) u) env (.ok (.ret r : Fl ρ σ)) (KR e md) := fun D Xe hX hs =>
  h _ _ Xe hX ⟨hb, by rw [he]; exact hs _⟩
theorem rb_ifP {p : Bool} (ht : RT G wt env (.ok p)) (h1 : RB G w env MA K) (h2 : RB G v env MB K) : RB G (wIf wt w v) env (if p = true then MA else MB) K := rb_if ht h1 h2
theorem rs_ifRP {p : Bool} (hK : ∀ b D n, K b D → KA b { D with nx := n }) (ht : RT G wt env (.ok p)) (h1 : RB G w env MA KA) (h2 : RB G u env MB K) : RB G (wSeq (wIf wt w wNext) u) env (if p = true then MA else MB) K := rs_ifR hK ht h1 h2
theorem rb_forP {g : Tg} {xs : List α} {F : σ → α → Out σ} (st : σ) (hi : RE G we env env1 m1 (eL a) (.ok xs)) (h0 : envLe (s st) env1) (ent : σ → α → VEnv)
    (hb : ∀ st x, RB G w (ent st x) (F st x) (KN s)) (hg : ∀ st x, ∃ rs, g.f (itemR mS (a x)) = some rs ∧ VL.putAll (s st) g.is rs = ent st x := by exact fun _ _ => ⟨_, rfl, rfl⟩) (hm : isB m1 = false := by rfl) :
    RB G (wFor g we w) env (forO F st xs) (KN s) := rb_for st hi h0 ent hb hg hm
theorem rb_forRP {n i : Nat} {f : τ → List R} {t : τ} (lo hi' : Int) {F : σ → Int → Out σ} (st : σ) (hi : RA G wl env env1 f (.ok t)) (hr : (f t).length = n ∧ rangeOf (f t) = some (lo, hi')) (h0 : envLe (s st) env1) (ent : σ → Int → VEnv)
    (hb : ∀ st x, RB G w (ent st x) (F st x) (KN s)) (hg : ∀ st x, (s st).set i (some (.int x, mA)) = ent st x := by exact fun _ _ => rfl) :
    RB G (wForR n i wl w) env ((lift (rgO lo hi')).bind fun xs => forO F st xs) (KN s) :=
  rb_forR (f := fun _ : Unit => f t) (T := .ok ()) (gl := fun _ => lo) (gh := fun _ => hi') st (fun Q X Xe hX h => hi Q X Xe hX h) (fun _ => hr) h0 ent hb hg
theorem rb_forRFP {n i : Nat} {f : τ → List R} {t : τ} (lo hi' : Int) {F : σ → Int → Out (Fl ρ σ)} (st : σ) (hi : RA G wl env env1 f (.ok t)) (hr : (f t).length = n ∧ rangeOf (f t) = some (lo, hi')) (h0 : envLe (s st) env1) (ent : σ → Int → VEnv)
    (hb : ∀ st x, RB G w (ent st x) (F st x) (KF e md s)) (hg : ∀ st x, (s st).set i (some (.int x, mA)) = ent st x := by exact fun _ _ => rfl) :
    RB G (wForR n i wl w) env ((lift (rgO lo hi')).bind fun xs => forF F st xs) (KF e md s) :=
  rb_forRF (f := fun _ : Unit => f t) (T := .ok ()) (gl := fun _ => lo) (gh := fun _ => hi') st (fun Q X Xe hX h => hi Q X Xe hX h) (fun _ => hr) h0 ent hb hg
theorem re_lc1P {γ : Type} {c : Enc γ} {g : Tg} {vs : List Nat} {wl : WE} (km : Option Nat) (md : Md) {ent : α → VEnv} {F : α → Out γ} {xs : List α}
    (hi : RE G wa env env1 m1 (eL a) (.ok xs)) (hg : ∀ x, ∃ rs, g.f (itemR m1 (a x)) = some rs ∧ VL.putAll (wipeE (bEnv env1) vs) g.is rs = ent x)
    (hf : ∀ x, ∃ e', RE (fun _ => True) wl (ent x) e' md c (F x)) (hk : KidE c md km) :
    RE G (wLc vs g wa wYes wl) env env1 (.o (succM km)) (eL c) (mapL (fun x => noX (F x)) xs) := re_lc1 hi hg hf hk
theorem re_lcRP {γ : Type} {c : Enc γ} {n i : Nat} {wl : WA} {vs : List Nat} {tt : WT} {we : WE} (km : Option Nat) (md : Md) (lo hi' : Int) {ent : Int → VEnv} {P : Int → Out Bool} {F : Int → Out γ} {f : τ → List R} {t : τ}
    (hi : RA G wl env env1 f (.ok t)) (hr : (f t).length = n ∧ rangeOf (f t) = some (lo, hi')) (hg : ∀ x, (wipeE (bEnv env1) vs).set i (some (.int x, mA)) = ent x)
    (hp : ∀ x, RT (fun _ => True) tt (ent x) (P x)) (hf : ∀ x, ∃ e', RE (fun _ => True) we (ent x) e' md c (F x)) (hk : KidE c md km) :
    RE G (wLcR n vs i wl tt we) env env1 (.o (succM km)) (eL c) ((lift (rgO lo hi')).bind (fmapL (fun x => noX (P x)) (fun x => noX (F x)))) :=
  re_lcR (f := fun _ : Unit => f t) (T := .ok ()) (gl := fun _ => lo) (gh := fun _ => hi') (fun Q X Xe hX h => hi Q X Xe hX h) (fun _ => hr) hg hp hf hk
theorem re_lcR1P {γ : Type} {c : Enc γ} {n i : Nat} {wl : WA} {vs : List Nat} {we : WE} (km : Option Nat) (md : Md) (lo hi' : Int) {ent : Int → VEnv} {F : Int → Out γ} {f : τ → List R} {t : τ}
    (hi : RA G wl env env1 f (.ok t)) (hr : (f t).length = n ∧ rangeOf (f t) = some (lo, hi')) (hg : ∀ x, (wipeE (bEnv env1) vs).set i (some (.int x, mA)) = ent x)
    (hf : ∀ x, ∃ e', RE (fun _ => True) we (ent x) e' md c (F x)) (hk : KidE c md km) :
    RE G (wLcR n vs i wl wYes we) env env1 (.o (succM km)) (eL c) ((lift (rgO lo hi')).bind (mapL fun x => noX (F x))) :=
  re_lcR1 (f := fun _ : Unit => f t) (T := .ok ()) (gl := fun _ => lo) (gh := fun _ => hi') (fun Q X Xe hX h => hi Q X Xe hX h) (fun _ => hr) hg hf hk
theorem envLe_setN : ∀ {e e' : VEnv} (_ : envLe e e') (i : Nat) (_ : e[i]? = some none), envLe e (e'.set i none)
  | [], [], _, _, _ => True.intro
  | s :: _, _ :: _, h, 0, z => ⟨by simp at z; rw [z]; exact True.intro, h.2⟩
  | _ :: _, _ :: _, h, i + 1, z => ⟨h.1, envLe_setN h.2 i (by simpa using z)⟩
  | [], _ :: _, h, _, _ => h.elim
  | _ :: _, [], h, _, _ => h.elim
theorem rb_tryNF {l : List Str} {i : Nat} {m : Out (Fl ρ σ)} {h : Exn → Out (Fl ρ σ)} {ws : Addr → Exn → WS} (e0 : VEnv) (hw : RB (GE e0) w env m (KF e md s)) (hh : ∀ ad x, RB (fun _ => True) (ws ad x) (e0.set i (some (opD ad, mS))) (h x) (KF e md s)) (hi : ∀ V, (s V)[i]? = some none := by exact fun _ => rfl) (hl : ∀ v, envLe e0 v → i < v.length := by exact fun v h => by rw [← envLe.len h]; exact Nat.le_of_ble_eq_true rfl) (hG : ∀ x, G x := by exact fun _ => True.intro) :
    RB G (wTryN w l i fun ad x => wPre (ws ad x)) env (tryO m l h) (KF e md s) := rb_try e0 hw hh hl hG (fun b _ _ h => by cases b <;> exact h) fun b D k => by
  cases b with
  | ret r => exact k
  | nxt V => exact fun e le => k _ (envLe_setN le i (hi V))
end
section
variable {α β σ ρ : Type} {X : Exn → Prop}
theorem sat_forO {f : σ → α → Out σ} {xs : List α} {s0 : σ} {Q : σ → Prop} (Inv : Nat → σ → Prop) (h0 : Inv 0 s0) (step : ∀ k s x, xs[k]? = some x → Inv k s → Sat (f s x) (Inv (k + 1)) X) (last : ∀ s, Inv xs.length s → Q s) : Sat (forO f s0 xs) Q X := by
  induction xs generalizing s0 Inv with
  | nil => exact last _ h0
  | cons x xs ih =>
    unfold forO
    refine sat_bind.mpr ((step 0 s0 x rfl h0).imp fun s h => ?_)
    exact ih (fun k => Inv (k + 1)) h (fun k s y hy hi => step (k + 1) s y (by simpa using hy) hi) fun s h => last s h
theorem sat_forF {f : σ → α → Out (Fl ρ σ)} {xs : List α} {s0 : σ} {Q : Fl ρ σ → Prop} (Inv : Nat → σ → Prop) (h0 : Inv 0 s0) (step : ∀ k s x, xs[k]? = some x → Inv k s → Sat (f s x) (fun | .ret r => Q (.ret r) | .nxt s => Inv (k + 1) s) X) (last : ∀ s, Inv xs.length s → Q (.nxt s)) : Sat (forF f s0 xs) Q X := by
  induction xs generalizing s0 Inv with
  | nil => exact last _ h0
  | cons x xs ih =>
    unfold forF
    refine sat_bind.mpr ((step 0 s0 x rfl h0).imp fun s h => ?_)
    cases s with
    | ret r => exact h
    | nxt s => exact ih (fun k => Inv (k + 1)) h (fun k s y hy hi => step (k + 1) s y (by simpa using hy) hi) fun s h => last s h
theorem sat_whileO {c : σ → Out Bool} {f : σ → Out σ} {Q : σ → Prop} (Inv : σ → Prop) (μ : σ → Nat) : ∀ {n : Nat} {s0 : σ}, μ s0 < n → Inv s0 → (∀ s, Inv s → Sat (c s) (fun b => if b = true then Sat (f s) (fun s' => Inv s' ∧ μ s' < μ s) X else Q s) X) → Sat (whileO c f n s0) Q X
  | 0, _, h, _, _ => absurd h (Nat.not_lt_zero _)
  | n + 1, s0, h, hi, step => by
    unfold whileO
    refine sat_bind.mpr ((step s0 hi).imp fun b hb => ?_)
    cases b
    · exact hb
    · rw [if_pos rfl] at hb ⊢
      exact sat_bind.mpr (hb.imp fun s' ⟨h1, h2⟩ => sat_whileO Inv μ (by omega) h1 step)
theorem forO_ok {f : σ → α → Out σ} {g : σ → α → σ} {xs : List α} (s0 : σ) (h : ∀ s, ∀ x ∈ xs, f s x = .ok (g s x)) : forO f s0 xs = .ok (xs.foldl g s0) := by
  induction xs generalizing s0 with
  | nil => rfl
  | cons x xs ih =>
    unfold forO
    rw [h s0 x List.mem_cons_self]
    exact ih _ fun s y hy => h s y (List.mem_cons_of_mem _ hy)
theorem mapO_ok {f : α → Out β} {g : α → β} {xs : List α} (h : ∀ x ∈ xs, f x = .ok (g x)) : mapO f xs = .ok (xs.map g) := by
  induction xs with
  | nil => rfl
  | cons x xs ih =>
    unfold mapO
    rw [h x List.mem_cons_self, ih fun y hy => h y (List.mem_cons_of_mem _ hy)]; rfl
theorem mapL_ok {f : α → Out β} {g : α → β} {xs : List α} (hl : xs.length ≤ 1000000) (h : ∀ x ∈ xs, f x = .ok (g x)) : mapL f xs = .ok (xs.map g) := by
  unfold mapL; rw [if_pos hl]; exact mapO_ok h
theorem fmapO_ok {p : α → Out Bool} {f : α → Out β} {q : α → Bool} {g : α → β} {xs : List α} (hp : ∀ x ∈ xs, p x = .ok (q x)) (h : ∀ x ∈ xs, q x = true → f x = .ok (g x)) : fmapO p f xs = .ok ((xs.filter q).map g) := by
  induction xs with
  | nil => rfl
  | cons x xs ih =>
    unfold fmapO
    rw [hp x List.mem_cons_self, ih (fun y hy => hp y (List.mem_cons_of_mem _ hy)) fun y hy => h y (List.mem_cons_of_mem _ hy)]
    by_cases e : q x = true
    · simp [e, h x List.mem_cons_self e]
    · simp [e]
theorem fmapL_ok {p : α → Out Bool} {f : α → Out β} {q : α → Bool} {g : α → β} {xs : List α} (hl : xs.length ≤ 1000000) (hp : ∀ x ∈ xs, p x = .ok (q x)) (h : ∀ x ∈ xs, q x = true → f x = .ok (g x)) : fmapL p f xs = .ok ((xs.filter q).map g) := by
  unfold fmapL; rw [if_pos hl]; exact fmapO_ok hp h
theorem appO_ok {xs : List α} {v : α} (h : xs.length < 1000000) : appO xs v = some (xs ++ [v]) := by unfold appO; exact if_pos h
theorem catO_ok {xs ys : List α} (h : xs.length + ys.length ≤ 1000000) : catO xs ys = some (xs ++ ys) := by unfold catO; exact if_pos h
theorem rgO_ok {lo hi : Int} (h : -(2 ^ 62) ≤ lo ∧ lo < 2 ^ 62 ∧ -(2 ^ 62) ≤ hi ∧ hi < 2 ^ 62) : rgO lo hi = some (rg lo hi) := by unfold rgO; exact if_pos h
theorem modO_ok {x y : Int} (h : 0 < y) : modO x y = some (x % y) := by unfold modO; exact if_pos h
theorem mulO_ok {x y : Int} (h : CMul x y ∨ CMulW x y) : mulO x y = some (x * y) := by unfold mulO; exact if_pos h
theorem fdO_ok {x y : Int} (h : CDiv x y ∨ CDivW x y) : fdO x y = some (x / y) := by unfold fdO; exact if_pos h
theorem powO_ok {x y : Int} (h : 0 ≤ y ∧ y ≤ 1000000 ∧ x.natAbs < 2 ^ 64) : powO x y = some (x ^ y.toNat) := by unfold powO; exact if_pos h
theorem repO_ok {xs : List α} {k : Int} (h0 : -(2 ^ 63) ≤ k) (h1 : k < 2 ^ 63) (h : xs.length * k.toNat ≤ 1000000) : repO xs k = some (List.replicate k.toNat xs).flatten := by unfold repO; exact if_pos ⟨h0, h1, h⟩
theorem atI_nat {xs : List α} {k : Nat} {x : α} (h : xs[k]? = some x) : atI xs (k : Int) = some x := atI_nat' h
theorem atI_get {xs : List α} {i : Int} (h0 : 0 ≤ i) (h1 : i < xs.length) : atI xs i = some (xs[i.toNat]'(by omega)) := atI_pos h0 (List.getElem?_eq_getElem (by omega))
theorem rg_nat (n : Nat) : rg 0 (n : Int) = (List.range n).map fun k : Nat => (k : Int) := by
  unfold rg; simp
theorem mem_rg {lo hi x : Int} : x ∈ rg lo hi ↔ lo ≤ x ∧ x < hi := by
  unfold rg
  rw [List.mem_map]
  constructor
  · rintro ⟨k, hk, rfl⟩
    rw [List.mem_range] at hk
    omega
  · intro h
    exact ⟨(x - lo).toNat, by rw [List.mem_range]; omega, by omega⟩
end
end VL
set_option maxRecDepth 100000
set_option maxHeartbeats 4000000
namespace VL
open PySem PySem.Spec PyProof.Rows L2
section
variable {X : Cx} {c : Cn} {W : WX} {pos px ppx apx cpx pos2 p3 : Pos} {wp : WP} {o : Expr} {tx : Str} {z : Int} {j3 : _}
end
section
variable {α β γ δ σ ρ τ : Type} {G : EG} {env env1 env2 env3 : VEnv} {md m1 m2 m3 : Md} {a : Enc σ} {b : Enc β} {c : Enc γ} {wi we : WE} {wp : WP} {w u v : WS} {K : δ → DV → Prop}
end
section
variable {α β γ σ ρ τ : Type} {G : EG} {env env1 : VEnv} {md m1 m2 : Md} {a : Enc α} {b : Enc β} {we : WE} {A : Out α}
theorem re_someP {x : Option α} (h : RE G we env env1 md (eO a) (.ok x)) : RE G we env env1 md a (lift x) := fun Q X Xe hX hs =>
  h _ _ Xe hX (sat_ok.mpr (by
    obtain ⟨y, rfl, hy⟩ := sat_lift.mp hs
    exact hy))
theorem re_asO (g : α → β) (h : RE G we env env1 md a A) (e : ∀ x, a x = b (g x) := by exact fun _ => rfl) : RE G we env env1 md b (A.bind fun x => .ok (g x)) := fun Q X Xe hX hs =>
  h _ _ Xe hX ((sat_bind.mp hs).imp fun x h => by rw [e]; exact h)
theorem isNon_O (h : ∀ x, isNon (a x) = false) (x : Option α) : isNon (eO a x) = x.isNone := by
  cases x with
  | none => rfl
  | some x => exact h x
theorem xo_isNO (h : ∀ x, isNon (a x) = false) : OpP woIsN (eO a) m1 eN m2 (fun x _ => x.isNone) eB mA := fun x y Q q => i_isN (by rw [isNon_O h]; exact q)
end
end VL
set_option maxRecDepth 100000
set_option maxHeartbeats 4000000
namespace VL
open PySem PySem.Spec PyProof.Rows L2
section
variable {prog : Program} {w : World} {A : Around} {E : Value → Shared → Prop} {s : Shared}
end
section
variable {X : Cx} {pos : Pos}
end
section
variable {α β γ δ σ ρ τ : Type} {G : EG} {env env1 env2 env3 : VEnv} {md m1 m2 m3 : Md} {a : Enc α} {we : WE} {w u v : WS} {K : δ → DV → Prop} {A : Out (List α)}
end
end VL
set_option maxRecDepth 100000
set_option maxHeartbeats 4000000
namespace VL
open PySem PySem.Spec PyProof.Rows L2
section
variable {α β γ : Type} [DecidableEq α] {a : Enc α} {n : Nat} {m1 m2 : Md}
end
theorem bS_fl {α : Type} {e : Enc α} [h : Fl_ e] (x : α) : bS (some (e x, mA)) = some (e x, mA) := by
  show (if flatD (e x) = true then _ else _) = _
  rw [if_pos (h.fl x)]
theorem bEnv_c (s : Option (D × Md)) (e : VEnv) : bEnv (s :: e) = bS s :: bEnv e := rfl
theorem bEnv_n : bEnv [] = [] := rfl
end VL
set_option maxRecDepth 100000
set_option maxHeartbeats 4000000
namespace VL
open PySem PySem.Spec PyProof.Rows L2
open PySem.W (HoldAll maxOf minOf max_tuple_datum min_tuple_datum Datum DatumOrd)
section
variable {X : Cx} {c : Cn} {W : WX} {pos p p2 p3 : Pos} {wa : WA} {e e' e2 : Expr} {we : WE}
end
section
variable {α β γ σ ρ τ : Type} {G : EG} {env env1 env2 env3 : VEnv} {md m1 m2 m3 : Md} {a : Enc α} {b : Enc β} {wa wb we : WE}
variable [DecidableEq α] {n : Nat}
end
end VL
set_option maxRecDepth 100000
set_option maxHeartbeats 4000000
namespace VL
open PySem PySem.Spec PyProof.Rows L2
section
variable {α β γ σ ρ τ : Type} {G : EG} {env env1 env2 env3 : VEnv} {md m1 m2 m3 : Md} {a : Enc α} {b : Enc β} {wl : WA} {we : WE}
end
end VL
set_option maxRecDepth 100000
set_option maxHeartbeats 4000000
namespace VL
open PySem PySem.Spec PyProof.Rows L2
theorem IntsAre.at {us : List Value} {ns : List Int} (h : IntsAre us ns) : ∀ j (h1 : j < us.length), ∃ t, us[j] = .int (ns.getD j 0) t := by
  induction h with
  | nil => intro j h1; simp at h1
  | cons a t h ih =>
    intro j h1
    cases j with
    | zero => exact ⟨t, rfl⟩
    | succ j => simpa using ih j (by simpa using h1)
section
variable {α β : Type} {a : Enc α} {b : Enc β} {m1 m2 : Md}
end
def wEi (w u : WS) : WS := fun env Dv => w env Dv ∨ u env Dv
theorem vss_ei {X : Cx} {c : Cn} {W : WX} {w u : WS} {st : List Stmt} (h1 : PSs X st (rdS c W w)) (h2 : PSs X st (rdS c W u)) : PSs X st (rdS c W (wEi w u)) := ⟨fun pins s σ H D I h => by
  obtain ⟨env, L, Dv, S, q, k⟩ := h
  rcases q with q | q
  · exact h1.run pins s σ H D I ⟨env, L, Dv, S, q, k⟩
  · exact h2.run pins s σ H D I ⟨env, L, Dv, S, q, k⟩⟩
section
variable {β : Type} {G : EG} {w u : WS} {env : VEnv} {m : Out β} {K : β → DV → Prop}
theorem rb_el (h : RB G w env m K) : RB G (wEi w u) env m K := fun D Xe hX hs => .inl (h D Xe hX hs)
theorem rb_er (h : RB G u env m K) : RB G (wEi w u) env m K := fun D Xe hX hs => .inr (h D Xe hX hs)
end
end VL
set_option maxRecDepth 100000
set_option maxHeartbeats 4000000
namespace VL
open PySem PySem.Spec PyProof.Rows L2
abbrev FSpecM := List D → (R → D → Prop) → (Exn → Prop) → Prop
def Fr (l : List Addr) (H H' : Hp) : Prop := ∀ b o, H b = some o → b ∉ l → H' b = some o
section
variable {c : Cn} {T : List Addr} {H : Hp}
end
section
variable {P : Program} {w : World} {K : PySem.W.Frag} {mg : Str → Option Value} {base : Heap} {cl : Str → Option Addr} {h : Heap}
end
section
variable {X : Cx} {c : Cn} {W : WX} {pos : Pos} {w : WE} {wa : WA} {e : Expr} {es : List Expr}
end
section
variable {c : Cn} {L : List (List Addr)} {Tm l lj l' lr : List Addr} {env : VEnv} {σ : Sg} {H H' : Hp} {i : Nat} {v : V} {d' : D}
theorem Fr.kp {A : Addr → Prop} (f : Fr lj H H') (m : ∀ b ∈ lj, ∃ o, H b = some o ∧ mutO o) (a : ∀ b, A b → b ∉ lj) : Kp A H H' :=
  ⟨fun b o x e => f b o e (a b x), fun b xs e => f b _ e fun z => by obtain ⟨o, e2, q⟩ := m b z; rw [e] at e2; cases e2; exact q, fun b o u e => f b _ e fun z => by obtain ⟨o, e2, q⟩ := m b z; rw [e] at e2; cases e2; exact q⟩
end
section
variable {X : Cx} {c : Cn} {W : WX} {pos p : Pos} {wa : WA} {we : WE} {e : Expr} {es : List Expr} {x : Str} {n k j : Nat} {S : FSpecM}
end
section
variable {X : Cx} {c : Cn} {W : WX} {pos : Pos} {we : WE} {wt : WT} {w u : WS} {e : Expr} {a b : List Stmt}
end
section
variable {α β σ ρ τ ι : Type} {G : EG} {env env1 : VEnv} {md : Md} {a : Enc α} {e : Enc ρ} {b : Enc β} {we : WE} {wl : WA} {u w v : WS} {wt : WT} {γ : Type} {M : Out γ} {K KA : γ → DV → Prop} {s : τ → VEnv}
end
theorem envLe.get : ∀ {e e' : VEnv} {j : Nat} {d : D}, envLe e e' → e[j]? = some (some (d, mA)) → e'[j]? = some (some (d, mA))
  | [], _, _, _, _, h => by simp at h
  | _ :: _, [], _, _, h, _ => h.elim
  | s :: e, s' :: e', 0, d, h, g => by
    simp at g; subst g
    have h := h.1
    match s', h with
    | none, h => exact h.elim
    | some (d', .b), h => exact h.elim
    | some (d', .o m), h =>
      obtain ⟨rfl, h⟩ := h
      cases m with
      | none => rfl
      | some k => cases h
  | s :: e, s' :: e', j + 1, d, h, g => by simpa using envLe.get (j := j) h.2 (by simpa using g)
end VL
set_option maxRecDepth 100000
set_option maxHeartbeats 4000000
namespace XD
open PySem PySem.Spec PyProof.Rows L2 VL
@[irreducible] noncomputable def F_law_cell (script_ : (List Int)) (place_ : Int) : Out Int :=
  (if (decide (place_ < (script_.length : Int))) = true then (lift (atI script_ place_)) else ((Out.ok (5)).bind fun (seed_ : Int) => ((forO (fun (V3 : Int) (cell_here_ : Int) => ((Out.ok (((((V3 * 48271) + (cell_here_ % 1000003)) + 1) % 2147483647))).bind fun (seed_ : Int) => (Out.ok seed_))) seed_ (cutL script_ none (some (63)))).bind fun (V3 : Int) => (Out.ok ((V3 + (7919 * place_)) % 1000003)))))
def sp_law_cell : FSpec := fun ds Q X => ∃ (script_ : (List Int)) (place_ : Int), ds = [eScr script_, eI place_] ∧ Sat (F_law_cell script_ place_) (fun r => Q ⟨eI r, mA⟩) X
@[irreducible] noncomputable def F_law_mix (cell_here_ : Int) (k_ : Int) : Out Int :=
  (((lift (powO (((cell_here_ % 2147483629) + (1013 * k_)) + 7919) 3)).bind fun t1 => .ok (t1 % 2147483647)).bind fun (one_ : Int) => (((((Out.ok ((one_ * 40699))).bind fun t1 => (lift (mulO (3793 * k_) k_)).bind fun t2 => .ok ((t1 + t2))).bind fun t1 => (Out.ok (11)).bind fun t2 => .ok ((t1 + t2))).bind fun t1 => .ok (t1 % 2147483399)).bind fun (two_ : Int) => (Out.ok (two_ / 101))))
def sp_law_mix : FSpec := fun ds Q X => ∃ (cell_here_ : Int) (k_ : Int), ds = [eI cell_here_, eI k_] ∧ Sat (F_law_mix cell_here_ k_) (fun r => Q ⟨eI r, mA⟩) X
@[irreducible] noncomputable def F_law_row (script_ : (List Int)) (place_ : Int) (sizes_ : (List Int)) : Out (List Int) :=
  ((F_law_cell script_ place_).bind fun (cell_here_ : Int) => ((Out.ok (cell_here_)).bind fun (left_ : Int) => ((Out.ok (([] : (List Int)))).bind fun (some_ : (List Int)) => (((lift (rgO 0 (sizes_.length : Int))).bind fun xs => forO (fun (V18 : (List Int) × Int) (k_ : Int) => ((if (decide (cell_here_ < (10 ^ ((18 : Int).toNat) : Int))) = true then (((F_law_mix cell_here_ k_).bind fun t1 => (lift (atI sizes_ k_)).bind fun t2 => lift (modO t1 t2)).bind fun v => (lift (appO V18.1 v)).bind fun some_ => (Out.ok (some_, V18.2))) else ((if (decide (V18.2 > 0)) = true then (((Out.ok (V18.2)).bind fun t1 => (lift (atI sizes_ k_)).bind fun t2 => lift (modO t1 t2)).bind fun v => (lift (appO V18.1 v)).bind fun some_ => (((Out.ok (V18.2)).bind fun t1 => (lift (atI sizes_ k_)).bind fun t2 => lift (fdO t1 t2)).bind fun (left_ : Int) => (Out.ok (some_, left_)))) else ((F_law_cell script_ (((place_ + 1) + k_) % 63)).bind fun (other_ : Int) => (((F_law_mix other_ k_).bind fun t1 => (lift (atI sizes_ k_)).bind fun t2 => lift (modO t1 t2)).bind fun v => (lift (appO V18.1 v)).bind fun some_ => (Out.ok (some_, V18.2))))).bind fun (V24 : (List Int) × Int) => (Out.ok (V24.1, V24.2)))).bind fun (V23 : (List Int) × Int) => (Out.ok (V23.1, V23.2)))) (some_, left_) xs).bind fun (V18 : (List Int) × Int) => (Out.ok V18.1)))))
def sp_law_row : FSpec := fun ds Q X => ∃ (script_ : (List Int)) (place_ : Int) (sizes_ : (List Int)), ds = [eScr script_, eI place_, (eL eI) sizes_] ∧ Sat (F_law_row script_ place_ sizes_) (fun r => Q ⟨(eL eI) r, mA⟩) X
end XD
set_option maxRecDepth 100000
set_option maxHeartbeats 4000000
namespace XA
open PySem PySem.Spec PyProof.Rows L2 VL
end XA
set_option maxRecDepth 100000
set_option maxHeartbeats 4000000
namespace XC
open PySem PySem.Spec PyProof.Rows L2 VL
end XC
set_option maxRecDepth 100000
set_option maxHeartbeats 4000000
namespace XS
open PySem PySem.Spec PyProof.Rows L2 VL
end XS
set_option maxRecDepth 100000
set_option maxHeartbeats 4000000
namespace XT
open PySem PySem.Spec PyProof.Rows L2 VL
@[irreducible] noncomputable def F_law_common (one_ : Int) (other_ : Int) : Out Int :=
  ((Out.ok (absF one_, (absF other_, ()))).bind fun (p34 : Int × Int × Unit) => ((whileO (fun (V35 : Int × Int) => (Out.ok (decide (V35.2 > 0)))) (fun (V35 : Int × Int) => (((Out.ok (V35.2)).bind fun x => ((lift (modO V35.1 V35.2)).bind fun x => (Out.ok ()).bind fun t => .ok (x, t)).bind fun t => .ok (x, t)).bind fun (p37 : Int × Int × Unit) => (Out.ok (p37.1, p37.2.1)))) fuel (p34.1, p34.2.1)).bind fun (V35 : Int × Int) => (Out.ok V35.1)))
@[irreducible] noncomputable def F_law_cell_of (way_ : Int) (size_ : Int) (factor_ : Int) (a_ : Int) (b_ : Int) : Out Int :=
  ((Out.ok ((size_ / 2))).bind fun (half_ : Int) => (if (decide (way_ = 1)) = true then (lift (modO ((2 * b_) - a_) size_)) else (if (decide (way_ = 2)) = true then (((lift (mulO factor_ a_)).bind fun t1 => (lift (mulO (1 - factor_) b_)).bind fun t2 => .ok ((t1 + t2))).bind fun t1 => (Out.ok (size_)).bind fun t2 => lift (modO t1 t2)) else (if (decide (way_ = 3) && (decide (size_ > 2) && (decide (a_ < 2) && decide (b_ = (size_ - 1))))) = true then (Out.ok (1 - a_)) else (if (decide (way_ = 6) && (decide (a_ < (size_ - 1)) && decide (b_ = (size_ - 1)))) = true then (lift (modO (a_ + 1) (size_ - 1))) else (if (decide (way_ = 4) && (decide (a_ < half_) && decide (b_ < half_))) = true then (lift (modO ((2 * b_) - a_) half_)) else (if (decide (way_ = 4) && (decide (a_ ≥ half_) && decide (b_ ≥ half_))) = true then ((Out.ok (half_)).bind fun t1 => (lift (modO (((2 * b_) - a_) - half_) (size_ - half_))).bind fun t2 => .ok ((t1 + t2))) else (Out.ok a_))))))))
@[irreducible] noncomputable def F_law_made (way_ : Int) (size_ : Int) (factor_ : Int) : Out (List (List Int)) :=
  (if (decide (way_ = 5) && decide (size_ = 4)) = true then (Out.ok ([[0, 3, 1, 2], [2, 1, 3, 0], [3, 0, 2, 1], [1, 2, 0, 3]])) else ((whileO (fun (V41 : Int) => ((F_law_common V41 size_).bind fun t1 => (Out.ok (1)).bind fun t2 => .ok (!decide (t1 = t2)))) (fun (V41 : Int) => ((Out.ok ((V41 + 1))).bind fun (factor_ : Int) => (Out.ok factor_))) fuel factor_).bind fun (V41 : Int) => ((Out.ok (([] : (List (List Int))))).bind fun (some_ : (List (List Int))) => (((lift (rgO 0 size_)).bind fun xs => forO (fun (V42 : (List (List Int))) (a_ : Int) => (((lift (rgO 0 size_)).bind (mapL (fun b_ : Int => noX (F_law_cell_of way_ size_ V41 a_ b_)))).bind fun v => (lift (appO V42 v)).bind fun some_ => (Out.ok some_))) some_ xs).bind fun (V42 : (List (List Int))) => (Out.ok V42)))))
def sp_law_made : FSpec := fun ds Q X => ∃ (way_ : Int) (size_ : Int) (factor_ : Int), ds = [eI way_, eI size_, eI factor_] ∧ Sat (F_law_made way_ size_ factor_) (fun r => Q ⟨(eL (eL eI)) r, mA⟩) X
end XT
set_option maxRecDepth 100000
set_option maxHeartbeats 4000000
namespace XF
open PySem PySem.Spec PyProof.Rows L2 VL
end XF
set_option maxRecDepth 100000
set_option maxHeartbeats 4000000
namespace VL
open PySem PySem.Spec PyProof.Rows L2
section
variable {α β γ δ : Type} {a : Enc α} {b : Enc β} {c : Enc γ} {d : Enc δ} {n m k j : Nat}
def eX3 (a : Enc α) (b : Enc β) (c : Enc γ) : Enc (α × β × γ) := fun p => .list [a p.1, b p.2.1, c p.2.2]
def eX4 (a : Enc α) (b : Enc β) (c : Enc γ) (d : Enc δ) : Enc (α × β × γ × δ) := fun p => .list [a p.1, b p.2.1, c p.2.2.1, d p.2.2.2]
instance : Nf (eX3 a b c) := ⟨fun _ => rfl⟩
instance : Nf (eX4 a b c d) := ⟨fun _ => rfl⟩
variable [DecidableEq α] [DecidableEq β] [DecidableEq γ] [DecidableEq δ]
instance [h : EqE a n] [g : EqE b m] [i : EqE c k] : EqE (eX3 a b c) (max n (max m k) + 1) := ⟨fun p => by simp [eX3, PyData.canLay0, PyData.canLayAll0, h.lay, g.lay, i.lay], fun p => by
  have := h.dep p.1; have := g.dep p.2.1; have := i.dep p.2.2
  simp only [eX3, PyData.depth, PyData.depthAll]; omega, fun p q => by
  obtain ⟨p1, p2, p3⟩ := p; obtain ⟨q1, q2, q3⟩ := q
  simp only [eX3, PyData.eqv, PyData.eqvAll, h.eqv, g.eqv, i.eqv, Prod.mk.injEq, Bool.and_true, Bool.decide_and]⟩
instance [h : EqE a n] [g : EqE b m] [i : EqE c k] [u : EqE d j] : EqE (eX4 a b c d) (max n (max m (max k j)) + 1) := ⟨fun p => by simp [eX4, PyData.canLay0, PyData.canLayAll0, h.lay, g.lay, i.lay, u.lay], fun p => by
  have := h.dep p.1; have := g.dep p.2.1; have := i.dep p.2.2.1; have := u.dep p.2.2.2
  simp only [eX4, PyData.depth, PyData.depthAll]; omega, fun p q => by
  obtain ⟨p1, p2, p3, p4⟩ := p; obtain ⟨q1, q2, q3, q4⟩ := q
  simp only [eX4, PyData.eqv, PyData.eqvAll, h.eqv, g.eqv, i.eqv, u.eqv, Prod.mk.injEq, Bool.and_true, Bool.decide_and]⟩
end
section
variable {α β τ : Type} {b : Enc β} {G : EG} {env env1 env2 : VEnv} {wb wc : WE} {wl : WA} {m1 m2 : Md}
end
end VL
set_option maxRecDepth 100000
set_option maxHeartbeats 4000000
namespace VL
open PySem PySem.Spec PyProof.Rows L2
section
variable {X : Cx} {c : Cn} {W : WX} {apos cpos : Pos} {wd wk wx : WE} {o e f : Expr} {k : Nat}
end
section
variable {α : Type} {a : Enc α} {G : EG} {env env1 env2 env3 : VEnv} {wd wk wx : WE} {m1 m2 m3 : Md}
end
end VL
set_option maxRecDepth 100000
set_option maxHeartbeats 4000000
namespace VL
open PySem PySem.Spec PyProof.Rows L2
inductive At where
  | i (n : Int) | b (v : Bool) | s (x : Str)
deriving DecidableEq
def eA : Enc At | .i n => .int n | .b v => .bool v | .s x => .str x
instance : Fl_ eA := ⟨fun | .i _ => rfl | .b _ => rfl | .s _ => rfl⟩
def asI : At → Option Int | .i n => some n | _ => none
def asB : At → Option Bool | .b n => some n | _ => none
def asS : At → Option Str | .s n => some n | _ => none
@[simp] theorem asI_i (n : Int) : asI (.i n) = some n := Eq.trans rfl rfl
@[simp] theorem asB_b (n : Bool) : asB (.b n) = some n := Eq.trans rfl rfl
@[simp] theorem asS_s (n : Str) : asS (.s n) = some n := Eq.trans rfl rfl
def asP : List At → Option (Int × Int) | [.i a, .i b] => some (a, b) | _ => none
@[simp] theorem asP_i (a b : Int) : asP [.i a, .i b] = some (a, b) := Eq.trans rfl rfl
section
variable {α β : Type} {G : EG} {env env1 : VEnv} {md : Md} {a : Enc α} {b : Enc β} {we : WE}
theorem re_cast {g : α → Option β} {A : Out α} (h : RE G we env env1 md a A) (e : ∀ x y, g x = some y → a x = b y) : RE G we env env1 md b (A.bind fun x => lift (g x)) := fun Q X Xe hX hs =>
  h _ _ Xe hX ((sat_bind.mp hs).imp fun x hs => by
    obtain ⟨y, hy, q⟩ := sat_lift.mp hs
    rw [e x y hy]; exact q)
theorem re_castP {g : α → Option β} {x : α} (h : RE G we env env1 md a (.ok x)) (e : ∀ x y, g x = some y → a x = b y) : RE G we env env1 md b (lift (g x)) := fun Q X Xe hX hs =>
  h _ _ Xe hX (by
    obtain ⟨y, hy, q⟩ := sat_lift.mp hs
    rw [sat_ok, e x y hy]; exact q)
theorem c_asI : ∀ x y, asI x = some y → eA x = eI y | .i _, _, h => by cases h; rfl | .b _, _, h => by cases h | .s _, _, h => by cases h
theorem c_asB : ∀ x y, asB x = some y → eA x = eB y | .i _, _, h => by cases h | .b _, _, h => by cases h; rfl | .s _, _, h => by cases h
theorem c_asS : ∀ x y, asS x = some y → eA x = eS y | .i _, _, h => by cases h | .b _, _, h => by cases h | .s _, _, h => by cases h; rfl
variable {m1 m2 : Md}
end
def anyD (x : D) : List D → Option Bool
  | [] => some false
  | z :: ds => (scalD z x).bind fun b => (anyD x ds).map fun r => b || r
def woInT (neg : Bool) : WO := fun ra rb Q => ∃ ds b, rb.d = .tuple ds ∧ ds ≠ [] ∧ anyD ra.d ds = some b ∧ Q ⟨.bool (if neg then !b else b), mA⟩
section
variable {X : Cx} {c : Cn}
theorem scal_flat {K : PySem.W.Frag} {A : Addr → Prop} {H : Hp} {x y : V} {d e : D} {b : Bool} (h1 : RS K A H x d) (h2 : RS K A H y e) (h : scalD d e = some b) : flatV x = true ∧ flatV y = true ∧ eqV x y = b := by
  unfold scalD at h
  split at h <;> first | (cases h; done) | (cases h1; cases h2; cases h; exact ⟨rfl, rfl, rfl⟩) | (cases h1; cases h2; cases h; exact ⟨rfl, rfl, by simp [eqV, Bool.beq_eq_decide_eq]⟩)
theorem any_in {K : PySem.W.Frag} {A : Addr → Prop} {H : Hp} {x : V} {d : D} (h1 : RS K A H x d) : ∀ {xs : List V} {ds : List D} {b : Bool}, RSs K A H xs ds → anyD d ds = some b → xs.all flatV = true ∧ inV x xs = b ∧ (ds ≠ [] → flatV x = true)
  | _, _, b, .nil, h => by cases h; exact ⟨rfl, rfl, fun z => (z rfl).elim⟩
  | _, _, b, .cons h0 r, h => by
    obtain ⟨b1, hb1, h⟩ := Option.bind_eq_some_iff.mp h
    obtain ⟨b2, hb2, rfl⟩ := Option.map_eq_some_iff.mp h
    obtain ⟨f1, f2, e⟩ := scal_flat h0 h1 hb1
    obtain ⟨g1, g2, _⟩ := any_in h1 r hb2
    refine ⟨by rw [List.all_cons, f1, g1]; rfl, ?_, fun _ => f2⟩
    show (_ :: _ : List V).any _ = _
    rw [List.any_cons, e]
    exact congrArg _ g2
theorem s_inT {neg : Bool} : OpS c (rIn c.K neg) (woInT neg) := by
  intro L Tm la lb env σ H ra rb x y Qv Q S h1 h2 ⟨ds, b, e, ne, hb, q⟩ k
  obtain ⟨d, m⟩ := rb
  cases e
  obtain ⟨a, xs, rfl, ha, r⟩ := h2.read.tup_inv
  obtain ⟨f1, f2, f3⟩ := any_in h1.read r hb
  refine ⟨a, xs, rfl, .inr (SqT.of ha), f3 ne, f1, ?_⟩
  have e : (if neg = true then !inV x xs else inV x xs) = if neg = true then !b else b := by rw [f2]
  rw [e]
  exact flat_end1 S q (.bl _) rfl k
theorem c_inT (hK : c.K = X.K := by rfl) : CmpOk X c .In (woInT false) := ⟨_, op_in_seq, by rw [← hK]; exact s_inT⟩
theorem c_notInT (hK : c.K = X.K := by rfl) : CmpOk X c .NotIn (woInT true) := ⟨_, op_notIn_seq, by rw [← hK]; exact s_inT⟩
end
section
variable {α β : Type} [DecidableEq α] {a : Enc α} {b : Enc β} {m1 m2 : Md}
theorem any_of {f : β → α} (hs : ∀ (x : α) (y : β), scalD (b y) (a x) = some (decide (x = f y))) (x : α) : ∀ ys : List β, anyD (a x) (ys.map b) = some (decide (x ∈ ys.map f))
  | [] => rfl
  | y :: ys => by
    rw [List.map_cons, List.map_cons]
    show (scalD (b y) (a x)).bind _ = _
    rw [hs, any_of hs x ys]
    show some (decide (x = f y) || decide (x ∈ ys.map f)) = _
    by_cases h : x = f y <;> simp [h]
theorem xo_inT2 {f : β → α} (hs : ∀ (x : α) (y : β), scalD (b y) (a x) = some (decide (x = f y))) : OpP (woInT false) a m1 (e2 b b) m2 (fun x p => decide (x ∈ [f p.1, f p.2])) eB mA := fun x p Q q => ⟨[b p.1, b p.2], _, rfl, by simp, any_of hs x [p.1, p.2], q⟩
theorem xo_notInT2 {f : β → α} (hs : ∀ (x : α) (y : β), scalD (b y) (a x) = some (decide (x = f y))) : OpP (woInT true) a m1 (e2 b b) m2 (fun x p => !decide (x ∈ [f p.1, f p.2])) eB mA := fun x p Q q => ⟨[b p.1, b p.2], _, rfl, by simp, any_of hs x [p.1, p.2], q⟩
theorem hs_S : ∀ (x : Str) (y : Str), scalD (eS y) (eS x) = some (decide (x = id y)) := fun x y => by
  show some (decide (y = x)) = some (decide (x = y))
  congr 1
  rw [decide_eq_decide]; exact eq_comm
end
section
variable {X : Cx} {c : Cn} {W : WX} {pos : Pos} {wa wb : WE} {a b : Expr}
end
section
variable {α : Type} {a : Enc α} {m1 m2 : Md}
end
section
variable {α δ : Type} {G : EG} {env env1 : VEnv} {md : Md} {a : Enc α} {we : WE} {u : WS} {K : δ → DV → Prop} {A : Out (List α)}
end
section
variable {X : Cx} {c : Cn} {W : WX} {pos p : Pos} {wa : WA} {e : Expr}
end
section
variable {α : Type} {a : Enc α} {m : Md}
end
end VL
set_option maxRecDepth 100000
set_option maxHeartbeats 4000000
namespace VL
open PySem PySem.Spec PyProof.Rows L2
def lePP (x y : Int × Int) : Bool := !SrtO.lexB y x
def sortP (ps : List (Int × Int)) : List (Int × Int) := ps.mergeSort lePP
theorem lePP_iff {x y : Int × Int} : lePP x y = true ↔ x.1 < y.1 ∨ (x.1 = y.1 ∧ x.2 ≤ y.2) := by
  unfold lePP
  rw [Bool.not_eq_true', SrtO.lexB_no]
  omega
theorem sortP_perm (ps : List (Int × Int)) : (sortP ps).Perm ps := List.mergeSort_perm ps _
theorem sortP_sorted (ps : List (Int × Int)) : (sortP ps).Pairwise (fun x y => lePP x y = true) :=
  List.pairwise_mergeSort (le := lePP) (fun a b c h1 h2 => by rw [lePP_iff] at *; omega) (fun a b => by rw [Bool.or_eq_true, lePP_iff, lePP_iff]; omega) ps
section
variable {X : Cx} {c : Cn} {W : WX} {pos p p2 apos cpos : Pos} {wa : WA} {e o : Expr} {we wk : WE}
end
section
variable {X : Cx}
end
end VL
set_option maxRecDepth 100000
set_option maxHeartbeats 4000000
namespace VL
open PySem PySem.Spec PyProof.Rows L2
section
variable {X : Cx} {c : Cn} {W : WX} {pos p apos cpos px : Pos} {o i : Expr} {wd wk : WE} {x : Str} {k : Nat}
def dropKK {α : Type} (kvs : List (Int × α)) (k : Int) : List (Int × α) := kvs.filter fun p => decide (p.1 ≠ k)
theorem PrI.drop {K : PySem.W.Frag} {A : Addr → Prop} {H : Hp} {k' : List (Key × V)} {kvs : List (Int × D)} (h : PrI K A H k' kvs) (i : Int) : PrI K A H (dropK k' (.inl i)) (dropKK kvs i) := by
  induction h with
  | nil => exact .nil
  | @cons j v d r s hv _ ih =>
    unfold dropK dropKK at ih ⊢
    rw [List.filter_cons, List.filter_cons]
    by_cases e : j = i
    · rw [if_neg (by simp [e]), if_neg (by simp [e])]; exact ih
    · rw [if_pos (by simpa using e), if_pos (by simpa using e)]; exact .cons hv ih
end
section
variable {α β γ : Type} {G : EG} {env env1 : VEnv} {md m1 : Md} {a : Enc α} {wd wk we : WE} {u : WS} {K : β → DV → Prop}
end
end VL
set_option maxRecDepth 100000
set_option maxHeartbeats 4000000
namespace VL
open PySem PySem.Spec PyProof.Rows L2
section
variable {prog : Program} {w : World} {A : Around} {E : Value → Shared → Prop} {s : Shared}
end
section
variable {X : Cx} {pos p2 px tpos p3 : Pos} {o value hi : Expr} {tv to th : TE}
end
section
variable {X : Cx} {c : Cn} {W : WX} {pos p2 px tpos : Pos} {hi e : Expr} {we : WE} {x : Str}
end
section
variable {α β : Type} {G : EG} {env env1 : VEnv} {a : Enc α} {we : WE} {u : WS} {K : β → DV → Prop}
end
end VL
set_option maxRecDepth 100000
set_option maxHeartbeats 4000000
namespace VL
open PySem PySem.Spec PyProof.Rows L2
section
variable {P : Program} {w : World} {K : PySem.W.Frag} {mg : Str → Option Value} {base : Heap} {cl : Str → Option Addr} {h : Heap}
end
section
variable {c : Cn} {L : List (List Addr)} {Tm l lj lr : List Addr} {env : VEnv} {σ : Sg} {H H' : Hp}
end
section
variable {X : Cx} {c : Cn} {W : WX} {pos p : Pos} {wa : WA} {we : WE} {e : Expr} {es : List Expr} {x : Str} {n k j : Nat} {S : FSpec}
end
section
variable {β ρ τ ι : Type} {G : EG} {env env1 : VEnv} {md : Md} {b : Enc β} {wl : WA}
end
end VL
set_option maxRecDepth 100000
set_option maxHeartbeats 4000000
namespace VL
open PySem PySem.Spec PyProof.Rows L2
section
variable {X : Cx} {c : Cn} {W : WX} {pos px px2 ppx dpx tpos pos2 : Pos} {wp : WP} {o : Expr} {tx dx : Str} {b : Bool} {j3 : _} {kr : Nat}
end
section
variable {α σ δ : Type} {G : EG} {env env1 : VEnv} {a : Enc σ} {wp : WP} {u : WS} {K : δ → DV → Prop}
end
end VL
set_option maxRecDepth 100000
set_option maxHeartbeats 4000000
namespace VL
open PySem PySem.Spec PyProof.Rows L2
section
variable {prog : Program} {w : World} {A : Around} {E : Value → Shared → Prop} {s : Shared}
end
section
variable {X : Cx} {c : Cn} {W : WX} {pos p p1 p2 p3 : Pos} {e : Expr} {te : TE} {we : WE} {wa : WA} {k : Nat}
end
section
variable {α β : Type} {G : EG} {env env1 : VEnv} {md m : Md} {a : Enc α} {b : Enc β} {we : WE}
end
section
variable {α : Type} {e : Enc α} {m : Md} {x : α} {rs : List R} {n : Option (Option Nat)}
theorem subT_F [f : Fl_ e] : subT m (e x) = ⟨e x, mA⟩ := by
  unfold subT
  rw [f.fl x]
  rfl
end
end VL
set_option maxRecDepth 100000
set_option maxHeartbeats 4000000
namespace VL
open PySem PySem.Spec PyProof.Rows L2
section
variable {X : Cx} {c : Cn} {W : WX} {pos p cpos tpos : Pos} {g : Tg} {wa : WA} {w : WS} {elts : List Expr} {kk : Nat} {a b : Expr} {body : List Stmt}
end
section
variable {α β σ ρ : Type} {G : EG} {env env1 env2 : VEnv} {m1 m2 md : Md} {a : Enc α} {b : Enc β} {e : Enc ρ} {wa wb : WE} {w : WS} {s : σ → VEnv}
end
end VL
set_option maxRecDepth 100000
set_option maxHeartbeats 4000000
namespace VL
open PySem PySem.Spec PyProof.Rows L2
section
variable {X : Cx} {c : Cn} {W : WX} {pos apos cpos px : Pos} {wa wb wk wv : WE} {wo : WO} {r2 : R2} {a b e f : Expr} {x : Str}
end
section
variable {α β γ δ σ ρ τ : Type} {G : EG} {env env1 : VEnv} {md m1 m2 : Md} {a : Enc α} {b : Enc β} {e : Enc ρ} {we wk wv wb : WE} {wo : WO} {s : τ → VEnv}
def eqG (d e : D) : Option Bool := match scalD d e with
  | some b => some b
  | none => if (SeqAt.shaped d && SeqAt.shaped e) = true then some (PyData.eqv d e) else none
variable {mm1 mm2 : Md}
theorem woEq_G {ra rb : R} {Q : R → Prop} {z : Bool} (h : eqG ra.d rb.d = some z) (q : Q ⟨.bool z, mA⟩) : woEq ra rb Q := by
  unfold eqG at h
  unfold woEq
  cases e : scalD ra.d rb.d with
  | some b => rw [e] at h; cases h; exact q
  | none =>
    rw [e] at h
    simp only at h
    split at h
    · rename_i hs
      cases h
      rw [Bool.and_eq_true] at hs
      exact ⟨hs.1, hs.2, q⟩
    · cases h
theorem xo_eqG {a : Enc α} {b : Enc β} : OpO woEq a mm1 b mm2 (fun x y => eqG (a x) (b y)) eB mA := fun x y z Q h q => woEq_G h q
end
end VL
set_option maxRecDepth 100000
set_option maxHeartbeats 4000000
namespace VL
open PySem PySem.Spec PyProof.Rows L2
section
variable {α β ρ σ τ ι γ : Type} {G : EG} {env env1 : VEnv} {md m1 : Md} {a : Enc α} {e : Enc ρ} {we : WE} {wl : WA} {u w v : WS} {wt : WT} {A : Out α} {s : τ → VEnv} {K : γ → DV → Prop}
end
end VL
set_option maxRecDepth 100000
set_option maxHeartbeats 4000000
namespace VL
open PySem PySem.Spec PyProof.Rows L2
section
variable {X : Cx} {c : Cn} {W : WX} {pos p px pc : Pos} {wa : WA} {e : Expr} {x : Str}
end
section
variable {α β : Type} {G : EG} {env : VEnv} {md m1 m2 : Md} {a : Enc α} {b : Enc β} {wa wb we : WE}
end
end VL
set_option maxRecDepth 100000
set_option maxHeartbeats 4000000
namespace VL
open PySem PySem.Spec PyProof.Rows L2
open PySem.W (dataLe dataLt AllAlike Sortable EachIs alike alikeAll)
section
variable {X : Cx} {c : Cn} {W : WX} {pos p : Pos} {wa : WA} {e : Expr} {β : Type} {fv : β → V} {fd : β → D}
end
section
variable {X : Cx} {c : Cn} {W : WX} {pos p : Pos} {wa : WA} {e : Expr}
end
class OrdE {α : Type} (e : Enc α) (lt : outParam (α → α → Bool)) : Prop where
  lt : ∀ a b, dataLt (e a) (e b) = lt a b
  al : ∀ a b, alike (e a) (e b) = true
  nn : ∀ a, e a ≠ .none ∧ ∀ xs, e a ≠ .tuple xs
def lexB {α : Type} [DecidableEq α] (lt : α → α → Bool) : List α → List α → Bool
  | [], [] => false
  | [], _ :: _ => true
  | _ :: _, [] => false
  | x :: xs, y :: ys => if x = y then lexB lt xs ys else lt x y
def ltI (a b : Int) : Bool := decide (a < b)
instance : OrdE eI ltI := ⟨fun a b => PySem.W.dataLt_int a b, fun _ _ => by simp [eI, alike], fun _ => ⟨by simp [eI], by simp [eI]⟩⟩
section
variable {α : Type} [DecidableEq α] {a : Enc α} {lt : α → α → Bool} {n : Nat}
theorem alike_map [o : OrdE a lt] : ∀ xs ys : List α, alikeAll (xs.map a) (ys.map a) = true
  | [], _ => by simp [alikeAll]
  | _ :: _, [] => by simp [alikeAll]
  | x :: xs, y :: ys => by simp [alikeAll, o.al, alike_map xs ys]
theorem dataLt_map [o : OrdE a lt] [h : EqE a n] : ∀ xs ys : List α, dataLt (.list (xs.map a)) (.list (ys.map a)) = lexB lt xs ys
  | [], [] => by rw [PySem.W.dataLt_list]; rfl
  | [], y :: ys => by
    have := PySem.W.dataLt_list [] ((y :: ys).map a)
    rw [List.map_nil, this]
    have e : (PyData.list []) = (PyData.list (([] : List Int).map .int)) := rfl
    have d := PySem.W.dataLt_ints [] [0]
    simp only [lexB]
    rw [List.map_cons]
    have := PySem.W.toks_all_cons (a y) (ys.map a)
    rw [this]
    simp only [PySem.W.keyToksAll]
    rfl
  | x :: xs, [] => by
    rw [List.map_nil, PySem.W.dataLt_list, List.map_cons, PySem.W.toks_all_cons]
    simp only [PySem.W.keyToksAll, lexB]
    rfl
  | x :: xs, y :: ys => by
    have ih := dataLt_map xs ys
    rw [PySem.W.dataLt_list] at ih ⊢
    rw [List.map_cons, List.map_cons, PySem.W.dataLt_cons (o.al x y), h.eqv, o.lt, ih]
    simp only [lexB, decide_eq_true_eq]
instance [o : OrdE a lt] [h : EqE a n] : OrdE (eL a) (lexB lt) := ⟨fun xs ys => dataLt_map xs ys, fun xs ys => by
  have := alike_map (a := a) xs ys
  simpa [eL, alike] using this, fun _ => ⟨by simp [eL], by simp [eL]⟩⟩
end
end VL
set_option maxRecDepth 100000
set_option maxHeartbeats 4000000
namespace VL
open PySem PySem.Spec PyProof.Rows L2
section
variable {X : Cx} {c : Cn} {W : WX} {pos p p2 q px apos cpos : Pos} {e : Expr} {te : TE} {we : WE} {x : Str}
end
section
variable {α β γ : Type} {G : EG} {env env1 : VEnv} {md : Md} {a : Enc α} {we : WE} {u : WS} {M : Out γ} {K : γ → DV → Prop}
end
end VL
set_option maxRecDepth 100000
set_option maxHeartbeats 4000000
namespace VL
open PySem PySem.Spec PyProof.Rows L2
section
variable {α β γ : Type} {G : EG} {env env1 env2 : VEnv} {m1 m2 md : Md} {a : Enc α} {b : Enc β} {c : Enc γ} {wa wb : WE}
end
section
variable {c : Cn} {L : List (List Addr)} {Tm : List Addr} {H H1 H3 : Hp} {Dn : Addr} {km : Option Nat} {acc : List V} {accD : List D} {lk : List Addr}
theorem Acc.grow (A : Acc c L Tm H1 Dn km acc accD lk H) (sm : Same H H3) : Acc c L Tm H1 Dn km acc accD lk H3 :=
  ⟨A.same.trans sm, A.nd, fun b hb => let ⟨n, o, e⟩ := A.new b hb; ⟨n, o, sm _ _ e⟩, sm _ _ A.at_, ROs.keepT A.kids sm fun b hb => .inl hb⟩
end
section
variable {X : Cx} {c : Cn} {W : WX} {we wl : WE} {wa : WA} {tt : WT} {g : Tg} {vs : List Nat}
end
section
variable {X : Cx} {c : Cn} {W : WX} {wl : WE} {wa : WA} {tt : WT} {a b elt : Expr} {elts : List Expr} {kk : Nat} {tpos : Pos} {ifs : List Expr} {scope : Scope} {pos p cpos : Pos}
end
section
variable {α β γ : Type} {G : EG} {env env1 env2 : VEnv} {m1 m2 : Md} {a : Enc α} {b : Enc β} {c : Enc γ} {wa wb : WE}
end
end VL
set_option maxRecDepth 100000
set_option maxHeartbeats 4000000
namespace VL
open PySem PySem.Spec PyProof.Rows L2
section
variable {X : Cx} {c : Cn} {W : WX} {pos px ppx apx cpx pos2 p3 : Pos} {wp : WP} {o : Expr} {tx : Str}
end
section
variable {α β γ δ σ ρ τ : Type} {G : EG} {env env1 env2 env3 : VEnv} {md m1 m2 m3 : Md} {a : Enc σ} {b : Enc β} {c : Enc γ} {wi we : WE} {wp : WP} {w u v : WS} {K : δ → DV → Prop}
end
end VL
set_option maxRecDepth 100000
set_option maxHeartbeats 4000000
namespace VL
open PySem PySem.Spec PyProof.Rows L2
def Cn.pinW (c : Cn) (i : Nat) (v : V) : Cn := { c with pin := (i, v) :: c.pin }
section
variable {X : Cx} {c : Cn} {W : WX} {pos px : Pos} {g : Tg} {w : WS} {tg : Expr} {x : Str} {body : List Stmt}
theorem Sim.pinned {i : Nat} {v : V} {L : List (List Addr)} {Tm : List Addr} {e : VEnv} {σ : Sg} {H : Hp} (S : Sim c L Tm e σ H) (h : σ[i]? = some (some v)) : Sim (c.pinW i v) L Tm e σ H :=
  ⟨up S.sl, S.nd, S.own, S.fr, S.hd, fun p hp => by
    rcases List.mem_cons.mp hp with z | z
    · subst z; exact h
    · exact S.pin p z⟩
where
  up {c : Cn} {i : Nat} {v : V} {T : List Addr} {H : Hp} {e : VEnv} {σ : Sg} {L : List (List Addr)} (h : Slots c T H e σ L) : Slots (c.pinW i v) T H e σ L := by
    induction h with
    | nil => exact .nil
    | non _ ih => exact .non ih
    | bor r _ ih => exact .bor r ih
    | own r _ ih => exact .own r ih
end
section
variable {α β σ ρ : Type} {G : EG} {env env1 env2 : VEnv} {m1 m2 md : Md} {a : Enc α} {b : Enc β} {e : Enc ρ} {w : WS} {s : σ → VEnv}
end
end VL
set_option maxRecDepth 100000
set_option maxHeartbeats 4000000
namespace VL
open PySem PySem.Spec PyProof.Rows L2
section
variable {X : Cx} {c : Cn} {W : WX} {pos apos cpos : Pos} {wp : WP} {we : WE} {o e : Expr}
end
section
variable {α β γ δ σ ρ τ : Type} {G : EG} {env env1 env2 env3 : VEnv} {md m1 m2 m3 : Md} {a : Enc α} {we : WE} {u : WS} {K : β → DV → Prop}
end
end VL
set_option maxRecDepth 100000
set_option maxHeartbeats 4000000
namespace VL
open PySem PySem.Spec PyProof.Rows L2
section
variable {c : Cn} {R R1 R2 : List Addr} {H1 H : Hp} {L : List (List Addr)} {Tm : List Addr} {e : VEnv} {σ : Sg}
end
section
variable {X : Cx} {c : Cn} {W : WX} {pos : Pos} {g : Tg} {we : WE} {w : WS} {tg iter : Expr} {body : List Stmt}
end
section
variable {σ ρ : Type} {G : EG} {env env1 env2 : VEnv} {md : Md} {e : Enc ρ} {we : WE} {w : WS} {s : σ → VEnv}
end
end VL
set_option maxRecDepth 100000
set_option maxHeartbeats 4000000
namespace VL
open PySem PySem.Spec PyProof.Rows L2
theorem rb_stuck {β : Type} {G : EG} {w : WS} {env : VEnv} {K : β → DV → Prop} : RB G w env .stuck K := fun D Xe hX hs => hs.elim
end VL
set_option maxRecDepth 100000
set_option maxHeartbeats 4000000
namespace VL
open PySem PySem.Spec PyProof.Rows L2
open PySem.W (dataLt alike)
end VL
set_option maxRecDepth 100000
set_option maxHeartbeats 4000000
namespace VL
open PySem PySem.Spec PyProof.Rows L2
section
variable {X : Cx} {c : Cn} {W : WX} {pos px ppx py ppy apx cpx pos2 pos3 p3 : Pos} {wp : WP} {o : Expr} {tx ty : Str} {z : Int} {j3 : _}
end
section
variable {α β γ δ σ ρ τ : Type} {G : EG} {env env1 env2 env3 : VEnv} {md m1 m2 m3 : Md} {a : Enc σ} {wp : WP} {w u v : WS} {K : δ → DV → Prop}
end
end VL
set_option maxRecDepth 100000
set_option maxHeartbeats 4000000
namespace VL
open PySem PySem.Spec PyProof.Rows L2
open PySem.W (dataLe dataLt AllAlike Sortable EachIs alike alikeAll)
section
variable {X : Cx} {c : Cn} {W : WX} {pos p : Pos} {wa : WA} {e : Expr} {β : Type} {fv : β → V} {fd : β → D}
end
section
variable {α : Type} [DecidableEq α] {a : Enc α} {lt : α → α → Bool} {n : Nat}
end
end VL
set_option maxRecDepth 100000
set_option maxHeartbeats 4000000
namespace VL
open PySem PySem.Spec PyProof.Rows L2
section
variable {X : Cx} {c : Cn} {W : WX} {pos : Pos} {g : Tg} {we : WE} {w : WS} {tg iter : Expr} {body : List Stmt}
end
section
variable {σ ρ : Type} {G : EG} {env env1 env2 : VEnv} {md : Md} {e : Enc ρ} {we : WE} {w : WS} {s : σ → VEnv}
end
end VL
set_option maxRecDepth 100000
set_option maxHeartbeats 4000000
namespace VL
open PySem PySem.Spec PyProof.Rows L2
def MA (A : Addr → Prop) (H : Hp) : Addr → Prop := fun b => A b ∧ ∃ o, H b = some o ∧ mutO o
section
variable {K : PySem.W.Frag} {A : Addr → Prop} {H : Hp}
mutual
theorem RS.mut : ∀ {v : V} {d : D}, RS K A H v d → RS K (MA A H) H v d
  | _, _, .non => .non
  | _, _, .bl b => .bl b
  | _, _, .int i => .int i
  | _, _, .str x => .str x
  | _, _, .lst h a r => .lst h ⟨a, _, h, trivial⟩ (RSs.mut r)
  | _, _, .tup h r => .tup h (RSs.mut r)
  | _, _, .dct h a e r => .dct h ⟨a, h.mut⟩ e (RSs.mut r)
  | _, _, .scr h => .scr h
  | _, _, .opq a => .opq a
  | _, _, .wtp a => .wtp a
  | _, _, .ins h a c e r => .ins h ⟨a, _, h, trivial⟩ c e (RSs.mut r)
theorem RSs.mut : ∀ {v : List V} {d : List D}, RSs K A H v d → RSs K (MA A H) H v d
  | _, _, .nil => .nil
  | _, _, .cons h r => .cons (RS.mut h) (RSs.mut r)
end
mutual
theorem RO.mut : ∀ {m : Option Nat} {v : V} {d : D} {l : List Addr}, RO K A H m v d l → RO K (MA A H) H m v d l
  | _, _, _, _, .sh h => .sh h.mut
  | _, _, _, _, .flat h f => .flat h.mut f
  | _, _, _, _, .lst p h r => .lst p h (ROs.mut r)
  | _, _, _, _, .opq a => .opq a
  | _, _, _, _, .wtp a => .wtp a
  | _, _, _, _, .ins p h c e r => .ins p h c e (ROs.mut r)
  | _, _, _, _, .tup h r => .tup h (ROs.mut r)
  | _, _, _, _, .dct p h e r => .dct p h e (ROs.mut r)
theorem ROs.mut : ∀ {m : Option Nat} {v : List V} {d : List D} {l : List Addr}, ROs K A H m v d l → ROs K (MA A H) H m v d l
  | _, _, _, _, .nil => .nil
  | _, _, _, _, .cons h r => .cons (RO.mut h) (ROs.mut r)
end
end
def XdL (R : List Addr) (H1 : Hp) : Prop := ∀ b ∈ R, ∃ fs, H1 b = some (.xd fs)
section
variable {c : Cn} {R : List Addr} {H1 H : Hp} {L : List (List Addr)} {Tm : List Addr} {e : VEnv} {σ : Sg} {hs : List (V × D)}
theorem XdL.is (hR : XdL R H1) : ∀ b ∈ R, ∃ o, H1 b = some o := fun b hb => let ⟨fs, h⟩ := hR b hb; ⟨_, h⟩
theorem XdL.no (hR : XdL R H1) {b : Addr} (h : ∃ o, H1 b = some o ∧ mutO o) : b ∉ R := fun hb => by
  obtain ⟨fs, q⟩ := hR b hb
  obtain ⟨o, h1, h2⟩ := h
  rw [q] at h1
  cases h1
  exact h2
end
def XfH (ex : Exn) (d : Option Addr) (R : List Addr) (H1 : Hp) (hs : List (V × D)) : Prop :=
  XdL R H1 ∧ match ex.fld with
    | none => d = none
    | some (f, dt) => ∃ dd v, d = some dd ∧ dd ∈ R ∧ H1 dd = some (.xd [(f, v)]) ∧ (v, dt) ∈ hs ∧ flatD dt = true
section
variable {X : Cx} {c : Cn} {W : WX} {pos np pos' : Pos} {w : WS} {l : List Str} {i : Nat} {x n : Str} {body suite : List Stmt} {b₀ : Stmt} {ws : Addr → Exn → WS}
end
section
variable {X : Cx} {c : Cn} {W : WX} {pos : Pos} {R : List Addr} {H1 : Hp} {hs : List (V × VL.D)}
theorem XfH.dict {ex : Exn} {d : Option Addr} (h : XfH ex d R H1 hs) {dd : Addr} (e : d = some dd) : ∃ f v dt, ex.fld = some (f, dt) ∧ dd ∈ R ∧ H1 dd = some (.xd [(f, v)]) ∧ (v, dt) ∈ hs ∧ flatD dt = true := by
  obtain ⟨_, h⟩ := h
  cases q : ex.fld with
  | none => rw [q] at h; rw [h] at e; cases e
  | some z =>
    obtain ⟨f, dt⟩ := z
    rw [q] at h
    obtain ⟨dd', v, e1, e2, e3, e4, e5⟩ := h
    rw [e1] at e; cases e
    exact ⟨f, v, dt, rfl, e2, e3, e4, e5⟩
end
end VL
set_option maxRecDepth 100000
set_option maxHeartbeats 4000000
namespace VL
open PySem PySem.Spec PyProof.Rows L2
section
variable {P : Program} {w : World} {K : PySem.W.Frag} {mg : Str → Option Value} {base : Heap} {cl : Str → Option Addr}
end
end VL
set_option maxRecDepth 100000
set_option maxHeartbeats 4000000
namespace VL
open PySem PySem.Spec PyProof.Rows L2
def InitAt (K : PySem.W.Frag) (x f q : Str) (st : Stmt) : Prop := ∃ (C fI : Addr) (oc : Value) (od an : Option Addr) (osl : Array (Option Value)) (kV doc pm cdv ct : Value),
  PySem.W.nsIn K mainGlobals x = some (some (.ref C)) ∧ OexC K C ∧ PySem.W.findIn K (.ref C) f = some none ∧ PySem.W.findIn K (.ref C) "__init__" = some (some (.ref fI)) ∧ PySem.W.typeIn K (.ref fI) = some (.type "function") ∧
  K.lookup fI = some ⟨oc, od, .func (PySem.W.fnOf "__init__" q (defArgs st) (defBody st) (defScope st) .none kV doc pm an cdv ct), osl⟩ ∧ PySem.W.codeIn K cdv q = true ∧ PySem.W.keepIn K (.ref fI) = true
section
variable {P : Program} {w : World} {K : PySem.W.Frag} {mg : Str → Option Value} {base h : Heap} {names : List Str} {x f q prm : Str} {st : Stmt}
theorem InitAt.mk {C fI : Addr} {oc : Value} {od an dd : Option Addr} {osl : Array (Option Value)} {kV doc pm cdv ct : Value} {nm q' : Str} {N : Addr} {bs bm : List Value} {sn : List Str} {sub : List Value} {ab : Bool} {col : Option Bool} {k0 k1 k2 k3 k5 : Option Value}
    (h1 : PySem.W.nsIn K mainGlobals x = some (some (.ref C))) (h2 : K.lookup C = some (excClassObj nm q' C N bs bm true sn sub ab col dd k0 k1 k2 k3 k5 "ValueError.__new__")) (h3 : PySem.HandSPX.refsVE bm = true)
    (h4 : PySem.W.findIn K (.ref C) "__setattr__" = some (some (.builtin "object.__setattr__"))) (h5 : PySem.W.subIn K (.ref C) (.type "BaseException") = some true) (h6 : PySem.W.typeIn K (.ref C) = some (.type "type")) (h7 : PySem.W.keepIn K (.ref C) = true)
    (h8 : PySem.W.findIn K (.ref C) f = some none) (h9 : PySem.W.findIn K (.ref C) "__init__" = some (some (.ref fI))) (h10 : PySem.W.typeIn K (.ref fI) = some (.type "function"))
    (h11 : K.lookup fI = some ⟨oc, od, .func (PySem.W.fnOf "__init__" q (defArgs st) (defBody st) (defScope st) .none kV doc pm an cdv ct), osl⟩) (h12 : PySem.W.codeIn K cdv q = true) (h13 : PySem.W.keepIn K (.ref fI) = true) : InitAt K x f q st :=
  ⟨C, fI, oc, od, an, osl, kV, doc, pm, cdv, ct, h1, ⟨⟨nm, q', N, bs, bm, sn, sub, ab, col, dd, k0, k1, k2, k3, k5, h2, h3⟩, h4, h5, h6, h7⟩, h8, h9, h10, h11, h12, h13⟩
end
section
variable {α β ρ σ : Type} {G : EG} {env env1 : VEnv} {m1 md : Md} {e : Enc α} {u : WS}
end
section
variable {β ρ σ : Type} {G : EG} {env : VEnv} {K : β → DV → Prop} {md : Md} {e : Enc ρ} {w : WS} {s : σ → VEnv}
end
class DecE {α : Type} (e : Enc α) (dec : outParam (D → Option α)) : Prop where
  ok : ∀ d a, dec d = some a → d = e a
  id : ∀ a, dec (e a) = some a
def decI : D → Option Int
  | .int i => some i
  | _ => none
instance : DecE eI decI := ⟨fun d a h => by
  cases d <;> simp [decI] at h
  subst h; rfl, fun _ => rfl⟩
def decA : D → Option At
  | .int i => some (.i i)
  | .bool b => some (.b b)
  | .str x => some (.s x)
  | _ => none
def decAs : List D → Option (List At)
  | [] => some []
  | d :: ds => match decA d, decAs ds with
    | some a, some as => some (a :: as)
    | _, _ => none
def decTA : D → Option (List At)
  | .tuple ds => decAs ds
  | _ => none
theorem decA_ok : ∀ d a, decA d = some a → d = eA a := fun d a h => by
  cases d <;> simp [decA] at h <;> subst h <;> rfl
theorem decAs_ok : ∀ ds as, decAs ds = some as → ds = as.map eA
  | [], as, h => by cases h; rfl
  | d :: ds, as, h => by
    unfold decAs at h
    split at h
    · rename_i a as' h1 h2
      cases h
      rw [decA_ok d a h1, decAs_ok ds as' h2]; rfl
    · cases h
theorem decA_id : ∀ a, decA (eA a) = some a := fun a => by cases a <;> rfl
theorem decAs_id : ∀ as : List At, decAs (as.map eA) = some as
  | [] => rfl
  | a :: as => by
    rw [List.map_cons]
    unfold decAs
    rw [decA_id, decAs_id as]
instance : DecE (eTL eA) decTA := ⟨fun d a h => by
  cases d <;> simp [decTA] at h
  rw [decAs_ok _ _ h]; rfl, fun a => decAs_id a⟩
end VL
set_option maxRecDepth 100000
set_option maxHeartbeats 4000000
namespace VL
open PySem PySem.Spec PyProof.Rows L2
section
variable {α : Type} {G : EG} {env env1 env2 : VEnv} {m1 m2 : Md} {a : Enc α} {wa wb : WE}
end
end VL
set_option maxRecDepth 100000
set_option maxHeartbeats 4000000
namespace VL
open PySem PySem.Spec PyProof.Rows L2
section
variable {X : Cx} {c : Cn} {W : WX} {pos : Pos} {R : List Addr} {H1 : Hp} {hs : List (V × VL.D)}
end
def pureD : D → Bool
  | .dict _ => false
  | d => flatD d
theorem pure_flat {d : D} (h : pureD d = true) : flatD d = true := by
  cases d with
  | dict _ => cases h
  | _ => exact h
abbrev FD := { d : D // pureD d = true }
def eF : Enc FD := fun x => x.1
instance : Fl_ eF := ⟨fun a => pure_flat a.2⟩
def fI (i : Int) : FD := ⟨.int i, rfl⟩
section
variable {G : EG} {env env1 : VEnv} {m1 : Md} {wa : WE}
end
end VL
set_option maxRecDepth 100000
set_option maxHeartbeats 4000000
namespace VL
open PySem PySem.Spec PyProof.Rows L2
section
variable {X : Cx} {c : Cn} {W : WX} {pos p cpos tpos : Pos} {g : Tg} {wa : WA} {w : WS} {elts : List Expr} {kk : Nat} {a b : Expr} {body : List Stmt}
end
section
variable {α β σ ρ : Type} {G : EG} {env env1 env2 : VEnv} {m1 m2 md : Md} {a : Enc α} {b : Enc β} {e : Enc ρ} {wa wb : WE} {w : WS} {s : σ → VEnv}
end
end VL
namespace VL
open PySem PySem.Spec PyProof.Rows L2
def dctS (kvs : List (Str × Int)) : D := mkDict false (kvs.map fun p => (.str p.1, .int p.2))
def eKS : Enc (List (Str × Int)) := dctS
section
variable {X : Cx} {c : Cn} {W : WX} {pos : Pos} {wd wk : WE} {o i : Expr} {k : Nat}
end
section
variable {G : EG} {env env1 env2 : VEnv} {md m1 m2 : Md} {wa wb : WE}
instance : Nf eKS := ⟨fun _ => flat_dictF fun p hp q z => by
  obtain ⟨r, _, rfl⟩ := List.mem_map.mp hp
  cases z⟩
end
end VL
namespace VL
open PySem PySem.Spec PyProof.Rows L2
section
variable {G : EG} {env env1 : VEnv} {m1 : Md} {wa : WE} {T : String}
theorem noDict_eA (x : At) : noDict (eA x) := by cases x <;> exact True.intro
theorem re_isiAO {A : Out At} (ha : RE G wa env env1 m1 eA A) : RE G (wIsi T wa) env env1 mA eB (A.bind fun x => .ok (tyIs T (eA x))) := fun Q X Xe hX hs =>
  ha _ _ Xe hX ((sat_bind.mp hs).imp fun x hs => ⟨noDict_eA x, hs⟩)
end
end VL
set_option maxRecDepth 100000
set_option maxHeartbeats 4000000
namespace VL
open PySem PySem.Spec PyProof.Rows L2
theorem subT_A {d : D} : subT mA d = ⟨d, mA⟩ := by unfold subT; split <;> rfl
section
variable {α β γ : Type} {G : EG} {u : WS} {we : WE} {env env1 : VEnv} {m1 : Md} {a : Enc α} {b : Enc β} {K : γ → DV → Prop}
def eLp (a : Enc α) (b : Enc β) : Enc (List α × β) := fun p => .list (p.1.map a ++ [b p.2])
instance : Nf (eLp a b) := ⟨fun _ => rfl⟩
end
end VL
set_option maxRecDepth 100000
set_option maxHeartbeats 4000000
namespace VL
open PySem PySem.Spec PyProof.Rows L2
def wStrI : WF := fun rs Q => ∃ r i, rs = [r] ∧ r.d = .int i ∧ i.natAbs.log2 < 1920 ∧ Q ⟨.str (Str.ofString (toString i)), mA⟩
def wIntS : WF := fun rs Q => ∃ r a n, rs = [r] ∧ r.d = .str a ∧ PySem.intText? a = some n ∧ a.length ≤ 640 ∧ Q ⟨.int n, mA⟩
def wJoin (wo wl : WE) : WE := fun env Q X => wo env (fun r e => ∃ a, r.d = .str a ∧ wl e (fun rl e' => ∃ ys : List Str, rl.d = .list (ys.map .str) ∧ (ys.map (·.length)).sum + ys.length * a.length ≤ 16777216 ∧ Q ⟨.str (Txt.join a ys), mA⟩ e') X) X
def wSplit (wo wb : WE) : WE := fun env Q X => wo env (fun r e => ∃ a, r.d = .str a ∧ wb e (fun rb e' => ∃ b, rb.d = .str b ∧ (b.length == 0) = false ∧ a.length + 2 ≤ sizeLine ∧ Q ⟨.list ((Txt.split a b).map .str), mA⟩ e') X) X
def woInS (b : Bool) : WO := fun ra rb Q => ∃ (ch : Nat) (z : Str), ra.d = .str ⟨#[ch]⟩ ∧ rb.d = .str z ∧ Q ⟨.bool (b == decide (ch ∈ z.cps.toList)), mA⟩
def sgns (z : Str) : List Str := z.cps.toList.map fun c => ⟨#[c]⟩
def wForS (g : Tg) (we : WE) (w : WS) : WS := fun env Dv => we env (fun r e => ∃ z, r.d = .str z ∧ ∃ (I : Nat → VEnv → Prop) (e0 : VEnv), envLe e0 e ∧ I 0 e0 ∧
  (∀ i y e, (sgns z)[i]? = some y → I i e → ∃ rs, g.f ⟨.str y, mA⟩ = some rs ∧ w (putAll e g.is rs) { Dv with nx := fun e2 => ∃ e3, envLe e3 e2 ∧ I (i + 1) e3 }) ∧ (∀ e, I (sgns z).length e → Dv.nx e)) Dv.ex
section
variable {K : PySem.W.Frag} {A : Addr → Prop} {H : Hp}
theorem rss_strs : ∀ ys : List Str, RSs K A H (ys.map V.str) (ys.map .str)
  | [] => .nil
  | y :: ys => .cons (.str y) (rss_strs ys)
theorem rss_strs_inv : ∀ {ys : List Str} {vs : List V}, RSs K A H vs (ys.map .str) → vs = ys.map V.str
  | [], _, h => by cases h; rfl
  | y :: ys, _, h => by
    rw [List.map_cons] at h
    cases h with
    | cons r rs => cases r; rw [rss_strs_inv rs]; rfl
theorem flat_strs : ∀ ys : List Str, flatAll (ys.map .str) = true
  | [] => rfl
  | y :: ys => by rw [List.map_cons]; show (flatD _ && flatAll _) = true; rw [flat_strs ys]; rfl
end
section
variable {X : Cx} {c : Cn} {W : WX} {pos p apos : Pos} {wa : WA} {wo wl we : WE} {e o : Expr} {k : Nat}
theorem s_strI : CallS c (fun xs H Q => ∃ i, xs = [.int i] ∧ i.natAbs.log2 < 1920 ∧ Q (.str (toString i)) H) wStrI := by
  intro L Tm l env σ H rs vs Qv Q S h ⟨r, i, e, e2, hz, q⟩ k
  subst e
  obtain ⟨v, rfl, hr⟩ := ress1 h
  have r1 := hr.read
  rw [e2] at r1
  cases r1
  exact ⟨i, rfl, hz, flat_end1 S q (.str _) rfl k⟩
theorem s_intS : CallS c (fun xs H Q => ∃ a n, xs = [.str a] ∧ PySem.intText? a = some n ∧ a.length ≤ 640 ∧ Q (.int n) H) wIntS := by
  intro L Tm l env σ H rs vs Qv Q S h ⟨r, a, n, e, e2, hz, hl, q⟩ k
  subst e
  obtain ⟨v, rfl, hr⟩ := ress1 h
  have r1 := hr.read
  rw [e2] at r1
  cases r1
  exact ⟨a, n, rfl, hz, hl, flat_end1 S q (.int _) rfl k⟩
theorem ve_strI (hm : X.mg "str" = none) (ha : PA X [e] (rdA c W wa)) (hg : Gl X "str" := by rfl) (he : starEach [e] X.env = (false, eval e X.env) :: starEach [] X.env := by rfl) (hpl : (backTo pos (starEach [] X.env)).any (·.1) = false := by rfl) : PE X (.Call (.Name "str" p) [e] [] pos) (rdE c W (wCB wStrI wa)) :=
  ve_callTy call_str_int s_strI hm (by decide +kernel) ha hg (by decide) (by decide) he hpl
theorem ve_intS (hm : X.mg "int" = none) (ha : PA X [e] (rdA c W wa)) (hg : Gl X "int" := by rfl) (he : starEach [e] X.env = (false, eval e X.env) :: starEach [] X.env := by rfl) (hpl : (backTo pos (starEach [] X.env)).any (·.1) = false := by rfl) : PE X (.Call (.Name "int" p) [e] [] pos) (rdE c W (wCB wIntS wa)) :=
  ve_callTy call_int_str s_intS hm (by decide +kernel) ha hg (by decide) (by decide) he hpl
theorem ve_join (ho : PE X o (rdE c W wo)) (he : PE X e (rdE c W wl)) (hK : c.K = X.K := by rfl)
    (hp : PE X o (rdE c W wo) → PE X e (rdE c W wl) → PE X (.Call (.Attribute o "join" apos) [e] [] pos) (tM1 (fun x xs H Q => ∃ a p, ∃ ys : List Str, x = .str a ∧ xs = [.ref p] ∧ (SqL X.K H p (ys.map V.str) ∨ SqT X.K H p (ys.map V.str)) ∧
      (ys.map (·.length)).sum + ys.length * a.length ≤ 16777216 ∧ Q (.str (Txt.join a ys)) H) (rdE c W wo) (rdE c W wl)) := by exact fun ho he => pe_join ho he) :
    PE X (.Call (.Attribute o "join" apos) [e] [] pos) (rdE c W (wJoin wo wl)) := PE.imp (hp ho he) fun σ H Q h => by
  obtain ⟨env, L, Tm, Qv, X, S, q, k, kx⟩ := h
  refine ⟨env, L, Tm, _, X, S, q, fun r v l L1 env1 H1 ⟨a, ed, h1⟩ st1 r1 => ?_, kx⟩
  obtain ⟨d, m⟩ := r
  cases ed
  have r1' := r1.read
  cases r1'
  refine ⟨⟨a, rfl⟩, env1, L1, Tm ++ l, _, X, st1.sim, h1, fun rl y lb L2 env2 H2 ⟨ys, e2, hz, h2⟩ st2 r2 => ?_, kx.step st1⟩
  have r2' := r2.read
  rw [e2] at r2'
  obtain ⟨pp, us, rfl, ha, _, rs⟩ := r2'.lst_inv
  rw [rss_strs_inv rs] at ha
  rw [← hK]
  exact ⟨a, pp, ys, rfl, rfl, .inl (SqL.of ha), hz, k ⟨.str (Txt.join a ys), mA⟩ _ [] L2 env2 H2 h2 (st1.trans st2).drop (Res.flat (A := fun _ => True) (.str _) rfl)⟩
theorem ve_split (ho : PE X o (rdE c W wo)) (he : PE X e (rdE c W wl))
    (hp : PE X o (rdE c W wo) → PE X e (rdE c W wl) → PE X (.Call (.Attribute o "split" apos) [e] [] pos) (tM1 (fun x xs H Q => ∃ a b, x = .str a ∧ xs = [.str b] ∧ (b.length == 0) = false ∧ a.length + 2 ≤ sizeLine ∧ rNewStrs (Txt.split a b) H Q) (rdE c W wo) (rdE c W wl)) := by exact fun ho he => pe_split ho he) :
    PE X (.Call (.Attribute o "split" apos) [e] [] pos) (rdE c W (wSplit wo wl)) := PE.imp (hp ho he) fun σ H Q h => by
  obtain ⟨env, L, Tm, Qv, X, S, q, k, kx⟩ := h
  refine ⟨env, L, Tm, _, X, S, q, fun r v l L1 env1 H1 ⟨a, ed, h1⟩ st1 r1 => ?_, kx⟩
  obtain ⟨d, m⟩ := r
  cases ed
  have r1' := r1.read
  cases r1'
  refine ⟨⟨a, rfl⟩, env1, L1, Tm ++ l, _, X, st1.sim, h1, fun rl y lb L2 env2 H2 ⟨b, e2, hz, hl, h2⟩ st2 r2 => ?_, kx.step st1⟩
  obtain ⟨dk, mk⟩ := rl
  cases e2
  have r2' := r2.read
  cases r2'
  refine ⟨a, b, rfl, rfl, hz, hl, fun pp np => ?_⟩
  have st := (st1.trans st2).drop
  have st3 := st.trans (Step.new (o := .lst ((Txt.split a b).map V.str)) st.sim np)
  refine k ⟨.list ((Txt.split a b).map .str), mA⟩ (.ref pp) [pp] L2 env2 _ h2 st3 (RO.lst (l := []) (n := none) rfl upd_same ?_)
  have := flat_kidsM (A' := AT c.B (L2.flatten ++ (Tm ++ [pp]))) (m := none) (rss_strs (K := c.K) (A := fun _ => True) (H := upd H2 pp (.lst ((Txt.split a b).map V.str))) (Txt.split a b)) (flat_strs _)
  exact this
theorem s_notInS : OpS c (fun x y H Q => ∃ (ch : Nat) (z : Str), x = .str ⟨#[ch]⟩ ∧ y = .str z ∧ Q (.bl (!decide (ch ∈ z.cps.toList))) H) (woInS false) := by
  intro L Tm la lb env σ H ra rb x y Qv Q S h1 h2 ⟨ch, z, e1, e2, q⟩ k
  have r1 := h1.read
  have r2 := h2.read
  rw [e1] at r1
  rw [e2] at r2
  cases r1
  cases r2
  have : (false == decide (ch ∈ z.cps.toList)) = !decide (ch ∈ z.cps.toList) := by cases decide (ch ∈ z.cps.toList) <;> rfl
  rw [this] at q
  exact ⟨ch, z, rfl, rfl, flat_end1 S q (.bl _) rfl k⟩
theorem c_notInS : CmpOk X c .NotIn (woInS false) := ⟨_, op_notIn_sign, s_notInS⟩
theorem ve_gstrE {x z : Str} (hm : ∃ t, X.mg x = some (.str z t)) (hg : Gl X x := by rfl) (hd : (x == ("__debug__" : Str)) = false := by decide) : PE X (.Name x pos) (rdE c W (wC (.str z))) :=
  let ⟨_, h⟩ := hm
  PE.imp (pe_glob (v := .str z) hg h ⟨_, rfl⟩ hd) fun _ _ _ => rd_C (fun _ _ _ => .str z) rfl
end
section
variable {X : Cx} {c : Cn} {W : WX} {pos : Pos} {g : Tg} {we : WE} {w : WS} {tg iter : Expr} {body : List Stmt}
theorem vs_forS (hp : PassesOwn (model X.prog X.w) X.A X.env X.xe) (hc : X.calm = true) (he : PE X iter (rdE c W we)) (hg : TgOk X tg g) (hb : PSs X body (rdS c W w)) (hK : c.K = X.K := by rfl)
    (hs : ∀ x, foldedSetIterable iter X.env x = pure x := by intro _; rfl) (pf : PinF c g.is := by first | exact pinF_nil rfl | exact pinF_one rfl (by decide) | assumption) : PS X (.For tg iter body [] pos) (rdS c W (wForS g we w)) := by
  obtain ⟨t, hpg, run⟩ := hg.ok
  refine PS.imp (ps_for (tb := fun D σ H => rdS c W w D σ H) hp hc (pi_str he) hpg hb hs) fun D σ H h => ?_
  obtain ⟨env, L, Dv, S, q, k, kr, kx⟩ := h
  refine rd_first S q kx fun r v l L1 e1 H1 ⟨z, hd, I, e0, le, i0, step, last⟩ S1 hr => ?_
  have r1 := hr.read
  rw [hd] at r1
  cases r1
  have S2 : Sim c L1 [] e1 σ H1 := Sim.drop (Tm := []) (l := l) S1
  obtain ⟨L0, S0⟩ := S2.lower le
  have zl : (sgns z).length = z.cps.size := by unfold sgns; simp
  refine ⟨z, rfl, fun i m σ H => m = z.cps.size - i ∧ i ≤ z.cps.size ∧ ∃ e L, Sim c L [] e σ H ∧ I i e, ⟨z.cps.size, by simp, Nat.zero_le _, e0, L0, S0, i0⟩, ?_⟩
  rintro i m σ2 H2 ⟨rfl, hi, e, L, S, ii⟩
  by_cases hlt : i < z.cps.size
  · refine .inr ⟨hlt, fun σ' H' => ∃ e L, Sim c L [] e σ' H' ∧ I (i + 1) e, fun σ' H' ⟨e, L, S, ii⟩ => ⟨z.cps.size - (i + 1), by omega, rfl, hlt, e, L, S, ii⟩, fun y H' hy => ?_⟩
    obtain ⟨rfl, ch, hch, rfl⟩ := hy
    have hy : (sgns z)[i]? = some ⟨#[ch]⟩ := by
      unfold sgns
      rw [List.getElem?_map, Array.getElem?_toList, hch]; rfl
    obtain ⟨qs, hq, hw⟩ := step i _ e hy ii
    obtain ⟨vs, l', s, rr, hl', go⟩ := run c (L.flatten ++ []) _ _ (.str ⟨#[ch]⟩) _ qs hK (Res.flat (A := fun _ => True) (.str _) rfl) hq
    have el : l' = [] := List.sublist_nil.mp s
    subst el
    obtain ⟨L3, S3⟩ := Sim.putAll (is := g.is) (Tm := []) (l := []) rr (by simpa using S) (fun b hb => by simpa using hb) pf
    refine go σ2 _ ⟨_, L3, _, S3, hw, fun env' L' σ' H'' ⟨e3, le3, i3⟩ S' => ?_, kr, kx⟩
    obtain ⟨L4, S4⟩ := S'.lower le3
    exact ⟨e3, L4, S4, i3⟩
  · have e' : i = z.cps.size := by omega
    subst e'
    exact .inl ⟨Nat.le_refl _, k e L σ2 H2 (last e (by rw [zl]; exact ii)) S⟩
end
end VL
namespace VL
open PySem PySem.Spec PyProof.Rows L2
@[irreducible] def strO (i : Int) : Option Str := if i.natAbs.log2 < 1920 then some (Str.ofString (toString i)) else none
@[irreducible] def intO (a : Str) : Option Int := if a.length ≤ 640 then PySem.intText? a else none
@[irreducible] def joinO (a : Str) (ys : List Str) : Option Str := if (ys.map (·.length)).sum + ys.length * a.length ≤ 16777216 then some (Txt.join a ys) else none
@[irreducible] def splitO (a b : Str) : Option (List Str) := if (b.length == 0) = false ∧ a.length + 2 ≤ sizeLine then some (Txt.split a b) else none
@[irreducible] def inSO (b : Bool) (x z : Str) : Option Bool := match x.cps.toList with
  | [ch] => some (b == decide (ch ∈ z.cps.toList))
  | _ => none
@[irreducible] def cutSO (z : Str) (lo hi : Option Int) : Option Str := if z.length ≤ sizeLine then some (cutS z lo hi) else none
@[irreducible] def atSO (z : Str) (i : Int) : Option Str := if z.length ≤ sizeLine then (atI z.cps.toList i).map fun k => ⟨#[k]⟩ else none
@[irreducible] def lenSO (z : Str) : Option Int := if z.length ≤ sizeLine then some (z.length : Int) else none
section
variable {α β σ ρ : Type} {G : EG} {env env1 env2 : VEnv} {m m1 m2 md : Md} {wa wb we : WE} {e : Enc ρ} {w : WS} {s : σ → VEnv}
theorem bi_strI (i : Int) : ∀ (Q : R → Prop) (Xe : Exn → Prop), Sat (lift (strO i)) (fun v => Q ⟨eS v, mA⟩) Xe → wStrI [⟨eI i, m⟩] Q := fun Q Xe h => by
  obtain ⟨v, hv, h⟩ := sat_lift.mp h
  unfold strO at hv
  split at hv
  · rename_i hz; cases hv; exact ⟨_, i, rfl, rfl, hz, h⟩
  · cases hv
theorem bi_intS (a : Str) : ∀ (Q : R → Prop) (Xe : Exn → Prop), Sat (lift (intO a)) (fun v => Q ⟨eI v, mA⟩) Xe → wIntS [⟨eS a, m⟩] Q := fun Q Xe h => by
  obtain ⟨v, hv, h⟩ := sat_lift.mp h
  unfold intO at hv
  split at hv
  · rename_i hz; exact ⟨_, a, v, rfl, rfl, hv, hz, h⟩
  · cases hv
theorem bi_lenS (a : Str) : ∀ (Q : R → Prop) (Xe : Exn → Prop), Sat (lift (lenSO a)) (fun v => Q ⟨eI v, mA⟩) Xe → wLen [⟨eS a, m⟩] Q := fun Q Xe h => by
  obtain ⟨v, hv, h⟩ := sat_lift.mp h
  unfold lenSO at hv
  split at hv
  · rename_i hz; cases hv; exact ⟨_, rfl, hz, h⟩
  · cases hv
theorem re_join {A : Out Str} {B : Out (List Str)} (ha : RE G wa env env1 m1 eS A) (hb : RE G wb env1 env2 m2 (eL eS) B) : RE G (wJoin wa wb) env env2 mA eS (A.bind fun a => B.bind fun ys => lift (joinO a ys)) := fun Q X Xe hX hs =>
  ha _ _ Xe hX ((sat_bind.mp hs).imp fun a hs => ⟨a, rfl, hb _ _ Xe hX ((sat_bind.mp hs).imp fun ys hs => by
    obtain ⟨v, hv, h⟩ := sat_lift.mp hs
    unfold joinO at hv
    split at hv
    · rename_i hz; cases hv; exact ⟨ys, rfl, hz, h⟩
    · cases hv)⟩)
theorem re_split {A B : Out Str} (ha : RE G wa env env1 m1 eS A) (hb : RE G wb env1 env2 m2 eS B) : RE G (wSplit wa wb) env env2 mA (eL eS) (A.bind fun a => B.bind fun b => lift (splitO a b)) := fun Q X Xe hX hs =>
  ha _ _ Xe hX ((sat_bind.mp hs).imp fun a hs => ⟨a, rfl, hb _ _ Xe hX ((sat_bind.mp hs).imp fun b hs => by
    obtain ⟨v, hv, h⟩ := sat_lift.mp hs
    unfold splitO at hv
    split at hv
    · rename_i hz; cases hv; exact ⟨b, rfl, hz.1, hz.2, h⟩
    · cases hv)⟩)
theorem xo_inS {b : Bool} : OpO (woInS b) eS m1 eS m2 (inSO b) eB mA := fun x y z Q h q => by
  unfold inSO at h
  split at h
  · rename_i ch e
    cases h
    refine ⟨ch, y, ?_, rfl, q⟩
    show PyData.str x = _
    congr 1
    exact Str.ext' (Array.toList_inj.mp (e : x.cps.toList = (#[ch] : Array Nat).toList))
  · cases h
theorem xo_ixStr : OpO wIx eS m1 eI m2 atSO eS mA := fun x y z Q h q => by
  unfold atSO at h
  split at h
  · rename_i hz
    obtain ⟨k, hk, rfl⟩ := Option.map_eq_some_iff.mp h
    exact ⟨y, rfl, hz, k, hk, q⟩
  · cases h
theorem re_slS {wl wh : WPt} {Z : Out Str} {lo hi : Out (Option Int)} (ha : RE G wa env env m1 eS Z) (hl : RO_ G wl env lo) (hh : RO_ G wh env hi) : RE G (wSl wa wl wh) env env mA eS (Z.bind fun z => lo.bind fun lo => hi.bind fun hi => lift (cutSO z lo hi)) := fun Q X Xe hX hs =>
  ha _ _ Xe hX ((sat_bind.mp hs).imp fun z hs => hl _ _ Xe hX ((sat_bind.mp hs).imp fun lo hs => hh _ _ Xe hX ((sat_bind.mp hs).imp fun hi hs => by
    obtain ⟨v, hv, h⟩ := sat_lift.mp hs
    unfold cutSO at hv
    split at hv
    · rename_i hz; cases hv; exact ⟨hz, h⟩
    · cases hv)))
theorem rb_forSN {g : Tg} {Z : Out Str} {F : σ → Str → Out σ} (st : σ) (hi : RE G we env env1 m1 eS Z) (h0 : envLe (s st) env1) (ent : σ → Str → VEnv)
    (hb : ∀ st x, RB G w (ent st x) (F st x) (KN s)) (hg : ∀ st x, ∃ rs, g.f ⟨eS x, mA⟩ = some rs ∧ VL.putAll (s st) g.is rs = ent st x := by exact fun _ _ => ⟨_, rfl, rfl⟩) :
    RB G (wForS g we w) env (Z.bind fun z => forO F st (sgns z)) (KN s) := fun D Xe hX hs =>
  hi _ _ Xe hX ((sat_bind.mp hs).imp fun z hs => by
    refine ⟨z, rfl, fun k e' => ∃ V, e' = s V ∧ Sat (forO F V ((sgns z).drop k)) (fun b => KN s b D) Xe, s st, h0, ⟨st, rfl, hs⟩, fun k y e' hd hJ => ?_, fun e' hJ => ?_⟩
    · obtain ⟨V, rfl, hs⟩ := hJ
      obtain ⟨rs, h1, h2⟩ := hg V y
      refine ⟨rs, h1, ?_⟩
      rw [h2]
      rw [drop_cons hd] at hs
      exact hb V y { D with nx := fun e2 => _ } Xe hX ((sat_bind.mp hs).imp fun V' hs => fun e le => ⟨s V', le, V', rfl, hs⟩)
    · obtain ⟨V, rfl, hs⟩ := hJ
      rw [List.drop_length] at hs
      exact hs _ (envLe.refl _))
end
end VL
namespace VL
open PySem PySem.Spec PyProof.Rows L2
def StrAt (K : PySem.W.Frag) (x z : Str) : Prop := ∃ t, PySem.W.nsIn K mainGlobals x = some (some (.str z t))
section
variable {K : PySem.W.Frag} {h : Heap} {mg : Str → Option Value} {x z : Str}
theorem StrAt.out (X : K.In h) (G : h.Ns mainGlobals mg) (a : StrAt K x z) : ∃ t, mg x = some (.str z t) := let ⟨t, e⟩ := a; ⟨t, PySem.W.mg_of X G e⟩
theorem StrAt.mk {t : Tok} (h : PySem.W.nsIn K mainGlobals x = some (some (.str z t))) : StrAt K x z := ⟨t, h⟩
end
end VL
set_option maxRecDepth 100000
set_option maxHeartbeats 4000000
namespace VL
open PySem PySem.Spec PyProof.Rows L2
section
variable {X : Cx} {pos : Pos} {g : Tg} {e2 : Expr}
end
end VL
set_option maxRecDepth 100000
set_option maxHeartbeats 4000000
namespace VL
open PySem PySem.Spec PyProof.Rows L2 PySem.HandSPX
theorem note_same {x : Value} {c1 c2 : Env} (q : c1.frame = c2.frame) : noteFrame x c1 = noteFrame x c2 := by
  unfold noteFrame PySem.frameOf
  rw [q]
theorem rawInt_ne {a b : Addr} (q : a ≠ b) : (rawInt (a : Int) == rawInt (b : Int)) = false := by
  unfold rawInt
  rw [beq_eq_false_iff_ne]
  intro z
  injection z with z1 z2
  exact q (Int.ofNat.inj z1)
section
variable {Mo : Model} {Ar : Around} {Ex : Value → Shared → Prop} {sh : Shared} {Zp : Obj → Prop} {gr : Heap} {ev : Env} {outs lst : List Env} {Lf x : Addr}
theorem note_other {Fo : Addr} {Qk : Unit → Shared → Prop} (st : Steady Zp) (fr : Ar.frames = some (ev :: outs)) (hf : ev.frame = some Lf) (ne : Fo ≠ Lf) (hh : HeldZ gr (ev :: outs) x Zp Fo sh.heap)
    (k : ∀ g, HeldZ gr (ev :: outs) x Zp Lf g → sh.heap.UpToSlots g → Qk () { sh with heap := g }) : wpAny Mo Ar (noteFrame (.ref x) ev) Qk Ex sh := by
  obtain ⟨stay, nx, ff, ob, fs, T, oT, ts, hx, hz, hd, i1, nT, Tx, hT, dT, i3⟩ := hh
  unfold noteFrame
  simp only [hf]
  refine wpAny_bind (wpAny_field hx hd i1 ?_)
  rw [if_pos (by simp : (Value.ref T != Value.none) = true)]
  refine wpAny_bind (wpAny_field hT dT i3 ?_)
  rw [if_neg (by rw [rawInt_ne ne]; decide)]
  refine wpAny_bind (wpAny_setField hT dT (Array.getElem?_eq_some_iff.mp i3).1 ?_)
  have oth : ∀ b, b ≠ T → (sh.heap.update T (Obj.mapFields (·.setIfInBounds 3 Value.none))).get? b = sh.heap.get? b := fun b q => Heap.get?_update_other _ _ (Ne.symm q)
  have nr : ∀ b o, sh.heap.get? b = some o → (∀ us, o.data ≠ .fields us) → b ≠ T := fun b o q nf e => by
    subst e
    rw [hT] at q
    exact nf ts (by cases q; exact dT)
  refine wpAny_entryZ st fr (ff.of_keeps fun b o q nf => ⟨o, (oth b (nr b o q nf)).trans q, rfl⟩) hf ((oth x (Ne.symm Tx)).trans hx)
    (fun b o q => (oth b (fun e => by subst e; rw [nT] at q; cases q)).trans (stay b o q)) nx hd (Array.getElem?_eq_some_iff.mp i1).1 hz fun g hN => ?_
  obtain ⟨n1, n2, n3, n4⟩ := hN
  exact k g ⟨n1, nx, n2, n3⟩ fun b o q nf => n4 b o ((oth b (nr b o q nf)).trans q) nf
theorem passOn_held {α : Type} {what : String} {Qk : α → Shared → Prop} (hf : ev.frame = some Lf) (hh : HeldZ gr lst x Zp Lf sh.heap)
    (k : ∀ g, HeldZ gr lst x Zp Lf g → sh.heap.UpToSlots g → Ex (.ref x) { sh with heap := g }) : wpAny Mo Ar (PySem.passOn what (.ref x) ev : Sem α) Qk Ex sh := by
  obtain ⟨_, _, _, ob, fs, T, oT, ts, hx, hz, hd, i1, _⟩ := id hh
  unfold PySem.passOn
  refine wpAny_bind (wpAny_field hx hd i1 ?_)
  rw [if_neg (by simp : ¬ ((Value.ref T == Value.none) = true))]
  rw [hf]
  exact wpAny_bind (setFlight_onZ hh fun g h2 up => wpAny_throw (k g h2 up))
end
theorem funFrames_but {h h' B B2 : Heap} : ∀ {l : List Env}, h.FunFrames B l → (∀ L ∈ frs l, h'.get? L = h.get? L) → (∀ L, B.get? L = none → B2.get? L = none) → h'.FunFrames B2 l
  | [], _, _, _ => trivial
  | en :: l, ⟨hk, ⟨L, o, hf, hn, ho, hd⟩, hr⟩, k, n => ⟨hk, ⟨L, o, hf, n L hn, (k L (List.mem_filterMap.mpr ⟨en, List.mem_cons_self, hf⟩)).trans ho, hd⟩, funFrames_but hr (fun b hb => by
      obtain ⟨e, he, q⟩ := List.mem_filterMap.mp hb
      exact k b (List.mem_filterMap.mpr ⟨e, List.mem_cons_of_mem _ he, q⟩)) n⟩
theorem held_but {gr h h' : Heap} {l : List Env} {x Lf C : Addr} {Zp : Obj → Prop} (hh : HeldZ gr l x Zp Lf h) (sb : Heap.SameBut C h h') (nC : C ∉ frs l) (oC : ∃ o, h.get? C = some o ∧ ∀ us, o.data ≠ .fields us) : HeldZ (PySem.W.hideAll gr [C]) l x Zp Lf h' := by
  obtain ⟨stay, nx, ff, ob, fs, T, oT, ts, hx, hz, hd, i1, nT, Tx, hT, dT, i3⟩ := hh
  obtain ⟨oc, hc, nf⟩ := oC
  have hid : ∀ b, gr.get? b = none → (PySem.W.hideAll gr [C]).get? b = none := fun b q => by
    cases e : (PySem.W.hideAll gr [C]).get? b with
    | none => rfl
    | some o => have := PySem.W.of_hideAll _ e; rw [q] at this; cases this
  have xC : x ≠ C := fun e => by subst e; rw [hc] at hx; cases hx; exact nf _ hd
  have TC : T ≠ C := fun e => by subst e; rw [hc] at hT; cases hT; exact nf _ dT
  refine ⟨fun b o q => ?_, hid _ nx, funFrames_but ff (fun L hL => sb.2 L fun e => nC (e ▸ hL)) hid, ob, fs, T, oT, ts, (sb.2 x xC).trans hx, hz, hd, i1, hid _ nT, Tx, (sb.2 T TC).trans hT, dT, i3⟩
  have bC : b ≠ C := fun e => by
    subst e
    rw [PySem.W.hideAll_none [b] (by simp)] at q; cases q
  exact (sb.2 b bC).trans (stay b o (PySem.W.of_hideAll _ q))
end VL
set_option maxRecDepth 100000
set_option maxHeartbeats 4000000
namespace VL
open PySem PySem.Spec PyProof.Rows L2 PySem.HandSPX
def endC (Mo : Model) (Ar : Around) (Ex : Value → Shared → Prop) (use : Option (Value → Sem Unit)) (Qf : Value → Shared → Prop) (acc : Value) (ce : Env) (r : Result) (t : Shared) : Prop :=
  match r, use with
  | .ok _, none => ∃ m, t.heap.Ns ce.locals m ∧ ∀ g, Heap.SameBut ce.locals t.heap g → Qf acc { t with heap := g }
  | .ok _, some u => wpAny Mo Ar (u acc) (fun _ t2 => ∃ m, t2.heap.Ns ce.locals m ∧ ∀ g, Heap.SameBut ce.locals t2.heap g → Qf .none { t2 with heap := g }) Ex t
  | .error x, _ => ∃ m, t.heap.Ns ce.locals m ∧ ∀ g, Heap.SameBut ce.locals t.heap g → wpAny Mo Ar (PySem.passOn "comprehension.variables-let-go" x ce : Sem Value) (fun _ _ => False) Ex { t with heap := g }
section
variable {Mo : Model} {Ar : Around} {Ex : Value → Shared → Prop} {sh : Shared} {ev : Env}
theorem display_run {lc : Expr} {scp : Scope} {at_ : Pos} {mk fst : Sem Value} {cg : Comprehension} {cgs : List Comprehension} {clo : List (Str × Addr)} {use : Option (Value → Sem Unit)} {Qf : Value → Shared → Prop}
    (h1 : clausesOf lc = cg :: cgs) (h2 : ∀ x, foldedSetIterable cg.iter ev x = pure x) (h3 : closureFor scp ev = pure clo) (h4 : scp.kind = .function) (h5 : ∀ y ∈ scp.names, y.2 = .local → scp.names.lookup y.1 = some .local)
    (go : wpAny Mo Ar fst (fun x t1 => wpAny Mo Ar (pyIter x) (fun it t2 => wpAny Mo Ar mk (fun ac t3 => wpAny Mo Ar (newFunctionEnv scp ev.globals clo [] ev.qual none .none (some ev)) (fun ce t4 =>
        codeAny Mo Ar (.compStart lc 0 it ac { ce with scope := relabel scp ev }) (endC Mo Ar Ex use Qf ac { ce with scope := relabel scp ev }) t4) Ex t3) Ex t2) Ex t1) Ex sh) :
    wpAny Mo Ar (comprehension lc scp ev at_ mk false fst use) Qf Ex sh := by
  unfold comprehension
  rw [h3, h1]
  refine wpAny_bind (wpAny_mono go (fun x t1 g1 => wpAny_bind (wpAny_standAt (wpAny_bind (wpAny_of_eq (h2 x) (wpAny_bind (wpAny_holding (wpAny_mono g1 (fun it t2 g2 =>
      wpAny_standIf (wpAny_bind (wpAny_mono g2 (fun ac t3 g3 => wpAny_bind (wpAny_pure (wpAny_bind (wpAny_mono g3 (fun ce t4 g4 => ?_) fun _ _ z => z)))) fun _ _ z => z)))
        fun _ _ z => z))))))) fun _ _ z => z)
  dsimp only
  have loc : ∀ y ∈ (scp.names.filter fun y => (y.2 == .local || y.2 == .cell) && y.1 != (".0" : Str)).reverse, y.2 = .local →
        Env.kindOf { ce with scope := relabel scp ev } y.1 = some .local := fun y hy q => lookup_relabel_local (h5 y (List.mem_filter.mp (List.mem_reverse.mp hy)).1 q)
  have loc2 : ∀ y ∈ (scp.names.filter fun y => (y.2 == .local || y.2 == .cell) && y.1 != (".0" : Str)).reverse.drop 1 ++ (scp.names.filter fun y => (y.2 == .local || y.2 == .cell) && y.1 != (".0" : Str)).reverse.take 1,
        y.2 = .local → Env.kindOf { ce with scope := relabel scp ev } y.1 = some .local := fun y hy q => (List.mem_append.mp hy).elim (fun z => loc y (List.mem_of_mem_drop z) q) fun z => loc y (List.mem_of_mem_take z) q
  refine wpAny_holding (wpAny_bind (wpAny_attempt (wpAny_holding (wpAny_run (codeAny_mono g4 fun r t hr => ?_)))))
  match r, use, hr with
  | .ok f, none, hr =>
    obtain ⟨m, hn, q⟩ := hr
    exact wpAny_bind (wpAny_holding (wpAny_comp_letGo (cenv := { ce with scope := relabel scp ev }) h4 _ t m loc hn fun g m' _ sb => wpAny_pure (q g sb)))
  | .ok f, some u, hr =>
    refine wpAny_bind (wpAny_rule (wpAny_bind (wpAny_holding (wpAny_mono hr (fun _ t2 q => ?_) fun _ _ z => z))))
    obtain ⟨m, hn, q⟩ := q
    exact wpAny_bind (wpAny_comp_letGo (cenv := { ce with scope := relabel scp ev }) h4 _ t2 m loc2 hn fun g m' _ sb => wpAny_pure (q g sb))
  | .error x, none, hr =>
    obtain ⟨m, hn, q⟩ := hr
    exact wpAny_bind (wpAny_holding (wpAny_comp_letGo (cenv := { ce with scope := relabel scp ev }) h4 _ t m loc hn fun g m' _ sb => wpAny_mono (q g sb) (fun _ _ z => z.elim) fun _ _ z => z))
  | .error x, some u, hr =>
    obtain ⟨m, hn, q⟩ := hr
    exact wpAny_bind (wpAny_holding (wpAny_comp_letGo (cenv := { ce with scope := relabel scp ev }) h4 _ t m loc hn fun g m' _ sb => wpAny_mono (q g sb) (fun _ _ z => z.elim) fun _ _ z => z))
end
abbrev blkE (X : Cx) (t : Shared) (H : Hp) (scp : Scope) (ce : Env) (fp : List Addr) (Ex : Value → Shared → Prop) : Cx := (X.blk t H scp ce fp).wish Ex
section
variable {X : Cx} {pins pp : List (Addr × Obj)} {σ σ' : L2.St} {H H' : Hp} {t t2 u : Shared} {scp : Scope} {ce : Env} {fp : List Addr} {W : WX} {Ex : Value → Shared → Prop}
theorem XE.out (hs : X.stack = X.env :: X.outer) (hf : X.env.frame = some X.env.locals) (tk : Takes X W) (I : Inv X pins σ H t) (hfp : ∀ b ∈ fp, FpOk X pins H b) (cf : ce.frame = X.env.frame) (cl : ce.locals = t.heap.objs.size)
    {x : Value} (xe : XE (blkE X t H scp ce fp Ex) (fun cls d _ H' => W cls d σ H') x u) :
    notedBy (model X.prog X.w) X.A ce (fun x t' => ∃ m, t'.heap.Ns ce.locals m ∧ ∀ g, Heap.SameBut ce.locals t'.heap g → wpAny (model X.prog X.w) X.A (PySem.passOn "comprehension.variables-let-go" x ce : Sem Value) (fun _ _ => False) X.xe { t' with heap := g }) x u := by
  obtain ⟨a, B, sI, pn, σ1, H1, cls, d, rfl, J, nb, up, sky, na, os, ag, w⟩ := xe
  have fr : X.A.frames = some (X.env :: X.outer) := by rw [I.ok.frames, hs]
  have cf' : ce.frame = some X.env.locals := cf.trans hf
  unfold notedBy
  rw [note_same cf]
  obtain ⟨m, hm, _⟩ := J.loc
  have hm : sI.heap.Ns ce.locals m := hm
  have Cin : ce.locals ∉ frs X.stack := fun hb => by
    obtain ⟨_, o, e, _⟩ := I.stack.mem hb
    have := Heap.lt_size e
    rw [cl] at this
    exact Nat.lt_irrefl _ this
  have fresh : t.heap.get? ce.locals = none := by rw [cl]; exact Heap.get?_none_of_le (Nat.le_refl _)
  have back : Inv X pins σ H1 sI := I.call' (ch := fp) J.os J.base J.hok J.bare fun b hb => ⟨(hfp b hb).2.2.2.1, (hfp b hb).2.1, (hfp b hb).2.2.2.2.1, (hfp b hb).2.2.2.2.2⟩
  have Hc : H1 ce.locals = none := J.free
  have fin : ∀ g1, HeldZ B X.stack a (Zc cls d) X.env.locals g1 → u.heap.UpToSlots g1 → ∃ m, ({ u with heap := g1 } : Shared).heap.Ns ce.locals m ∧ ∀ g, Heap.SameBut ce.locals g1 g →
      wpAny (model X.prog X.w) X.A (PySem.passOn "comprehension.variables-let-go" (.ref a) ce : Sem Value) (fun _ _ => False) X.xe { u with heap := g } := by
    intro g1 hh up1
    have stB : ∀ b o, sI.heap.get? b = some o → b ∉ frs X.stack → g1.get? b = some o := fun b o e q => hh.1 b o (nb b o e q)
    obtain ⟨oc, es, ep, hoc, hod, rest⟩ := id hm
    have hoc1 : g1.get? ce.locals = some oc := stB _ _ hoc Cin
    refine ⟨m, ⟨oc, es, ep, hoc1, hod, rest⟩, fun g sb => ?_⟩
    have hh2 := held_but hh sb Cin ⟨oc, hoc1, fun us z => by rw [hod] at z; cases z⟩
    refine passOn_held (sh := { u with heap := g }) cf' hh2 fun g2 hh3 up2 => tk _ _ ?_
    have hid : ∀ {b o}, (PySem.W.hideAll sI.heap [ce.locals]).get? b = some o → sI.heap.get? b = some o ∧ b ≠ ce.locals := fun {b o} e => ⟨PySem.W.of_hideAll _ e, fun z => by
      subst z
      rw [PySem.W.hideAll_none [ce.locals] (by simp)] at e; cases e⟩
    have hget : ∀ {b o}, sI.heap.get? b = some o → b ≠ ce.locals → (PySem.W.hideAll sI.heap [ce.locals]).get? b = some o := fun e q => PySem.W.hideAll_get _ e (by simpa using q)
    refine ⟨a, PySem.W.hideAll B [ce.locals], { sI with heap := PySem.W.hideAll sI.heap [ce.locals] }, pins, σ, H1, cls, d, rfl, ?_, fun b o e q => ?_, fun b o e nf => ?_, .inr (.inr hh3), na, os, ag, w⟩
    · have hne : ∀ {b o}, t.heap.get? b = some o → b ≠ ce.locals := fun e q => by subst q; rw [fresh] at e; cases e
      refine I.call' (s' := { sI with heap := PySem.W.hideAll sI.heap [ce.locals] }) (ch := fp) J.os ⟨fun b o e n hb hx => hget (J.base.keep b o e n hb hx) (hne e), fun b o e n hb hx => ?_, J.base.free, fun b o e hx => ?_, J.base.tups, J.base.frzs, J.base.tbls⟩ (fun b o e => ?_) J.bare fun b hb => ⟨(hfp b hb).2.2.2.1, (hfp b hb).2.1, (hfp b hb).2.2.2.2.1, (hfp b hb).2.2.2.2.2⟩
      · obtain ⟨sl, q⟩ := J.base.slot b o e n hb hx
        exact ⟨sl, hget q (hne e)⟩
      · obtain ⟨o', q⟩ := J.base.there b o e hx
        exact ⟨o', hget q (hne e)⟩
      · refine (J.hok b o e).stay (fun c v hc q => hget q fun z => ?_) (fun _ q => q) fun _ _ q => q
        subst z
        rcases hc with hc | hc
        · rw [← hc, Hc] at e; cases e
        · rw [Hc] at hc; cases hc
    · obtain ⟨e1, e2⟩ := hid e
      exact PySem.W.hideAll_get _ (nb b o e1 q) (by simpa using e2)
    · obtain ⟨e1, e2⟩ := hid e
      obtain ⟨l1, q1⟩ := up b o e1 nf
      obtain ⟨l2, q2⟩ := up1 b _ q1 nf
      have q3 : g.get? b = _ := (sb.2 b e2).trans q2
      obtain ⟨l3, q4⟩ := up2 b _ q3 nf
      exact ⟨l3, q4⟩
  have sky : Sky B X.stack a (Zc cls d) ce.locals u.heap := sky
  rw [hs] at sky fin
  rcases sky with ⟨k1, k2, k3, oe, vs, k4, k5, k6, k7⟩ | fl | hd
  · exact look_newZ Zc.steady fr k3 hf k4 k1 k2 k6 k7 k5 fin
  · exact looks_onZ Zc.steady fr hf fl fin
  · refine note_other Zc.steady fr hf (fun q => ?_) hd fin
    have z := I.lt
    rw [← q, cl] at z
    exact Nat.lt_irrefl _ z
end
end VL
set_option maxRecDepth 100000
set_option maxHeartbeats 4000000
namespace VL
open PySem PySem.Spec PyProof.Rows L2 PySem.HandSPX
abbrev wishAt (W : WX) (σ : L2.St) : WX := fun cls d _ H => W cls d σ H
def tLcE (wi : TI) (g : TG) (tt : WX → TT) (te : WX → TE) (W : WX) (vs : List Nat) : TE := fun σ H Q => wi σ H fun J H1 => ∀ D, H1 D = none → ∃ V : Nat → Nat → Hp → Prop, (∃ m, V 0 m (upd H1 D (.lst []))) ∧ ∀ i m H, V i m H →
    (J.stop i H ∧ Q (.ref D) H) ∨ (J.go i H ∧ ∃ Nx : Hp → Prop, (∀ H', Nx H' → ∃ m', m' < m ∧ V (i + 1) m' H') ∧ ∀ x H', J.yld i H x H' → g x (wipe σ vs) H' fun σ2 H2 => wipe σ2 vs = wipe σ vs ∧ tt (wishAt W σ) σ2 H2 fun b H3 =>
      if b = true then te (wishAt W σ) σ2 H3 fun y H4 => ∃ acc, H4 D = some (.lst acc) ∧ acc.length < sizeLine ∧ Nx (upd H4 D (.lst (acc ++ [y]))) else Nx H3)
abbrev BlkE (X : Cx) (scp : Scope) (P : Cx → Prop) : Prop := ∀ (s : Shared) (H : Hp) (C : Addr) (cl : List (Str × Addr)) (fp : List Addr) (E : Value → Shared → Prop), P (blkE X s H scp (compEnvC scp cl C X.env) fp E)
section
variable {X : Cx} {W : WX}
theorem display_core {pins : List (Addr × Obj)} {s : Shared} {σ : L2.St} {H : Hp} {Q : VK} {elt tg iter : Expr} {ifs : List Expr} {scp : Scope} {own : List (Str × Nat)} {pos at_ : Pos} {wi : TI} {g : TG} {tt : WX → TT} {te : WX → TE} {use : Option (Value → Sem Unit)} {Qf : Value → Shared → Prop}
    (hc : X.calm = true) (hN : X.N.Nodup) (hs1 : X.stack = X.env :: X.outer) (hs2 : X.env.frame = some X.env.locals) (tk : Takes X W) (I : Inv X pins σ H s) (hi : PI X tg iter wi) (ok : BlkOk X.N X.env.scope scp own)
    (hg : BlkE X scp fun Y => PG Y tg g) (ht : BlkE X scp fun Y => ∀ W', Takes Y W' → PTs Y ifs (tt W')) (he : BlkE X scp fun Y => ∀ W', Takes Y W' → PE Y elt (te W')) (hf : ∀ x, foldedSetIterable iter X.env x = pure x)
    (h : tLcE wi g tt te W (own.map (·.2)) σ H Q)
    (fine : ∀ D C t m H', Inv X pins σ H' t → Q (.ref D) H' → t.heap.Ns C m → FpOk X pins H' C → ∀ ce : Env, ce.locals = C → endC (model X.prog X.w) X.A X.xe use Qf (.ref D) ce (.ok .next) t) :
    wpAny (model X.prog X.w) X.A (comprehension (.ListComp elt [⟨tg, iter, ifs, 0⟩] scp pos) scp X.env at_ (newList []) false (eval iter X.env) use) Qf X.xe s := by
  have caps : ∀ y ∈ scp.names, y.2 = .free → ∃ c, X.env.cells.lookup y.1 = some c := fun y hy e => (ok.free y hy e).elim (fun k => I.ok.has _ (.inl k)) fun k => I.ok.has _ (.inr k)
  refine display_run (use := use) rfl hf (closure_ok caps) ok.kind (fun y hy e => by rw [ok.uniq y hy, e])
      (thn (hi.run pins s σ H _ I h) fun xv t1 hx => thn hx fun itv t2 h2 => ?_)
  obtain ⟨it, fp, tn, J, H2, e, I2, T, st2, f2, q⟩ := h2
  subst e
  refine wpAny_newObj_type (newEnv_comp ?_) (by show 0 ≤ sizeLine; decide)
  generalize eD : t2.heap.objs.size = D
  have nD : H2 D = none := I2.hok.fresh (Nat.le_of_eq eD)
  obtain ⟨V, ⟨m0, v0⟩, turn⟩ := q D nD
  generalize e3 : ({ t2 with heap := t2.heap.push { cls := .type "list", data := .seq ([] : List Value).toArray } } : Shared) = t3
  have I3 : Inv X pins σ (upd H2 D (.lst [])) t3 := by
    rw [← e3]
    refine I2.laid (t' := t2.toks) (fun b o z => Heap.get?_push_of_some _ z) (Nat.le_of_eq eD) ⟨Nat.zero_le _, [], 0, .nil, ?_⟩
    rw [← eD]
    exact Heap.get?_push_size _ rfl
  have hp3 : t3.heap = t2.heap.push { cls := .type "list", data := .seq ([] : List Value).toArray } := by rw [← e3]
  have below : ∀ b ∈ fp, b < t2.heap.objs.size := fun b hb => let ⟨_, z, _⟩ := T.obj _ _ st2 b hb; Heap.lt_size z
  have f3 : ∀ b ∈ fp, FpOk X pins (upd H2 D (.lst [])) b ∧ b < t3.heap.objs.size := fun b hb => by
    have lt := below b hb
    refine ⟨⟨?_, (f2 b hb).2⟩, by rw [hp3, Heap.size_push]; exact Nat.lt_succ_of_lt lt⟩
    rw [upd_ne (by rw [← eD]; exact Nat.ne_of_lt lt)]
    exact (f2 b hb).1
  have st3 : tn 0 t3.heap := T.keep _ _ _ st2 fun b _ o z => by rw [hp3]; exact Heap.get?_push_of_some _ z
  have I4 := block_start I3 ok hN f3
  generalize ece : compEnvC scp (cellsFrom (t3.heap.objs.size + 1) scp.names (cloFrom X.env.cells scp.names [])) t3.heap.objs.size X.env = ce at I4
  have cL : ce.locals = t3.heap.objs.size := by subst ece; rfl
  have cF : ce.frame = X.env.frame := by subst ece; rfl
  generalize eH : upd H2 D (.lst []) = H3 at I3 I4 v0 f3
  let Eb : Value → Shared → Prop := notedBy (model X.prog X.w) X.A ce fun e t' => endC (model X.prog X.w) X.A X.xe use Qf (.ref D) ce (.error e) t'
  have tkb : Takes (blkE X t3 H3 scp ce fp Eb) (wishAt W σ) := fun x u xe => XE.out hs1 hs2 tk I3 (fun b hb => (f3 b hb).1) cF cL xe
  have pg : PG (blkE X t3 H3 scp ce fp Eb) tg g := by have z := hg t3 H3 t3.heap.objs.size (cellsFrom (t3.heap.objs.size + 1) scp.names (cloFrom X.env.cells scp.names [])) fp Eb; rw [ece] at z; exact z
  have pt : PTs (blkE X t3 H3 scp ce fp Eb) ifs (tt (wishAt W σ)) := by have z := ht t3 H3 t3.heap.objs.size (cellsFrom (t3.heap.objs.size + 1) scp.names (cloFrom X.env.cells scp.names [])) fp Eb; rw [ece] at z; exact z _ tkb
  have pe : PE (blkE X t3 H3 scp ce fp Eb) elt (te (wishAt W σ)) := by have z := he t3 H3 t3.heap.objs.size (cellsFrom (t3.heap.objs.size + 1) scp.names (cloFrom X.env.cells scp.names [])) fp Eb; rw [ece] at z; exact z _ tkb
  show codeAny _ _ (.compStart (.ListComp elt [⟨tg, iter, ifs, 0⟩] scp pos) 0 (.ref it) (.ref D) (compEnvC scp (cellsFrom (t3.heap.objs.size + 1) scp.names (cloFrom X.env.cells scp.names [])) t3.heap.objs.size X.env)) (endC (model X.prog X.w) X.A X.xe use Qf (.ref D) (compEnvC scp (cellsFrom (t3.heap.objs.size + 1) scp.names (cloFrom X.env.cells scp.names [])) t3.heap.objs.size X.env)) { t3 with heap := pushCells (t3.heap.push { cls := .type "dict", data := .dict #[] }) scp.names }
  rw [ece]
  have nfp : ∀ b ∈ fp, H3 b = none := fun b hb => (f3 b hb).1.1
  generalize e4 : ({ t3 with heap := pushCells (t3.heap.push { cls := .type "dict", data := .dict #[] }) scp.names } : Shared) = t4 at I4 ⊢
  have I4 := I4.wish Eb
  have st4 : tn 0 t4.heap := T.keep _ _ _ st3 fun b _ o z => by rw [← e4]; exact pushCells_keeps _ _ _ _ (Heap.get?_push_of_some _ z)
  have stat : ∀ {σ' : L2.St} {H' : Hp} {t' : Shared}, Inv (blkE X t3 H3 scp ce fp Eb) [] σ' H' t' → (∀ b ∈ fp, H' b = none) → ∀ b ∈ fp, FpOk (blkE X t3 H3 scp ce fp Eb) [] H' b := fun {σ' H' t'} I' hn b hb =>
      ⟨hn b hb, (I'.ok.exf b hb).1, I'.ok.exfs b hb, .inl hb, fun x c z => (I'.ok.exf b hb).2 x c z, fun p hp => absurd (show p ∈ ([] : List (Addr × Obj)) ++ [] from hp) (by simp)⟩
  have loop : codeAny (model X.prog X.w) X.A (.compLoop (.ListComp elt [⟨tg, iter, ifs, 0⟩] scp pos) 0 (.ref it) (.ref D) ce) (endC (model X.prog X.w) X.A X.xe use Qf (.ref D) ce) t4 := by
    refine compLoop_any (fun n t' => ∃ i H', Inv (blkE X t3 H3 scp ce fp Eb) [] (wipe σ (own.map (·.2))) H' t' ∧ tn i t'.heap ∧ (∀ b ∈ fp, H' b = none) ∧ V i n H') ?_ m0 ⟨0, H3, I4, st4, nfp, v0⟩
    rintro n t5 ⟨i, H5, I5, st5, n5, v5⟩
    rcases turn i n H5 v5 with ⟨stop, qq⟩ | ⟨go, Nx, hNx, step⟩
    · refine thnF (T.done (blkE X t3 H3 scp ce fp Eb) rfl rfl rfl hc i [] t5 _ H5 (fun _ _ => False) I5 (stat I5 n5) st5 stop) fun r t6 ⟨hr, I6⟩ => ?_
      subst hr
      have I7 : Inv X pins σ H5 t6 := I3.call' (ch := fp) I6.os I6.base I6.hok I6.bare fun b hb => ⟨(f3 b hb).1.2.2.2.1, (f3 b hb).1.2.1, (f3 b hb).1.2.2.2.2.1, (f3 b hb).1.2.2.2.2.2⟩
      have nC : H5 t3.heap.objs.size = none := by
        have z : H5 ce.locals = none := I6.free
        rw [cL] at z; exact z
      obtain ⟨m, hn, _⟩ := I6.loc
      have hn : t6.heap.Ns ce.locals m := hn
      exact fine D ce.locals t6 m H5 I7 qq hn (by rw [cL]; exact I3.fpOk (Nat.le_refl _) nC) ce rfl
    · refine thnF (T.item (blkE X t3 H3 scp ce fp Eb) rfl rfl rfl hc i [] t5 _ H5 (fun _ _ => False) I5 (stat I5 n5) st5 go) fun r t6 ⟨u, hr, h6⟩ => ?_
      subst hr
      refine thnF h6 fun _ t7 ⟨x, H7, I7, r7, y7, st7, n7⟩ => ?_
      have I7p := I7.pinned (stat I7 n7) (T.obj _ _ st7)
      refine thn (pg.run _ t7 _ H7 x u _ I7p r7 (step x H7 y7)) fun _ t8 ⟨σ8, H8, I8, hw8, q8⟩ => ?_
      refine thn (pt.run _ t8 σ8 H8 _ I8 q8) fun b t9 ⟨H9, I9, q9⟩ => ?_
      have last : ∀ {t' : Shared} {H' : Hp}, Inv (blkE X t3 H3 scp ce fp Eb) ([] ++ pinsAt fp t7.heap) σ8 H' t' → Nx H' → ∃ m, m < n ∧ ∃ i H', Inv (blkE X t3 H3 scp ce fp Eb) [] (wipe σ (own.map (·.2))) H' t' ∧ tn i t'.heap ∧ (∀ b ∈ fp, H' b = none) ∧ V i m H' := fun {t' H'} I' nx => by
        obtain ⟨m', hm, v'⟩ := hNx H' nx
        have pin' : ∀ b ∈ fp, ∀ o, t7.heap.get? b = some o → t'.heap.get? b = some o ∧ H' b = none := fun b hb o z =>
            let y := I'.pin (b, o) (List.mem_append_right _ (List.mem_append_right _ (mem_pinsAt hb z)))
            ⟨y.1, y.2.1⟩
        have hl : (wipe σ (own.map (·.2))).length = σ8.length := by rw [← hw8, wipe_length]
        refine ⟨m', hm, i + 1, H', (I'.unpinned (pins := [])).weak hl (fun j v z => ?_), T.keep _ _ _ st7 fun b hb o z => (pin' b hb o z).1, fun b hb => ?_, v'⟩
        · rw [← hw8] at z
          exact (wipe_some z).1
        · obtain ⟨o, z, _⟩ := T.obj _ _ st7 b hb
          exact (pin' b hb o z).2
      cases b with
      | false =>
        simp only [Bool.false_eq_true, if_false] at q9 ⊢
        exact last I9 q9
      | true =>
        simp only [if_true] at q9 ⊢
        refine thn (pe.run _ t9 σ8 H9 _ I9 q9) fun z t10 ⟨yv, H10, I10, r10, acc, hD10, hz10, nx⟩ => ?_
        exact app_ok (X := blkE X t3 H3 scp ce fp Eb) I10 hD10 hz10 r10 fun t11 I11 => last I11 nx
  exact codeAny_compStart_list loop (T.self X.A 0 _ _ _ st4 loop)
theorem pe_lcE {elt tg iter : Expr} {ifs : List Expr} {scp : Scope} {own : List (Str × Nat)} {pos : Pos} {wi : TI} {g : TG} {tt : WX → TT} {te : WX → TE} (hc : X.calm = true) (hN : X.N.Nodup) (hs1 : X.stack = X.env :: X.outer) (hs2 : X.env.frame = some X.env.locals) (tk : Takes X W) (hi : PI X tg iter wi) (ok : BlkOk X.N X.env.scope scp own)
    (hg : BlkE X scp fun Y => PG Y tg g) (ht : BlkE X scp fun Y => ∀ W', Takes Y W' → PTs Y ifs (tt W')) (he : BlkE X scp fun Y => ∀ W', Takes Y W' → PE Y elt (te W')) (hf : ∀ x, foldedSetIterable iter X.env x = pure x) :
    PE X (.ListComp elt [⟨tg, iter, ifs, 0⟩] scp pos) (tLcE wi g tt te W (own.map (·.2))) := by
  refine ⟨fun pins s σ H Q I h => ?_⟩
  rw [eval_ListComp]
  refine display_core hc hN hs1 hs2 tk I hi ok hg ht he hf h fun D C t m H' I' q hn f ce hce => ⟨m, by rw [hce]; exact hn, fun g sb => ?_⟩
  rw [hce] at sb
  obtain ⟨f0, f1, f2, f3, f4, f5⟩ := f
  exact ⟨.ref D, H', I'.turned (t' := t.toks) (fun b o hb e => (sb.2 b hb).trans e) f0 f1 f3 f4 f5, rfl, q⟩
theorem ps_setLcE {i : Nat} {y : Str} {py : Pos} {elt tg iter : Expr} {ifs : List Expr} {scp : Scope} {own : List (Str × Nat)} {pos spos : Pos} {wi : TI} {g : TG} {tt : WX → TT} {te : WX → TE} (hc : X.calm = true) (hN : X.N.Nodup) (hs1 : X.stack = X.env :: X.outer) (hs2 : X.env.frame = some X.env.locals) (tk : Takes X W) (hy : X.N[i]? = some y) (hyl : X.env.scope.names.lookup y = some .local)
    (hsw : swapsWith (.ListComp elt [⟨tg, iter, ifs, 0⟩] scp pos) (some (.Name y py)) spos.line X.env = pure true) (hi : PI X tg iter wi) (ok : BlkOk X.N X.env.scope scp own)
    (hg : BlkE X scp fun Y => PG Y tg g) (ht : BlkE X scp fun Y => ∀ W', Takes Y W' → PTs Y ifs (tt W')) (he : BlkE X scp fun Y => ∀ W', Takes Y W' → PE Y elt (te W')) (hf : ∀ x, foldedSetIterable iter X.env x = pure x) :
    PS X (.Assign [.Name y py] (.ListComp elt [⟨tg, iter, ifs, 0⟩] scp pos) spos) (tAsg (tLcE wi g tt te W (own.map (·.2))) (gName i)) := by
  refine ⟨fun pins s σ H D I h => ?_⟩
  rw [exec_Assign_Name_used _ _ _ _ hsw]
  refine wpAny_bind (wpAny_standAt (wpAny_bind ?_))
  show wpAny _ X.A (do let _ ← comprehension (.ListComp elt [⟨tg, iter, ifs, 0⟩] scp pos) scp X.env (firstIterPos [⟨tg, iter, ifs, 0⟩] pos) (newList []) false (eval iter X.env) (some (assign (.Name y py) X.env))) _ _ s
  have h : tLcE wi g tt te W (own.map (·.2)) σ H (fun x H1 => gName i x σ H1 D.nx) := h
  refine wpAny_bind (thn (display_core (Qf := fun _ t => SP X pins D .next t) hc hN hs1 hs2 tk I hi ok hg ht he hf h fun L C t m H' I' q hn f ce hce => ?_) fun _ t hq => wpAny_pure (wpAny_pure hq))
  show wpAny _ _ (assign (.Name y py) X.env (.ref L)) _ _ _
  refine wpAny_assign_Name (store_ok2 (v := V.ref L) I' hN hy (.inl hyl) rfl (fun t2 I2 ⟨a, sb, ha⟩ => ?_) (.inr hyl))
  obtain ⟨f0, f1, f2, f3, f4, f5⟩ := f
  have ne : C ≠ a := ha.elim (fun z => by rw [z]; exact f1) fun z q => f4 y a z q.symm
  refine ⟨m, by rw [hce]; exact hn.sameBut sb ne, fun g sb3 => ?_⟩
  rw [hce] at sb3
  exact ⟨_, H', I2.turned (t' := t2.toks) (fun b o hb e => (sb3.2 b hb).trans e) f0 f1 f3 f4 f5, q⟩
end
end VL
set_option maxRecDepth 100000
set_option maxHeartbeats 4000000
namespace VL
open PySem PySem.Spec PyProof.Rows L2
def wTurnE (wt : WT) (wl : WE) (km : Option Nat) (e : VEnv) (yes : D → Prop) (no : Prop) (Xo : Exn → Prop) : Prop :=
  wt e (fun b e2 => if b = true then wl e2 (fun r' _ => kidOk km r' ∧ yes r'.d) (fun ex _ => Xo ex) else no) (fun _ _ => False)
section
variable {c : Cn} {L : List (List Addr)} {Tm : List Addr} {env : VEnv} {σ : Sg} {H H1 : Hp} {Dn : Addr} {km : Option Nat} {acc : List V} {accD : List D} {lk : List Addr} {tt : WT} {wl : WE} {W : WX}
theorem turn_runE {is vs : List Nat} {rs : List R} {xs : List V} {yes : D → Prop} {no : Prop} {Xo : Exn → Prop} {t : TG} {x : V} {Nx : Hp → Prop} (A : Acc c L Tm H1 Dn km acc accD lk H) (S : Sim c L Tm env σ H1) (his : ∀ i ∈ is, i ∈ vs) (pf : PinF c vs)
    (rr : Ress c ((L.map fun _ => ([] : List Addr)).flatten ++ (L.flatten ++ (Tm ++ (Dn :: lk)))) H rs xs []) (go : ∀ σ Q, Q (setAll σ is xs) H → t x σ H Q) (hz : acc.length < 1000000)
    (hw : wTurnE tt wl km (putAll (wipeE (bEnv env) vs) is rs) yes no Xo) (hx : ∀ ex cls d H', Xo ex → Same H1 H' → ExR c H' ex cls d → W cls d σ H')
    (hy : ∀ y d lk' H', yes d → Acc c L Tm H1 Dn km (acc ++ [y]) (accD ++ [d]) lk' H' → Nx H') (hn : ∀ H', no → Acc c L Tm H1 Dn km acc accD lk H' → Nx H') :
    t x (wipe σ vs) H fun σ2 H2 => wipe σ2 vs = wipe σ vs ∧ rdT c W0 tt σ2 H2 fun b H3 =>
      if b = true then rdE c (wishAt W σ) wl σ2 H3 fun y H4 => ∃ acc', H4 Dn = some (.lst acc') ∧ acc'.length < sizeLine ∧ Nx (upd H4 Dn (.lst (acc' ++ [y]))) else Nx H3 := by
  refine go _ _ ⟨wipe_setAll his, ?_⟩
  have B := A.sim S vs pf
  obtain ⟨L2, S2, g2⟩ := Sim.putAllG (is := is) (Tm := L.flatten ++ (Tm ++ (Dn :: lk))) (l := []) rr (by simpa using B) (fun b hb => by simpa using hb) (pf.sub his)
  have stA : Step c H H ((L.map fun _ => ([] : List Addr)).flatten ++ (L.flatten ++ (Tm ++ (Dn :: lk)))) (L.flatten ++ (Tm ++ (Dn :: lk))) L2 [] (putAll (wipeE (bEnv env) vs) is rs) (setAll (wipe σ vs) is xs) :=
    ⟨Same.refl H, by simpa using S2, fun b hb => .inl (by simpa using g2 b (by simpa using hb))⟩
  refine ⟨_, L2, _, _, _, S2, hw, fun b L3 e3 H3 h3 st3 => ?_, fun ex cls d L' env' H' hx _ _ => hx.elim⟩
  have st13 := Step.then stA (st3.wider fun b hb => by simpa using hb)
  cases b with
  | false => exact hn H3 h3 (A.skip st13)
  | true =>
    refine ⟨e3, L3, _, _, _, st3.sim0, h3, fun r y l L4 e4 H4 ⟨hk, h4⟩ st4 hr => ?_, fun ex cls d L' env' H' h4 st4 he => hx ex cls d H' h4 ((A.same.trans st13.same).trans st4.same) he⟩
    have st14 := Step.then st13 (st4.wider fun b hb => by simpa using hb)
    obtain ⟨h5, lk', A5⟩ := A.add S st14 hr hk
    exact ⟨acc, h5, line_big hz, hy y r.d lk' _ h4 A5⟩
theorem out_of_block {Ls : List (List Addr)} {l : List Addr} {Hs : Hp} {e1 : VEnv} {Xw : Exn → VEnv → Prop} (kx : KontX c σ Ls Tm Hs Xw W) (st : Step c Hs H1 (Ls.flatten ++ Tm) Tm L l e1 σ) :
    ∀ ex cls d H', Xw ex e1 → Same H1 H' → ExR c H' ex cls d → W cls d σ H' := fun ex cls d H' hx sm he =>
  kx.step st ex cls d L e1 H' hx (Step.news st.sim sm List.nodup_nil (fun _ hb => nomatch hb)) he
end
section
variable {X : Cx} {c : Cn} {W : WX} {we wl : WE} {tt : WT} {g : Tg} {vs : List Nat}
end
section
variable {X : Cx} {c : Cn} {W : WX} {we wl : WE} {tt : WT} {tg iter elt : Expr} {ifs : List Expr} {scope : Scope} {pos : Pos}
end
section
variable {α β γ τ : Type} {G : EG} {env env1 env2 : VEnv} {m1 m2 md : Md} {a : Enc α} {b : Enc β} {c : Enc γ} {wa wb : WE}
@[irreducible] def mapE (f : α → Out β) (xs : List α) : Out (List β) := if xs.length ≤ 1000000 then mapO f xs else .stuck
theorem lcE_turns {wl : WE} {km : Option Nat} {ent : α → VEnv} {F : α → Out γ} {Xe : Exn → Prop} {X : Exn → Prop} (hX : ∀ x, Xe x → X x)
    (hf : ∀ x, ∃ e', RE (fun _ => True) wl (ent x) e' md c (F x)) (hk : KidE c md km) {Q : List γ → Prop} :
    ∀ (xs : List α), Sat (mapO F xs) Q Xe → ∃ J : Nat → List D → Prop, J 0 [] ∧
      (∀ k x acc, xs[k]? = some x → J k acc → acc.length ≤ k ∧ wTurnE wYes wl km (ent x) (fun y => J (k + 1) (acc ++ [y])) (J (k + 1) acc) X) ∧ ∀ acc, J xs.length acc → ∃ zs : List γ, acc = zs.map c ∧ Q zs := by
  intro xs hs
  refine ⟨fun k acc => ∃ zs : List γ, acc = zs.map c ∧ zs.length ≤ k ∧ Sat (mapO F (xs.drop k)) (fun r => Q (zs ++ r)) Xe, ⟨[], rfl, Nat.le_refl _, by simpa using hs⟩, fun k x acc hx hJ => ?_, fun acc hJ => ?_⟩
  · obtain ⟨zs, rfl, hl, hs⟩ := hJ
    refine ⟨by simpa using hl, ?_⟩
    have hd : xs.drop k = x :: xs.drop (k + 1) := by
      obtain ⟨h1, h2⟩ := List.getElem?_eq_some_iff.mp hx
      rw [← h2]; exact List.drop_eq_getElem_cons h1
    rw [hd] at hs
    unfold mapO at hs
    have hs := sat_bind.mp hs
    unfold wTurnE wYes
    dsimp only
    rw [if_pos rfl]
    obtain ⟨e', hf⟩ := hf x
    refine hf _ _ Xe (fun ex _ _ h => hX ex h) (hs.imp fun y hs => ⟨hk y, zs ++ [y], by simp, by simp; omega, ?_⟩)
    refine (sat_bind.mp hs).imp fun r hs => ?_
    rw [List.append_assoc]; exact hs
  · obtain ⟨zs, rfl, _, hs⟩ := hJ
    rw [List.drop_length] at hs
    exact ⟨zs, rfl, by simpa [mapO] using hs⟩
end
end VL
set_option maxRecDepth 100000
set_option maxHeartbeats 4000000
namespace VL
open PySem PySem.Spec PyProof.Rows L2
open PySem.Sem (wp)
section
variable {prog : Program} {w : World} {A : Around} {E : Value → Shared → Prop} {s : Shared}
theorem zipM_next_item {zz tI tO p1 p2 c1_ c2_ : Addr} {n1 n2 : Nat} {as_ bs_ : Array Value} {x y a b : Value} {Q : Value → Shared → Prop} (Dj : ZipApart zz tI tO p1 p2 c1_ c2_)
    (oz : IsZip s.heap zz tI tO .none) (oI : IsPair s.heap tI (.ref p1) (.ref p2)) (oO : IsPair s.heap tO a b)
    (q1 : s.heap.IsTupleIter p1 c1_ n1) (q2 : s.heap.IsListIter p2 c2_ n2) (s1_ : s.heap.IsTuple c1_ as_) (s2_ : s.heap.IsList c2_ bs_) (ex : as_[n1]? = some x) (ey : bs_[n2]? = some y)
    (kQ : ∀ h', IsZip h' zz tI tO (rawInt s.heap.objs.size) → IsPair h' tO x y → h'.IsTupleIter p1 c1_ (n1 + 1) → h'.IsListIter p2 c2_ (n2 + 1) → IsPair h' s.heap.objs.size x y → h'.objs.size = s.heap.objs.size + 1 →
      (∀ c o, c ≠ zz → c ≠ tO → c ≠ p1 → c ≠ p2 → s.heap.get? c = some o → h'.get? c = some o) → Q (.ref s.heap.objs.size) { s with heap := h' }) :
    wpAny (model prog w) A (Builtin.«zip.__next__» ⟨[.ref zz], []⟩) (fun fin s' => ∃ v, fin = .done (.ret v) ∧ Q v s') E s := by
  show wpAny _ _ (field (.ref zz) 2 >>= _) _ _ _
  refine wpAny_bind (wpAny_field oz rfl (x := .bool false) rfl ?_)
  show wpAny _ _ (field (.ref zz) 3 >>= _) _ _ _
  refine wpAny_bind (wpAny_field oz rfl (x := .ref tI) rfl ?_)
  refine wpAny_bind (wpAny_seqItems oI rfl ?_)
  show wpAny _ _ (Builtin.SmallTypes.ownedTupleIsFree (.ref zz) >>= _) _ _ _
  refine wpAny_bind ?_
  unfold Builtin.SmallTypes.ownedTupleIsFree
  refine wpAny_bind (wpAny_field oz rfl (x := .none) rfl (wpAny_pure ?_))
  simp only [if_true]
  refine wpAny_bind (wpAny_rule ?_)
  refine wpAny_bind (wpAny_field oz rfl (x := .ref tO) rfl ?_)
  refine wpAny_bind (wpAny_setField_rec oz (by simp) fun g1 oz1 w1 => ?_)
  replace oz1 : IsZip g1 zz tI tO .ellipsis := oz1
  refine wpAny_bind ?_
  simp only [List.zipIdx_cons, List.zipIdx_nil, List.forIn_cons, List.forIn_nil]
  refine wpAny_bind (wpAny_bind (wpAny_onRaise ?_))
  show wpAny _ _ (Builtin.SmallTypes.nextOf (.ref p1) >>= _) _ _ _
  refine wpAny_bind (RZ.nextOf_tuple_item (q1.extBut w1.extBut Dj.i1z) (s1_.extBut w1.extBut Dj.l1z) ex fun g2 q12 w2 => wpAny_pure ?_)
  have oO2 : IsPair g2 tO a b := w2.extBut _ _ Dj.TOi1 (w1.extBut _ _ Dj.TOz oO)
  refine wpAny_bind (wpAny_seqItems oO2 rfl ?_)
  refine wpAny_bind (wpAny_updateSeq_pair oO2 fun g3 oO3 w3 => ?_)
  replace oO3 : IsPair g3 tO x b := oO3
  refine wpAny_bind (wpAny_letGo (wpAny_pure ?_))
  refine wpAny_bind (wpAny_bind (wpAny_onRaise ?_))
  show wpAny _ _ (Builtin.SmallTypes.nextOf (.ref p2) >>= _) _ _ _
  refine wpAny_bind (wpAny_nextOf_list_item (((q2.extBut w1.extBut Dj.i2z).extBut w2.extBut Dj.i12.symm).extBut w3.extBut Dj.TOi2.symm)
    (((s2_.extBut w1.extBut Dj.l2z).extBut w2.extBut Dj.l2i1).extBut w3.extBut Dj.l2TO) ey fun g4 q24 w4 => wpAny_pure ?_)
  have oO4 : IsPair g4 tO x b := w4.extBut _ _ Dj.TOi2 oO3
  refine wpAny_bind (wpAny_seqItems oO4 rfl ?_)
  refine wpAny_bind (wpAny_updateSeq_pair oO4 fun g5 oO5 w5 => ?_)
  replace oO5 : IsPair g5 tO x y := oO5
  refine wpAny_bind (wpAny_letGo (wpAny_pure (wpAny_pure ?_)))
  refine wpAny_bind (wpAny_seqItems oO5 rfl ?_)
  refine wpAny_bind (wpAny_newTuple ?_)
  have hsize : g5.objs.size = s.heap.objs.size := by rw [w5.1, w4.1, w3.1, w2.1, w1.1]
  have oz5 : IsZip g5 zz tI tO .ellipsis := w5.extBut _ _ Dj.TOz.symm (w4.extBut _ _ Dj.i2z.symm (w3.extBut _ _ Dj.TOz.symm (w2.extBut _ _ Dj.i1z.symm oz1)))
  have k5 : ∀ c o, c ≠ zz → c ≠ tO → c ≠ p1 → c ≠ p2 → s.heap.get? c = some o → g5.get? c = some o := fun c o c1 c2 c3 c4 e =>
    w5.extBut _ _ c2 (w4.extBut _ _ c4 (w3.extBut _ _ c2 (w2.extBut _ _ c3 (w1.extBut _ _ c1 e))))
  have q15 : g5.IsTupleIter p1 c1_ (n1 + 1) := ((q12.extBut w3.extBut Dj.TOi1.symm).extBut w4.extBut Dj.i12).extBut w5.extBut Dj.TOi1.symm
  have q25 : g5.IsListIter p2 c2_ (n2 + 1) := q24.extBut w5.extBut Dj.TOi2.symm
  have lz : zz < g5.objs.size := Heap.lt_size oz5
  have lO : tO < g5.objs.size := Heap.lt_size oO5
  have li1 : p1 < g5.objs.size := by obtain ⟨_, e, _⟩ := q15; exact Heap.lt_size e
  have li2 : p2 < g5.objs.size := by obtain ⟨_, e, _⟩ := q25; exact Heap.lt_size e
  show wpAny _ _ (Builtin.SmallTypes.ownedTupleHandOut (.ref zz) (.ref g5.objs.size) >>= _) _ _ _
  refine wpAny_bind ?_
  unfold Builtin.SmallTypes.ownedTupleHandOut
  have oz6 : IsZip (g5.push { cls := .type "tuple", data := .seq #[x, y] }) zz tI tO .ellipsis := Heap.get?_push_of_some _ oz5
  refine wpAny_bind (wpAny_setField_rec oz6 (by simp) fun g7 oz7 w7 => ?_)
  replace oz7 : IsZip g7 zz tI tO (rawInt g5.objs.size) := oz7
  refine wpAny_setField_rec oz7 (by simp) fun g8 oz8 w8 => ?_
  replace oz8 : IsZip g8 zz tI tO (rawInt g5.objs.size) := oz8
  have upp : ∀ c o, c ≠ zz → g5.get? c = some o → g8.get? c = some o := fun c o c1 e => w8.extBut _ _ c1 (w7.extBut _ _ c1 (Heap.get?_push_of_some _ e))
  have oT8 : IsPair g8 g5.objs.size x y := w8.extBut _ _ (Nat.ne_of_gt lz) (w7.extBut _ _ (Nat.ne_of_gt lz) (Heap.get?_push_size _ rfl))
  have hz8 : g8.objs.size = g5.objs.size + 1 := by rw [w8.1, w7.1, Heap.size_push]
  rw [hsize] at oz8 oT8 hz8
  refine wpAny_pure ⟨_, rfl, ?_⟩
  show Q (.ref g5.objs.size) _
  rw [hsize]
  exact kQ g8 oz8 (upp _ _ Dj.TOz oO5) (q15.at fun o e => upp _ o Dj.i1z e) (q25.at fun o e => upp _ o Dj.i2z e) oT8 hz8 fun c o c1 c2 c3 c4 e => upp c o c1 (k5 c o c1 c2 c3 c4 e)
theorem zipM_next_end {zz tI tO p1 p2 c1_ c2_ : Addr} {n1 n2 : Nat} {as_ bs_ : Array Value} {a b : Value} {Q : Fin → Shared → Prop} (hnd : A.handled = none) (Dj : ZipApart zz tI tO p1 p2 c1_ c2_)
    (oz : IsZip s.heap zz tI tO .none) (oI : IsPair s.heap tI (.ref p1) (.ref p2)) (oO : IsPair s.heap tO a b)
    (q1 : s.heap.IsTupleIter p1 c1_ n1) (q2 : s.heap.IsListIter p2 c2_ n2) (s1_ : s.heap.IsTuple c1_ as_) (s2_ : s.heap.IsList c2_ bs_) (fin_ : as_[n1]? = none ∨ bs_[n2]? = none)
    (kE : ∀ h' e, (∀ c o, c ≠ zz → c ≠ tO → c ≠ p1 → c ≠ p2 → s.heap.get? c = some o → h'.get? c = some o) → (∃ o, h'.get? e = some o ∧ o.cls = .type "StopIteration") → E (.ref e) { s with heap := h' }) :
    wpAny (model prog w) A (Builtin.«zip.__next__» ⟨[.ref zz], []⟩) Q E s := by
  show wpAny _ _ (field (.ref zz) 2 >>= _) _ _ _
  refine wpAny_bind (wpAny_field oz rfl (x := .bool false) rfl ?_)
  show wpAny _ _ (field (.ref zz) 3 >>= _) _ _ _
  refine wpAny_bind (wpAny_field oz rfl (x := .ref tI) rfl ?_)
  refine wpAny_bind (wpAny_seqItems oI rfl ?_)
  show wpAny _ _ (Builtin.SmallTypes.ownedTupleIsFree (.ref zz) >>= _) _ _ _
  refine wpAny_bind ?_
  unfold Builtin.SmallTypes.ownedTupleIsFree
  refine wpAny_bind (wpAny_field oz rfl (x := .none) rfl (wpAny_pure ?_))
  simp only [if_true]
  refine wpAny_bind (wpAny_rule ?_)
  refine wpAny_bind (wpAny_field oz rfl (x := .ref tO) rfl ?_)
  refine wpAny_bind (wpAny_setField_rec oz (by simp) fun g1 oz1 w1 => ?_)
  replace oz1 : IsZip g1 zz tI tO .ellipsis := oz1
  refine wpAny_bind ?_
  simp only [List.zipIdx_cons, List.zipIdx_nil, List.forIn_cons, List.forIn_nil]
  refine wpAny_bind (wpAny_bind (wpAny_onRaise ?_))
  show wpAny _ _ (Builtin.SmallTypes.nextOf (.ref p1) >>= _) _ _ _
  cases ex : as_[n1]? with
  | none =>
    refine wpAny_bind (RZ.nextOf_tuple_end hnd (q1.extBut w1.extBut Dj.i1z) (s1_.extBut w1.extBut Dj.l1z) ex fun g2 e w2 eo => ?_)
    obtain ⟨oe_, goe, cce⟩ := eo
    have oz2 : IsZip g2 zz tI tO .ellipsis := w2 _ _ Dj.i1z.symm oz1
    have nez : e ≠ zz := fun x => by subst x; rw [oz2] at goe; cases goe; simp at cce
    refine wpAny_setField_rec oz2 (by simp) fun g3 _ w3 => kE g3 e (fun c o c1 _ c3 _ x => w3.extBut _ _ c1 (w2 _ _ c3 (w1.extBut _ _ c1 x))) ⟨oe_, w3.extBut _ _ nez goe, cce⟩
  | some x =>
    have ey : bs_[n2]? = none := by rcases fin_ with h | h; rw [ex] at h; cases h; exact h
    refine wpAny_bind (RZ.nextOf_tuple_item (q1.extBut w1.extBut Dj.i1z) (s1_.extBut w1.extBut Dj.l1z) ex fun g2 q12 w2 => wpAny_pure ?_)
    have oO2 : IsPair g2 tO a b := w2.extBut _ _ Dj.TOi1 (w1.extBut _ _ Dj.TOz oO)
    refine wpAny_bind (wpAny_seqItems oO2 rfl ?_)
    refine wpAny_bind (wpAny_updateSeq_pair oO2 fun g3 oO3 w3 => ?_)
    refine wpAny_bind (wpAny_letGo (wpAny_pure ?_))
    refine wpAny_bind (wpAny_bind (wpAny_onRaise ?_))
    show wpAny _ _ (Builtin.SmallTypes.nextOf (.ref p2) >>= _) _ _ _
    refine wpAny_bind (wpAny_nextOf_list_end hnd (((q2.extBut w1.extBut Dj.i2z).extBut w2.extBut Dj.i12.symm).extBut w3.extBut Dj.TOi2.symm)
      (((s2_.extBut w1.extBut Dj.l2z).extBut w2.extBut Dj.l2i1).extBut w3.extBut Dj.l2TO) ey fun g4 e w4 eo => ?_)
    obtain ⟨oe_, goe, cce⟩ := eo
    have oz4 : IsZip g4 zz tI tO .ellipsis := w4 _ _ Dj.i2z.symm (w3.extBut _ _ Dj.TOz.symm (w2.extBut _ _ Dj.i1z.symm oz1))
    have nez : e ≠ zz := fun x => by subst x; rw [oz4] at goe; cases goe; simp at cce
    refine wpAny_setField_rec oz4 (by simp) fun g5 _ w5 => kE g5 e (fun c o c1 c2 c3 c4 x => w5.extBut _ _ c1 (w4 _ _ c4 (w3.extBut _ _ c2 (w2.extBut _ _ c3 (w1.extBut _ _ c1 x))))) ⟨oe_, w5.extBut _ _ nez goe, cce⟩
theorem pyNext_zipM_item {zz tI tO p1 p2 c1_ c2_ : Addr} {n1 n2 : Nat} {as_ bs_ : Array Value} {x y a b : Value} {Q : Option Value → Shared → Prop} (Dj : ZipApart zz tI tO p1 p2 c1_ c2_)
    (oz : IsZip s.heap zz tI tO .none) (oI : IsPair s.heap tI (.ref p1) (.ref p2)) (oO : IsPair s.heap tO a b)
    (q1 : s.heap.IsTupleIter p1 c1_ n1) (q2 : s.heap.IsListIter p2 c2_ n2) (s1_ : s.heap.IsTuple c1_ as_) (s2_ : s.heap.IsList c2_ bs_) (ex : as_[n1]? = some x) (ey : bs_[n2]? = some y)
    (kQ : ∀ h', IsZip h' zz tI tO (rawInt s.heap.objs.size) → IsPair h' tO x y → h'.IsTupleIter p1 c1_ (n1 + 1) → h'.IsListIter p2 c2_ (n2 + 1) → IsPair h' s.heap.objs.size x y → h'.objs.size = s.heap.objs.size + 1 →
      (∀ c o, c ≠ zz → c ≠ tO → c ≠ p1 → c ≠ p2 → s.heap.get? c = some o → h'.get? c = some o) → Q (some (.ref s.heap.objs.size)) { s with heap := h' }) :
    wpAny (model prog w) A (pyNext (.ref zz)) Q E s := by
  have oT : s.TypeIs (.ref zz) "zip" := ⟨_, oz, rfl⟩
  unfold pyNext
  exact wpAny_bind (wpAny_attempt (wpAny_callSpecial?_slot (name := Str.ofString "__next__") oT F.slot_zip_next
    (wpAny_call_entry F.slot_zip_next oT F.entry_zip_next
      (zipM_next_item Dj oz oI oO q1 q2 s1_ s2_ ex ey fun h' b1_ a2 a3 a4 a5 a6 a7 => wpAny_pure (kQ h' b1_ a2 a3 a4 a5 a6 a7)) (F.args_zip_next_1 _))))
theorem pyNext_zipM_end {zz tI tO p1 p2 c1_ c2_ : Addr} {n1 n2 : Nat} {as_ bs_ : Array Value} {a b : Value} {Q : Option Value → Shared → Prop} (hnd : A.handled = none) (Dj : ZipApart zz tI tO p1 p2 c1_ c2_)
    (oz : IsZip s.heap zz tI tO .none) (oI : IsPair s.heap tI (.ref p1) (.ref p2)) (oO : IsPair s.heap tO a b)
    (q1 : s.heap.IsTupleIter p1 c1_ n1) (q2 : s.heap.IsListIter p2 c2_ n2) (s1_ : s.heap.IsTuple c1_ as_) (s2_ : s.heap.IsList c2_ bs_) (fin_ : as_[n1]? = none ∨ bs_[n2]? = none)
    (kQ : ∀ h', (∀ c o, c ≠ zz → c ≠ tO → c ≠ p1 → c ≠ p2 → s.heap.get? c = some o → h'.get? c = some o) → Q none { s with heap := h' }) : wpAny (model prog w) A (pyNext (.ref zz)) Q E s := by
  have oT : s.TypeIs (.ref zz) "zip" := ⟨_, oz, rfl⟩
  unfold pyNext
  refine wpAny_bind (wpAny_attempt (wpAny_callSpecial?_slot (name := Str.ofString "__next__") oT F.slot_zip_next
    (wpAny_call_entry F.slot_zip_next oT F.entry_zip_next (zipM_next_end hnd Dj oz oI oO q1 q2 s1_ s2_ fin_ fun h' e hk eo => ?_) (F.args_zip_next_1 _))))
  obtain ⟨o, ho, hc⟩ := eo
  refine wpAny_bind (wpAny_isInstance (T := "StopIteration") (b := true) ⟨o, ho, hc⟩ isSubtype_stop ?_)
  exact wpAny_pure (kQ _ hk)
end
abbrev zipMH1 (h : Heap) (c1_ : Addr) : Heap := h.push { cls := .type "tuple_iterator", data := .fields #[.ref c1_, .int 0 0] }
abbrev zipMH2 (h : Heap) (c1_ c2_ : Addr) : Heap := (zipMH1 h c1_).push { cls := .type "list_iterator", data := .fields #[.ref c2_, .int 0 0] }
abbrev zipMH3 (h : Heap) (c1_ c2_ : Addr) : Heap := (zipMH2 h c1_ c2_).push { cls := .type "tuple", data := .seq #[.ref h.objs.size, .ref (zipMH1 h c1_).objs.size] }
abbrev zipMH4 (h : Heap) (c1_ c2_ : Addr) : Heap := (zipMH3 h c1_ c2_).push { cls := .type "tuple", data := .seq #[.none, .none] }
abbrev zipMH5 (h : Heap) (c1_ c2_ : Addr) : Heap := (zipMH4 h c1_ c2_).push { cls := .type "zip", data := .fields #[.none, .bool false, .bool false, .ref (zipMH2 h c1_ c2_).objs.size, .ref (zipMH3 h c1_ c2_).objs.size] }
theorem meets_zipM_new (c1_ c2_ : Addr) (as_ bs_ : Array Value) :
    Meets (Builtin.«zip.__new__» ⟨[.type "zip", .ref c1_, .ref c2_], []⟩) (fun _ R s => s.heap.IsTuple c1_ as_ ∧ s.heap.IsList c2_ bs_ ∧
      R (.ok (.ret (.ref (zipMH4 s.heap c1_ c2_).objs.size))) { s with heap := zipMH5 s.heap c1_ c2_ }) :=
  .of_wp fun prog w A R s h => by
    obtain ⟨hp, g, d, tk, os⟩ := s; obtain ⟨s1_, s2_, h⟩ := h
    have hsub := sub_zip
    have sL1 : Heap.IsTuple (Shared.heap ⟨hp, g, d, tk, os⟩) c1_ as_ := s1_
    have sL2 : Heap.IsList (Shared.heap ⟨hp.push { cls := .type "tuple_iterator", data := .fields #[.ref c1_, .int 0 0] }, g, d, tk, os⟩) c2_ bs_ := Heap.IsList.push s2_ _
    wp_walk using wpAny_pyIter_tuple sL1, wpAny_pyIter_list sL2
    exact ⟨_, rfl, h⟩
section
variable {prog : Program} {w : World} {A : Around} {E : Value → Shared → Prop} {s : Shared}
theorem call_zipM {c1_ c2_ : Addr} {as_ bs_ : Array Value} {Q : Value → Shared → Prop} (s1_ : s.heap.IsTuple c1_ as_) (s2_ : s.heap.IsList c2_ bs_)
    (h : ∀ h', IsZip h' (s.heap.objs.size + 4) (s.heap.objs.size + 2) (s.heap.objs.size + 3) .none → IsPair h' (s.heap.objs.size + 2) (.ref s.heap.objs.size) (.ref (s.heap.objs.size + 1)) →
      IsPair h' (s.heap.objs.size + 3) .none .none → h'.IsTupleIter s.heap.objs.size c1_ 0 → h'.IsListIter (s.heap.objs.size + 1) c2_ 0 → h'.objs.size = s.heap.objs.size + 5 →
      (∀ c o, s.heap.get? c = some o → h'.get? c = some o) → Q (.ref (s.heap.objs.size + 4)) { s with heap := h' }) :
    wpAny (model prog w) A (call (.type "zip") [.ref c1_, .ref c2_]) Q E s := by
  refine callType_new F.called_zip (by decide) (F.typeCall_zip_2 _ _) (F.newCall_zip_2 _ _) (fun obj => F.args_object_init_3 obj _ _) F.entry_zip_new
    (meets_zipM_new c1_ c2_ as_ bs_) ⟨s1_, s2_, ?_⟩
  have z1 : (zipMH1 s.heap c1_).objs.size = s.heap.objs.size + 1 := Heap.size_push ..
  have z2 : (zipMH2 s.heap c1_ c2_).objs.size = s.heap.objs.size + 2 := by rw [Heap.size_push, z1]
  have z3 : (zipMH3 s.heap c1_ c2_).objs.size = s.heap.objs.size + 3 := by rw [Heap.size_push, z2]
  have z4 : (zipMH4 s.heap c1_ c2_).objs.size = s.heap.objs.size + 4 := by rw [Heap.size_push, z3]
  have z5 : (zipMH5 s.heap c1_ c2_).objs.size = s.heap.objs.size + 5 := by rw [Heap.size_push, z4]
  have g5 : (zipMH5 s.heap c1_ c2_).get? (zipMH4 s.heap c1_ c2_).objs.size = some _ := Heap.get?_push_size _ rfl
  have g4 : (zipMH5 s.heap c1_ c2_).get? (zipMH3 s.heap c1_ c2_).objs.size = some _ := Heap.get?_push_of_some _ (Heap.get?_push_size _ rfl)
  have g3 : (zipMH5 s.heap c1_ c2_).get? (zipMH2 s.heap c1_ c2_).objs.size = some _ := Heap.get?_push_of_some _ (Heap.get?_push_of_some _ (Heap.get?_push_size _ rfl))
  have g2 : (zipMH5 s.heap c1_ c2_).get? (zipMH1 s.heap c1_).objs.size = some _ := Heap.get?_push_of_some _ (Heap.get?_push_of_some _ (Heap.get?_push_of_some _ (Heap.get?_push_size _ rfl)))
  have g1 : (zipMH5 s.heap c1_ c2_).get? s.heap.objs.size = some _ := Heap.get?_push_of_some _ (Heap.get?_push_of_some _ (Heap.get?_push_of_some _ (Heap.get?_push_of_some _ (Heap.get?_push_size _ rfl))))
  show _ ∧ _
  rw [z2, z3, z4] at g5
  rw [z1, z2] at g3
  rw [z3] at g4
  rw [z1] at g2
  rw [z4]
  exact ⟨⟨_, g5, rfl⟩, h _ g5 g3 g4 ⟨_, g1, rfl, rfl⟩ ⟨_, g2, rfl, rfl⟩ z5 fun c o x =>
    Heap.get?_push_of_some _ (Heap.get?_push_of_some _ (Heap.get?_push_of_some _ (Heap.get?_push_of_some _ (Heap.get?_push_of_some _ x))))⟩
end
def ItzM (K : PySem.W.Frag) (a b : Addr) : It :=
  ⟨fun n H => ∃ (xs ys : List V) (x y : V), SqT K H a xs ∧ SqL K H b ys ∧ xs[n]? = some x ∧ ys[n]? = some y,
    fun n H v H' => ∃ T x y, v = .ref T ∧ H T = none ∧ H' = upd H T (.tup [x, y]) ∧ (∀ xs, SqT K H a xs → xs[n]? = some x) ∧ ∀ ys, SqL K H b ys → ys[n]? = some y,
    fun n H => ∃ xs ys : List V, SqT K H a xs ∧ SqL K H b ys ∧ (xs.length ≤ n ∨ ys.length ≤ n)⟩
theorem turn_zipM {P : Program} {w : World} {K : PySem.W.Frag} {es_ : List Expr} {kn : Nat} {tp_ : Pos} {a b zz tI tO j1 j2 : Addr} (Dj : ZipApart zz tI tO j1 j2 a b) :
    Turn P w K (.Tuple es_ kn tp_) (ItzM K a b) [zz, tI, tO, j1, j2] zz (fun n h => IsZip h zz tI tO .none ∧ IsPair h tI (.ref j1) (.ref j2) ∧ (∃ x y, IsPair h tO x y) ∧ h.IsTupleIter j1 a n ∧ h.IsListIter j2 b n) where
  mem := by simp
  obj := fun n h st_ c cm => by
    obtain ⟨oz, oI, ⟨x, y, oO⟩, ⟨o1, e1, _, d1⟩, ⟨o2, e2, _, d2⟩⟩ := st_
    have e' : c = zz ∨ c = tI ∨ c = tO ∨ c = j1 ∨ c = j2 := by simpa using cm
    rcases e' with qz | qz | qz | qz | qz
    · rw [qz]; exact ⟨_, oz, fun v qz => nomatch qz⟩
    · rw [qz]; exact ⟨_, oI, fun v qz => nomatch qz⟩
    · rw [qz]; exact ⟨_, oO, fun v qz => nomatch qz⟩
    · rw [qz]; exact ⟨o1, e1, fun v qz => by rw [d1] at qz; cases qz⟩
    · rw [qz]; exact ⟨o2, e2, fun v qz => by rw [d2] at qz; cases qz⟩
  keep := fun n h h' st_ k => by
    obtain ⟨oz, oI, ⟨x, y, oO⟩, q1_, q2_⟩ := st_
    exact ⟨k zz (by simp) _ oz, k tI (by simp) _ oI, ⟨x, y, k tO (by simp) _ oO⟩, q1_.at fun o qz => k j1 (by simp) o qz, q2_.at fun o qz => k j2 (by simp) o qz⟩
  item := by
    intro X eP eW eK cm n pn sh σ H Er Iv fo st_ gg
    subst eP eW eK
    obtain ⟨oz, oI, ⟨x0, y0, oO⟩, q1_, q2_⟩ := st_
    obtain ⟨xs, ys, x, y, sx, sy, ex, ey⟩ := gg
    obtain ⟨us_, r1_, pl, _⟩ := Iv.tuple sx
    obtain ⟨ws_, r2_, pl2, _⟩ := Iv.list sy
    obtain ⟨u, eu, ru1⟩ := r1_.get ex
    obtain ⟨u2, eu2, ru3⟩ := r2_.get ey
    have lz_ : zz < sh.heap.objs.size := Heap.lt_size oz
    refine pyNext_zipM_item Dj oz oI oO q1_ q2_ pl pl2.isList (x := u) (y := u2) (by simpa using eu) (by simpa using eu2) fun h' z' TO' h1' h2' hT hsz hk => ?_
    refine ⟨_, rfl, wpAny_letOwnedTupleGo_zip (s := { sh with heap := h' }) z' fun h'' z'' sb => ?_⟩
    have hT2 : h''.get? sh.heap.objs.size = some { cls := .type "tuple", data := .seq #[u, u2] } := (sb.2 _ (Nat.ne_of_gt lz_)).trans hT
    have nw : ObjOk X.prog X.w (upd H sh.heap.objs.size (.tup [x, y])) h'' sh.heap.objs.size (.tup [x, y]) :=
      ⟨by show 2 ≤ sizeLine; decide, [u, u2], .cons ru1 (.cons ru3 .nil), ⟨_, hT2, rfl, _, rfl⟩⟩
    have Iv1 : Inv X pn σ (upd H sh.heap.objs.size (.tup [x, y])) { sh with heap := h'' } :=
      Iv.turnedNew (t' := sh.toks) (ch := [zz, tI, tO, j1, j2]) (fun c o hb qz => (sb.2 c (fun q' => hb (by simp [q']))).trans (hk c o (fun q' => hb (by simp [q'])) (fun q' => hb (by simp [q'])) (fun q' => hb (by simp [q'])) (fun q' => hb (by simp [q'])) qz)) fo (Nat.le_refl _) nw
    refine ⟨.ref sh.heap.objs.size, _, Iv1, rfl, ⟨_, x, y, rfl, Iv.hok.fresh (Nat.le_refl _), rfl, fun l hl => by rw [Iv.tuple_inj hl sx]; exact ex, fun l hl => by rw [Iv.list_inj hl sy]; exact ey⟩, ⟨z'', ?_, ⟨u, u2, ?_⟩, ?_, ?_⟩, fun c mem_ => ?_⟩
    · exact (sb.2 _ Dj.TIz).trans (hk _ _ Dj.TIz Dj.TITO Dj.TIi1 Dj.TIi2 oI)
    · exact (sb.2 _ Dj.TOz).trans TO'
    · exact h1'.at fun o qz => (sb.2 _ Dj.i1z).trans qz
    · exact h2'.at fun o qz => (sb.2 _ Dj.i2z).trans qz
    · have lt_ : c < sh.heap.objs.size := by
        have e' : c = zz ∨ c = tI ∨ c = tO ∨ c = j1 ∨ c = j2 := by simpa using mem_
        rcases e' with qz | qz | qz | qz | qz
        · rw [qz]; exact lz_
        · rw [qz]; exact Heap.lt_size oI
        · rw [qz]; exact Heap.lt_size oO
        · rw [qz]; obtain ⟨_, e1, _⟩ := q1_; exact Heap.lt_size e1
        · rw [qz]; obtain ⟨_, e2, _⟩ := q2_; exact Heap.lt_size e2
      rw [upd_ne (Nat.ne_of_lt lt_)]
      exact (fo c mem_).1
  done := by
    intro X eP eW eK cm n pn sh σ H Er Iv fo st_ gg
    subst eP eW eK
    obtain ⟨oz, oI, ⟨x0, y0, oO⟩, q1_, q2_⟩ := st_
    obtain ⟨xs, ys, sx, sy, fin_⟩ := gg
    obtain ⟨us_, r1_, pl, _⟩ := Iv.tuple sx
    obtain ⟨ws_, r2_, pl2, _⟩ := Iv.list sy
    have len1 := r1_.length
    have len2 := r2_.length
    have en_ : us_.toArray[n]? = none ∨ ws_.toArray[n]? = none := by
      rcases fin_ with qz | qz
      · exact .inl (by simp; omega)
      · exact .inr (by simp; omega)
    exact pyNext_zipM_end (Iv.ok.hd cm) Dj oz oI oO q1_ q2_ pl pl2.isList en_ fun h' hk => ⟨rfl, Iv.turnedL (t' := sh.toks) (ch := [zz, tI, tO, j1, j2]) (fun c o hb qz =>
      hk c o (fun q' => hb (by simp [q'])) (fun q' => hb (by simp [q'])) (fun q' => hb (by simp [q'])) (fun q' => hb (by simp [q'])) qz) fo⟩
  self := fun A n sh Q Er st_ h => wpAny_pyIter_zip st_.1 h
def iZipM (K : PySem.W.Frag) (ta : TA) : TI := fun σ H R => ta σ H fun vs H1 => ∃ a b xs ys, vs = [.ref a, .ref b] ∧ SqT K H1 a xs ∧ SqL K H1 b ys ∧ R (ItzM K a b) H1
theorem pi_zipM {X : Cx} {e e2 : Expr} {ta : TA} {p pos tpos : Pos} {elts : List Expr} {kk : Nat} (hg : Gl X "zip") (hm : X.mg "zip" = none) (ha : PA X [e, e2] ta)
    (hs : starEach [e, e2] X.env = (false, eval e X.env) :: starEach [e2] X.env := by rfl) (hpl : (backTo pos (starEach [e2] X.env)).any (·.1) = false := by rfl) :
    PI X (.Tuple elts kk tpos) (.Call (.Name "zip" p) [e, e2] [] pos) (iZipM X.K ta) := by
  refine ⟨fun pins s σ H R I h => ?_⟩
  refine Call_ (ld_blt I hg hm PyProof.Rows.boot_zip (PyProof.Rows.callWith_type1 (thn (ha.run pos pins s σ H _ I h) fun us s1 ⟨vs, H1, I1, r1, q1⟩ => ?_) hs hpl))
  obtain ⟨a, b, xs, ys, ex, q1⟩ := q1
  subst ex
  cases r1 with
  | cons r rr =>
    cases rr with
    | cons r' rr =>
      cases rr
      cases r
      cases r'
      have fresh5 : ∀ c, c ∈ [s1.heap.objs.size + 4, s1.heap.objs.size + 2, s1.heap.objs.size + 3, s1.heap.objs.size, s1.heap.objs.size + 1] → FpOk X pins H1 c := fun c hcm => by
        have e' : c = s1.heap.objs.size + 4 ∨ c = s1.heap.objs.size + 2 ∨ c = s1.heap.objs.size + 3 ∨ c = s1.heap.objs.size ∨ c = s1.heap.objs.size + 1 := by simpa using hcm
        have hle : s1.heap.objs.size ≤ c := by
          rcases e' with z | z | z | z | z
          · rw [z]; exact Nat.le_add_right _ _
          · rw [z]; exact Nat.le_add_right _ _
          · rw [z]; exact Nat.le_add_right _ _
          · rw [z]; exact Nat.le_refl _
          · rw [z]; exact Nat.le_add_right _ _
        exact I1.fpOk hle (I1.hok.fresh hle)
      obtain ⟨hqx, hqy, q⟩ := q1
      obtain ⟨its, rv, p1, _⟩ := I1.tuple hqx
      obtain ⟨its2, rv2, p2, _⟩ := I1.list hqy
      obtain ⟨o1, ho1, _⟩ := id p1
      refine call_zipM (show s1.heap.IsTuple a its.toArray from p1) p2.isList fun h' hz hTI hTO h1 h2 hsz hk => wpAny_pyIter_zip hz ?_
      have I2 : Inv X pins σ H1 { s1 with heap := h' } := I1.kept (t' := s1.toks) hk
      exact ⟨s1.heap.objs.size + 4, [s1.heap.objs.size + 4, s1.heap.objs.size + 2, s1.heap.objs.size + 3, s1.heap.objs.size, s1.heap.objs.size + 1], _, _, H1, rfl, I2, turn_zipM (PySem.W.ktu_apart s1.heap.objs.size a b (Heap.lt_size ho1) p2.lt), ⟨hz, hTI, ⟨_, _, hTO⟩, h1, h2⟩, fresh5, q⟩
end VL
set_option maxRecDepth 100000
set_option maxHeartbeats 4000000
namespace VL
open PySem PySem.Spec PyProof.Rows L2
def seqD : Bool → D → Option (List D)
  | true, .tuple ds => some ds
  | true, .dict [(.list [.bool false], .tuple ds)] => some ds
  | false, .list ds => some ds
  | _, _ => none
theorem RS.wt_inv {K : PySem.W.Frag} {A : Addr → Prop} {H : Hp} {v : V} {ds : List D} (h : RS K A H v (.dict [(.list [.bool false], .tuple ds)])) : ∃ (a : Addr) (zs : List Str), v = .ref a ∧ ds = zs.map PyData.str ∧ WTup K a (zs.map V.str) := by
  generalize e : PyData.dict [(.list [.bool false], .tuple ds)] = d at h
  cases h with
  | wtp w =>
    simp only [wtD, PyData.dict.injEq, List.cons.injEq, Prod.mk.injEq, PyData.tuple.injEq, and_true, true_and] at e
    exact ⟨_, _, rfl, e, w⟩
  | opq _ => simp [opD] at e
  | scr _ => simp [scriptD] at e
  | ins _ _ _ _ _ => simp [insD] at e
  | dct hd _ ek _ => exact (script_inv hd ek e.symm).elim
  | _ => cases e
theorem RS.wtD_inv {K : PySem.W.Frag} {A : Addr → Prop} {H : Hp} {v : V} {zs : List Str} (h : RS K A H v (wtD zs)) : ∃ a, v = .ref a ∧ WTup K a (zs.map V.str) := by
  obtain ⟨a, ys, e1, e2, e3⟩ := RS.wt_inv h
  have : zs = ys := by
    clear e1 e3 h
    induction zs generalizing ys with
    | nil => cases ys with
      | nil => rfl
      | cons _ _ => simp at e2
    | cons z zs ih => cases ys with
      | nil => simp at e2
      | cons y ys => simp at e2; rw [e2.1, ih ys (by simpa using e2.2)]
  subst this
  exact ⟨a, e1, e3⟩
theorem seqD_inv {K : PySem.W.Frag} {A : Addr → Prop} {H : Hp} {v : V} {d : D} {ds : List D} {k : Bool} (h : RS K A H v d) (e : seqD k d = some ds) :
    ∃ a xs, v = .ref a ∧ (if k = true then SqT K H a xs else H a = some (.lst xs)) ∧ RSs K A H xs ds := by
  cases k with
  | true =>
    unfold seqD at e
    split at e
    · cases e
      obtain ⟨a, xs, e1, e2, e3⟩ := h.tup_inv
      exact ⟨a, xs, e1, by simpa using SqT.of e2, e3⟩
    · cases e
      obtain ⟨a, zs, e1, e2, e3⟩ := h.wt_inv
      subst e2
      refine ⟨a, _, e1, by simpa using e3.sq, ?_⟩
      clear e1 e3 h
      induction zs with
      | nil => exact .nil
      | cons z zs ih => exact .cons (.str z) ih
    · rename_i hk; cases hk
    · cases e
  | false =>
    cases d <;> simp [seqD] at e
    subst e
    obtain ⟨a, xs, e1, e2, _, e3⟩ := h.lst_inv
    exact ⟨a, xs, e1, by simpa using e2, e3⟩
structure WalkedZ (J : It) (xs ys : List V) (H : Hp) : Prop where
  go : ∀ i x y, xs[i]? = some x → ys[i]? = some y → J.go i H
  yld : ∀ i x y z H', xs[i]? = some x → ys[i]? = some y → J.yld i H z H' → ∃ T, z = .ref T ∧ H T = none ∧ H' = upd H T (.tup [x, y])
  stop : ∀ i, (xs.length ≤ i ∨ ys.length ≤ i) → J.stop i H
theorem walkedM {K : PySem.W.Frag} {a b : Addr} {xs ys : List V} {H : Hp} (ha : SqT K H a xs) (hb : SqL K H b ys) : WalkedZ (ItzM K a b) xs ys H :=
  ⟨fun i x y hx hy => ⟨xs, ys, x, y, ha, hb, hx, hy⟩, fun i x y z H' hx hy ⟨T, x', y', e1, e2, e3, e4, e5⟩ => by
    have ex : x' = x := Option.some.inj ((e4 xs ha).symm.trans hx)
    have ey : y' = y := Option.some.inj ((e5 ys hb).symm.trans hy)
    subst ex; subst ey
    exact ⟨T, e1, e2, e3⟩, fun i h => ⟨xs, ys, ha, hb, h⟩⟩
theorem walkedTT {K : PySem.W.Frag} {a b : Addr} {xs ys : List V} {H : Hp} (ha : SqT K H a xs) (hb : SqT K H b ys) : WalkedZ (RZ.ItzT K a b) xs ys H :=
  ⟨fun i x y hx hy => ⟨xs, ys, x, y, ha, hb, hx, hy⟩, fun i x y z H' hx hy ⟨T, x', y', e1, e2, e3, e4, e5⟩ => by
    have ex : x' = x := Option.some.inj ((e4 xs ha).symm.trans hx)
    have ey : y' = y := Option.some.inj ((e5 ys hb).symm.trans hy)
    subst ex; subst ey
    exact ⟨T, e1, e2, e3⟩, fun i h => ⟨xs, ys, ha, hb, h⟩⟩
def wLcZE (k1 k2 : Bool) (vs : List Nat) (g : Tg) (wa : WA) (wl : WE) : WE := fun env Q X => wa env (fun rs e => ∃ r r' ds es, rs = [r, r'] ∧ seqD k1 r.d = some ds ∧ seqD k2 r'.d = some es ∧ isB r.m = false ∧ isB r'.m = false ∧ min ds.length es.length ≤ 1000000 ∧ ∃ (km : Option Nat) (I : Nat → List D → Prop), I 0 [] ∧
  (∀ i d d' acc, ds[i]? = some d → es[i]? = some d' → I i acc → ∃ rs, g.f ⟨.tuple [d, d'], mS⟩ = some rs ∧ acc.length ≤ i ∧ wTurnE wYes wl km (putAll (wipeE (bEnv e) vs) g.is rs) (fun y => I (i + 1) (acc ++ [y])) (I (i + 1) acc) (fun ex => X ex e)) ∧
  (∀ acc, I (min ds.length es.length) acc → Q ⟨.list acc, .o (succM km)⟩ e)) X
section
variable {X : Cx} {c : Cn} {W : WX} {wl : WE} {wa : WA} {g : Tg} {vs : List Nat}
theorem Res.sharedAt {L1 : List (List Addr)} {Tm l la : List Addr} {e1 : VEnv} {σ : Sg} {H1 : Hp} {r : R} {v : V} (hr : Res c (L1.flatten ++ (Tm ++ la)) H1 r v l) (hm : isB r.m = false) (S : Sim c L1 (Tm ++ la) e1 σ H1) (hl : ∀ b ∈ l, b ∈ la) : RS c.K (AT c.B (L1.flatten ++ Tm)) H1 v r.d := by
  obtain ⟨d, m⟩ := r
  cases m with
  | b => cases hm
  | o m => exact Res.shared (la := la) (m := m) hr rfl S hl
theorem rd_zipE_core {K : PySem.W.Frag} {k1 k2 : Bool} {t : TG} {J : It} {r r' : R} {ds es : List D} {xs ys : List V} {Ls L1 : List (List Addr)} {Tm la : List Addr} {Hs H1 : Hp} {e1 : VEnv} {σ : Sg} {Qv : R → VEnv → Prop} {Q : VK} {Xw : Exn → VEnv → Prop} {km : Option Nat} {I : Nat → List D → Prop}
    (wk : ∀ H', Same H1 H' → WalkedZ J xs ys H') (hK : c.K = K) (run : RunTg K g t) (his : ∀ i ∈ g.is, i ∈ vs) (pf : PinF c vs) (st : Step c Hs H1 (Ls.flatten ++ Tm) Tm L1 la e1 σ) (k : Kont c σ Ls Tm Hs Qv Q) (kx : KontX c σ Ls Tm Hs Xw W)
    (rx0 : RSs c.K (AT c.B (L1.flatten ++ Tm)) H1 xs ds) (ry0 : RSs c.K (AT c.B (L1.flatten ++ Tm)) H1 ys es) (hlen : min ds.length es.length ≤ 1000000) (i0 : I 0 [])
    (step : ∀ i d d' acc, ds[i]? = some d → es[i]? = some d' → I i acc → ∃ rs, g.f ⟨.tuple [d, d'], mS⟩ = some rs ∧ acc.length ≤ i ∧ wTurnE wYes wl km (putAll (wipeE (bEnv e1) vs) g.is rs) (fun y => I (i + 1) (acc ++ [y])) (I (i + 1) acc) (fun ex => Xw ex e1))
    (last : ∀ acc, I (min ds.length es.length) acc → Qv ⟨.list acc, .o (succM km)⟩ e1) :
    ∀ Dn, H1 Dn = none → ∃ Wv : Nat → Nat → Hp → Prop, (∃ m, Wv 0 m (upd H1 Dn (.lst []))) ∧ ∀ i m H, Wv i m H →
        (J.stop i H ∧ Q (.ref Dn) H) ∨ (J.go i H ∧ ∃ Nx : Hp → Prop, (∀ H', Nx H' → ∃ m', m' < m ∧ Wv (i + 1) m' H') ∧ ∀ x H', J.yld i H x H' → t x (wipe σ vs) H' fun σ2 H2 => wipe σ2 vs = wipe σ vs ∧ rdT c W0 wYes σ2 H2 fun b H3 =>
          if b = true then rdE c (wishAt W σ) wl σ2 H3 fun y H4 => ∃ acc, H4 Dn = some (.lst acc) ∧ acc.length < sizeLine ∧ Nx (upd H4 Dn (.lst (acc ++ [y]))) else Nx H3) := by
  have S1 : Sim c L1 Tm e1 σ H1 := st.sim0
  have up : ∀ {H' : Hp} {K' : List Addr} {x : V} {d : D}, Same H1 H' → (∀ b ∈ K', H1 b = none) → RS c.K (AT c.B (L1.flatten ++ Tm)) H1 x d → RS c.K (AT c.B ((L1.map fun _ => ([] : List Addr)).flatten ++ (L1.flatten ++ (Tm ++ K')))) H' x d := fun sm hk h =>
    (h.mono fun b o a e => ⟨a.1, fun z => by
      rw [flatten_nils, List.nil_append, ← List.append_assoc] at z
      rcases List.mem_append.mp z with z | z
      · exact a.2 z
      · rw [hk b z] at e; cases e⟩).keep (Kp.same sm)
  intro Dn nD
  refine ⟨fun i m H => m = min ds.length es.length - i ∧ i ≤ min ds.length es.length ∧ ∃ acc accD lk, Acc c L1 Tm H1 Dn km acc accD lk H ∧ I i accD, ⟨min ds.length es.length, by simp, Nat.zero_le _, [], [], [], Acc.start S1 nD, i0⟩, ?_⟩
  rintro i m H2 ⟨rfl, hi, acc, accD, lk, A, ii⟩
  have wk2 := wk H2 A.same
  by_cases hlt : i < min ds.length es.length
  · obtain ⟨x, hx, rx⟩ := rx0.get (List.getElem?_eq_getElem (show i < ds.length by omega))
    obtain ⟨y, hy, ry⟩ := ry0.get (List.getElem?_eq_getElem (show i < es.length by omega))
    refine .inr ⟨wk2.go i x y hx hy, fun H' => ∃ acc accD lk, Acc c L1 Tm H1 Dn km acc accD lk H' ∧ I (i + 1) accD, fun H' ⟨acc, accD, lk, A, ii⟩ => ⟨min ds.length es.length - (i + 1), by omega, rfl, hlt, acc, accD, lk, A, ii⟩, fun z H' hz => ?_⟩
    obtain ⟨T, rfl, nT, rfl⟩ := wk2.yld i x y z H' hx hy hz
    obtain ⟨qs, hq, hle, hw⟩ := step i _ _ accD (List.getElem?_eq_getElem (show i < ds.length by omega)) (List.getElem?_eq_getElem (show i < es.length by omega)) ii
    have hsm : Same H2 (upd H2 T (.tup [x, y])) := same_new nT
    have A' := A.grow hsm
    have it : Res c ((L1.map fun _ => ([] : List Addr)).flatten ++ (L1.flatten ++ (Tm ++ (Dn :: lk)))) (upd H2 T (.tup [x, y])) ⟨.tuple [ds[i]'(by omega), es[i]'(by omega)], mS⟩ (.ref T) [] :=
      RO.sh (.tup upd_same (.cons (up A'.same (fun b hb => (A.new b hb).1) rx) (.cons (up A'.same (fun b hb => (A.new b hb).1) ry) .nil)))
    obtain ⟨ws, l', s, rr, hl', gg⟩ := run c _ _ _ _ _ qs hK it hq
    have el : l' = [] := List.sublist_nil.mp s
    subst el
    have la : acc.length = accD.length := A.kids.len
    exact turn_runE A' S1 his pf rr gg (by omega) hw (out_of_block kx st) (fun y d lk' H' hy A' => ⟨_, _, lk', A', hy⟩) fun H' hn A' => ⟨_, _, _, A', hn⟩
  · have e' : i = min ds.length es.length := by omega
    subst e'
    exact .inl ⟨wk2.stop _ (by rw [rx0.len, ry0.len]; omega), A.done st k (last accD ii)⟩
theorem rd_lcZEM {t : TG} (run : RunTg c.K g t) (his : ∀ i ∈ g.is, i ∈ vs) (pf : PinF c vs) {σ : Sg} {H : Hp} {Q : VK} (h : rdE c W (wLcZE true false vs g wa wl) σ H Q) : tLcE (iZipM c.K (rdA c W wa)) t (fun _ => rdT c W0 wYes) (fun W' => rdE c W' wl) W vs σ H Q := by
  obtain ⟨env, L, Tm, Qv, X, S, q, k, kx⟩ := h
  refine ⟨env, L, Tm, _, X, S, q, fun rs us l L1 e1 H1 ⟨r, r', ds, es, ers, hd, hd', hmb, hmb', hlen, km, I, i0, step, last⟩ st hrs => ?_, kx⟩
  subst ers
  obtain ⟨v, v', l1, l2, evs, el, hr, hrs'⟩ := ress2 hrs
  subst evs; subst el
  have sh := hr.sharedAt hmb st.sim fun b hb => List.mem_append_left _ hb
  have sh' := hrs'.sharedAt hmb' st.sim fun b hb => List.mem_append_right _ hb
  obtain ⟨a0, xs, rfl, ha0, rx0⟩ := seqD_inv sh hd
  obtain ⟨b0, ys, rfl, hb0, ry0⟩ := seqD_inv sh' hd'
  simp only [if_true, Bool.false_eq_true, if_false] at ha0 hb0
  exact ⟨a0, b0, xs, ys, rfl, ha0, SqL.of hb0, rd_zipE_core (k1 := true) (k2 := false) (r := r) (r' := r') (fun H' sm => walkedM (ha0.sm sm) (SqL.of (sm _ _ hb0))) rfl run his pf st k kx rx0 ry0 hlen i0 step last⟩
theorem rd_lcZET {t : TG} (run : RunTg c.K g t) (his : ∀ i ∈ g.is, i ∈ vs) (pf : PinF c vs) {σ : Sg} {H : Hp} {Q : VK} (h : rdE c W (wLcZE true true vs g wa wl) σ H Q) : tLcE (RZ.iZipA c.K (rdA c W wa)) t (fun _ => rdT c W0 wYes) (fun W' => rdE c W' wl) W vs σ H Q := by
  obtain ⟨env, L, Tm, Qv, X, S, q, k, kx⟩ := h
  refine ⟨env, L, Tm, _, X, S, q, fun rs us l L1 e1 H1 ⟨r, r', ds, es, ers, hd, hd', hmb, hmb', hlen, km, I, i0, step, last⟩ st hrs => ?_, kx⟩
  subst ers
  obtain ⟨v, v', l1, l2, evs, el, hr, hrs'⟩ := ress2 hrs
  subst evs; subst el
  have sh := hr.sharedAt hmb st.sim fun b hb => List.mem_append_left _ hb
  have sh' := hrs'.sharedAt hmb' st.sim fun b hb => List.mem_append_right _ hb
  obtain ⟨a0, xs, rfl, ha0, rx0⟩ := seqD_inv sh hd
  obtain ⟨b0, ys, rfl, hb0, ry0⟩ := seqD_inv sh' hd'
  simp only [if_true] at ha0 hb0
  exact ⟨a0, b0, xs, ys, rfl, .inr ⟨ha0, hb0, rd_zipE_core (k1 := true) (k2 := true) (r := r) (r' := r') (fun H' sm => walkedTT (ha0.sm sm) (hb0.sm sm)) rfl run his pf st k kx rx0 ry0 hlen i0 step last⟩⟩
end
section
variable {X : Cx} {c : Cn} {W : WX} {wl : WE} {wa : WA} {a b elt : Expr} {elts : List Expr} {kk : Nat} {tpos : Pos} {scope : Scope} {pos p cpos : Pos}
theorem ve_lcZEM {is : List Nat} (hc : X.calm = true) (hN : X.N.Nodup) (tk : Takes X W) (own : List (Str × Nat)) (hm : X.mg "zip" = none) (ha : PA X [a, b] (rdA c W wa)) (hg : BlkE X scope fun Y => PG Y (.Tuple elts kk tpos) (gTup X.K is.length (gAll is))) (he : BlkE X scope fun Y => ∀ W', Takes Y W' → PE Y elt (rdE c W' wl))
    (hs1 : X.stack = X.env :: X.outer := by rfl) (hs2 : X.env.frame = some X.env.locals := by rfl)
    (hgl : Gl X "zip" := by rfl) (hs3 : starEach [a, b] X.env = (false, eval a X.env) :: starEach [b] X.env := by rfl) (hpl : (backTo cpos (starEach [b] X.env)).any (·.1) = false := by rfl)
    (ok : BlkOk X.N X.env.scope scope own := by first | exact blkOk_by (by decide +kernel) | exact blkOk_by (by rfl) | exact blkOk_by (by with_unfolding_all rfl)) (his : ∀ i ∈ is, i ∈ own.map (·.2) := by decide) (hK : c.K = X.K := by rfl) (hs : ∀ x, foldedSetIterable (.Call (.Name "zip" p) [a, b] [] cpos) X.env x = pure x := by intro _; rfl) (pf : PinF c (own.map (·.2)) := by first | exact pinF_nil rfl | exact pinF_one rfl (by decide) | assumption) :
    PE X (.ListComp elt [⟨.Tuple elts kk tpos, .Call (.Name "zip" p) [a, b] [] cpos, [], 0⟩] scope pos) (rdE c W (wLcZE true false (own.map (·.2)) (tgT is) wa wl)) :=
  PE.imp (pe_lcE hc hN hs1 hs2 tk (pi_zipM hgl hm ha hs3 hpl) ok hg (fun _ _ _ _ _ _ _ _ => vts_nil) he hs) fun σ H Q h => by
    have z := rd_lcZEM (t := gTup X.K is.length (gAll is)) (g := tgT is) (by rw [hK]; exact run_tup) his pf h
    rw [hK] at z; exact z
theorem vs_setLcZET {is : List Nat} {n : Nat} {y : Str} {py spos : Pos} (hc : X.calm = true) (hN : X.N.Nodup) (tk : Takes X W) (own : List (Str × Nat)) (hm : X.mg "zip" = none) (ha : PA X [a, b] (rdA c W wa)) (hg : BlkE X scope fun Y => PG Y (.Tuple elts kk tpos) (gTup X.K is.length (gAll is))) (he : BlkE X scope fun Y => ∀ W', Takes Y W' → PE Y elt (rdE c W' wl))
    (hs1 : X.stack = X.env :: X.outer := by rfl) (hs2 : X.env.frame = some X.env.locals := by rfl)
    (hy : X.N[n]? = some y := by rfl) (hyl : X.env.scope.names.lookup y = some .local := by rfl) (hsw : swapsWith (.ListComp elt [⟨.Tuple elts kk tpos, .Call (.Name "zip" p) [a, b] [] cpos, [], 0⟩] scope pos) (some (.Name y py)) spos.line X.env = pure true := by exact sw_true rfl rfl rfl (by decide +kernel))
    (hgl : Gl X "zip" := by rfl) (hs3 : starEach [a, b] X.env = (false, eval a X.env) :: starEach [b] X.env := by rfl) (hpl : (backTo cpos (starEach [b] X.env)).any (·.1) = false := by rfl)
    (ok : BlkOk X.N X.env.scope scope own := by first | exact blkOk_by (by decide +kernel) | exact blkOk_by (by rfl) | exact blkOk_by (by with_unfolding_all rfl)) (his : ∀ i ∈ is, i ∈ own.map (·.2) := by decide) (hK : c.K = X.K := by rfl) (hs : ∀ x, foldedSetIterable (.Call (.Name "zip" p) [a, b] [] cpos) X.env x = pure x := by intro _; rfl) (pf : PinF c (own.map (·.2)) := by first | exact pinF_nil rfl | exact pinF_one rfl (by decide) | assumption) (pn : PinF c [n] := by first | exact pinF_nil rfl | exact pinF_one rfl (by decide) | assumption) :
    PS X (.Assign [.Name y py] (.ListComp elt [⟨.Tuple elts kk tpos, .Call (.Name "zip" p) [a, b] [] cpos, [], 0⟩] scope pos) spos) (rdS c W (wSet n (wLcZE true true (own.map (·.2)) (tgT is) wa wl))) :=
  PS.imp (ps_setLcE hc hN hs1 hs2 tk hy hyl hsw (RZ.pi_zipA hgl hm ha hs3 hpl) ok hg (fun _ _ _ _ _ _ _ _ => vts_nil) he hs) fun D σ H => rd_setPE (fun σ H Q h => by
    have z := rd_lcZET (t := gTup X.K is.length (gAll is)) (g := tgT is) (by rw [hK]; exact run_tup) his pf h
    rw [hK] at z; exact z) pn
end
section
variable {α β γ : Type} {G : EG} {env env1 env2 : VEnv} {m1 m2 : Md} {a : Enc α} {b : Enc β} {c : Enc γ} {wa wb : WE} {k1 k2 : Bool} {ea : Enc (List α)} {eb : Enc (List β)}
theorem sq_TL (xs : List α) : seqD true (eTL a xs) = some (xs.map a) := rfl
theorem sq_L (xs : List α) : seqD false (eL a xs) = some (xs.map a) := rfl
theorem re_lcZE {g : Tg} {vs : List Nat} {wl : WE} (km : Option Nat) (md : Md) {ent : α × β → VEnv} {F : α × β → Out γ} {Xs : Out (List α)} {Ys : Out (List β)}
    (hi : RE G wa env env1 m1 ea Xs) (hj : RE G wb env1 env2 m2 eb Ys) (s1 : ∀ xs, seqD k1 (ea xs) = some (xs.map a)) (s2 : ∀ ys, seqD k2 (eb ys) = some (ys.map b)) (hg : ∀ x, ∃ rs, g.f ⟨.tuple [a x.1, b x.2], mS⟩ = some rs ∧ VL.putAll (wipeE (bEnv env2) vs) g.is rs = ent x)
    (hf : ∀ x, ∃ e', RE (fun _ => True) wl (ent x) e' md c (F x)) (hk : KidE c md km) (hG : G env2 := by trivial) (hm : isB m1 = false := by rfl) (hm' : isB m2 = false := by rfl) :
    RE G (wLcZE k1 k2 vs g (wCons wa (wCons wb wNil)) wl) env env2 (.o (succM km)) (eL c) (Xs.bind fun xs => Ys.bind fun ys => mapE F (xs.zip ys)) := fun Q X Xe hX hs =>
  hi _ _ Xe hX ((sat_bind.mp hs).imp fun xs hs => hj _ _ Xe hX ((sat_bind.mp hs).imp fun ys hs => by
    unfold mapE at hs
    split at hs
    · rename_i hl
      obtain ⟨J, j0, js, je⟩ := lcE_turns (X := fun ex => X ex env2) (fun x h => hX x env2 hG h) hf hk (xs.zip ys) hs
      have hz : min (xs.map a).length (ys.map b).length = (xs.zip ys).length := by simp
      refine ⟨_, _, xs.map a, ys.map b, rfl, s1 xs, s2 ys, hm, hm', by rw [hz]; exact hl, km, J, j0, fun k d d' acc hd hd' hJ => ?_, fun acc hJ => ?_⟩
      · rw [List.getElem?_map] at hd hd'
        obtain ⟨x, hx, rfl⟩ := Option.map_eq_some_iff.mp hd
        obtain ⟨y, hy, rfl⟩ := Option.map_eq_some_iff.mp hd'
        obtain ⟨rs, h1, h2⟩ := hg (x, y)
        obtain ⟨h3, h4⟩ := js k (x, y) acc (List.getElem?_zip_eq_some.mpr ⟨hx, hy⟩) hJ
        exact ⟨rs, h1, h3, by rw [h2]; exact h4⟩
      · rw [hz] at hJ
        obtain ⟨zs, rfl, q⟩ := je acc hJ
        exact q
    · exact hs.elim))
end
end VL
set_option maxRecDepth 100000
set_option maxHeartbeats 4000000
namespace XTX
open PySem PySem.Spec PyProof.Rows L2 VL
@[irreducible] noncomputable def F_show_sign (sign_ : Int) : Out Str :=
  (if (decide (sign_ > 0)) = true then (Out.ok (Str.ofString "+")) else (Out.ok (Str.ofString "-")))
def sp_show_sign : FSpec := fun ds Q X => ∃ (sign_ : Int), ds = [eI sign_] ∧ Sat (F_show_sign sign_) (fun r => Q ⟨eS r, mA⟩) X
@[irreducible] noncomputable def F_read_number (word_ : Str) : Out Int :=
  ((Out.ok (word_)).bind fun (figures_ : Str) => ((((lift (cutSO word_ none (some (1)))).bind fun t1 => (Out.ok (Str.ofString "-")).bind fun t2 => .ok (decide (t1 = t2))).bind fun p => if p = true then ((lift (cutSO word_ (some (1)) none)).bind fun (figures_ : Str) => (Out.ok figures_)) else (Out.ok figures_)).bind fun (V335 : Str) => ((((lift (lenSO V335)).bind fun t1 => (Out.ok (0)).bind fun t2 => .ok (decide (t1 = t2))).bind fun p => if p = true then .ok true else ((lift (lenSO V335)).bind fun t1 => (Out.ok (18)).bind fun t2 => .ok (decide (t1 > t2)))).bind fun p => if p = true then (Out.exn ⟨"NoLine", none⟩) else (((Out.ok (V335)).bind fun z => forO (fun (V336 : Unit) (sign_ : Str) => ((lift (inSO false sign_ (Str.ofString "0123456789"))).bind fun p => if p = true then (Out.exn ⟨"NoLine", none⟩) else (Out.ok ()))) () (sgns z)).bind fun (V336 : Unit) => ((((lift (atSO V335 0)).bind fun t1 => (Out.ok (Str.ofString "0")).bind fun t2 => .ok (decide (t1 = t2))).bind fun p => if p = true then (Out.ok (!decide (word_ = Str.ofString "0"))) else .ok false).bind fun p => if p = true then (Out.exn ⟨"NoLine", none⟩) else (lift (intO word_)))))))
def sp_read_number : FSpec := fun ds Q X => ∃ (word_ : Str), ds = [eS word_] ∧ Sat (F_read_number word_) (fun r => Q ⟨eI r, mA⟩) X
@[irreducible] noncomputable def F_read_sign (word_ : Str) : Out Int :=
  (if (decide (word_ = Str.ofString "+")) = true then (Out.ok 1) else (if (decide (word_ = Str.ofString "-")) = true then (Out.ok (-(1))) else (Out.exn ⟨"NoLine", none⟩)))
def sp_read_sign : FSpec := fun ds Q X => ∃ (word_ : Str), ds = [eS word_] ∧ Sat (F_read_sign word_) (fun r => Q ⟨eI r, mA⟩) X
end XTX
set_option maxRecDepth 100000
set_option maxHeartbeats 4000000
namespace VL
open PySem PySem.Spec PyProof.Rows L2
section
variable {c : Cn} {L : List (List Addr)} {Tm : List Addr} {env : VEnv} {σ : Sg} {H : Hp}
end
section
variable {X : Cx} {c : Cn} {W : WX} {pos : Pos} {wp : WP} {w u : WS} {we : WE} {st : Stmt} {rest : List Stmt} {E : Expr}
end
section
variable {α β γ δ σ ρ τ : Type} {G : EG} {env env1 env2 : VEnv} {md m1 : Md} {a : Enc σ} {b : Enc β} {we : WE} {wp : WP} {w u : WS} {K : δ → DV → Prop}
end
end VL
set_option maxRecDepth 100000
set_option maxHeartbeats 4000000
namespace XTY
open PySem PySem.Spec PyProof.Rows L2 VL
@[irreducible] noncomputable def F_show_numbers (numbers_ : (List Int)) : Out Str :=
  ((Out.ok (Str.ofString " ")).bind fun t1 => (mapL (fun number_ : Int => noX (lift (strO number_))) numbers_).bind fun t2 => lift (joinO t1 t2))
@[irreducible] noncomputable def F_show_table (table_ : (List (List Int))) : Out Str :=
  ((Out.ok (Str.ofString " / ")).bind fun t1 => (mapL (fun line_ : (List Int) => noX (F_show_numbers line_)) table_).bind fun t2 => lift (joinO t1 t2))
end XTY
set_option maxRecDepth 100000
set_option maxHeartbeats 4000000
namespace VL
open PySem PySem.Spec PyProof.Rows L2
theorem RS.anyD {K : PySem.W.Frag} {A : Addr → Prop} {H : Hp} {v : V} {d : D} (h : RS K A H v d) : ∃ s, ∀ A', RS K A' H v s := by
  cases h with
  | non => exact ⟨_, fun _ => .non⟩
  | bl b => exact ⟨_, fun _ => .bl b⟩
  | int i => exact ⟨_, fun _ => .int i⟩
  | str x => exact ⟨_, fun _ => .str x⟩
  | lst _ _ _ => exact ⟨_, fun _ => .opq _⟩
  | tup _ _ => exact ⟨_, fun _ => .opq _⟩
  | dct _ _ _ _ => exact ⟨_, fun _ => .opq _⟩
  | scr _ => exact ⟨_, fun _ => .opq _⟩
  | opq _ => exact ⟨_, fun _ => .opq _⟩
  | wtp _ => exact ⟨_, fun _ => .opq _⟩
  | ins _ _ _ _ _ => exact ⟨_, fun _ => .opq _⟩
theorem RSs.anyD {K : PySem.W.Frag} {A : Addr → Prop} {H : Hp} : ∀ {vs : List V} {ds : List D}, RSs K A H vs ds → ∃ ss : List D, ss.length = vs.length ∧ ∀ A', RSs K A' H vs ss
  | _, _, .nil => ⟨[], rfl, fun _ => .nil⟩
  | _, _, .cons h r => by
    obtain ⟨ss, e, q⟩ := RSs.anyD r
    obtain ⟨s, hs⟩ := h.anyD
    exact ⟨s :: ss, by simp [e], fun A' => .cons (hs A') (q A')⟩
section
variable {X : Cx} {c : Cn} {W : WX} {pos ppx : Pos} {wp : WP} {o : Expr} {tx : Str} {body : List Stmt}
end
section
variable {α β γ δ σ ρ τ : Type} {G : EG} {env env1 env2 : VEnv} {md m1 : Md} {b : Enc β} {e : Enc ρ} {wp : WP} {K : δ → DV → Prop}
end
end VL
set_option maxRecDepth 100000
set_option maxHeartbeats 4000000
namespace VL
open PySem PySem.Spec PyProof.Rows L2
abbrev WTab := List (Str × List Str)
def lookT : WTab → Str → Option (List Str)
  | [], _ => none
  | p :: ps, z => if p.1 = z then some p.2 else lookT ps z
def RowsT (K : PySem.W.Frag) : List DictEntry → WTab → Prop
  | [], [] => True
  | e :: es, p :: ps => (∃ t, e.key = .str p.1 t) ∧ (∃ b, e.val = .ref b ∧ WTup K b (p.2.map V.str)) ∧ RowsT K es ps
  | _, _ => False
def DctT (K : PySem.W.Frag) (w : World) (x : Str) (tab : WTab) : Prop := ∃ a es n, PySem.W.nsIn K mainGlobals x = some (some (.ref a)) ∧ K.lookup a = some ⟨.type "dict", none, .dict es n, #[]⟩ ∧ PySem.W.KeysLit w.params es.toList ∧ RowsT K es.toList tab ∧ (a == sysModules) = false
def DctE (K : PySem.W.Frag) (w : World) (mg : Str → Option Value) (x : Str) (tab : WTab) : Prop := ∃ a, mg x = some (.ref a) ∧ (a == sysModules) = false ∧ (∃ es n, K.lookup a = some ⟨.type "dict", none, .dict es n, #[]⟩ ∧ PySem.W.KeysLit w.params es.toList) ∧
  ∀ z, match lookT tab z with
    | some zs => ∃ b, PySem.W.nsIn K a z = some (some (.ref b)) ∧ WTup K b (zs.map V.str)
    | none => PySem.W.nsIn K a z = some none
theorem rows_find {K : PySem.W.Frag} (z : Str) : ∀ {es : List DictEntry} {tab : WTab}, RowsT K es tab →
    match lookT tab z with
      | some zs => ∃ e b, es.find? (·.key.isStr z) = some e ∧ e.val = .ref b ∧ WTup K b (zs.map V.str)
      | none => es.find? (·.key.isStr z) = none ∧ es.any (·.refKey) = false
  | [], [], _ => ⟨rfl, rfl⟩
  | e :: es, p :: ps, ⟨⟨t, h1⟩, ⟨b, h2, h3⟩, r⟩ => by
    have ih := rows_find z r
    unfold lookT
    have hk : e.key.isStr z = decide (p.1 = z) := by
      rw [h1]
      show (p.1 == z) = _
      rfl
    by_cases q : p.1 = z
    · rw [if_pos q]
      exact ⟨e, b, by rw [List.find?_cons, hk]; simp [q], h2, h3⟩
    · rw [if_neg q]
      have hf : (e :: es).find? (·.key.isStr z) = es.find? (·.key.isStr z) := by rw [List.find?_cons, hk]; simp [q]
      rw [hf]
      cases hl : lookT ps z with
      | some zs => rw [hl] at ih; exact ih
      | none =>
        rw [hl] at ih
        refine ⟨ih.1, ?_⟩
        have : e.refKey = false := by unfold DictEntry.refKey; rw [h1]
        rw [List.any_cons, this, ih.2]; rfl
theorem DctT.out {K : PySem.W.Frag} {w : World} {h : Heap} {mg : Str → Option Value} {x : Str} {tab : WTab} (X : K.In h) (G : h.Ns mainGlobals mg) (d : DctT K w x tab) : DctE K w mg x tab := by
  obtain ⟨a, es, n, h1, h2, h3, h4, h5⟩ := d
  refine ⟨a, PySem.W.mg_of X G h1, h5, ⟨es, n, h2, h3⟩, fun z => ?_⟩
  have := rows_find z h4
  cases hl : lookT tab z with
  | some zs =>
    rw [hl] at this
    obtain ⟨e, b, q1, q2, q3⟩ := this
    refine ⟨b, ?_, q3⟩
    unfold PySem.W.nsIn
    rw [h2]
    dsimp only
    rw [q1]
    show some (some e.val) = _
    rw [q2]
  | none =>
    rw [hl] at this
    show PySem.W.nsIn K a z = _
    unfold PySem.W.nsIn
    rw [h2]
    dsimp only
    rw [this.1, this.2]
    rfl
theorem DctT.mk {K : PySem.W.Frag} {w : World} {x : Str} {tab : WTab} {a : Addr} {es : Array DictEntry} {n : Nat} (h1 : PySem.W.nsIn K mainGlobals x = some (some (.ref a))) (h2 : K.lookup a = some ⟨.type "dict", none, .dict es n, #[]⟩) (h3 : PySem.W.KeysLit w.params es.toList) (h4 : RowsT K es.toList tab) (h5 : (a == sysModules) = false) : DctT K w x tab := ⟨a, es, n, h1, h2, h3, h4, h5⟩
theorem RowsT.nilT {K : PySem.W.Frag} : RowsT K [] [] := True.intro
theorem RowsT.consT {K : PySem.W.Frag} {e : DictEntry} {es : List DictEntry} {z : Str} {zs : List Str} {ps : WTab} {b : Addr} {t : Tok} (h1 : e.key = .str z t) (h2 : e.val = .ref b) (h3 : WTup K b (zs.map V.str)) (r : RowsT K es ps) : RowsT K (e :: es) ((z, zs) :: ps) := ⟨⟨t, h1⟩, ⟨b, h2, h3⟩, r⟩
theorem WTup.mkT {K : PySem.W.Frag} {b : Addr} {xs : List V} {o : Obj} {its : Array Value} {n : Nat} (hl : K.lookup b = some o) (hc : o.cls = .type "tuple") (hd : o.data = .seq its n) (hs : its.size ≤ 1000) (hv : Vals xs its.toList) : WTup K b xs := ⟨o, its, n, hl, hc, hd, Nat.le_trans hs (by rw [sizeLine_eq]; decide), hv⟩
theorem vals_nilT : Vals [] [] := .nil
theorem vals_strT {z : Str} {t : Tok} {xs : List V} {us : List Value} (h : Vals xs us) : Vals (.str z :: xs) (.str z t :: us) := .cons ⟨t, rfl⟩ h
def wDctIx (tab : WTab) (wi : WE) : WE := fun env Q X => wi env (fun r e => ∃ z zs, r.d = .str z ∧ lookT tab z = some zs ∧ Q ⟨wtD zs, mA⟩ e) X
def wDctGet (tab : WTab) (wi : WE) : WE := fun env Q X => wi env (fun r e => ∃ z, r.d = .str z ∧ Q ⟨match lookT tab z with | some zs => wtD zs | none => .none, mA⟩ e) X
def wLenW (we : WE) : WE := fun env Q X => we env (fun r e => ∃ zs, r.d = wtD zs ∧ Q ⟨.int zs.length, mA⟩ e) X
section
variable {X : Cx} {c : Cn} {W : WX} {pos p px apx : Pos} {wi : WE} {i e : Expr} {x : Str} {tab : WTab}
theorem ve_dctIx (hd : DctE X.K X.w X.mg x tab) (hi : PE X i (rdE c W wi)) (hK : c.K = X.K := by rfl) (hg : Gl X x := by rfl) (hs : PlainIx i := by exact fun _ _ => rfl) (hx : (x == ("__debug__" : Str)) = false := by decide) : PE X (.Subscript (.Name x p) i pos) (rdE c W (wDctIx tab wi)) := by
  obtain ⟨a, hm, _, ⟨es, n, hl, hk⟩, hz⟩ := hd
  refine PE.imp (pe_ix ix_kdict (pe_glob (v := .ref a) hg hm rfl hx) hi hs) fun σ H Q h => ?_
  obtain ⟨env, L, Tm, Qv, Xo, S, q, k, kx⟩ := h
  refine ⟨env, L, Tm, _, Xo, S, q, fun r v l L1 env1 H1 ⟨z, zs, e1, e2, h1⟩ st hr => ?_, kx⟩
  obtain ⟨d, m⟩ := r
  cases e1
  have := hr.read
  cases this
  have hz := hz z
  rw [e2] at hz
  obtain ⟨b, q1, q2⟩ := hz
  exact ⟨a, z, .ref b, rfl, rfl, ⟨es, n, .ref b, hl, hk, q1, rfl⟩, k _ _ [] L1 env1 H1 h1 st.drop (RO.wtp (by rw [hK]; exact q2))⟩
theorem ve_lenW (hm : X.mg "len" = none) (he : PE X e (rdE c W wi)) (hK : c.K = X.K := by rfl) (hg : Gl X "len" := by rfl) (hs : starEach [e] X.env = (false, eval e X.env) :: starEach [] X.env := by rfl) (hpl : (backTo pos (starEach [] X.env)).any (·.1) = false := by rfl) : PE X (.Call (.Name "len" p) [e] [] pos) (rdE c W (wLenW wi)) :=
  PE.imp (pe_callB len_R hg hm PySem.boot_len (pa_cons he pa_nil hs) (by decide) (by decide) hs hpl) fun σ H Q h => by
  obtain ⟨env, L, Tm, Qv, Xo, S, q, k, kx⟩ := h
  refine ⟨env, L, Tm, _, Xo, S, q, fun r v l L1 env1 H1 ⟨zs, e1, h1⟩ st hr => ?_, kx⟩
  obtain ⟨d, m⟩ := r
  cases e1
  obtain ⟨a, rfl, hw⟩ := (show RS c.K (fun _ => True) H1 v (wtD zs) from hr.read).wtD_inv
  refine .inl ⟨a, zs.map V.str, rfl, .inr (by rw [← hK]; exact hw.sq), ?_⟩
  rw [List.length_map]
  exact k _ _ [] L1 env1 H1 h1 st.drop (Res.flat (A := fun _ => True) (.int _) rfl)
end
def tWGet (K : PySem.W.Frag) (w : World) (a : Addr) (ty : TE) : TE := fun σ H Q => ty σ H fun y H2 => ∃ z, y = .str z ∧ ((∃ v, KDct K w a z v ∧ Q v H2) ∨ (KMiss K w a z ∧ Q .non H2))
section
variable {X : Cx} {o e : Expr} {apos cpos : Pos} {ty : TE} {a : Addr}
theorem pe_wget (hD : ∃ es n, X.K.lookup a = some ⟨.type "dict", none, .dict es n, #[]⟩ ∧ PySem.W.KeysLit X.w.params es.toList) (hsy : (a == sysModules) = false) (ho : PE X o (tC (.ref a))) (he : PE X e ty) (m : M1 X o "get" apos e cpos) : PE X (.Call (.Attribute o "get" apos) [e] [] cpos) (tWGet X.K X.w a ty) := by
  obtain ⟨es, n, hl, hk⟩ := hD
  refine ⟨fun pins s σ H Q I h => ?_⟩
  refine wpAny_Call_method m.base m.few m.line PySem.F.plainAttrs_dict PySem.F.slot_dict_get PySem.F.type_dict_get (thn (ho.run pins s σ H (fun x H1 => x = .ref a ∧ tWGet X.K X.w a ty σ H1 Q) I ⟨rfl, h⟩) fun u s1 ⟨x, H1, I1, rx, ex, q1⟩ => ?_)
  subst ex
  obtain rfl : u = Value.ref a := rx
  have hm1 := PySem.W.mapOf_K (prog := X.prog) (w := X.w) I1.kIn hl hk
  refine ⟨hm1.typeIs, fun b q => ?_, ?_⟩
  · cases q
    exact ⟨_, I1.kIn a _ hl, rfl⟩
  rw [m.trees]
  refine Calls.callWith_builtin rfl (Calls.evalArgs_plain (Calls.spliced_cons (thn (he.run pins s1 σ H1 _ I1 q1) fun iv s2 ⟨y, H2, I2, ry, z, ey, q2⟩ => Calls.spliced_nil ?_)))
  subst ey
  obtain ⟨t, rfl⟩ := (show ∃ t, iv = Value.str z t from ry)
  have hm2 := PySem.W.mapOf_K (prog := X.prog) (w := X.w) I2.kIn hl hk
  rcases q2 with ⟨v, ⟨es', n', u0, hl', hk', e', ru⟩, q2⟩ | ⟨⟨es', n', hl', hk', _, e'⟩, q2⟩
  · rw [hl] at hl'; cases hl'
    refine call_meetsIn PySem.F.slot_dict_get hm2.typeIs PySem.F.entry_dict_get (PySem.F.args_dict_get_2 _ _) (PySem.meets_dict_get (strKind X.prog X.w) a (strKind_is X.prog X.w z t) hsy) ⟨_, hm2, ?_⟩
    rw [PySem.W.find_K hl e']
    exact ⟨v, H2, I2.tok _, ru, q2⟩
  · rw [hl] at hl'; cases hl'
    refine call_meetsIn PySem.F.slot_dict_get hm2.typeIs PySem.F.entry_dict_get (PySem.F.args_dict_get_2 _ _) (PySem.meets_dict_get (strKind X.prog X.w) a (strKind_is X.prog X.w z t) hsy) ⟨_, hm2, ?_⟩
    rw [PySem.W.find_K hl e']
    exact ⟨.non, H2, I2.tok _, rfl, q2⟩
end
section
variable {X : Cx} {c : Cn} {W : WX} {pos p apx : Pos} {wi : WE} {e : Expr} {x : Str} {tab : WTab}
theorem ve_dctGet (hd : DctE X.K X.w X.mg x tab) (he : PE X e (rdE c W wi)) (hK : c.K = X.K := by rfl) (hg : Gl X x := by rfl) (hx : (x == ("__debug__" : Str)) = false := by decide) (m : M1 X (.Name x p) "get" apx e pos := by exact ⟨rfl, rfl, rfl, rfl⟩) : PE X (.Call (.Attribute (.Name x p) "get" apx) [e] [] pos) (rdE c W (wDctGet tab wi)) := by
  obtain ⟨a, hm, hsy, ⟨es, n, hl, hk⟩, hz⟩ := hd
  refine PE.imp (pe_wget ⟨es, n, hl, hk⟩ hsy (pe_glob (v := .ref a) hg hm rfl hx) he m) fun σ H Q h => ?_
  obtain ⟨env, L, Tm, Qv, Xo, S, q, k, kx⟩ := h
  refine ⟨env, L, Tm, _, Xo, S, q, fun r v l L1 env1 H1 ⟨z, e1, h1⟩ st hr => ?_, kx⟩
  obtain ⟨d, m⟩ := r
  cases e1
  have := hr.read
  cases this
  have hz := hz z
  refine ⟨z, rfl, ?_⟩
  cases ht : lookT tab z with
  | some zs =>
    rw [ht] at hz h1
    obtain ⟨b, q1, q2⟩ := hz
    exact .inl ⟨.ref b, ⟨es, n, .ref b, hl, hk, q1, rfl⟩, k _ _ [] L1 env1 H1 h1 st.drop (RO.wtp (by rw [hK]; exact q2))⟩
  | none =>
    rw [ht] at hz h1
    exact .inr ⟨⟨es, n, hl, hk, hsy, hz⟩, k _ _ [] L1 env1 H1 h1 st.drop (Res.flat (A := fun _ => True) .non rfl)⟩
end
def eW : Enc (List Str) := wtD
instance : Fl_ eW := ⟨fun _ => rfl⟩
theorem sq_W (xs : List Str) : seqD true (eW xs) = some (xs.map eS) := rfl
section
variable {G : EG} {env env1 : VEnv} {m1 : Md} {wi : WE} {tab : WTab} {A : Out Str} {Z : Out (List Str)}
theorem re_dctIx (hi : RE G wi env env1 m1 eS A) : RE G (wDctIx tab wi) env env1 mA eW (A.bind fun z => lift (lookT tab z)) := fun Q X Xe hX hs =>
  hi _ _ Xe hX ((sat_bind.mp hs).imp fun z hs => by
    obtain ⟨zs, h1, h2⟩ := sat_lift.mp hs
    exact ⟨z, zs, rfl, h1, h2⟩)
theorem re_dctGet (hi : RE G wi env env1 m1 eS A) : RE G (wDctGet tab wi) env env1 mA (eO eW) (A.bind fun z => .ok (lookT tab z)) := fun Q X Xe hX hs =>
  hi _ _ Xe hX ((sat_bind.mp hs).imp fun z hs => ⟨z, rfl, by
    cases h : lookT tab z with
    | some zs =>
      rw [h] at hs
      exact hs
    | none => rw [h] at hs; exact hs⟩)
theorem re_lenW (hi : RE G wi env env1 m1 eW Z) : RE G (wLenW wi) env env1 mA eI (Z.bind fun zs => .ok (zs.length : Int)) := fun Q X Xe hX hs =>
  hi _ _ Xe hX ((sat_bind.mp hs).imp fun zs hs => ⟨zs, rfl, hs⟩)
end
end VL
namespace VL
open PySem
def tab_FORMS : WTab := [(Str.ofString "turn", [Str.ofString "whole", Str.ofString "whole"]), (Str.ofString "curl", [Str.ofString "whole", Str.ofString "whole", Str.ofString "whole", Str.ofString "side", Str.ofString "sign"]), (Str.ofString "uncurl", [Str.ofString "whole", Str.ofString "whole"]), (Str.ofString "lay", [Str.ofString "whole", Str.ofString "whole", Str.ofString "whole", Str.ofString "whole", Str.ofString "whole", Str.ofString "whole", Str.ofString "cross", Str.ofString "sign"]), (Str.ofString "unlay", [Str.ofString "whole", Str.ofString "whole", Str.ofString "whole", Str.ofString "whole"]), (Str.ofString "pass", [Str.ofString "whole", Str.ofString "whole", Str.ofString "whole", Str.ofString "whole", Str.ofString "whole", Str.ofString "whole"])]
end VL
set_option maxRecDepth 100000
set_option maxHeartbeats 4000000
namespace XTZ
open PySem PySem.Spec PyProof.Rows L2 VL
@[irreducible] noncomputable def F_show_part (sort_ : Str) (part_ : At) : Out Str :=
  (if (decide (sort_ = Str.ofString "side")) = true then (lift (asS part_)) else (if (decide (sort_ = Str.ofString "sign")) = true then (((lift (asI part_)).bind fun x => (Out.ok ()).bind fun t => .ok (x, t)).bind (fun (t : Int × Unit) => XTX.F_show_sign t.1)) else (if (decide (sort_ = Str.ofString "cross")) = true then ((lift (asB part_)).bind fun p => if p = true then (Out.ok (Str.ofString "crossed")) else (Out.ok (Str.ofString "plain"))) else (((lift (asI part_)).bind fun x => (Out.ok ()).bind fun t => .ok (x, t)).bind fun (t : Int × Unit) => lift (strO t.1)))))
def sp_show_part : FSpec := fun ds Q X => ∃ (sort_ : Str) (part_ : At), ds = [eS sort_, eA part_] ∧ Sat (F_show_part sort_ part_) (fun r => Q ⟨eS r, mA⟩) X
@[irreducible] noncomputable def F_show_move (move_ : (List At)) : Out Str :=
  ((((lift (atI move_ 0)).bind fun x => lift (asS x)).bind fun z => lift (lookT tab_FORMS z)).bind fun (sorts_ : (List Str)) => (((Out.ok (sorts_)).bind fun xs => (Out.ok (cutL move_ (some (1)) none)).bind fun ys => mapE (fun p34 : (Str × At) => (F_show_part p34.1 p34.2)) (xs.zip ys)).bind fun (words_ : (List Str)) => ((Out.ok (Str.ofString " ")).bind fun t1 => (((((lift (atI move_ 0)).bind fun x => lift (asS x)).bind fun x => (Out.ok ()).bind fun t => .ok (x, t)).bind fun (t : Str × Unit) => .ok [t.1]).bind fun t1 => (Out.ok (words_)).bind fun t2 => lift (catO t1 t2)).bind fun t2 => lift (joinO t1 t2))))
def sp_show_move : FSpec := fun ds Q X => ∃ (move_ : (List At)), ds = [(eTL eA) move_] ∧ Sat (F_show_move move_) (fun r => Q ⟨eS r, mA⟩) X
@[irreducible] noncomputable def F_read_part (sort_ : Str) (word_ : Str) : Out At :=
  (if (decide (sort_ = Str.ofString "side")) = true then (if (!decide (word_ ∈ [id (Str.ofString "over"), id (Str.ofString "under")])) = true then (Out.exn ⟨"NoLine", none⟩) else (Out.ok (.s word_))) else (if (decide (sort_ = Str.ofString "sign")) = true then ((XTX.F_read_sign word_).bind fun x => .ok (.i x)) else (if (decide (sort_ = Str.ofString "cross")) = true then (if (!decide (word_ ∈ [id (Str.ofString "crossed"), id (Str.ofString "plain")])) = true then (Out.exn ⟨"NoLine", none⟩) else (Out.ok (.b (decide (word_ = Str.ofString "crossed"))))) else ((XTX.F_read_number word_).bind fun x => .ok (.i x)))))
def sp_read_part : FSpec := fun ds Q X => ∃ (sort_ : Str) (word_ : Str), ds = [eS sort_, eS word_] ∧ Sat (F_read_part sort_ word_) (fun r => Q ⟨eA r, mA⟩) X
@[irreducible] noncomputable def F_read_move (line_ : Str) : Out (List At) :=
  ((lift (splitO line_ (Str.ofString " "))).bind fun (words_ : (List Str)) => (((lift (atI words_ 0)).bind fun z => .ok (lookT tab_FORMS z)).bind fun (sorts_ : (Option (List Str))) => (((Out.ok (sorts_.isNone)).bind fun p => if p = true then .ok true else ((Out.ok ((words_.length : Int))).bind fun t1 => (((lift sorts_).bind fun zs => .ok (zs.length : Int)).bind fun t1 => (Out.ok (1)).bind fun t2 => .ok ((t1 + t2))).bind fun t2 => .ok (!decide (t1 = t2)))).bind fun p => if p = true then (Out.exn ⟨"NoLine", none⟩) else (((((((lift (atI words_ 0)).bind fun x => .ok ((fun x => At.s x) x)).bind fun x => (Out.ok ()).bind fun t => .ok (x, t)).bind fun (t : At × Unit) => .ok [t.1]).bind fun t1 => ((lift sorts_).bind fun xs => (Out.ok (cutL words_ (some (1)) none)).bind fun ys => mapE (fun p44 : (Str × Str) => (F_read_part p44.1 p44.2)) (xs.zip ys)).bind fun t2 => lift (catO t1 t2)).bind fun x => (Out.ok ()).bind fun t => .ok (x, t)).bind fun (t : (List At) × Unit) => .ok (t.1)))))
def sp_read_move : FSpec := fun ds Q X => ∃ (line_ : Str), ds = [eS line_] ∧ Sat (F_read_move line_) (fun r => Q ⟨(eTL eA) r, mA⟩) X
end XTZ
set_option maxRecDepth 100000
set_option maxHeartbeats 4000000
namespace LK93
open PySem PySem.Spec PyProof.Rows L2 VL
@[irreducible] noncomputable def F_law_number (some_ : (List Int)) (k_ : Int) : Out Int :=
  (((lift (atI some_ ((3 * k_) + 3))).bind fun t1 => ((Out.ok ([10, (10 ^ ((6 : Int).toNat) : Int), (10 ^ ((18 : Int).toNat) : Int), (10 ^ ((59 : Int).toNat) : Int)])).bind fun t1 => (lift (atI some_ ((3 * k_) + 1))).bind fun t2 => lift (atI t1 t2)).bind fun t2 => lift (modO t1 t2)).bind fun (high_ : Int) => ((Out.ok (high_)).bind fun t1 => (((lift (atI some_ ((3 * k_) + 2))).bind fun t1 => .ok (2 * t1)).bind fun t1 => (Out.ok (1)).bind fun t2 => .ok ((t1 - t2))).bind fun t2 => lift (mulO t1 t2)))
def sp_law_number : FSpec := fun ds Q X => ∃ (some_ : (List Int)) (k_ : Int), ds = [(eL eI) some_, eI k_] ∧ Sat (F_law_number some_ k_) (fun r => Q ⟨eI r, mA⟩) X
@[irreducible] noncomputable def F_law_made (some_ : (List Int)) (more_ : (List Int)) : Out ((List At) × Str × Bool) :=
  (((Out.ok ([Str.ofString "turn", Str.ofString "curl", Str.ofString "uncurl", Str.ofString "lay", Str.ofString "unlay", Str.ofString "pass"])).bind fun t1 => (lift (atI more_ 0)).bind fun t2 => lift (atI t1 t2)).bind fun (form_ : Str) => (((Out.ok ([2, 3, 2, 6, 4, 6])).bind fun t1 => (lift (atI more_ 0)).bind fun t2 => lift (atI t1 t2)).bind fun (count_ : Int) => (((lift (rgO 0 count_)).bind (mapL (fun k_ : Int => noX ((F_law_number some_ k_).bind fun x => .ok ((fun x => At.i x) x))))).bind fun (parts_ : (List At)) => ((mapL (fun one_ : At => noX (((lift (asI one_)).bind fun x => (Out.ok ()).bind fun t => .ok (x, t)).bind fun (t : Int × Unit) => lift (strO t.1))) parts_).bind fun (words_ : (List Str)) => ((if (decide (form_ = Str.ofString "curl")) = true then (((Out.ok ([(At.s (Str.ofString "over")), (At.s (Str.ofString "under"))])).bind fun t1 => (lift (atI more_ 1)).bind fun t2 => lift (atI t1 t2)).bind fun v => (lift (appO parts_ v)).bind fun parts_ => (((lift (atI parts_ (-(1)))).bind fun x => lift (asS x)).bind fun v => (lift (appO words_ v)).bind fun words_ => (Out.ok (parts_, words_)))) else (Out.ok (parts_, words_))).bind fun (V28 : (List At) × (List Str)) => ((if (decide (form_ = Str.ofString "lay")) = true then ((((lift (atI more_ 1)).bind fun t1 => (Out.ok (0)).bind fun t2 => .ok (decide (t1 = t2))).bind fun x => .ok ((fun x => At.b x) x)).bind fun v => (lift (appO V28.1 v)).bind fun parts_ => (((Out.ok ([Str.ofString "crossed", Str.ofString "plain"])).bind fun t1 => (lift (atI more_ 1)).bind fun t2 => lift (atI t1 t2)).bind fun v => (lift (appO V28.2 v)).bind fun words_ => (Out.ok (parts_, words_)))) else (Out.ok (V28.1, V28.2))).bind fun (V29 : (List At) × (List Str)) => ((if (decide (form_ ∈ [id (Str.ofString "curl"), id (Str.ofString "lay")])) = true then ((((Out.ok (1)).bind fun t1 => ((lift (atI more_ 2)).bind fun t1 => .ok (2 * t1)).bind fun t2 => .ok ((t1 - t2))).bind fun x => .ok ((fun x => At.i x) x)).bind fun v => (lift (appO V29.1 v)).bind fun parts_ => (((Out.ok ([Str.ofString "+", Str.ofString "-"])).bind fun t1 => (lift (atI more_ 2)).bind fun t2 => lift (atI t1 t2)).bind fun v => (lift (appO V29.2 v)).bind fun words_ => (Out.ok (parts_, words_)))) else (Out.ok (V29.1, V29.2))).bind fun (V30 : (List At) × (List Str)) => (((lift (rgO 0 count_)).bind (fmapL (fun k_ : Int => noX (((((lift (atI V30.1 k_)).bind fun x => lift (asI x)).bind fun x => (Out.ok ()).bind fun t => .ok (x, t)).bind fun (t : Int × Unit) => .ok (absF t.1)).bind fun t1 => (Out.ok ((10 ^ ((18 : Int).toNat) : Int))).bind fun t2 => .ok (decide (t1 ≥ t2)))) (fun k_ : Int => noX (Out.ok (k_))))).bind fun (long_ : (List Int)) => (((Out.ok (Str.ofString " ")).bind fun t1 => (lift (catO ([form_]) V30.2)).bind fun t2 => lift (joinO t1 t2)).bind fun (line_ : Str) => ((((((lift (catO ([(At.s form_)]) V30.1)).bind fun x => (Out.ok ()).bind fun t => .ok (x, t)).bind fun (t : (List At) × Unit) => .ok (t.1)).bind fun x => (Out.ok (line_, (decide ((long_.length : Int) > 0), ()))).bind fun t => .ok (x, t)).bind fun (t : (List At) × Str × Bool × Unit) => .ok (t.1, t.2.1, t.2.2.1)).bind fun x => .ok (x.1, x.2.1, x.2.2)))))))))))
def sp_law_made : FSpec := fun ds Q X => ∃ (some_ : (List Int)) (more_ : (List Int)), ds = [(eL eI) some_, (eL eI) more_] ∧ Sat (F_law_made some_ more_) (fun r => Q ⟨(e3 (eTL eA) eS eB) r, mA⟩) X
@[irreducible] noncomputable def F_law_read (line_ : Str) : Out ((Str × Bool) ⊕ (Str × (List At))) :=
  ((tryO ((XTZ.F_read_move line_).bind fun (found_ : (List At)) => (Out.ok (Fl.nxt found_))) ["PlaitError", "NoMove", "NoLine"] (fun ex49 => (Out.ok (Fl.ret (.inl ((Str.ofString "no", (((["NoLine"] : List Str).contains ex49.cls) && !(((["NoMove"] : List Str).contains ex49.cls)))))))))).bind (flowT fun (V51 : (List At)) => (Out.ok (.inr ((Str.ofString "yes", V51))))))
def sp_law_read : FSpec := fun ds Q X => ∃ (line_ : Str), ds = [eS line_] ∧ Sat (F_law_read line_) (fun r => Q ⟨(eU (e2 eS eB) (e2 eS (eTL eA))) r, mA⟩) X
@[irreducible] noncomputable def F_law_alike (found_ : (List At)) (due_ : (List At)) : Out Bool :=
  (if (!decide ((found_.length : Int) = (due_.length : Int))) = true then (Out.ok false) else (((lift (rgO 0 (due_.length : Int))).bind fun xs => forF (fun (V54 : Unit) (k_ : Int) => ((((lift (atI due_ k_)).bind fun x => .ok (tyIs "bool" (eA x))).bind fun t1 => ((lift (atI found_ k_)).bind fun x => .ok (tyIs "bool" (eA x))).bind fun t2 => .ok (!decide (t1 = t2))).bind fun p => if p = true then (Out.ok (Fl.ret false)) else ((((lift (atI due_ k_)).bind fun x => .ok (tyIs "str" (eA x))).bind fun t1 => ((lift (atI found_ k_)).bind fun x => .ok (tyIs "str" (eA x))).bind fun t2 => .ok (!decide (t1 = t2))).bind fun p => if p = true then (Out.ok (Fl.ret false)) else (Out.ok (Fl.nxt ()))))) () xs).bind (flowT fun (V54 : Unit) => (lift ((eqG ((eTL eA) found_) ((eTL eA) due_)))))))
def sp_law_alike : FSpec := fun ds Q X => ∃ (found_ : (List At)) (due_ : (List At)), ds = [(eTL eA) found_, (eTL eA) due_] ∧ Sat (F_law_alike found_ due_) (fun r => Q ⟨eB r, mA⟩) X
@[irreducible] noncomputable def F_law_asked (made_here_ : ((List At) × Str × Bool)) : Out Bool :=
  ((Out.ok (made_here_)).bind fun (p56 : ((List At) × Str × Bool)) => ((XTZ.F_show_move p56.1).bind fun (told_ : Str) => (if (!decide (told_ = p56.2.1)) = true then (Out.ok false) else ((F_law_read p56.2.1).bind fun (found_ : ((Str × Bool) ⊕ (Str × (List At)))) => (match found_ with | .inl found_ => (if p56.2.2 = true then (lift ((eqG ((e2 eS eB) found_) ((e2 eS eB) (Str.ofString "no", true))))) else Out.stuck) | .inr found_ => (if p56.2.2 = true then (lift ((eqG ((e2 eS (eTL eA)) found_) ((e2 eS eB) (Str.ofString "no", true))))) else ((Out.ok (decide (found_.1 = Str.ofString "yes"))).bind fun p => if p = true then (F_law_alike found_.2 p56.1) else .ok false)))))))
def sp_law_asked : FSpec := fun ds Q X => ∃ (made_here_ : ((List At) × Str × Bool)), ds = [(e3 (eTL eA) eS eB) made_here_] ∧ Sat (F_law_asked made_here_) (fun r => Q ⟨eB r, mA⟩) X
@[irreducible] noncomputable def F_law (script_ : (List Int)) : Out Bool :=
  ((((Out.ok (script_)).bind fun x => ((Out.ok (0)).bind fun x => (((Out.ok ([1])).bind fun t1 => (lift (repO ([4, 2, (10 ^ ((59 : Int).toNat) : Int)]) 6)).bind fun t2 => lift (catO t1 t2)).bind fun x => (Out.ok ()).bind fun t => .ok (x, t)).bind fun t => .ok (x, t)).bind fun t => .ok (x, t)).bind (fun (t : (List Int) × Int × (List Int) × Unit) => XD.F_law_row t.1 t.2.1 t.2.2.1)).bind fun (one_ : (List Int)) => ((((Out.ok (script_)).bind fun x => ((Out.ok (1)).bind fun x => (((Out.ok ([1])).bind fun t1 => (lift (repO ([4, 2, (10 ^ ((59 : Int).toNat) : Int)]) 6)).bind fun t2 => lift (catO t1 t2)).bind fun x => (Out.ok ()).bind fun t => .ok (x, t)).bind fun t => .ok (x, t)).bind fun t => .ok (x, t)).bind (fun (t : (List Int) × Int × (List Int) × Unit) => XD.F_law_row t.1 t.2.1 t.2.2.1)).bind fun (two_ : (List Int)) => ((XD.F_law_row script_ 2 ([6, 2, 2])).bind fun (more_ : (List Int)) => ((XD.F_law_row script_ 3 ([6, 2, 2])).bind fun (again_ : (List Int)) => ((F_law_made one_ more_).bind fun (first_ : ((List At) × Str × Bool)) => ((F_law_made two_ again_).bind fun (other_ : ((List At) × Str × Bool)) => ((((F_law_asked (first_.1, first_.2.1, first_.2.2)).bind fun t1 => .ok (!t1)).bind fun p => if p = true then .ok true else ((F_law_asked (other_.1, other_.2.1, other_.2.2)).bind fun t1 => .ok (!t1))).bind fun p => if p = true then (Out.ok false) else (F_law_asked (first_.1, first_.2.1, first_.2.2)))))))))
end LK93
set_option maxRecDepth 100000
set_option maxHeartbeats 1000000
namespace VL
open PySem PySem.Spec PyProof.Rows L2
section
variable {α β σ ρ : Type} {X : Exn → Prop}
theorem eta2 (p : α × β) : (p.1, p.2) = p := Eq.trans rfl rfl
theorem s_atE {xs : List α} {i : Int} {x : α} {Q : α → Prop} (h : atI xs i = some x) (q : Q x) : Sat (lift (atI xs i)) Q X := sat_lift.mpr ⟨x, h, q⟩
theorem s_app {xs : List α} {v : α} {Q : List α → Prop} (h : xs.length < 1000000) (q : Q (xs ++ [v])) : Sat (lift (appO xs v)) Q X := sat_lift.mpr ⟨_, appO_ok h, q⟩
theorem s_cat {xs ys : List α} {Q : List α → Prop} (h : xs.length + ys.length ≤ 1000000) (q : Q (xs ++ ys)) : Sat (lift (catO xs ys)) Q X := sat_lift.mpr ⟨_, catO_ok h, q⟩
theorem s_mod {x y : Int} {Q : Int → Prop} (h : 0 < y) (q : Q (x % y)) : Sat (lift (modO x y)) Q X := sat_lift.mpr ⟨_, modO_ok h, q⟩
theorem s_mulS {x y : Int} {Q : Int → Prop} (h : (-(2 ^ 64) < x ∧ x < 2 ^ 64) ∨ (-(2 ^ 64) < y ∧ y < 2 ^ 64)) (q : Q (x * y)) : Sat (lift (mulO x y)) Q X := sat_lift.mpr ⟨_, mulO_ok (.inl h), q⟩
theorem s_fd {x y : Int} {Q : Int → Prop} (h : CDiv x y ∨ CDivW x y) (q : Q (x / y)) : Sat (lift (fdO x y)) Q X := sat_lift.mpr ⟨_, fdO_ok h, q⟩
theorem s_fdS {x y : Int} {Q : Int → Prop} (h : 0 < y) (h2 : y < 2 ^ 5000) (q : Q (x / y)) : Sat (lift (fdO x y)) Q X := s_fd (divW h 5000 (by
  have : (2 : Nat) ^ 5000 < 2 ^ 5001 := Nat.pow_lt_pow_right (by decide) (by decide)
  have e : ((2 : Int) ^ 5000) = (((2 : Nat) ^ 5000 : Nat) : Int) := by push_cast; rfl
  rw [e] at h2
  generalize (2 : Nat) ^ 5000 = a at *
  generalize (2 : Nat) ^ 5001 = b at *
  omega) (by decide)) q
theorem rg_getE {lo hi : Int} {k : Nat} {x : Int} (h : (rg lo hi)[k]? = some x) : x = lo + k ∧ x < hi := by
  unfold rg at h
  rw [List.getElem?_map] at h
  obtain ⟨a, h1, h2⟩ := Option.map_eq_some_iff.mp h
  have := (List.getElem?_eq_some_iff.mp h1)
  obtain ⟨hl, he⟩ := this
  rw [List.getElem_range] at he
  rw [List.length_range] at hl
  omega
theorem rg0_ok {n : Nat} (h : n < 4611686018427387904) : rgO 0 (n : Int) = some (rg 0 n) := rgO_ok ⟨by decide, by decide, by omega, by omega⟩
theorem s_for {f : σ → Int → Out σ} {hi : Int} {s0 : σ} {Q : σ → Prop} (n : Nat) (hn : hi = n) (hs : n < 4611686018427387904) (Inv : Nat → σ → Prop) (h0 : Inv 0 s0) (step : ∀ (k : Nat) s, k < n → Inv k s → Sat (f s (k : Int)) (Inv (k + 1)) X) (last : ∀ s, Inv n s → Q s) : Sat (lift (rgO 0 hi)) (fun xs => Sat (forO f s0 xs) Q X) X := by
  subst hn
  have h9 := rg0_ok (n := n) (by omega)
  refine sat_lift.mpr ?_
  refine ⟨_, h9, ?_⟩
  refine sat_forO Inv h0 (fun k s x hx hi => ?_) fun s h => ?_
  · obtain ⟨h1, h2⟩ := rg_getE hx
    rw [h1, Int.zero_add]
    exact step k s (by omega) hi
  · rw [rg_len] at h
    exact last s (by simpa using h)
theorem s_forF {f : σ → Int → Out (Fl ρ σ)} {hi : Int} {s0 : σ} {Q : Fl ρ σ → Prop} (n : Nat) (hn : hi = n) (hs : n < 4611686018427387904) (Inv : Nat → σ → Prop) (h0 : Inv 0 s0) (step : ∀ (k : Nat) s, k < n → Inv k s → Sat (f s (k : Int)) (fun | .ret r => Q (.ret r) | .nxt s => Inv (k + 1) s) X) (last : ∀ s, Inv n s → Q (.nxt s)) : Sat (lift (rgO 0 hi)) (fun xs => Sat (forF f s0 xs) Q X) X := by
  subst hn
  have h9 := rg0_ok (n := n) (by omega)
  refine sat_lift.mpr ?_
  refine ⟨_, h9, ?_⟩
  refine sat_forF Inv h0 (fun k s x hx hi => ?_) fun s h => ?_
  · obtain ⟨h1, h2⟩ := rg_getE hx
    rw [h1, Int.zero_add]
    exact step k s (by omega) hi
  · rw [rg_len] at h
    exact last s (by simpa using h)
theorem s_mapR {f : Int → Out β} {g : Int → β} {hi : Int} {Q : List β → Prop} (n : Nat) (hn : hi = n) (hs : n ≤ 1000000) (h : ∀ k : Nat, k < n → f k = .ok (g k)) (q : Q ((List.range n).map fun k : Nat => g k)) : Sat (lift (rgO 0 hi)) (fun xs => Sat (mapL f xs) Q X) X := by
  subst hn
  have h9 := rg0_ok (n := n) (by omega)
  refine sat_lift.mpr ?_
  refine ⟨_, h9, ?_⟩
  rw [mapL_ok (g := g) (by rw [rg_len]; omega) fun x hx => by
    rw [mem_rg] at hx
    have := h x.toNat (by omega)
    rwa [show ((x.toNat : Nat) : Int) = x by omega] at this]
  rw [rg_nat, List.map_map]
  exact q
theorem s_fmapR {p : Int → Out Bool} {f : Int → Out β} {q : Int → Bool} {g : Int → β} {hi : Int} {Q : List β → Prop} (n : Nat) (hn : hi = n) (hs : n ≤ 1000000) (hp : ∀ k : Nat, k < n → p k = .ok (q k)) (h : ∀ k : Nat, k < n → q k = true → f k = .ok (g k)) (hq : Q (((List.range n).filter fun k : Nat => q k).map fun k : Nat => g k)) : Sat (lift (rgO 0 hi)) (fun xs => Sat (fmapL p f xs) Q X) X := by
  subst hn
  have h9 := rg0_ok (n := n) (by omega)
  refine sat_lift.mpr ?_
  refine ⟨_, h9, ?_⟩
  rw [fmapL_ok (q := q) (g := g) (by rw [rg_len]; omega) (fun x hx => by
    rw [mem_rg] at hx
    have := hp x.toNat (by omega)
    rwa [show ((x.toNat : Nat) : Int) = x by omega] at this) fun x hx hh => by
    rw [mem_rg] at hx
    have := h x.toNat (by omega) (by rwa [show ((x.toNat : Nat) : Int) = x by omega])
    rwa [show ((x.toNat : Nat) : Int) = x by omega] at this]
  rw [rg_nat, List.filter_map, List.map_map]
  exact hq
theorem s_if {c : Bool} {a b : Out α} {Q : α → Prop} (h1 : c = true → Sat a Q X) (h2 : c = false → Sat b Q X) : Sat (if c = true then a else b) Q X := by
  cases c
  · exact h2 rfl
  · exact h1 rfl
theorem p_if {c : Bool} {p q : Prop} (h1 : c = true → p) (h2 : c = false → q) : if c = true then p else q := by
  cases c
  · exact h2 rfl
  · exact h1 rfl
theorem s_ite {p : Prop} [Decidable p] {a b : Out α} {Q : α → Prop} (h1 : p → Sat a Q X) (h2 : ¬ p → Sat b Q X) : Sat (if decide p = true then a else b) Q X := s_if (fun h => h1 (of_decide_eq_true h)) fun h => h2 (of_decide_eq_false h)
theorem s_F {m : Out α} {P Q : α → Prop} (h : Sat m P fun _ => False) (q : ∀ a, P a → Q a) : Sat m Q X := h.mono q fun _ h => h.elim
end
end VL
set_option maxRecDepth 100000
set_option maxHeartbeats 2000000
namespace TX
open PySem PySem.Spec PyProof.Rows L2 VL
open PySem.NumText
abbrev tl (x : Str) : List Nat := TL.tl x
abbrev S (l : List Nat) : Str := SX.S l
theorem S_tl (x : Str) : S (tl x) = x := SX.S_tl x
theorem tl_S (l : List Nat) : tl (S l) = l := rfl
theorem len_S (l : List Nat) : (S l).length = l.length := SX.S_len l
theorem len_tl (x : Str) : x.length = (tl x).length := TL.len_tl x
theorem S_eq {a b : List Nat} : (S a = S b) ↔ a = b := ⟨SX.S_inj, fun h => by rw [h]⟩
theorem line_big {n : Nat} (h : n ≤ 1000000) : n ≤ sizeLine := Nat.le_trans h (by rw [sizeLine_eq]; decide)
theorem cut_to {z : Str} (k : Nat) (h : z.length ≤ sizeLine) : cutSO z none (some (k : Int)) = some (S ((tl z).take k)) := by
  unfold cutSO
  rw [if_pos h, C8.cutS_slice]
  conv => lhs; rw [← S_tl z]
  rw [SX.slice_to (by omega)]
  simp
theorem cut_from {z : Str} (k : Nat) (h : z.length ≤ sizeLine) : cutSO z (some (k : Int)) none = some (S ((tl z).drop k)) := by
  unfold cutSO
  rw [if_pos h, C8.cutS_slice]
  conv => lhs; rw [← S_tl z]
  rw [SX.slice_from (by omega)]
  simp
theorem at0 {z : Str} (h : z.length ≤ sizeLine) {c : Nat} {r : List Nat} (e : tl z = c :: r) : atSO z 0 = some (S [c]) := by
  unfold atSO
  rw [if_pos h]
  have e : z.cps.toList = c :: r := e
  rw [e, show (0 : Int) = ((0 : Nat) : Int) from rfl, VL.atI_nat' (x := c) rfl]
  rfl
theorem len_ok {z : Str} (h : z.length ≤ sizeLine) : lenSO z = some ((tl z).length : Int) := by
  unfold lenSO
  rw [if_pos h, len_tl]
def dig (c : Nat) : Bool := decide (48 ≤ c) && decide (c ≤ 57)
theorem dig_iff {c : Nat} : dig c = true ↔ 48 ≤ c ∧ c ≤ 57 := by unfold dig; simp
theorem digs_iff {l : List Nat} : l.all dig = true ↔ AllDigits l := by
  unfold AllDigits
  rw [List.all_eq_true]
  exact ⟨fun h c hc => dig_iff.mp (h c hc), fun h c hc => dig_iff.mpr (h c hc)⟩
theorem fig_list : tl (Str.ofString "0123456789") = [48, 49, 50, 51, 52, 53, 54, 55, 56, 57] := by decide +kernel
theorem fig_mem (c : Nat) : decide (c ∈ (Str.ofString "0123456789").cps.toList) = dig c := by
  have e : (Str.ofString "0123456789").cps.toList = [48, 49, 50, 51, 52, 53, 54, 55, 56, 57] := fig_list
  rw [e]
  unfold dig
  by_cases h : 48 ≤ c ∧ c ≤ 57
  · rw [decide_eq_true (show c ∈ [48, 49, 50, 51, 52, 53, 54, 55, 56, 57] by simp; omega), decide_eq_true h.1, decide_eq_true h.2]; rfl
  · rw [decide_eq_false (show ¬ c ∈ [48, 49, 50, 51, 52, 53, 54, 55, 56, 57] by simp; omega)]
    by_cases h1 : 48 ≤ c
    · rw [decide_eq_true h1, decide_eq_false (by omega)]; rfl
    · rw [decide_eq_false h1]; rfl
theorem in_ok (b : Bool) (c : Nat) (z : Str) : inSO b (S [c]) z = some (b == decide (c ∈ z.cps.toList)) := by
  unfold inSO
  rfl
theorem sgns_S (l : List Nat) : sgns (S l) = l.map fun c => S [c] := rfl
def noLine {α : Type} : Out α := .exn ⟨"NoLine", none⟩
def figs (w : List Nat) : List Nat := if w.take 1 = [45] then w.drop 1 else w
def numOf (w : List Nat) : Option Int :=
  if figs w = [] ∨ 18 < (figs w).length ∨ (figs w).all dig = false ∨ ((figs w).head? = some 48 ∧ w ≠ [48]) then none
  else some (if w.take 1 = [45] then -((digitsVal (figs w) : Nat) : Int) else ((digitsVal (figs w) : Nat) : Int))
def toOut (o : Option α) : Out α := match o with | some a => .ok a | none => noLine
theorem ofS {s : String} {l : List Nat} (h : tl (Str.ofString s) = l) : Str.ofString s = S l := by rw [← h, S_tl]
theorem s_minus : Str.ofString "-" = S [45] := ofS (by decide +kernel)
theorem s_zero : Str.ofString "0" = S [48] := ofS (by decide +kernel)
theorem s_plus : Str.ofString "+" = S [43] := ofS (by decide +kernel)
theorem s_blank : Str.ofString " " = S [32] := ofS (by decide +kernel)
theorem dS {a b : List Nat} : decide (S a = S b) = decide (a = b) := by simp only [S_eq]
theorem figs_loop : ∀ l : List Nat, forO (fun (_ : Unit) (sign_ : Str) => ((lift (inSO false sign_ (Str.ofString "0123456789"))).bind fun p => if p = true then (Out.exn ⟨"NoLine", none⟩ : Out Unit) else (Out.ok ()))) () (l.map fun c => S [c]) = if l.all dig = true then .ok () else noLine
  | [] => rfl
  | c :: l => by
    rw [List.map_cons]
    unfold forO
    rw [in_ok, fig_mem]
    cases h : dig c with
    | true =>
      simp only [lift_some, Out.bind_ok]
      rw [if_neg (by decide), Out.bind_ok, figs_loop l, List.all_cons, h, Bool.true_and]
    | false =>
      simp only [lift_some, Out.bind_ok]
      rw [if_pos (by decide), Out.bind_exn, List.all_cons, h, Bool.false_and, if_neg (by decide)]; rfl
theorem int_of_word {w : List Nat} (h1 : figs w ≠ []) (h2 : (figs w).length ≤ 18) (h3 : (figs w).all dig = true) : intO (S w) = some (if w.take 1 = [45] then -((digitsVal (figs w) : Nat) : Int) else ((digitsVal (figs w) : Nat) : Int)) := by
  have hl : w.length ≤ 19 := by
    unfold figs at h2
    split at h2
    · rw [List.length_drop] at h2; omega
    · omega
  unfold intO
  rw [if_pos (by rw [len_S]; omega)]
  by_cases h : w.take 1 = [45]
  · rw [if_pos h]
    have e : w = 45 :: figs w := by unfold figs; rw [if_pos h]; cases w <;> simp_all
    exact intText_neg (x := S w) (cs := figs w) e (digs_iff.mp h3) h1 (by rw [len_S]; omega)
  · rw [if_neg h]
    have e : figs w = w := by unfold figs; rw [if_neg h]
    rw [e] at h1 h3 ⊢
    exact intText_digits (x := S w) (digs_iff.mp h3) h1 (by rw [len_S]; omega)
theorem read_number_ok (w : List Nat) (h : w.length ≤ 1000000) : XTX.F_read_number (S w) = toOut (numOf w) := by
  have hz : (S w).length ≤ sizeLine := by rw [len_S]; exact line_big h
  have hc := cut_to (z := S w) 1 hz
  have hd := cut_from (z := S w) 1 hz
  rw [tl_S] at hc hd
  have hf : (if decide (w.take 1 = [45]) = true then S (w.drop 1) else S w) = S (figs w) := by
    unfold figs
    by_cases h : w.take 1 = [45] <;> simp [h]
  have hfl : (figs w).length ≤ 1000000 := by
    unfold figs
    split
    · rw [List.length_drop]; omega
    · exact h
  have hfz : (S (figs w)).length ≤ sizeLine := by rw [len_S]; exact line_big hfl
  unfold XTX.F_read_number
  simp only [Out.bind_ok, s_minus, s_zero]
  rw [show ((1 : Int)) = ((1 : Nat) : Int) from rfl, hc, hd]
  simp only [lift_some, Out.bind_ok, dS]
  rw [show (if decide (w.take 1 = [45]) = true then Out.ok (S (w.drop 1)) else Out.ok (S w)) = Out.ok (S (figs w)) by rw [← hf]; split <;> rfl]
  simp only [Out.bind_ok, len_ok hfz, lift_some, tl_S, sgns_S]
  rw [figs_loop]
  unfold numOf
  by_cases e1 : figs w = []
  · rw [e1]
    simp [toOut, noLine]
  · obtain ⟨c, r, ec⟩ := List.exists_cons_of_ne_nil e1
    rw [decide_eq_false (by rw [ec]; simp; omega)]
    simp only [Bool.false_eq_true, if_false, Out.bind_ok]
    by_cases e2 : 18 < (figs w).length
    · rw [decide_eq_true (by omega), if_pos rfl, if_pos (.inr (.inl e2))]; rfl
    · rw [decide_eq_false (by omega), if_neg (by decide)]
      by_cases e3 : (figs w).all dig = true
      · rw [if_pos e3, Out.bind_ok]
        rw [at0 hfz (by rw [tl_S]; exact ec)]
        simp only [lift_some, Out.bind_ok, dS]
        by_cases e4 : c = 48 ∧ w ≠ [48]
        · rw [if_pos (by simp [e4.1])]
          simp only [Out.bind_ok]
          rw [if_pos (by simp [e4.2]), if_pos (.inr (.inr (.inr ⟨by rw [ec, e4.1]; rfl, e4.2⟩)))]; rfl
        · rw [if_neg (c := figs w = [] ∨ _) (by
            rintro (z | z | z | ⟨z, z'⟩)
            · exact e1 z
            · exact e2 z
            · rw [e3] at z; cases z
            · rw [ec] at z; simp at z; exact e4 ⟨z, z'⟩)]
          rw [int_of_word e1 (by omega) e3]
          by_cases e5 : c = 48
          · have : w = [48] := Classical.byContradiction fun z => e4 ⟨e5, z⟩
            subst this; subst e5
            simp [toOut]
          · simp [e5, toOut]
      · have e3' : (figs w).all dig = false := by simpa using e3
        rw [if_neg e3, if_pos (.inr (.inr (.inl e3')))]; rfl
end TX
set_option maxRecDepth 100000
set_option maxHeartbeats 2000000
namespace TX
open PySem PySem.Spec PyProof.Rows L2 VL
open PySem.NumText
def numW (i : Int) : List Nat := if i < 0 then 45 :: TL.numL (-i).toNat else TL.numL i.toNat
theorem tl_toString (i : Int) : tl (Str.ofString (toString i)) = numW i := by
  unfold numW
  by_cases h : i < 0
  · rw [if_pos h, PyProof.Rows.toString_neg h]
    show TL.tl _ = _
    rw [TL.tl_ofString]
    have e : (0 - i) = ((-i).toNat : Int) := by omega
    rw [e]
    have z := TL.tl_num (-i).toNat
    rw [TL.tl_ofString] at z
    rw [String.toList_append, List.map_append, z]
    rfl
  · rw [if_neg h]
    have e : i = (i.toNat : Int) := by omega
    rw [show toString i = toString ((i.toNat : Nat) : Int) by rw [← e]]
    exact TL.tl_num _
theorem log_small {n k : Nat} (h : n < 2 ^ k) (hk : 0 < k) : n.log2 < k := by
  by_cases z : n = 0
  · subst z; simpa using hk
  · exact (Nat.log2_lt z).mpr h
theorem str_ok {i : Int} (h : i.natAbs < 2 ^ 1900) : strO i = some (S (numW i)) := by
  unfold strO
  rw [if_pos (Nat.lt_of_lt_of_le (log_small h (by decide)) (by decide))]
  congr 1
  exact TL.ext_tl (tl_toString i)
theorem numL_bound (n : Nat) : n < 10 ^ (TL.numL n).length := by
  induction n using Nat.strongRecOn with
  | _ n ih =>
    by_cases h : n < 10
    · rw [TL.numL_lt h]; simpa using h
    · rw [TL.numL_step (by omega), List.length_append, List.length_singleton, Nat.pow_succ]
      have := ih (n / 10) (by omega)
      omega
theorem numL_long {n k : Nat} : (TL.numL n).length ≤ k → n < 10 ^ k := fun h =>
  Nat.lt_of_lt_of_le (numL_bound n) (Nat.pow_le_pow_right (by decide) h)
theorem numL_head (n : Nat) (h : 0 < n) : ∃ c r, TL.numL n = c :: r ∧ c ≠ 48 := by
  induction n using Nat.strongRecOn with
  | _ n ih =>
    by_cases z : n < 10
    · exact ⟨48 + n, [], TL.numL_lt z, by omega⟩
    · obtain ⟨c, r, e, ne⟩ := ih (n / 10) (by omega) (by omega)
      exact ⟨c, r ++ [48 + n % 10], by rw [TL.numL_step (by omega), e]; rfl, ne⟩
theorem numL_zero : TL.numL 0 = [48] := TL.numL_lt (by decide)
theorem numL_take (n : Nat) : (TL.numL n).take 1 ≠ [45] := by
  intro h
  have : 45 ∈ TL.numL n := List.mem_of_mem_take (i := 1) (by rw [h]; simp)
  exact TL.numL_free (.inl (by decide)) this
theorem figs_num (i : Int) : figs (numW i) = TL.numL i.natAbs := by
  unfold figs numW
  by_cases h : i < 0
  · rw [if_pos h, if_pos (by simp)]
    show TL.numL _ = _
    congr 1; omega
  · rw [if_neg h, if_neg (numL_take _)]
    congr 1; omega
theorem neg_num (i : Int) : (numW i).take 1 = [45] ↔ i < 0 := by
  unfold numW
  by_cases h : i < 0
  · rw [if_pos h]; simp [h]
  · rw [if_neg h]
    exact ⟨fun z => absurd z (numL_take _), fun z => absurd z h⟩
theorem num_back (i : Int) : numOf (numW i) = if i.natAbs < 10 ^ 18 then some i else none := by
  unfold numOf
  rw [figs_num]
  have d : (TL.numL i.natAbs).all dig = true := digs_iff.mpr (TL.numL_digits _)
  by_cases h : i.natAbs < 10 ^ 18
  · rw [if_pos h, if_neg, TL.numL_val]
    · congr 1
      by_cases z : i < 0
      · rw [if_pos ((neg_num i).mpr z)]; omega
      · rw [if_neg (fun q => z ((neg_num i).mp q))]; omega
    · rintro (z | z | z | ⟨z, z'⟩)
      · exact TL.numL_ne _ z
      · have := TL.numL_len (k := 18) (by decide) h; omega
      · rw [d] at z; cases z
      · by_cases n0 : 0 < i.natAbs
        · obtain ⟨c, r, e, ne⟩ := numL_head _ n0
          rw [e] at z; simp at z; exact ne z
        · have : i = 0 := by omega
          subst this
          exact z' (by unfold numW; rw [if_neg (by decide)]; exact numL_zero)
  · rw [if_neg h, if_pos]
    exact .inr (.inl (Classical.byContradiction fun z => h (numL_long (k := 18) (by omega))))
theorem numW_free {i : Int} {s : Nat} (h : (s < 48 ∨ 57 < s) ∧ s ≠ 45) : s ∉ numW i := by
  unfold numW
  split
  · intro z
    rcases List.mem_cons.mp z with z | z
    · exact h.2 z
    · exact TL.numL_free h.1 z
  · exact TL.numL_free h.1
theorem numW_len {i : Int} {k : Nat} (hk : 0 < k) (h : i.natAbs < 10 ^ k) : (numW i).length ≤ k + 1 := by
  unfold numW
  split
  · have := TL.numL_len hk (show (-i).toNat < 10 ^ k by omega)
    simp; omega
  · have := TL.numL_len hk (show i.toNat < 10 ^ k by omega)
    omega
theorem map_len_S (ws : List (List Nat)) : (ws.map S).map (·.length) = ws.map (·.length) := by
  rw [List.map_map]; exact List.map_congr_left fun w _ => len_S w
theorem join_ok {a : List Nat} {ws : List (List Nat)} (h : (ws.map (·.length)).sum + ws.length * a.length ≤ 1000000) : joinO (S a) (ws.map S) = some (S (TL.joinL a ws)) := by
  unfold joinO
  rw [if_pos (by rw [map_len_S, List.length_map, len_S]; omega)]
  exact congrArg some (SX.join_S a ws)
theorem split_ok {a b : List Nat} (hb : b ≠ []) (hk : b.all (· < 256) = true) (h : a.length ≤ 900000) : splitO (S a) (S b) = some ((TL.spl b 0 [] a).map S) := by
  unfold splitO
  rw [if_pos]
  · exact congrArg some (SX.split_S hb hk)
  · rw [len_S, len_S]
    refine ⟨?_, line_big (by omega)⟩
    cases b with
    | nil => exact absurd rfl hb
    | cons _ _ => rfl
theorem spl_len (b : List Nat) : ∀ (a acc : List Nat) (k : Nat), (TL.spl b k acc a).length ≤ a.length + 1
  | [], acc, k => by rw [TL.spl_nil]; simp
  | c :: a, acc, 0 => by
    by_cases h : TL.pre b (c :: a) = true
    · rw [TL.spl_hit h]
      have := spl_len b a [] (b.length - 1)
      simp; omega
    · rw [TL.spl_miss (by simpa using h)]
      have := spl_len b a (acc ++ [c]) 0
      simp; omega
  | c :: a, acc, k + 1 => by
    show (TL.spl b k acc a).length ≤ _
    have := spl_len b a acc k
    simp; omega
theorem spl_each (b : List Nat) : ∀ (a acc : List Nat) (k : Nat), ∀ w ∈ TL.spl b k acc a, w.length ≤ acc.length + a.length
  | [], acc, k => by rw [TL.spl_nil]; simp
  | c :: a, acc, 0 => by
    by_cases h : TL.pre b (c :: a) = true
    · rw [TL.spl_hit h]
      intro w hw
      rcases List.mem_cons.mp hw with rfl | hw
      · simp
      · have := spl_each b a [] _ w hw
        simp at this ⊢; omega
    · rw [TL.spl_miss (by simpa using h)]
      intro w hw
      have := spl_each b a _ _ w hw
      simp at this ⊢; omega
  | c :: a, acc, k + 1 => by
    intro w hw
    have := spl_each b a acc k w hw
    simp; omega
theorem joinL_len (a : List Nat) : ∀ ws : List (List Nat), (TL.joinL a ws).length ≤ (ws.map (·.length)).sum + ws.length * a.length
  | [] => by simp [TL.joinL]
  | [w] => by simp [TL.joinL]
  | w :: v :: ws => by
    have ih := joinL_len a (v :: ws)
    have e : TL.joinL a (w :: v :: ws) = w ++ a ++ TL.joinL a (v :: ws) := by simp [TL.joinL]
    rw [e]
    simp only [List.length_append, List.map_cons, List.sum_cons, List.length_cons, Nat.succ_mul] at ih ⊢
    omega
def wordsL (l : List Nat) : List (List Nat) := TL.spl [32] 0 [] l
theorem words_back {ws : List (List Nat)} (hne : ws ≠ []) (h : ∀ w ∈ ws, 32 ∉ w) : wordsL (TL.joinL [32] ws) = ws := TL.spl_join hne h
theorem split_line {l : List Nat} (h : l.length ≤ 900000) : splitO (S l) (S [32]) = some ((wordsL l).map S) := split_ok (by simp) (by decide) h
end TX
set_option maxRecDepth 100000
set_option maxHeartbeats 1000000
namespace VL
open PySem PySem.Spec PyProof.Rows L2
local macro_rules | `(tactic| sleep 11) => `(tactic| simp only [Out.bind_ok, noX_ok, lift_some, flowT_ret, flowT_nxt, flowF_ret, flowF_nxt, sat_bind, sat_ok, sat_exn, sat_noX, eta2, Out.bind_id])
theorem RowIn.get : ∀ {sz xs : List Int}, RowIn sz xs → xs.length = sz.length ∧ ∀ (i : Nat) s, sz[i]? = some s → ∃ x, xs[i]? = some x ∧ 0 ≤ x ∧ x < s
  | [], [], _ => ⟨rfl, fun i s h => by simp at h⟩
  | [], _ :: _, h => h.elim
  | _ :: _, [], h => h.elim
  | s :: sz, x :: xs, ⟨h, r⟩ => by
    obtain ⟨h1, h2⟩ := RowIn.get r
    refine ⟨by simp [h1], fun i s' hi => ?_⟩
    cases i with
    | zero => simp at hi; subst hi; exact ⟨x, rfl, h⟩
    | succ i => exact h2 i s' (by simpa using hi)
def Inc (s : List (Int × Int)) : Prop := (s.map (·.1)).Pairwise (· < ·)
theorem cell_ok {ns : List Int} {p : Int} (h : 0 ≤ p) : ∃ c, XD.F_law_cell ns p = .ok c := by
  unfold XD.F_law_cell
  by_cases hp : p < ns.length
  · rw [if_pos (decide_eq_true hp), atI_get h hp]
    exact ⟨_, lift_some _⟩
  · rw [if_neg (by simpa using hp)]
    simp only [Out.bind_ok]
    rw [forO_ok (g := fun (V3 cell_here_ : Int) => (V3 * 48271 + cell_here_ % 1000003 + 1) % 2147483647) 5 (fun _ _ _ => rfl)]
    exact ⟨_, Out.bind_ok _ _⟩
theorem mix_ok {c k : Int} (h1 : 0 ≤ k) (h2 : k < 10000) : ∃ m, XD.F_law_mix c k = .ok m := by
  unfold XD.F_law_mix
  have e1 : 0 ≤ c % 2147483629 := Int.emod_nonneg _ (by decide)
  have e2 : c % 2147483629 < 2147483629 := Int.emod_lt_of_pos _ (by decide)
  rw [powO_ok ⟨by decide, by decide, by omega⟩, mulO_ok (.inl (.inr (by omega)))]
  simp only [lift_some, Out.bind_ok]
  exact ⟨_, rfl⟩
theorem row_ok {ns sz : List Int} {p : Int} (h : 0 ≤ p) (hl : sz.length ≤ 500) (hs : ∀ s ∈ sz, 0 < s ∧ s < 2 ^ 5000) : Sat (XD.F_law_row ns p sz) (fun r => RowIn sz r) (fun _ => False) := by
  unfold XD.F_law_row
  obtain ⟨c, hc⟩ := cell_ok (ns := ns) h
  rw [hc]
  sleep 11
  refine s_for sz.length rfl (by omega) (fun k s => s.1.length = k ∧ ∀ (i : Nat) t x, sz[i]? = some t → s.1[i]? = some x → 0 ≤ x ∧ x < t) ⟨rfl, fun i t x _ h => by simp at h⟩ (fun k s hk hi => ?_) fun s hi => RowIn.of hi.1 hi.2
  obtain ⟨h1, h2⟩ := hi
  have hg : sz[k]? = some sz[k] := List.getElem?_eq_getElem hk
  have ha : atI sz (k : Int) = some sz[k] := atI_nat hg
  obtain ⟨g1, g2⟩ := hs _ (List.getElem_mem hk)
  have fin : ∀ y : Int, (s.1 ++ [y % sz[k]]).length = k + 1 ∧ ∀ (i : Nat) t x, sz[i]? = some t → (s.1 ++ [y % sz[k]])[i]? = some x → 0 ≤ x ∧ x < t := by
    intro y
    refine ⟨by simp [h1], fun i t x e1 e2 => ?_⟩
    rw [List.getElem?_append] at e2
    split at e2
    · exact h2 i t x e1 e2
    · rename_i hi
      have hi2 : i = k := by
        have := (List.getElem?_eq_some_iff.mp e2).1
        simp at this
        omega
      subst hi2
      rw [h1] at e2
      simp at e2
      rw [hg] at e1
      cases e1; subst e2
      exact ⟨Int.emod_nonneg _ (by omega), Int.emod_lt_of_pos _ g1⟩
  sleep 11
  refine s_if (fun hh => ?_) (fun hh => ?_)
  · obtain ⟨m, hm⟩ := mix_ok (c := c) (k := (k : Int)) (by omega) (by omega)
    rw [hm]
    sleep 11
    refine s_atE ha ?_
    refine s_mod g1 ?_
    refine s_app (by omega) ?_
    exact fin _
  · refine s_if (fun hh => ?_) (fun hh => ?_)
    · sleep 11
      refine s_atE ha ?_
      refine s_mod g1 ?_
      refine s_app (by omega) ?_
      sleep 11
      refine s_atE ha ?_
      refine s_fdS g1 g2 ?_
      exact fin _
    · obtain ⟨o, ho⟩ := cell_ok (ns := ns) (p := (p + 1 + (k : Int)) % 63) (Int.emod_nonneg _ (by decide))
      obtain ⟨m, hm⟩ := mix_ok (c := o) (k := (k : Int)) (by omega) (by omega)
      rw [ho]
      sleep 11
      rw [hm]
      sleep 11
      refine s_atE ha ?_
      refine s_mod g1 ?_
      refine s_app (by omega) ?_
      exact fin _
end VL
set_option maxRecDepth 100000
set_option maxHeartbeats 1000000
namespace VL
open PySem PySem.Spec PyProof.Rows L2
local macro_rules | `(tactic| sleep 11) => `(tactic| simp only [Out.bind_ok, noX_ok, lift_some, flowT_ret, flowT_nxt, flowF_ret, flowF_nxt, sat_bind, sat_ok, sat_exn, sat_noX, eta2, Out.bind_id])
theorem RowIn.at {sz xs : List Int} (h : RowIn sz xs) {i s : Int} (h0 : 0 ≤ i) (hs : sz[i.toNat]? = some s) : ∃ x, atI xs i = some x ∧ 0 ≤ x ∧ x < s := by
  obtain ⟨x, h1, h2⟩ := (RowIn.get h).2 _ s hs
  refine ⟨x, ?_, h2⟩
  have := atI_nat h1
  rwa [show ((i.toNat : Nat) : Int) = i by omega] at this
def both (names : List Int) : List Int := names.flatMap fun c => [c, -c]
theorem both_len (names : List Int) : (both names).length = 2 * names.length := by
  unfold both
  induction names with
  | nil => rfl
  | cons a l ih => rw [List.flatMap_cons, List.length_append, ih]; simp; omega
end VL
set_option maxRecDepth 100000
set_option maxHeartbeats 1000000
namespace VL
open PySem PySem.Spec PyProof.Rows L2
local macro_rules | `(tactic| sleep 11) => `(tactic| simp only [Out.bind_ok, noX_ok, lift_some, flowT_ret, flowT_nxt, flowF_ret, flowF_nxt, sat_bind, sat_ok, sat_exn, sat_noX, eta2, Out.bind_id])
end VL
set_option maxRecDepth 100000
set_option maxHeartbeats 1000000
namespace VL
open PySem PySem.Spec PyProof.Rows L2
local macro_rules | `(tactic| sleep 11) => `(tactic| simp only [Out.bind_ok, noX_ok, lift_some, flowT_ret, flowT_nxt, flowF_ret, flowF_nxt, sat_bind, sat_ok, sat_exn, sat_noX, eta2, Out.bind_id])
abbrev Dr := List (List Int) × List (Int × Int)
structure DrS (most : Nat) (d : Dr) : Prop where
  wl : d.1.length ≤ 12
  sl : d.2.length ≤ most
  inc : Inc d.2
  pos : ∀ p ∈ d.2, 0 < p.1 ∧ (p.2 = 1 ∨ p.2 = -1)
  perm : d.1.flatten.Perm (both (d.2.map (·.1)))
theorem DrS.mono {a b : Nat} {d : Dr} (h : DrS a d) (hab : a ≤ b) : DrS b d := ⟨h.wl, Nat.le_trans h.sl hab, h.inc, h.pos, h.perm⟩
theorem rep_get {l : List Int} {n i : Nat} (h : i < n * l.length) : (List.replicate n l).flatten[i]? = l[i % l.length]? := by
  induction n generalizing i with
  | zero => simp at h
  | succ n ih =>
    rw [List.replicate_succ, List.flatten_cons, List.getElem?_append]
    split
    · rename_i h2; rw [Nat.mod_eq_of_lt h2]
    · rename_i h2
      rw [Nat.succ_mul] at h
      rw [ih (by omega), Nat.mod_eq_sub_mod (by omega : i ≥ l.length)]
theorem rep_mem {l : List Int} {n : Nat} {x : Int} (h : x ∈ (List.replicate n l).flatten) : x ∈ l := by
  obtain ⟨t, h1, h2⟩ := List.mem_flatten.mp h
  rwa [(List.mem_replicate.mp h1).2] at h2
theorem s_repL {xs : List α} {k : Int} {X : Exn → Prop} {Q : List α → Prop} (h0 : 0 ≤ k) (h1 : k < 9223372036854775808) (h : xs.length * k.toNat ≤ 1000000) (q : Q (List.replicate k.toNat xs).flatten) : Sat (lift (repO xs k)) Q X := sat_lift.mpr ⟨_, repO_ok (by omega) (by omega) h, q⟩
end VL
set_option maxRecDepth 100000
set_option maxHeartbeats 1000000
namespace VL
open PySem PySem.Spec PyProof.Rows L2
local macro_rules | `(tactic| sleep 11) => `(tactic| simp only [Out.bind_ok, noX_ok, lift_some, flowT_ret, flowT_nxt, flowF_ret, flowF_nxt, sat_bind, sat_ok, sat_exn, sat_noX, eta2, Out.bind_id])
theorem list_ext {α : Type} {n : Nat} {xs ys : List α} (h1 : xs.length = n) (h2 : ys.length = n) (h : ∀ k, k < n → xs[k]? = ys[k]?) : xs = ys := by
  refine List.ext_getElem? fun i => ?_
  by_cases hi : i < n
  · exact h i hi
  · rw [List.getElem?_eq_none (by omega), List.getElem?_eq_none (by omega)]
theorem rangeMap_get {α : Type} {n k : Nat} {f : Nat → α} (h : k < n) : ((List.range n).map f)[k]? = some (f k) := by
  rw [List.getElem?_map, List.getElem?_range h]; rfl
theorem both_mem {names : List Int} {x : Int} : x ∈ both names ↔ x ∈ names ∨ -x ∈ names := by
  unfold both
  rw [List.mem_flatMap]
  constructor
  · rintro ⟨a, ha, h⟩
    simp only [List.mem_cons, List.not_mem_nil, or_false] at h
    rcases h with h | h
    · left; rw [h]; exact ha
    · right; rw [h, Int.neg_neg]; exact ha
  · rintro (h | h)
    · exact ⟨x, h, by simp⟩
    · exact ⟨-x, h, by simp⟩
theorem DrS.mem {most : Nat} {d : Dr} (h : DrS most d) {p : Int × Int} (hp : p ∈ d.2) : p.1 ∈ d.1.flatten ∧ -p.1 ∈ d.1.flatten := by
  have : p.1 ∈ d.2.map (·.1) := List.mem_map.mpr ⟨p, hp, rfl⟩
  exact ⟨h.perm.mem_iff.mpr (both_mem.mpr (.inl this)), h.perm.mem_iff.mpr (both_mem.mpr (.inr (by rwa [Int.neg_neg])))⟩
theorem DrS.row {most : Nat} {d : Dr} (h : DrS most d) {w : List Int} (hw : w ∈ d.1) : w.length ≤ 2 * most := by
  have h1 := (List.sublist_flatten_of_mem hw).length_le
  have h2 := h.perm.length_eq
  rw [both_len, List.length_map] at h2
  have := h.sl
  omega
end VL
set_option maxRecDepth 100000
set_option maxHeartbeats 1000000
namespace VL
open PySem PySem.Spec PyProof.Rows L2
local macro_rules | `(tactic| sleep 11) => `(tactic| simp only [Out.bind_ok, noX_ok, lift_some, flowT_ret, flowT_nxt, flowF_ret, flowF_nxt, sat_bind, sat_ok, sat_exn, sat_noX, eta2, Out.bind_id])
theorem cutL_from {α : Type} (xs : List α) (k : Nat) (h : k ≤ xs.length) : cutL xs (some (k : Int)) none = xs.drop k := by
  unfold cutL
  rw [HT.sIx_nat xs.length 0 k, HT.sIx_none, show min k xs.length = k by omega]
  exact List.take_of_length_le (by simp)
end VL
set_option maxRecDepth 100000
set_option maxHeartbeats 1000000
namespace VL
open PySem PySem.Spec PyProof.Rows L2
local macro_rules | `(tactic| sleep 11) => `(tactic| simp only [Out.bind_ok, Out.bind_exn, noX_ok, lift_some, flowT_ret, flowT_nxt, flowF_ret, flowF_nxt, sat_bind, sat_ok, sat_exn, sat_noX, eta2, Out.bind_id])
def tabG (n : Nat) (m : Nat → Nat → Nat) : List (List Int) := (List.range n).map fun a => (List.range n).map fun b => (m a b : Int)
theorem s_modN {a b : Nat} {X : Exn → Prop} {Q : Int → Prop} (h : 0 < b) (q : Q ((a % b : Nat) : Int)) : Sat (lift (modO (a : Int) (b : Int))) Q X := by
  refine s_mod (by omega) ?_
  rwa [← Int.natCast_emod]
structure Shp (n : Nat) (t : List (List Int)) : Prop where
  len : t.length = n
  row : ∀ r ∈ t, r.length = n ∧ ∀ x ∈ r, 0 ≤ x ∧ x < (n : Int)
theorem Shp.tab {n : Nat} {t : List (List Int)} (h : Shp n t) : ∃ m, (∀ a b, a < n → b < n → m a b < n) ∧ t = tabG n m := by
  have key : ∀ a b, a < n → b < n → ∃ r x, t[a]? = some r ∧ r[b]? = some x ∧ 0 ≤ x ∧ x < (n : Int) := fun a b ha hb => by
    have e1 : t[a]? = some (t[a]'(by rw [h.len]; exact ha)) := List.getElem?_eq_getElem _
    have h1 := h.row _ (List.getElem_mem (show a < t.length by rw [h.len]; exact ha))
    refine ⟨_, _, e1, List.getElem?_eq_getElem (by rw [h1.1]; exact hb), h1.2 _ (List.getElem_mem _)⟩
  refine ⟨fun a b => ((((t[a]?).getD [])[b]?).getD 0).toNat, fun a b ha hb => ?_, ?_⟩
  · obtain ⟨r, x, e1, e2, e3, e4⟩ := key a b ha hb
    simp only [e1, e2, Option.getD_some]
    omega
  · refine list_ext (n := n) h.len (by simp [tabG]) fun a ha => ?_
    have e1 : t[a]? = some (t[a]'(by rw [h.len]; exact ha)) := List.getElem?_eq_getElem _
    have h1 := h.row _ (List.getElem_mem (show a < t.length by rw [h.len]; exact ha))
    unfold tabG
    rw [rangeMap_get ha, e1]
    congr 1
    refine list_ext (n := n) h1.1 (by simp) fun b hb => ?_
    obtain ⟨r, x, f1, f2, f3, f4⟩ := key a b ha hb
    rw [e1] at f1; cases f1
    rw [rangeMap_get hb, f2]
    simp only [e1, f2, Option.getD_some]
    congr 1; omega
theorem Shp.set {n : Nat} {t : List (List Int)} (h : Shp n t) {i j : Nat} {r : List Int} {v : Int} (hr : t[i]? = some r) (h0 : 0 ≤ v) (h1 : v < n) : Shp n (t.set i (r.set j v)) := by
  refine ⟨by rw [List.length_set]; exact h.len, fun s hs => ?_⟩
  rcases List.mem_or_eq_of_mem_set hs with z | z
  · exact h.row s z
  · have hr := h.row r (List.mem_of_getElem? hr)
    subst z
    refine ⟨by rw [List.length_set]; exact hr.1, fun x hx => ?_⟩
    rcases List.mem_or_eq_of_mem_set hx with z | z
    · exact hr.2 x z
    · subst z; exact ⟨h0, h1⟩
end VL
set_option maxRecDepth 100000
set_option maxHeartbeats 4000000
namespace VL
open PySem PySem.Spec PyProof.Rows L2
def ColInj (n : Nat) (t : List (List Int)) : Prop := ∀ a c b : Int, 0 ≤ a → a < n → 0 ≤ c → c < n → 0 ≤ b → b < n → ent t a b = ent t c b → a = c
theorem emod_rg (x : Int) {k : Int} (h : 0 < k) : 0 ≤ x % k ∧ x % k < k := ⟨Int.emod_nonneg _ (by omega), Int.emod_lt_of_pos _ h⟩
theorem small_dvd {n x : Int} (h : n ∣ x) (lo : -n < x) (hi : x < n) : x = 0 := by
  have e := Int.emod_eq_zero_of_dvd h
  by_cases h0 : 0 ≤ x
  · rw [Int.emod_eq_of_lt h0 hi] at e; exact e
  · have e2 : (x + n) % n = 0 := by rw [Int.add_emod_right]; exact e
    rw [Int.emod_eq_of_lt (by omega) (by omega)] at e2
    omega
theorem dvd_of_emod {n x y : Int} (h : x % n = y % n) : n ∣ x - y := Int.dvd_of_emod_eq_zero (Int.emod_eq_emod_iff_emod_sub_eq_zero.mp h)
theorem dvd_coprime {f n x : Int} (h : n ∣ f * x) (g : Int.gcd f n = 1) : n ∣ x := by
  rw [← Int.natAbs_dvd_natAbs] at h ⊢
  rw [Int.natAbs_mul] at h
  have c : Nat.Coprime n.natAbs f.natAbs := by
    unfold Nat.Coprime
    rw [Nat.gcd_comm]; exact g
  exact c.dvd_of_dvd_mul_left h
theorem emod_inj {n x a c : Int} (a0 : 0 ≤ a) (a1 : a < n) (c0 : 0 ≤ c) (c1 : c < n) (h : (x - a) % n = (x - c) % n) : a = c := by
  have := small_dvd (dvd_of_emod h) (by omega) (by omega)
  omega
theorem cellG_inj {w n f a c b : Int} (hn : 1 ≤ n) (hg : Int.gcd f n = 1) (a0 : 0 ≤ a) (a1 : a < n) (c0 : 0 ≤ c) (c1 : c < n) (b0 : 0 ≤ b) (b1 : b < n) (h : cellG w n f a b = cellG w n f c b) : a = c := by
  unfold cellG at h
  by_cases w1 : w = 1
  · rw [if_pos w1, if_pos w1] at h
    exact emod_inj a0 a1 c0 c1 h
  rw [if_neg w1, if_neg w1] at h
  by_cases w2 : w = 2
  · rw [if_pos w2, if_pos w2] at h
    have := dvd_of_emod h
    have e : f * a + (1 - f) * b - (f * c + (1 - f) * b) = f * (a - c) := by rw [Int.mul_sub]; omega
    rw [e] at this
    have := small_dvd (dvd_coprime this hg) (by omega) (by omega)
    omega
  rw [if_neg w2, if_neg w2] at h
  by_cases w3 : w = 3
  · have n4 : ¬ w = 4 := by omega
    have n6 : ¬ w = 6 := by omega
    simp only [w3, n4, n6, true_and, false_and, if_false] at h
    simp only [show ¬ (3 : Int) = 6 by decide, show ¬ (3 : Int) = 4 by decide, false_and, if_false] at h
    (repeat' split at h) <;> omega
  by_cases w6 : w = 6
  · subst w6
    simp only [show ¬ (6 : Int) = 3 by decide, show ¬ (6 : Int) = 4 by decide, false_and, true_and, if_false] at h
    by_cases hb : b = n - 1
    · simp only [hb, and_true] at h
      by_cases h1 : a < n - 1
      · by_cases h2 : c < n - 1
        · rw [if_pos h1, if_pos h2] at h
          have := small_dvd (dvd_of_emod h) (by omega) (by omega)
          omega
        · rw [if_pos h1, if_neg h2] at h
          have := emod_rg (a + 1) (show 0 < n - 1 by omega)
          omega
      · by_cases h2 : c < n - 1
        · rw [if_neg h1, if_pos h2] at h
          have := emod_rg (c + 1) (show 0 < n - 1 by omega)
          omega
        · omega
    · simp only [hb, and_false, if_false] at h
      exact h
  by_cases w4 : w = 4
  · subst w4
    simp only [show ¬ (4 : Int) = 3 by decide, show ¬ (4 : Int) = 6 by decide, false_and, true_and, if_false] at h
    have half : 0 ≤ n / 2 ∧ n / 2 < n := by omega
    generalize n / 2 = k at h half
    by_cases hb : b < k
    · have hb' : ¬ b ≥ k := by omega
      simp only [hb, hb', and_true, and_false, if_false] at h
      by_cases h1 : a < k
      · by_cases h2 : c < k
        · rw [if_pos h1, if_pos h2] at h
          exact emod_inj a0 h1 c0 h2 h
        · rw [if_pos h1, if_neg h2] at h
          have := emod_rg (2 * b - a) (show 0 < k by omega)
          omega
      · by_cases h2 : c < k
        · rw [if_neg h1, if_pos h2] at h
          have := emod_rg (2 * b - c) (show 0 < k by omega)
          omega
        · rw [if_neg h1, if_neg h2] at h
          exact h
    · have hb' : b ≥ k := by omega
      simp only [hb, hb', and_true, and_false, if_false] at h
      by_cases h1 : a ≥ k
      · by_cases h2 : c ≥ k
        · rw [if_pos h1, if_pos h2] at h
          have h' : (2 * b - a - k) % (n - k) = (2 * b - c - k) % (n - k) := by omega
          have := small_dvd (dvd_of_emod h') (by omega) (by omega)
          omega
        · rw [if_pos h1, if_neg h2] at h
          have := emod_rg (2 * b - a - k) (show 0 < n - k by omega)
          omega
      · by_cases h2 : c ≥ k
        · rw [if_neg h1, if_pos h2] at h
          have := emod_rg (2 * b - c - k) (show 0 < n - k by omega)
          omega
        · rw [if_neg h1, if_neg h2] at h
          exact h
  simp only [w3, w6, w4, false_and, if_false] at h
  exact h
theorem tabT_ent {g : Int → Int → Int} {n : Nat} {a b : Int} (a0 : 0 ≤ a) (a1 : a < n) (b0 : 0 ≤ b) (b1 : b < n) : ent (tabT g n) a b = g a b := by
  unfold ent tabT
  rw [List.getElem?_map, List.getElem?_range (by omega)]
  show (((List.range n).map _)[b.toNat]?).getD 0 = _
  rw [List.getElem?_map, List.getElem?_range (by omega)]
  show g ((a.toNat : Nat) : Int) ((b.toNat : Nat) : Int) = _
  rw [Int.toNat_of_nonneg a0, Int.toNat_of_nonneg b0]
def fourT : List (List Int) := [[0, 3, 1, 2], [2, 1, 3, 0], [3, 0, 2, 1], [1, 2, 0, 3]]
theorem four_inj : ∀ a c b : Fin 4, ent fourT (a.val : Int) (b.val : Int) = ent fourT (c.val : Int) (b.val : Int) → a = c := by decide
theorem madeT_inj {w f : Int} {n : Nat} (hn : 1 ≤ n) (hg : Int.gcd f n = 1) : ColInj n (madeT w n f) := by
  intro a c b a0 a1 c0 c1 b0 b1 h
  unfold madeT at h
  split at h
  · rename_i hw
    obtain ⟨_, rfl⟩ := hw
    have := four_inj ⟨a.toNat, by omega⟩ ⟨c.toNat, by omega⟩ ⟨b.toNat, by omega⟩ (by
      show ent fourT ((a.toNat : Nat) : Int) ((b.toNat : Nat) : Int) = ent fourT ((c.toNat : Nat) : Int) ((b.toNat : Nat) : Int)
      rw [Int.toNat_of_nonneg a0, Int.toNat_of_nonneg b0, Int.toNat_of_nonneg c0]
      exact h)
    have := congrArg Fin.val this
    simp at this
    omega
  · rw [tabT_ent a0 a1 b0 b1, tabT_ent c0 c1 b0 b1] at h
    exact cellG_inj (by omega) hg a0 a1 c0 c1 b0 b1 h
theorem permF {s : List Int} {n : Nat} (h : s.Perm (rgI n)) : s.length = n ∧ (∀ i : Nat, i < n → ∃ k : Nat, s[i]? = some (k : Int) ∧ k < n) ∧ ∀ i j : Nat, i < n → j < n → s[i]? = s[j]? → i = j := by
  have hl : s.length = n := by rw [h.length_eq]; simp [rgI]
  have nd : s.Nodup := by
    rw [h.nodup_iff]
    unfold rgI
    exact List.Pairwise.map _ (fun a b (hab : a ≠ b) (e : (a : Int) = b) => hab (by omega)) List.nodup_range
  refine ⟨hl, fun i hi => ?_, fun i j hi hj e => ?_⟩
  · have h1 : i < s.length := by omega
    have hm := h.mem_iff.mp (List.getElem_mem h1)
    obtain ⟨k, hk, e⟩ := List.mem_map.mp hm
    exact ⟨k, by rw [List.getElem?_eq_getElem h1, ← e], by simpa using hk⟩
  · rw [List.getElem?_eq_getElem (by omega), List.getElem?_eq_getElem (by omega)] at e
    have e := Option.some.inj e
    have pw := List.pairwise_iff_getElem.mp nd
    rcases Nat.lt_trichotomy i j with z | z | z
    · exact absurd e (pw i j (by omega) (by omega) z)
    · exact z
    · exact absurd e.symm (pw j i (by omega) (by omega) z)
theorem permS {s : List Int} {n : Nat} (h : s.Perm (rgI n)) (k : Nat) (hk : k < n) : ∃ a : Nat, a < n ∧ s[a]? = some (k : Int) := by
  have hm : (k : Int) ∈ s := h.mem_iff.mpr (List.mem_map.mpr ⟨k, by simpa using hk, rfl⟩)
  obtain ⟨a, ha, e⟩ := List.mem_iff_getElem.mp hm
  have hl := (permF h).1
  exact ⟨a, by omega, by rw [List.getElem?_eq_getElem ha, e]⟩
theorem relaid_at {n : Nat} {t r : List (List Int)} {s : List Int} (h : Relaid n t s r) (sh : Shape n t) (p : s.Perm (rgI n)) :
    ∃ f : Int → Int, (∀ a : Int, 0 ≤ a → a < n → 0 ≤ f a ∧ f a < n) ∧ (∀ a c : Int, 0 ≤ a → a < n → 0 ≤ c → c < n → f a = f c → a = c) ∧ (∀ k : Int, 0 ≤ k → k < n → ∃ a : Int, 0 ≤ a ∧ a < n ∧ f a = k) ∧
      ∀ a b : Int, 0 ≤ a → a < n → 0 ≤ b → b < n → ent r (f a) (f b) = f (ent t a b) := by
  obtain ⟨hl, h1, h2⟩ := permF p
  refine ⟨fun a => (s[a.toNat]?).getD 0, fun a a0 a1 => ?_, fun a c a0 a1 c0 c1 e => ?_, fun k k0 k1 => ?_, fun a b a0 a1 b0 b1 => ?_⟩
  · obtain ⟨k, e, hk⟩ := h1 a.toNat (by omega)
    show 0 ≤ (s[a.toNat]?).getD 0 ∧ (s[a.toNat]?).getD 0 < (n : Int)
    rw [e]
    show 0 ≤ (k : Int) ∧ (k : Int) < (n : Int)
    omega
  · obtain ⟨k, e1, hk⟩ := h1 a.toNat (by omega)
    obtain ⟨j, e2, hj⟩ := h1 c.toNat (by omega)
    have e' : (s[a.toNat]?).getD 0 = (s[c.toNat]?).getD 0 := e
    rw [e1, e2] at e'
    have e'' : (k : Int) = (j : Int) := e'
    have := h2 a.toNat c.toNat (by omega) (by omega) (by rw [e1, e2, e''])
    omega
  · obtain ⟨a, ha, e⟩ := permS p k.toNat (by omega)
    refine ⟨a, by omega, by omega, ?_⟩
    show (s[((a : Nat) : Int).toNat]?).getD 0 = k
    rw [Int.toNat_natCast, e]
    show ((k.toNat : Nat) : Int) = k
    omega
  · have := h.2 a.toNat b.toNat (by omega) (by omega)
    rw [Int.toNat_of_nonneg a0, Int.toNat_of_nonneg b0] at this
    exact this
theorem IsTab.inj {n : Nat} {t : List (List Int)} (hn : 1 ≤ n) (h : IsTab n t) : ColInj n t := by
  rcases h with h | ⟨t0, s, h, p, hr⟩
  · obtain ⟨w, f, _, _, _, _, hg, rfl⟩ := h
    exact madeT_inj hn hg
  · have sh := h.shape hn
    obtain ⟨w, f, _, _, _, _, hg, rfl⟩ := h
    have ij := madeT_inj (w := w) hn hg
    obtain ⟨F, f1, f2, f3, f4⟩ := relaid_at hr sh p
    intro a c b a0 a1 c0 c1 b0 b1 e
    obtain ⟨x, x0, x1, rfl⟩ := f3 a a0 a1
    obtain ⟨y, y0, y1, rfl⟩ := f3 c c0 c1
    obtain ⟨z, z0, z1, rfl⟩ := f3 b b0 b1
    rw [f4 x z x0 x1 z0 z1, f4 y z y0 y1 z0 z1] at e
    have g1 := ent_rg sh x0 x1 z0 z1
    have g2 := ent_rg sh y0 y1 z0 z1
    have := f2 _ _ g1.1 g1.2 g2.1 g2.2 e
    rw [ij x y z x0 x1 y0 y1 z0 z1 this]
end VL
set_option maxRecDepth 100000
set_option maxHeartbeats 4000000
namespace VL
open PySem PySem.Spec PyProof.Rows L2
end VL
set_option maxRecDepth 100000
set_option maxHeartbeats 1000000
namespace VL
open PySem PySem.Spec PyProof.Rows L2
local macro_rules | `(tactic| sleep 11) => `(tactic| simp only [Out.bind_ok, Out.bind_exn, noX_ok, lift_some, flowT_ret, flowT_nxt, flowF_ret, flowF_nxt, sat_bind, sat_ok, sat_exn, sat_noX, eta2, Out.bind_id])
theorem abs_nat' (a : Int) : absF a = (a.natAbs : Int) := by unfold absF; split <;> omega
theorem common_ok {a b : Int} (hb : b.natAbs < 100000000) : XT.F_law_common a b = .ok (Int.gcd a b : Int) := by
  refine Sat.eq ?_
  unfold XT.F_law_common
  sleep 11
  rw [abs_nat', abs_nat']
  refine sat_whileO (Q := fun a_1 => a_1.1 = (Int.gcd a b : Int)) (fun s : Int × Int => ∃ x y : Nat, s = ((x : Int), (y : Int)) ∧ Nat.gcd x y = Int.gcd a b) (fun s => s.2.toNat) ?_ ⟨a.natAbs, b.natAbs, rfl, rfl⟩ ?_
  · unfold fuel
    show ((b.natAbs : Int)).toNat < 1000000000
    omega
  · rintro s ⟨x, y, rfl, hg⟩
    sleep 11
    refine p_if (fun hq => ?_) fun hq => ?_
    · have hy : 0 < y := by have := of_decide_eq_true hq; omega
      sleep 11
      refine s_modN hy ?_
      refine ⟨⟨y, x % y, rfl, by rw [← hg, Nat.gcd_comm y, ← Nat.gcd_rec, Nat.gcd_comm]⟩, ?_⟩
      show ((x % y : Nat) : Int).toNat < ((y : Nat) : Int).toNat
      have := Nat.mod_lt x hy
      omega
    · have hy : y = 0 := by have := of_decide_eq_false hq; omega
      subst hy
      rw [Nat.gcd_zero_right] at hg
      show (x : Int) = _
      rw [hg]
theorem cell_of_ok {w n f a b : Int} (w0 : 0 ≤ w) (w1 : w < 7) (h1 : 1 ≤ n) (h2 : n ≤ 24) (h3 : 0 ≤ a) (h4 : a < n) (h5 : 0 ≤ b) (h6 : b < n) (h7 : -1000 ≤ f) (h8 : f ≤ 1000) : XT.F_law_cell_of w n f a b = .ok (cellG w n f a b) := by
  refine Sat.eq ?_
  unfold XT.F_law_cell_of
  sleep 11
  refine s_ite (fun c => ?_) fun c1 => ?_
  · refine s_mod (by omega) ?_
    subst c; rfl
  refine s_ite (fun c => ?_) fun c2 => ?_
  · sleep 11
    refine s_mulS (.inl (by omega)) ?_
    refine s_mulS (.inl (by omega)) ?_
    refine s_mod (by omega) ?_
    subst c; rfl
  refine s_if (fun c => ?_) fun c3 => ?_
  · simp only [Bool.and_eq_true, decide_eq_true_eq] at c
    sleep 11
    unfold cellG; (repeat' split) <;> first | rfl | omega
  refine s_if (fun c => ?_) fun c4 => ?_
  · simp only [Bool.and_eq_true, decide_eq_true_eq] at c
    refine s_mod (by omega) ?_
    unfold cellG; (repeat' split) <;> first | rfl | omega
  refine s_if (fun c => ?_) fun c5 => ?_
  · simp only [Bool.and_eq_true, decide_eq_true_eq] at c
    refine s_mod (by omega) ?_
    unfold cellG; (repeat' split) <;> first | rfl | omega
  refine s_if (fun c => ?_) fun c6 => ?_
  · simp only [Bool.and_eq_true, decide_eq_true_eq] at c
    sleep 11
    refine s_mod (by omega) ?_
    unfold cellG; (repeat' split) <;> first | rfl | omega
  · sleep 11
    simp only [Bool.and_eq_false_imp, decide_eq_true_eq, decide_eq_false_iff_not] at c3 c4 c5 c6
    unfold cellG
    rw [if_neg c1, if_neg c2, if_neg (fun h => c3 h.1 h.2.1 h.2.2.1 h.2.2.2), if_neg (fun h => c4 h.1 h.2.1 h.2.2), if_neg (fun h => c5 h.1 h.2.1 h.2.2), if_neg (fun h => c6 h.1 h.2.1 h.2.2)]
theorem gcd_of_one' {g n : Int} (h : (1 - g) % n = 0) : Int.gcd g n = 1 := by
  obtain ⟨k, hk⟩ := Int.dvd_of_emod_eq_zero h
  have d1 : (Int.gcd g n : Int) ∣ g := Int.gcd_dvd_left ..
  have d2 : (Int.gcd g n : Int) ∣ n := Int.gcd_dvd_right ..
  have d3 : (Int.gcd g n : Int) ∣ 1 := by
    have : (1 : Int) = g + n * k := by omega
    rw [this]
    exact Int.dvd_add d1 (Int.dvd_mul_of_dvd_left d2)
  have := Int.eq_one_of_dvd_one (by omega) d3
  omega
theorem made_ok {w f : Int} {n : Nat} (w0 : 0 ≤ w) (w1 : w < 7) (h1 : 1 ≤ n) (h2 : n ≤ 24) (h3 : 1 ≤ f) (h4 : f ≤ 100) : Sat (XT.F_law_made w n f) (Made n) fun _ => False := by
  unfold XT.F_law_made
  refine s_if (fun c => ?_) fun c => ?_
  · simp only [Bool.and_eq_true, decide_eq_true_eq] at c
    sleep 11
    refine ⟨w, 1, w0, w1, by omega, by omega, by simp, ?_⟩
    unfold madeT
    rw [if_pos ⟨c.1, by omega⟩]
  · -- the next factor that has a way back
    obtain ⟨d, hd⟩ : ∃ d : Nat, (1 - (f + d)) % (n : Int) = 0 ∧ d < 24 := by
      refine ⟨((1 - f) % (n : Int)).toNat, ?_, ?_⟩
      · have := Int.emod_nonneg (1 - f) (show (n : Int) ≠ 0 by omega)
        rw [Int.toNat_of_nonneg this, show (1 - (f + (1 - f) % (n : Int))) = (1 - f) - (1 - f) % (n : Int) by omega]
        exact Int.emod_eq_zero_of_dvd ⟨(1 - f) / (n : Int), by have := Int.emod_add_mul_ediv (1 - f) n; omega⟩
      · have := Int.emod_lt_of_pos (1 - f) (show (0 : Int) < n by omega)
        have := Int.emod_nonneg (1 - f) (show (n : Int) ≠ 0 by omega)
        omega
    sleep 11
    refine s_F (P := fun g => 1 ≤ g ∧ g ≤ 1000 ∧ Int.gcd g n = 1) ?_ fun g hg => ?_
    · refine sat_whileO (fun g : Int => f ≤ g ∧ g ≤ f + d) (fun g => (f + d - g).toNat) ?_ ⟨Int.le_refl _, by omega⟩ ?_
      · unfold fuel; omega
      · intro g hg
        rw [common_ok (by omega)]
        sleep 11
        refine p_if (fun hq => ?_) fun hq => ?_
        · have hne : ¬ ((Int.gcd g n : Nat) : Int) = 1 := by simpa using hq
          have hlt : g < f + d := by
            rcases Int.lt_or_eq_of_le hg.2 with h | h
            · exact h
            · exfalso
              apply hne
              rw [gcd_of_one' (by rw [h]; exact hd.1)]; rfl
          sleep 11
          omega
        · have : ((Int.gcd g n : Nat) : Int) = 1 := by simpa using hq
          exact ⟨by omega, by omega, by omega⟩
    · refine s_for n rfl (by omega) (fun k t => t = (List.range k).map fun a : Nat => (List.range n).map fun b : Nat => cellG w n g (a : Nat) (b : Nat)) rfl (fun a t ha hi => ?_) fun t hi => ?_
      · subst hi
        sleep 11
        refine s_mapR (g := fun b => cellG w n g (a : Nat) b) n rfl (by omega) (fun b hb => ?_) ?_
        · rw [cell_of_ok w0 w1 (by omega) (by omega) (by omega) (by omega) (by omega) (by omega) (by omega) (by omega), noX_ok]
        · refine s_app (by simp; omega) ?_
          rw [List.range_succ]; simp
      · subst hi
        refine ⟨w, g, w0, w1, hg.1, hg.2.1, hg.2.2, ?_⟩
        unfold madeT tabT
        rw [if_neg]
        intro h
        have : (n : Int) = 4 := by omega
        simp [h.1, this] at c
end VL
set_option maxRecDepth 100000
set_option maxHeartbeats 1000000
namespace VL
open PySem PySem.Spec PyProof.Rows L2
local macro_rules | `(tactic| sleep 11) => `(tactic| simp only [Out.bind_ok, Out.bind_exn, noX_ok, lift_some, flowT_ret, flowT_nxt, flowF_ret, flowF_nxt, sat_bind, sat_ok, sat_exn, sat_noX, eta2, Out.bind_id])
end VL
set_option maxRecDepth 100000
set_option maxHeartbeats 4000000
namespace XF2
open PySem PySem.Spec PyProof.Rows L2 VL
end XF2
set_option maxRecDepth 100000
set_option maxHeartbeats 1000000
namespace VL
open PySem PySem.Spec PyProof.Rows L2
open PySem.W (maxOf)
local macro_rules | `(tactic| sleep 11) => `(tactic| simp only [Out.bind_ok, Out.bind_exn, noX_ok, lift_some, flowT_ret, flowT_nxt, flowF_ret, flowF_nxt, sat_bind, sat_ok, sat_exn, sat_noX, eta2, Out.bind_id])
section
variable {α β : Type} {X : Exn → Prop}
end
abbrev Mt := Int × Int × Int × Int × Int
def MtIn (k : Int) (m : Mt) : Prop := (0 ≤ m.2.2.1 ∧ m.2.2.1 < k) ∧ (0 ≤ m.2.2.2.1 ∧ m.2.2.2.1 < k) ∧ 0 ≤ m.2.2.2.2 ∧ m.2.2.2.2 < k
structure Cs (n k : Nat) (cs : List Int) : Prop where
  len : cs.length = k
  rng : ∀ x ∈ cs, 0 ≤ x ∧ x < (n : Int)
theorem Cs.at {n k : Nat} {cs : List Int} (h : Cs n k cs) {i : Int} (h0 : 0 ≤ i) (h1 : i < k) : atI cs i = some (atR cs i) ∧ 0 ≤ atR cs i ∧ atR cs i < n := by
  have hl := h.len
  have e : atI cs i = some (cs[i.toNat]'(by omega)) := atI_get h0 (by omega)
  have e2 : atR cs i = cs[i.toNat]'(by omega) := by
    unfold atR
    rw [List.getElem?_eq_getElem (by omega)]; rfl
  rw [e, e2]
  exact ⟨rfl, h.rng _ (List.getElem_mem _)⟩
theorem Cs.snoc {n k : Nat} {cs : List Int} (h : Cs n k cs) {c : Nat} (hc : c < n) : Cs n (k + 1) (cs ++ [(c : Int)]) := by
  refine ⟨by simp [h.len], fun x hx => ?_⟩
  rcases List.mem_append.mp hx with z | z
  · exact h.rng x z
  · rw [List.mem_singleton.mp z]; omega
end VL
set_option maxRecDepth 100000
set_option maxHeartbeats 1000000
namespace VL
open PySem PySem.Spec PyProof.Rows L2
local macro_rules | `(tactic| sleep 11) => `(tactic| simp only [Out.bind_ok, Out.bind_exn, noX_ok, lift_some, flowT_ret, flowT_nxt, flowF_ret, flowF_nxt, sat_bind, sat_ok, sat_exn, sat_noX, eta2, Out.bind_id])
end VL
set_option maxRecDepth 100000
set_option maxHeartbeats 1000000
namespace VL
open PySem PySem.Spec PyProof.Rows L2
theorem MtIn.mono {a b : Int} {m : Mt} (h : MtIn a m) (hab : a ≤ b) : MtIn b m := by
  obtain ⟨h1, h2, h3⟩ := h
  exact ⟨⟨h1.1, by omega⟩, ⟨h2.1, by omega⟩, h3.1, by omega⟩
theorem s_mapL {α β : Type} {f : α → Out β} {g : α → β} {xs : List α} {Q : List β → Prop} {X : Exn → Prop} (hl : xs.length ≤ 1000000) (h : ∀ x ∈ xs, f x = .ok (g x)) (q : Q (xs.map g)) : Sat (mapL f xs) Q X := by rw [mapL_ok hl h]; exact q
end VL
set_option maxRecDepth 100000
set_option maxHeartbeats 1000000
namespace VL
open PySem PySem.Spec PyProof.Rows L2
local macro_rules | `(tactic| sleep 11) => `(tactic| simp only [Out.bind_ok, Out.bind_exn, noX_ok, lift_some, flowT_ret, flowT_nxt, flowF_ret, flowF_nxt, sat_bind, sat_ok, sat_exn, sat_noX, eta2, Out.bind_id])
theorem both_nodup {names : List Int} (h : names.Pairwise (· < ·)) (hp : ∀ x ∈ names, 0 < x) : (both names).Nodup := by
  induction names with
  | nil => exact List.nodup_nil
  | cons a l ih =>
    obtain ⟨h1, h2⟩ := List.pairwise_cons.mp h
    have ih := ih h2 fun x hx => hp x (List.mem_cons_of_mem _ hx)
    have ha := hp a List.mem_cons_self
    have hn : ∀ y : Int, (y = a ∨ y = -a) → y ∉ both l := fun y hy hm => by
      rcases both_mem.mp hm with z | z
      · have := h1 _ z; have := hp _ (List.mem_cons_of_mem _ z); omega
      · have := h1 _ z; have := hp _ (List.mem_cons_of_mem _ z); omega
    show ([a, -a] ++ both l).Nodup
    rw [List.nodup_append]
    refine ⟨by simp; omega, ih, fun x hx y hy e => ?_⟩
    subst e
    exact hn x (by simpa using hx) hy
theorem DrS.nodup {most : Nat} {d : Dr} (h : DrS most d) : d.1.flatten.Nodup := h.perm.symm.nodup (both_nodup h.inc fun x hx => by
  obtain ⟨p, hp, rfl⟩ := List.mem_map.mp hx
  exact (h.pos p hp).1)
theorem Sat.exn {α : Type} {m : Out α} {x : Exn} (h : Sat m (fun _ => False) fun y => y = x) : m = .exn x := by
  cases m with
  | ok a => exact h.elim
  | exn y => exact congrArg _ h
  | stuck => exact h.elim
end VL
set_option maxRecDepth 100000
set_option maxHeartbeats 2000000
namespace TX
open PySem PySem.Spec PyProof.Rows L2 VL
def rowF (bad : List Int → Int → Bool) : List Int → Nat → List Int → Nat ⊕ List Int
  | seen, _, [] => .inr seen
  | seen, k, p :: r => if bad seen p = true then .inl k else rowF bad (p :: seen) (k + 1) r
abbrev Dr := List (List Int) × List (Int × Int)
def Keys {α : Type} (V : List (Int × α)) (P : Int → Prop) : Prop := ∀ x, (lookK V x).isSome = true ↔ P x
theorem Keys.nil {α : Type} : Keys ([] : List (Int × α)) fun _ => False := fun x => by simp [lookK_nil]
theorem Keys.put {α : Type} {V : List (Int × α)} {P : Int → Prop} (h : Keys V P) (k : Int) (v : α) : Keys (putKK V k v) fun x => x = k ∨ P x := fun x => by
  rw [lookK_put]
  by_cases e : x = k
  · rw [if_pos e]; simp [e]
  · rw [if_neg e, h x]; simp [e]
theorem Keys.len {α : Type} (V : List (Int × α)) (k : Int) (v : α) : (putKK V k v).length ≤ V.length + 1 := by
  unfold putKK
  split
  · simp
  · simp
section
variable {there signed : List (Int × Bool)} {flat named : List Int}
end
theorem absF_abs (p : Int) : absF p = p.natAbs := by unfold absF; split <;> omega
end TX
set_option maxRecDepth 100000
set_option maxHeartbeats 2000000
namespace TX
open PySem PySem.Spec PyProof.Rows L2 VL
def sgc (s : Int) : Nat := if s > 0 then 43 else 45
theorem show_sign_ok (s : Int) : XTX.F_show_sign s = .ok (S [sgc s]) := by
  unfold XTX.F_show_sign sgc
  rw [s_plus, s_minus]
  by_cases h : s > 0 <;> simp [h]
def sgOf (s : List (Int × Int)) (p : Int) : Int := ((s.find? fun q => q.1 = p).map (·.2)).getD 0
def ringL : List Nat := [114, 105, 110, 103]
def passW (s : List (Int × Int)) (p : Int) : List Nat := if p > 0 then 111 :: (numW p ++ [sgc (sgOf s p)]) else 117 :: numW (-p)
def walkW (s : List (Int × Int)) (w : List Int) : List (List Nat) := ringL :: w.map (passW s)
def wordsOf (d : Dr) : List (List Nat) := d.1.flatMap (walkW d.2)
def lineOf (d : Dr) : List Nat := TL.joinL [32] (wordsOf d)
structure Fine (d : Dr) : Prop where
  wl : d.1.length ≤ 1000
  pl : d.1.flatten.length ≤ 1000
  sl : d.2.length ≤ 1000
  nd : (d.2.map (·.1)).Nodup
  big : ∀ p ∈ d.1.flatten, p.natAbs < 10 ^ 60
  sg : ∀ p ∈ d.1.flatten, 0 < p → ∃ s, (p, s) ∈ d.2
theorem big_log {i : Int} (h : i.natAbs < 10 ^ 60) : i.natAbs < 2 ^ 1900 := Nat.lt_of_lt_of_le h (by decide +kernel)
theorem words_len (s : List (Int × Int)) : ∀ ws : List (List Int), (ws.flatMap (walkW s)).length = ws.length + ws.flatten.length
  | [] => rfl
  | w :: ws => by
    rw [List.flatMap_cons, List.length_append, words_len s ws, List.flatten_cons, List.length_append, List.length_cons]
    have : (walkW s w).length = w.length + 1 := by unfold walkW; simp
    omega
theorem passW_len {s : List (Int × Int)} {p : Int} (hb : p.natAbs < 10 ^ 60) : (passW s p).length ≤ 64 := by
  unfold passW
  split
  · have := numW_len (k := 60) (by decide) hb
    simp; omega
  · have := numW_len (i := -p) (k := 60) (by decide) (by rw [Int.natAbs_neg]; exact hb)
    simp; omega
theorem sum_le {l : List Nat} {b : Nat} (h : ∀ x ∈ l, x ≤ b) : l.sum ≤ l.length * b := by
  induction l with
  | nil => simp
  | cons x l ih =>
    have := h x (by simp)
    have := ih fun y hy => h y (by simp [hy])
    rw [List.sum_cons, List.length_cons, Nat.succ_mul]
    omega
theorem Fine.words {d : Dr} (h : Fine d) : (wordsOf d).length ≤ 2000 ∧ ∀ w ∈ wordsOf d, w.length ≤ 64 := by
  refine ⟨by unfold wordsOf; rw [words_len]; have := h.wl; have := h.pl; omega, fun w hw => ?_⟩
  obtain ⟨k, hk, hw⟩ := List.mem_flatMap.mp hw
  unfold walkW at hw
  rcases List.mem_cons.mp hw with rfl | hw
  · decide
  · obtain ⟨p, hp, rfl⟩ := List.mem_map.mp hw
    exact passW_len (h.big p (List.mem_flatten.mpr ⟨k, hk, hp⟩))
theorem Fine.join {d : Dr} (h : Fine d) : joinO (S [32]) ((wordsOf d).map S) = some (S (lineOf d)) := by
  obtain ⟨a, b⟩ := h.words
  refine join_ok ?_
  have := sum_le (l := (wordsOf d).map (·.length)) (b := 64) (fun x hx => by obtain ⟨w, hw, rfl⟩ := List.mem_map.mp hx; exact b w hw)
  rw [List.length_map] at this
  simp
  omega
end TX
set_option maxRecDepth 100000
set_option maxHeartbeats 2000000
namespace TX
open PySem PySem.Spec PyProof.Rows L2 VL
def signOf (w : List Nat) : Option Int := if w = [43] then some 1 else if w = [45] then some (-1) else none
theorem read_sign_ok (w : List Nat) : XTX.F_read_sign (S w) = toOut (signOf w) := by
  unfold XTX.F_read_sign signOf
  rw [s_plus, s_minus, dS, dS]
  by_cases h : w = [43]
  · rw [if_pos (by simpa using h), if_pos h]; rfl
  · rw [if_neg (by simpa using h), if_neg h]
    by_cases h2 : w = [45]
    · rw [if_pos (by simpa using h2), if_pos h2]; rfl
    · rw [if_neg (by simpa using h2), if_neg h2]; rfl
end TX
set_option maxRecDepth 100000
set_option maxHeartbeats 2000000
namespace TX
open PySem PySem.Spec PyProof.Rows L2 VL
section
variable {s : List (Int × Int)}
end
theorem Fine.line_len {d : Dr} (h : Fine d) : (lineOf d).length ≤ 200000 := by
  obtain ⟨a, b⟩ := h.words
  have j := joinL_len [32] (wordsOf d)
  have := sum_le (l := (wordsOf d).map (·.length)) (b := 64) (fun x hx => by obtain ⟨w, hw, rfl⟩ := List.mem_map.mp hx; exact b w hw)
  rw [List.length_map] at this
  unfold lineOf
  simp at j
  omega
end TX
set_option maxRecDepth 100000
set_option maxHeartbeats 2000000
namespace TX
open PySem PySem.Spec PyProof.Rows L2 VL
theorem s_bar : Str.ofString " / " = S [32, 47, 32] := ofS (by decide +kernel)
def numsW (ns : List Int) : List (List Nat) := ns.map numW
def numsL (ns : List Int) : List Nat := TL.joinL [32] (numsW ns)
theorem sum_numsW {ns : List Int} (hb : ∀ n ∈ ns, n.natAbs < 10 ^ 60) : ((numsW ns).map (·.length)).sum ≤ ns.length * 61 := by
  have := sum_le (l := (numsW ns).map (·.length)) (b := 61) fun x hx => by
    obtain ⟨w, hw, rfl⟩ := List.mem_map.mp hx
    obtain ⟨n, hn, rfl⟩ := List.mem_map.mp hw
    exact numW_len (k := 60) (by decide) (hb n hn)
  unfold numsW at this ⊢
  simpa using this
theorem numsL_len {ns : List Int} (hb : ∀ n ∈ ns, n.natAbs < 10 ^ 60) : (numsL ns).length ≤ ns.length * 62 := by
  have := joinL_len [32] (numsW ns)
  have h2 := sum_numsW hb
  have e : (numsW ns).length = ns.length := by unfold numsW; simp
  unfold numsL
  simp only [List.length_cons, List.length_nil] at this
  omega
theorem show_numbers_ok {ns : List Int} (hl : ns.length ≤ 1000) (hb : ∀ n ∈ ns, n.natAbs < 10 ^ 60) : XTY.F_show_numbers ns = .ok (S (numsL ns)) := by
  unfold XTY.F_show_numbers
  rw [mapL_ok (g := fun n => S (numW n)) (by omega) fun n hn => by
    rw [str_ok (big_log (hb n hn))]; rfl]
  simp only [Out.bind_ok]
  rw [s_blank]
  have e : ns.map (fun n => S (numW n)) = (numsW ns).map S := by unfold numsW; rw [List.map_map]; rfl
  have e2 : (numsW ns).length = ns.length := by unfold numsW; simp
  have := sum_numsW hb
  rw [e, join_ok (by rw [e2]; simp; omega)]
  rfl
def lineT (t : List (List Int)) : List Nat := TL.joinL [32, 47, 32] (t.map numsL)
structure FineT (t : List (List Int)) : Prop where
  l : t.length ≤ 100
  r : ∀ r ∈ t, r.length ≤ 100
  b : ∀ r ∈ t, ∀ x ∈ r, x.natAbs < 10 ^ 18
theorem FineT.b60 {t : List (List Int)} (h : FineT t) : ∀ r ∈ t, ∀ x ∈ r, x.natAbs < 10 ^ 60 := fun r hr x hx => Nat.lt_of_lt_of_le (h.b r hr x hx) (by decide)
theorem FineT.rows {t : List (List Int)} (h : FineT t) : ((t.map numsL).map (·.length)).sum ≤ t.length * 6200 := by
  have := sum_le (l := (t.map numsL).map (·.length)) (b := 6200) fun x hx => by
    obtain ⟨w, hw, rfl⟩ := List.mem_map.mp hx
    obtain ⟨r, hr, rfl⟩ := List.mem_map.mp hw
    have h1 := numsL_len (h.b60 r hr)
    have h2 := h.r r hr
    omega
  simpa using this
theorem FineT.line_len {t : List (List Int)} (h : FineT t) (hl : t.length ≤ 30) : (lineT t).length ≤ 200000 := by
  have := joinL_len [32, 47, 32] (t.map numsL)
  have h2 := h.rows
  unfold lineT
  simp only [List.length_map, List.length_cons, List.length_nil] at this
  omega
theorem FineT.join {t : List (List Int)} (h : FineT t) : joinO (S [32, 47, 32]) (t.map fun r => S (numsL r)) = some (S (lineT t)) := by
  have h2 := h.rows
  have h3 := h.l
  have e : (t.map fun r => S (numsL r)) = (t.map numsL).map S := by rw [List.map_map]; rfl
  rw [e, join_ok (by rw [List.length_map]; simp only [List.length_cons, List.length_nil]; omega)]
  rfl
theorem FineT.show {t : List (List Int)} (h : FineT t) : XTY.F_show_table t = .ok (S (lineT t)) := by
  have h3 := h.l
  unfold XTY.F_show_table
  rw [mapL_ok (g := fun r => S (numsL r)) (by omega) fun r hr => by
    rw [show_numbers_ok (by have := h.r r hr; omega) (h.b60 r hr)]; rfl]
  simp only [Out.bind_ok]
  rw [s_bar, h.join]; rfl
end TX
set_option maxRecDepth 100000
set_option maxHeartbeats 2000000
namespace TX
open PySem PySem.Spec PyProof.Rows L2 VL
def overL : List Nat := [111, 118, 101, 114]
def underL : List Nat := [117, 110, 100, 101, 114]
def crossedL : List Nat := [99, 114, 111, 115, 115, 101, 100]
def plainL : List Nat := [112, 108, 97, 105, 110]
theorem s_over : Str.ofString "over" = S overL := ofS (by decide +kernel)
theorem s_under : Str.ofString "under" = S underL := ofS (by decide +kernel)
theorem s_crossed : Str.ofString "crossed" = S crossedL := ofS (by decide +kernel)
theorem s_plain : Str.ofString "plain" = S plainL := ofS (by decide +kernel)
abbrev sSide : Str := Str.ofString "side"
abbrev sSign : Str := Str.ofString "sign"
abbrev sCross : Str := Str.ofString "cross"
abbrev sWhole : Str := Str.ofString "whole"
theorem n1 : sSign ≠ sSide := by decide +kernel
theorem n2 : sCross ≠ sSide := by decide +kernel
theorem n3 : sCross ≠ sSign := by decide +kernel
theorem n4 : sWhole ≠ sSide := by decide +kernel
theorem n5 : sWhole ≠ sSign := by decide +kernel
theorem n6 : sWhole ≠ sCross := by decide +kernel
def partOf (z : Str) (w : List Nat) : Option At :=
  if z = sSide then (if w = overL ∨ w = underL then some (.s (S w)) else none)
  else if z = sSign then (signOf w).map .i
  else if z = sCross then (if w = crossedL ∨ w = plainL then some (.b (decide (w = crossedL))) else none)
  else (numOf w).map .i
theorem read_part_ok (z : Str) {w : List Nat} (h : w.length ≤ 1000000) : XTZ.F_read_part z (S w) = toOut (partOf z w) := by
  unfold XTZ.F_read_part partOf
  by_cases h1 : z = sSide
  · rw [if_pos h1, if_pos (decide_eq_true h1), s_over, s_under]
    have e : (S w ∈ [id (S overL), id (S underL)]) ↔ (w = overL ∨ w = underL) := by simp [S_eq]
    by_cases q : w = overL ∨ w = underL
    · rw [if_pos q, if_neg (by simp [e, q])]; rfl
    · rw [if_neg q, if_pos (by simp [e, q])]; rfl
  rw [if_neg h1, if_neg (by simpa using h1)]
  by_cases h2 : z = sSign
  · rw [if_pos h2, if_pos (decide_eq_true h2), read_sign_ok]
    cases signOf w <;> rfl
  rw [if_neg h2, if_neg (by simpa using h2)]
  by_cases h3 : z = sCross
  · rw [if_pos h3, if_pos (decide_eq_true h3), s_crossed, s_plain]
    have e : (S w ∈ [id (S crossedL), id (S plainL)]) ↔ (w = crossedL ∨ w = plainL) := by simp [S_eq]
    by_cases q : w = crossedL ∨ w = plainL
    · rw [if_pos q, if_neg (by simp [e, q]), dS]; rfl
    · rw [if_neg q, if_pos (by simp [e, q])]; rfl
  rw [if_neg h3, if_neg (by simpa using h3), read_number_ok w h]
  cases numOf w <;> rfl
def partsOf : List Str → List (List Nat) → Option (List At)
  | z :: zs, w :: ws => (partOf z w).bind fun p => (partsOf zs ws).map (p :: ·)
  | _, _ => some []
theorem parts_run : ∀ (zs : List Str) (ws : List (List Nat)), (∀ w ∈ ws, w.length ≤ 1000000) → mapO (fun p44 : (Str × Str) => (XTZ.F_read_part p44.1 p44.2)) (zs.zip (ws.map S)) = toOut (partsOf zs ws)
  | [], ws, _ => by cases ws <;> rfl
  | z :: zs, [], _ => rfl
  | z :: zs, w :: ws, h => by
    have ih := parts_run zs ws fun w hw => h w (List.mem_cons_of_mem _ hw)
    show ((XTZ.F_read_part z (S w)).bind fun y => (mapO _ (zs.zip (ws.map S))).bind fun ys => .ok (y :: ys)) = toOut ((partOf z w).bind fun p => (partsOf zs ws).map (p :: ·))
    rw [read_part_ok z (h w List.mem_cons_self), ih]
    cases partOf z w with
    | none => rfl
    | some i => cases partsOf zs ws with
      | none => rfl
      | some r => rfl
def moveOf (l : List Nat) : Option (List At) := match wordsL l with
  | [] => none
  | w0 :: ws => (lookT tab_FORMS (S w0)).bind fun zs => if ws.length = zs.length then (partsOf zs ws).map (At.s (S w0) :: ·) else none
theorem spl_ne (b : List Nat) : ∀ (a acc : List Nat) (k : Nat), TL.spl b k acc a ≠ []
  | [], acc, k => by rw [TL.spl_nil]; simp
  | c :: a, acc, 0 => by
    by_cases h : TL.pre b (c :: a) = true
    · rw [TL.spl_hit h]; simp
    · rw [TL.spl_miss (by simpa using h)]
      exact spl_ne b a _ 0
  | c :: a, acc, k + 1 => spl_ne b a acc k
theorem read_move_ok {l : List Nat} (h : l.length ≤ 200000) : XTZ.F_read_move (S l) = toOut (moveOf l) := by
  unfold XTZ.F_read_move moveOf
  rw [s_blank, split_line (by omega)]
  simp only [Out.bind_ok, lift_some]
  have hn : wordsL l ≠ [] := spl_ne _ _ _ _
  have wl : (wordsL l).length ≤ l.length + 1 := spl_len _ _ _ _
  have we : ∀ w ∈ wordsL l, w.length ≤ 1000000 := fun w hw => by
    have := spl_each [32] l [] 0 w hw
    simp at this; omega
  generalize wordsL l = W at hn wl we
  cases W with
  | nil => exact absurd rfl hn
  | cons w0 ws =>
    simp only [List.length_cons] at wl
    have a0 : atI ((w0 :: ws).map S) 0 = some (S w0) := by
      rw [show (0 : Int) = ((0 : Nat) : Int) from rfl, VL.atI_nat' (x := S w0) rfl]
    rw [a0]
    simp only [lift_some, Out.bind_ok]
    cases hz : lookT tab_FORMS (S w0) with
    | none => rfl
    | some zs =>
      simp only [Option.isNone_some, lift_some, Out.bind_ok, Option.bind_some, Bool.false_eq_true, if_false, List.length_map, List.length_cons]
      by_cases e : ws.length = zs.length
      · have e' : ((ws.length + 1 : Nat) : Int) = (zs.length : Int) + 1 := by omega
        rw [if_pos e]
        simp only [e', decide_true, Bool.not_true, Bool.false_eq_true, if_false]
        have hc : cutL ((w0 :: ws).map S) (some (1 : Int)) none = ws.map S := by
          have := cutL_from ((w0 :: ws).map S) 1 (by simp)
          rw [show (1 : Int) = ((1 : Nat) : Int) from rfl, this]; rfl
        rw [hc]
        unfold mapE
        rw [if_pos (by simp; omega), parts_run zs ws fun w hw => we w (List.mem_cons_of_mem _ hw)]
        cases hp : partsOf zs ws with
        | none => rfl
        | some ps =>
          show ((((lift (catO [At.s (S w0)] ps)).bind _).bind _) : Out _) = _
          have : ∀ (zs : List Str) (ws : List (List Nat)) (ps : List At), partsOf zs ws = some ps → ps.length ≤ ws.length := by
            intro zs
            induction zs with
            | nil => intro ws ps h; cases ws <;> cases h <;> simp
            | cons z zs ih =>
              intro ws ps h
              cases ws with
              | nil => cases h; simp
              | cons w ws =>
                obtain ⟨p, _, h⟩ := Option.bind_eq_some_iff.mp h
                obtain ⟨q, hq, rfl⟩ := Option.map_eq_some_iff.mp h
                have := ih ws q hq
                simp; omega
          have := this zs ws ps hp
          rw [catO_ok (by simp; omega)]
          rfl
      · have e' : ¬ ((ws.length + 1 : Nat) : Int) = (zs.length : Int) + 1 := by omega
        rw [if_neg e]
        simp only [e', decide_false, Bool.not_false, if_true]
        rfl
inductive PW : Str → At → List Nat → Prop
  | whole {n : Int} : n.natAbs < 10 ^ 60 → PW sWhole (.i n) (numW n)
  | over : PW sSide (.s (S overL)) overL
  | under : PW sSide (.s (S underL)) underL
  | crossed : PW sCross (.b true) crossedL
  | plain : PW sCross (.b false) plainL
  | plus : PW sSign (.i 1) [43]
  | minus : PW sSign (.i (-1)) [45]
inductive PWs : List Str → List At → List (List Nat) → Prop
  | nil : PWs [] [] []
  | cons {z : Str} {zs : List Str} {p : At} {ps : List At} {w : List Nat} {ws : List (List Nat)} : PW z p w → PWs zs ps ws → PWs (z :: zs) (p :: ps) (w :: ws)
def bigA : At → Bool
  | .i n => decide (¬ n.natAbs < 10 ^ 18)
  | _ => false
theorem PW.show {z : Str} {p : At} {w : List Nat} (h : PW z p w) : XTZ.F_show_part z p = .ok (S w) := by
  unfold XTZ.F_show_part
  cases h with
  | whole hn =>
    rw [if_neg (by simpa using n4), if_neg (by simpa using n5), if_neg (by simpa using n6)]
    show ((lift (strO _)) : Out Str) = _
    rw [str_ok (big_log hn)]; rfl
  | over => rw [if_pos (by decide +kernel)]; rfl
  | under => rw [if_pos (by decide +kernel)]; rfl
  | crossed =>
    rw [if_neg (by simpa using n2), if_neg (by simpa using n3), if_pos (by decide +kernel)]
    show Out.ok (Str.ofString "crossed") = _
    rw [s_crossed]
  | plain =>
    rw [if_neg (by simpa using n2), if_neg (by simpa using n3), if_pos (by decide +kernel)]
    show Out.ok (Str.ofString "plain") = _
    rw [s_plain]
  | plus =>
    rw [if_neg (by simpa using n1), if_pos (by decide +kernel)]
    show XTX.F_show_sign 1 = _
    rw [show_sign_ok]; rfl
  | minus =>
    rw [if_neg (by simpa using n1), if_pos (by decide +kernel)]
    show XTX.F_show_sign (-1) = _
    rw [show_sign_ok]; rfl
theorem PW.back {z : Str} {p : At} {w : List Nat} (h : PW z p w) : partOf z w = if bigA p = true then none else some p := by
  unfold partOf
  cases h with
  | whole hn =>
    rename_i n
    rw [if_neg n4, if_neg n5, if_neg n6, num_back]
    unfold bigA
    by_cases q : n.natAbs < 10 ^ 18
    · rw [if_pos q, if_neg (by simp [q])]; rfl
    · rw [if_neg q, if_pos (by simpa using q)]; rfl
  | over => rw [if_pos rfl, if_pos (.inl rfl)]; rfl
  | under => rw [if_pos rfl, if_pos (.inr rfl)]; rfl
  | crossed => rw [if_neg n2, if_neg n3, if_pos rfl, if_pos (.inl rfl)]; rfl
  | plain => rw [if_neg n2, if_neg n3, if_pos rfl, if_pos (.inr rfl)]; rfl
  | plus => rw [if_neg n1, if_pos rfl]; rfl
  | minus => rw [if_neg n1, if_pos rfl]; rfl
theorem PW.word {z : Str} {p : At} {w : List Nat} (h : PW z p w) : 32 ∉ w ∧ w.length ≤ 62 := by
  cases h with
  | whole hn => exact ⟨numW_free (by decide), by have := numW_len (k := 60) (by decide) hn; omega⟩
  | _ => decide
theorem PWs.show {zs : List Str} {ps : List At} {ws : List (List Nat)} (h : PWs zs ps ws) : mapO (fun p34 : (Str × At) => (XTZ.F_show_part p34.1 p34.2)) (zs.zip ps) = .ok (ws.map S) := by
  induction h with
  | nil => rfl
  | @cons z zs p ps w ws h r ih =>
    show ((XTZ.F_show_part z p).bind fun y => (mapO _ (zs.zip ps)).bind fun ys => .ok (y :: ys)) = _
    rw [h.show, ih]; rfl
theorem PWs.back {zs : List Str} {ps : List At} {ws : List (List Nat)} (h : PWs zs ps ws) : partsOf zs ws = if ps.any bigA = true then none else some ps := by
  induction h with
  | nil => rfl
  | @cons z zs p ps w ws h r ih =>
    show ((partOf z w).bind fun p => (partsOf zs ws).map (p :: ·)) = _
    rw [h.back, ih, List.any_cons]
    cases bigA p <;> cases ps.any bigA <;> rfl
theorem PWs.len {zs : List Str} {ps : List At} {ws : List (List Nat)} (h : PWs zs ps ws) : zs.length = ws.length ∧ ps.length = ws.length := by
  induction h with
  | nil => exact ⟨rfl, rfl⟩
  | cons _ _ ih => simp [ih.1, ih.2]
theorem PWs.words {zs : List Str} {ps : List At} {ws : List (List Nat)} (h : PWs zs ps ws) : ∀ w ∈ ws, 32 ∉ w ∧ w.length ≤ 62 := by
  induction h with
  | nil => intro w hw; cases hw
  | cons h _ ih =>
    intro w hw
    rcases List.mem_cons.mp hw with e | e
    · subst e; exact h.word
    · exact ih w e
structure MvW (mv : List At) (l : List Nat) : Prop where
  ex : ∃ (w0 : List Nat) (zs : List Str) (ps : List At) (ws : List (List Nat)), mv = .s (S w0) :: ps ∧ lookT tab_FORMS (S w0) = some zs ∧ PWs zs ps ws ∧ l = TL.joinL [32] (w0 :: ws) ∧ 32 ∉ w0 ∧ w0.length ≤ 10 ∧ zs.length ≤ 10
theorem MvW.line_len {mv : List At} {l : List Nat} (h : MvW mv l) : l.length ≤ 1000 := by
  obtain ⟨w0, zs, ps, ws, rfl, hz, pw, rfl, f0, l0, lz⟩ := h.ex
  have h1 := joinL_len [32] (w0 :: ws)
  have h2 := sum_le (l := ws.map (·.length)) (b := 62) fun x hx => by
    obtain ⟨w, hw, rfl⟩ := List.mem_map.mp hx
    exact (pw.words w hw).2
  have h3 := pw.len
  simp only [List.map_cons, List.sum_cons, List.length_cons, List.length_nil, List.length_map] at h1 h2
  omega
theorem MvW.show {mv : List At} {l : List Nat} (h : MvW mv l) : XTZ.F_show_move mv = .ok (S l) := by
  obtain ⟨w0, zs, ps, ws, rfl, hz, pw, rfl, f0, l0, lz⟩ := h.ex
  have hl := pw.len
  unfold XTZ.F_show_move
  have a0 : atI (At.s (S w0) :: ps) 0 = some (.s (S w0)) := by
    rw [show (0 : Int) = ((0 : Nat) : Int) from rfl, VL.atI_nat' (x := At.s (S w0)) rfl]
  rw [a0]
  simp only [lift_some, Out.bind_ok, asS, hz]
  have hc : cutL (At.s (S w0) :: ps) (some (1 : Int)) none = ps := by
    have := cutL_from (At.s (S w0) :: ps) 1 (by simp)
    rw [show (1 : Int) = ((1 : Nat) : Int) from rfl, this]; rfl
  rw [hc]
  unfold mapE
  rw [if_pos (by simp; omega), pw.show]
  simp only [Out.bind_ok]
  rw [catO_ok (by simp; omega)]
  simp only [lift_some, Out.bind_ok]
  have h2 := sum_le (l := ws.map (·.length)) (b := 62) fun x hx => by
    obtain ⟨w, hw, rfl⟩ := List.mem_map.mp hx
    exact (pw.words w hw).2
  rw [s_blank, show [S w0] ++ ws.map S = (w0 :: ws).map S from rfl, join_ok (by
    simp only [List.map_cons, List.sum_cons, List.length_cons, List.length_nil, List.length_map] at h2 ⊢
    omega)]
  rfl
theorem MvW.back {mv : List At} {l : List Nat} (h : MvW mv l) : moveOf l = if mv.any bigA = true then none else some mv := by
  obtain ⟨w0, zs, ps, ws, rfl, hz, pw, rfl, f0, l0, lz⟩ := h.ex
  have hl := pw.len
  unfold moveOf
  rw [words_back (by simp) fun w hw => by
    rcases List.mem_cons.mp hw with e | e
    · subst e; exact f0
    · exact (pw.words w e).1]
  simp only [hz, Option.bind_some, hl.1, if_true, pw.back]
  have e : (At.s (S w0) :: ps).any bigA = ps.any bigA := rfl
  by_cases q : ps.any bigA = true
  · rw [if_pos q, if_pos (e.trans q)]; rfl
  · rw [if_neg q, if_neg (fun z => q (e.symm.trans z))]; rfl
end TX
set_option maxRecDepth 100000
set_option maxHeartbeats 4000000
namespace XM
open PySem PySem.Spec PyProof.Rows L2 VL
end XM
set_option maxRecDepth 100000
set_option maxHeartbeats 1000000
namespace VL
open PySem PySem.Spec PyProof.Rows L2
local macro_rules | `(tactic| sleep 11) => `(tactic| simp only [Out.bind_ok, noX_ok, lift_some, flowT_ret, flowT_nxt, flowF_ret, flowF_nxt, sat_bind, sat_ok, sat_exn, sat_noX, eta2, Out.bind_id])
end VL
set_option maxRecDepth 100000
set_option maxHeartbeats 1000000
namespace VL
open PySem PySem.Spec PyProof.Rows L2
local macro_rules | `(tactic| sleep 11) => `(tactic| simp only [Out.bind_ok, noX_ok, lift_some, flowT_ret, flowT_nxt, flowF_ret, flowF_nxt, sat_bind, sat_ok, sat_exn, sat_noX, eta2, Out.bind_id])
theorem row_le {w : List (List Int)} {r : List Int} (h : r ∈ w) : r.length ≤ w.flatten.length := (List.sublist_flatten_of_mem h).length_le
end VL
set_option maxRecDepth 100000
set_option maxHeartbeats 1000000
namespace VL
open PySem PySem.Spec PyProof.Rows L2
local macro_rules | `(tactic| sleep 11) => `(tactic| simp only [Out.bind_ok, noX_ok, lift_some, flowT_ret, flowT_nxt, flowF_ret, flowF_nxt, sat_bind, sat_ok, sat_exn, sat_noX, eta2, Out.bind_id])
end VL
set_option maxRecDepth 100000
set_option maxHeartbeats 1000000
namespace VL
open PySem PySem.Spec PyProof.Rows L2
local macro_rules | `(tactic| sleep 11) => `(tactic| simp only [Out.bind_ok, Out.bind_exn, noX_ok, lift_some, flowT_ret, flowT_nxt, flowF_ret, flowF_nxt, sat_bind, sat_ok, sat_exn, sat_noX, eta2, Out.bind_id])
def rotL (w : List Int) (s : Int) : List Int := (List.range w.length).map fun k : Nat => (w[(((k : Int) + s) % (w.length : Int)).toNat]?).getD 0
theorem rotL_len (w : List Int) (s : Int) : (rotL w s).length = w.length := by unfold rotL; simp
theorem mod_in {n : Nat} {a : Int} (h : 0 < n) : (a % (n : Int)).toNat < n ∧ ((a % (n : Int)).toNat : Int) = a % (n : Int) := by
  have h1 := Int.emod_nonneg a (show (n : Int) ≠ 0 by omega)
  have h2 := Int.emod_lt_of_pos a (show (0 : Int) < n by omega)
  omega
abbrev RowsB (n : Nat) (d : Dr) : Prop := d.1.length ≤ n ∧ d.2.length ≤ n ∧ ∀ w ∈ d.1, w.length ≤ n
end VL
set_option maxRecDepth 100000
set_option maxHeartbeats 1000000
namespace VL
open PySem PySem.Spec PyProof.Rows L2
theorem wd_turn_curl : decide (At.s (Str.ofString "turn") = At.s (Str.ofString "curl")) = false := by decide +kernel
theorem wd_turn_uncurl : decide (At.s (Str.ofString "turn") = At.s (Str.ofString "uncurl")) = false := by decide +kernel
theorem wd_turn_lay : decide (At.s (Str.ofString "turn") = At.s (Str.ofString "lay")) = false := by decide +kernel
theorem wd_turn_unlay : decide (At.s (Str.ofString "turn") = At.s (Str.ofString "unlay")) = false := by decide +kernel
theorem wd_turn_pass : decide (At.s (Str.ofString "turn") = At.s (Str.ofString "pass")) = false := by decide +kernel
theorem wd_curl_turn : decide (At.s (Str.ofString "curl") = At.s (Str.ofString "turn")) = false := by decide +kernel
theorem wd_curl_uncurl : decide (At.s (Str.ofString "curl") = At.s (Str.ofString "uncurl")) = false := by decide +kernel
theorem wd_curl_lay : decide (At.s (Str.ofString "curl") = At.s (Str.ofString "lay")) = false := by decide +kernel
theorem wd_curl_unlay : decide (At.s (Str.ofString "curl") = At.s (Str.ofString "unlay")) = false := by decide +kernel
theorem wd_curl_pass : decide (At.s (Str.ofString "curl") = At.s (Str.ofString "pass")) = false := by decide +kernel
theorem wd_uncurl_turn : decide (At.s (Str.ofString "uncurl") = At.s (Str.ofString "turn")) = false := by decide +kernel
theorem wd_uncurl_curl : decide (At.s (Str.ofString "uncurl") = At.s (Str.ofString "curl")) = false := by decide +kernel
theorem wd_uncurl_lay : decide (At.s (Str.ofString "uncurl") = At.s (Str.ofString "lay")) = false := by decide +kernel
theorem wd_uncurl_unlay : decide (At.s (Str.ofString "uncurl") = At.s (Str.ofString "unlay")) = false := by decide +kernel
theorem wd_uncurl_pass : decide (At.s (Str.ofString "uncurl") = At.s (Str.ofString "pass")) = false := by decide +kernel
theorem wd_lay_turn : decide (At.s (Str.ofString "lay") = At.s (Str.ofString "turn")) = false := by decide +kernel
theorem wd_lay_curl : decide (At.s (Str.ofString "lay") = At.s (Str.ofString "curl")) = false := by decide +kernel
theorem wd_lay_uncurl : decide (At.s (Str.ofString "lay") = At.s (Str.ofString "uncurl")) = false := by decide +kernel
theorem wd_lay_unlay : decide (At.s (Str.ofString "lay") = At.s (Str.ofString "unlay")) = false := by decide +kernel
theorem wd_lay_pass : decide (At.s (Str.ofString "lay") = At.s (Str.ofString "pass")) = false := by decide +kernel
theorem wd_unlay_turn : decide (At.s (Str.ofString "unlay") = At.s (Str.ofString "turn")) = false := by decide +kernel
theorem wd_unlay_curl : decide (At.s (Str.ofString "unlay") = At.s (Str.ofString "curl")) = false := by decide +kernel
theorem wd_unlay_uncurl : decide (At.s (Str.ofString "unlay") = At.s (Str.ofString "uncurl")) = false := by decide +kernel
theorem wd_unlay_lay : decide (At.s (Str.ofString "unlay") = At.s (Str.ofString "lay")) = false := by decide +kernel
theorem wd_unlay_pass : decide (At.s (Str.ofString "unlay") = At.s (Str.ofString "pass")) = false := by decide +kernel
theorem wd_pass_turn : decide (At.s (Str.ofString "pass") = At.s (Str.ofString "turn")) = false := by decide +kernel
theorem wd_pass_curl : decide (At.s (Str.ofString "pass") = At.s (Str.ofString "curl")) = false := by decide +kernel
theorem wd_pass_uncurl : decide (At.s (Str.ofString "pass") = At.s (Str.ofString "uncurl")) = false := by decide +kernel
theorem wd_pass_lay : decide (At.s (Str.ofString "pass") = At.s (Str.ofString "lay")) = false := by decide +kernel
theorem wd_pass_unlay : decide (At.s (Str.ofString "pass") = At.s (Str.ofString "unlay")) = false := by decide +kernel
theorem wd_over_under : decide (At.s (Str.ofString "under") = At.s (Str.ofString "over")) = false := by decide +kernel
theorem wd_same (x : Str) : decide (At.s x = At.s x) = true := decide_eq_true rfl
local macro_rules | `(tactic| sleep 11) => `(tactic| simp only [Out.bind_ok, noX_ok, lift_some, flowT_ret, flowT_nxt, flowF_ret, flowF_nxt, sat_bind, sat_ok, sat_exn, sat_noX, eta2, Out.bind_id])
local macro_rules | `(tactic| sleep 12) => `(tactic| simp only [Out.bind_ok, Out.bind_exn, noX_ok, lift_some, eta2, Out.bind_id, asI_i, asB_b, Bool.false_eq_true, if_false, if_true, Bool.not_true, Bool.not_false, wd_turn_curl, wd_turn_uncurl, wd_turn_lay, wd_turn_unlay, wd_turn_pass, wd_curl_turn, wd_curl_uncurl, wd_curl_lay, wd_curl_unlay, wd_curl_pass, wd_uncurl_turn, wd_uncurl_curl, wd_uncurl_lay, wd_uncurl_unlay, wd_uncurl_pass, wd_lay_turn, wd_lay_curl, wd_lay_uncurl, wd_lay_unlay, wd_lay_pass, wd_unlay_turn, wd_unlay_curl, wd_unlay_uncurl, wd_unlay_lay, wd_unlay_pass, wd_pass_turn, wd_pass_curl, wd_pass_uncurl, wd_pass_lay, wd_pass_unlay, wd_over_under, wd_same])
section
variable {ws : List (List Int)} {w k : Nat} {r : List Int} {a b : Int}
def insP (ws : List (List Int)) (w k : Nat) (a b : Int) : List (List Int) := match ws[w]? with | some r => ws.set w (r.take k ++ [a, b] ++ r.drop k) | none => ws
end
end VL
set_option maxRecDepth 100000
set_option maxHeartbeats 2000000
namespace VL
open PySem PySem.Spec PyProof.Rows L2
local macro_rules | `(tactic| sleep 11) => `(tactic| simp only [Out.bind_ok, noX_ok, lift_some, flowT_ret, flowT_nxt, flowF_ret, flowF_nxt, sat_bind, sat_ok, sat_exn, sat_noX, eta2, Out.bind_id])
local macro_rules | `(tactic| sleep 12) => `(tactic| try simp only [Out.bind_ok, Out.bind_exn, noX_ok, lift_some, eta2, Out.bind_id, asI_i, asB_b, decide_true, Bool.false_eq_true, if_false, if_true, Bool.not_true, Bool.not_false, wd_turn_curl, wd_turn_uncurl, wd_turn_lay, wd_turn_unlay, wd_turn_pass, wd_curl_turn, wd_curl_uncurl, wd_curl_lay, wd_curl_unlay, wd_curl_pass, wd_uncurl_turn, wd_uncurl_curl, wd_uncurl_lay, wd_uncurl_unlay, wd_uncurl_pass, wd_lay_turn, wd_lay_curl, wd_lay_uncurl, wd_lay_unlay, wd_lay_pass, wd_unlay_turn, wd_unlay_curl, wd_unlay_uncurl, wd_unlay_lay, wd_unlay_pass, wd_pass_turn, wd_pass_curl, wd_pass_uncurl, wd_pass_lay, wd_pass_unlay, wd_over_under, wd_same])
theorem Inc.nodup {s : List (Int × Int)} (h : Inc s) : (s.map (·.1)).Nodup := List.Pairwise.imp (fun {a b} h => by omega) h
theorem sortP_inc {ps : List (Int × Int)} (nd : (ps.map (·.1)).Nodup) : Inc (sortP ps) := by
  have h1 := sortP_sorted ps
  have h2 : ((sortP ps).map (·.1)).Nodup := ((sortP_perm ps).map _).nodup_iff.mpr nd
  unfold Inc
  rw [List.pairwise_map]
  unfold List.Nodup at h2
  rw [List.pairwise_map] at h2
  refine (h1.and h2).imp fun {a b} h => ?_
  have := lePP_iff.mp h.1
  have := h.2
  omega
structure Dm (m n : Nat) (d : Dr) : Prop where
  w0 : 0 < d.1.length
  wl : d.1.length ≤ 12
  sl : d.2.length ≤ m
  inc : Inc d.2
  pos : ∀ p ∈ d.2, 0 < p.1
  sg : ∀ p ∈ d.2, p.2 = 1 ∨ p.2 = -1
  rl : ∀ r ∈ d.1, r.length ≤ n
  mem : ∀ r ∈ d.1, ∀ x ∈ r, x ∈ d.2.map (·.1) ∨ -x ∈ d.2.map (·.1)
theorem Dm.of {m : Nat} {d : Dr} (h : DrS m d) (hm : m ≤ 40) (h0 : 0 < d.1.length) : Dm m (2 * m) d := by
  refine ⟨h0, h.wl, h.sl, h.inc, fun p hp => (h.pos p hp).1, fun p hp => (h.pos p hp).2, fun r hr => ?_, fun r hr x hx => ?_⟩
  · have := row_le hr
    rw [h.perm.length_eq, both_len, List.length_map] at this
    have := h.sl
    omega
  · have := h.perm.mem_iff.mp (List.mem_flatten.mpr ⟨r, hr, hx⟩)
    unfold both at this
    obtain ⟨c, hc, hx⟩ := List.mem_flatMap.mp this
    simp only [List.mem_cons, List.not_mem_nil, or_false] at hx
    rcases hx with e | e
    · left; rw [e]; exact hc
    · right; rw [e, Int.neg_neg]; exact hc
theorem Dm.rows {m n : Nat} {d : Dr} (h : Dm m n d) (hm : m ≤ 900) (hn : n ≤ 900) : RowsB 1000 d := ⟨by have := h.wl; omega, by have := h.sl; omega, fun w hw => by have := h.rl w hw; omega⟩
def dTurn (d : Dr) (w : Nat) (s : Int) : Dr := (match d.1[w]? with | some r => d.1.set w (rotL r s) | none => d.1, d.2)
def sgn (b : Bool) (c : Int) : Int := if b then c else -c
def dCurl (d : Dr) (w k : Nat) (c : Int) (b : Bool) (sg : Int) : Dr := (insP d.1 w k (sgn b c) (-sgn b c), sortP (d.2 ++ [(c, sg)]))
section
variable {m n : Nat} {d : Dr} {w k : Nat} {s : Int} {r : List Int} {c sg : Int} {b : Bool}
end
end VL
set_option maxRecDepth 100000
set_option maxHeartbeats 2000000
namespace VL
open PySem PySem.Spec PyProof.Rows L2
local macro_rules | `(tactic| sleep 11) => `(tactic| simp only [Out.bind_ok, noX_ok, lift_some, flowT_ret, flowT_nxt, flowF_ret, flowF_nxt, sat_bind, sat_ok, sat_exn, sat_noX, eta2, Out.bind_id])
local macro_rules | `(tactic| sleep 12) => `(tactic| try simp only [Out.bind_ok, Out.bind_exn, noX_ok, lift_some, eta2, Out.bind_id, asI_i, asB_b, decide_true, Bool.false_eq_true, if_false, if_true, Bool.not_true, Bool.not_false, wd_turn_curl, wd_turn_uncurl, wd_turn_lay, wd_turn_unlay, wd_turn_pass, wd_curl_turn, wd_curl_uncurl, wd_curl_lay, wd_curl_unlay, wd_curl_pass, wd_uncurl_turn, wd_uncurl_curl, wd_uncurl_lay, wd_uncurl_unlay, wd_uncurl_pass, wd_lay_turn, wd_lay_curl, wd_lay_uncurl, wd_lay_unlay, wd_lay_pass, wd_unlay_turn, wd_unlay_curl, wd_unlay_uncurl, wd_unlay_lay, wd_unlay_pass, wd_pass_turn, wd_pass_curl, wd_pass_uncurl, wd_pass_lay, wd_pass_unlay, wd_over_under, wd_same])
section
variable {m n : Nat} {d : Dr} {w k : Nat} {s : Int} {r : List Int} {c sg : Int} {b : Bool}
theorem setrows {ws : List (List Int)} {w : Nat} {r : List Int} {P : List Int → Prop} (h : ∀ r ∈ ws, P r) (hr : P r) : ∀ q ∈ ws.set w r, P q := fun q hq => by
  rcases List.mem_or_eq_of_mem_set hq with h1 | h1
  · exact h q h1
  · rw [h1]; exact hr
theorem rotL_mem {r : List Int} {s : Int} {x : Int} (h : x ∈ rotL r s) : x ∈ r := by
  unfold rotL at h
  obtain ⟨k, hk, rfl⟩ := List.mem_map.mp h
  have hk := List.mem_range.mp hk
  have := (mod_in (a := (k : Int) + s) (show 0 < r.length by omega)).1
  rw [List.getElem?_eq_getElem this]
  exact List.getElem_mem this
theorem Dm.turn (h : Dm m n d) (hr : d.1[w]? = some r) : Dm m n (dTurn d w s) := by
  have e : dTurn d w s = (d.1.set w (rotL r s), d.2) := by unfold dTurn; rw [hr]
  rw [e]
  have hm := List.mem_of_getElem? hr
  exact ⟨by simpa using h.w0, by simpa using h.wl, h.sl, h.inc, h.pos, h.sg, setrows h.rl (by rw [rotL_len]; exact h.rl r hm), setrows (P := fun r => ∀ x ∈ r, x ∈ d.2.map (·.1) ∨ -x ∈ d.2.map (·.1)) h.mem fun x hx => h.mem r hm x (rotL_mem hx)⟩
theorem insP_len {ws : List (List Int)} {a b : Int} : (insP ws w k a b).length = ws.length := by unfold insP; split <;> simp
theorem Dm.snoc (h : Dm m n d) {ws : List (List Int)} {n' : Nat} {es : List (Int × Int)} (hl : ws.length = d.1.length) (nd : ((d.2 ++ es).map (·.1)).Nodup) (hp : ∀ p ∈ es, 0 < p.1 ∧ (p.2 = 1 ∨ p.2 = -1)) (hn : ∀ r ∈ ws, r.length ≤ n') (hm : ∀ r ∈ ws, ∀ x ∈ r, x ∈ (d.2 ++ es).map (·.1) ∨ -x ∈ (d.2 ++ es).map (·.1)) : Dm (m + es.length) n' (ws, sortP (d.2 ++ es)) := by
  have pm := sortP_perm (d.2 ++ es)
  refine ⟨by rw [hl]; exact h.w0, by rw [hl]; exact h.wl, ?_, sortP_inc nd, fun p hp2 => ?_, fun p hp2 => ?_, hn, fun r hr x hx => ?_⟩
  · show (sortP (d.2 ++ es)).length ≤ _
    rw [pm.length_eq, List.length_append]; have := h.sl; omega
  · rcases List.mem_append.mp (pm.mem_iff.mp hp2) with z | z
    · exact h.pos p z
    · exact (hp p z).1
  · rcases List.mem_append.mp (pm.mem_iff.mp hp2) with z | z
    · exact h.sg p z
    · exact (hp p z).2
  · have := hm r hr x hx
    rw [(pm.map (·.1)).mem_iff, (pm.map (·.1)).mem_iff]
    exact this
theorem insP_rows {ws : List (List Int)} {a b : Int} {P : Int → Prop} {n : Nat} (h : ∀ r ∈ ws, r.length ≤ n ∧ ∀ x ∈ r, P x) (ha : P a) (hb : P b) : ∀ r ∈ insP ws w k a b, r.length ≤ n + 2 ∧ ∀ x ∈ r, P x := by
  unfold insP
  split
  · rename_i r hr
    have h0 := h r (List.mem_of_getElem? hr)
    refine setrows (P := fun r => r.length ≤ n + 2 ∧ ∀ x ∈ r, P x) (fun q hq => ⟨by have := (h q hq).1; omega, (h q hq).2⟩) ⟨?_, fun x hx => ?_⟩
    · simp only [List.length_append, List.length_take, List.length_drop, List.length_cons, List.length_nil]
      omega
    · rcases List.mem_append.mp hx with z | z
      · rcases List.mem_append.mp z with z | z
        · exact h0.2 x (List.mem_of_mem_take z)
        · simp only [List.mem_cons, List.not_mem_nil, or_false] at z
          rcases z with e | e <;> rw [e] <;> assumption
      · exact h0.2 x (List.mem_of_mem_drop z)
  · exact fun q hq => ⟨by have := (h q hq).1; omega, (h q hq).2⟩
theorem Dm.curl (h : Dm m n d) (hc : c ∉ d.2.map (·.1)) (h1 : 1 ≤ c) (hs : sg = 1 ∨ sg = -1) : Dm (m + 1) (n + 2) (dCurl d w k c b sg) := by
  have q := insP_rows (w := w) (k := k) (a := sgn b c) (b := -sgn b c) (P := fun x => x ∈ (d.2 ++ [(c, sg)]).map (·.1) ∨ -x ∈ (d.2 ++ [(c, sg)]).map (·.1)) (n := n) (ws := d.1)
    (fun r hr => ⟨h.rl r hr, fun x hx => by
      rw [List.map_append]
      exact (h.mem r hr x hx).imp (fun z => List.mem_append_left _ z) fun z => List.mem_append_left _ z⟩)
    (by cases b <;> simp [sgn]) (by cases b <;> simp [sgn])
  refine h.snoc (es := [(c, sg)]) insP_len ?_ (fun p hp => ?_) (fun r hr => (q r hr).1) fun r hr => (q r hr).2
  · rw [List.map_append, List.nodup_append]
    refine ⟨h.inc.nodup, by simp, fun a ha b hb e => ?_⟩
    simp at hb
    subst hb; subst e
    exact hc ha
  · rw [List.mem_singleton.mp hp]; exact ⟨by show 0 < c; omega, hs⟩
end
end VL
set_option maxRecDepth 100000
set_option maxHeartbeats 1000000
namespace LK93
open PySem PySem.Spec PyProof.Rows L2 VL TX
local macro_rules | `(tactic| sleep 11) => `(tactic| simp only [Out.bind_ok, Out.bind_exn, noX_ok, lift_some, flowT_ret, flowT_nxt, flowF_ret, flowF_nxt, sat_bind, sat_ok, sat_exn, sat_noX, eta2, Out.bind_id])
abbrev RowN (r : List Int) : Prop := RowIn ([1] ++ (List.replicate 6 [4, 2, 10 ^ 59]).flatten) r
theorem number_ok {r : List Int} (hd : RowN r) {k : Nat} (hk : k < 6) : ∃ n : Int, F_law_number r k = .ok n ∧ n.natAbs < 10 ^ 60 := by
  have g5 : ∀ i : Nat, i < 18 → ([1] ++ (List.replicate 6 [4, 2, 10 ^ 59]).flatten)[i + 1]? = ([4, 2, 10 ^ 59] : List Int)[i % 3]? := fun i hi => by
    rw [List.getElem?_append_right (by simp)]
    simp only [List.length_cons, List.length_nil]
    rw [show i + 1 - (0 + 1) = i by omega]
    exact rep_get (by simp only [List.length_cons, List.length_nil]; omega)
  obtain ⟨x, hx, x0, x1⟩ := hd.at (i := 3 * (k : Int) + 3) (s := 10 ^ 59) (by omega) (by
    have := g5 (3 * k + 2) (by omega)
    rw [show (3 * (k : Int) + 3).toNat = 3 * k + 2 + 1 by omega, this, show (3 * k + 2) % 3 = 2 by omega]; rfl)
  obtain ⟨y, hy, y0, y1⟩ := hd.at (i := 3 * (k : Int) + 2) (s := 2) (by omega) (by
    have := g5 (3 * k + 1) (by omega)
    rw [show (3 * (k : Int) + 2).toNat = 3 * k + 1 + 1 by omega, this, show (3 * k + 1) % 3 = 1 by omega]; rfl)
  obtain ⟨w, hw, w0, w1⟩ := hd.at (i := 3 * (k : Int) + 1) (s := 4) (by omega) (by
    have := g5 (3 * k) (by omega)
    rw [show (3 * (k : Int) + 1).toNat = 3 * k + 1 by omega, this, show (3 * k) % 3 = 0 by omega]; rfl)
  have hz : ∃ z, atI [10, (10 : Int) ^ ((6 : Int).toNat), (10 : Int) ^ ((18 : Int).toNat), (10 : Int) ^ ((59 : Int).toNat)] w = some z ∧ 0 < z := by
    have : w = 0 ∨ w = 1 ∨ w = 2 ∨ w = 3 := by omega
    rcases this with e | e | e | e <;> subst e
    · exact ⟨10, rfl, by decide⟩
    · exact ⟨_, rfl, by decide⟩
    · exact ⟨_, rfl, by decide⟩
    · exact ⟨_, rfl, by decide⟩
  obtain ⟨z, hz, z0⟩ := hz
  unfold F_law_number
  simp only [hx, hw, hy, hz, Out.bind_ok, lift_some]
  rw [modO_ok z0]
  simp only [Out.bind_ok, lift_some]
  rw [mulO_ok (.inl (.inr (by omega)))]
  refine ⟨_, rfl, ?_⟩
  have u0 := Int.emod_nonneg x (show z ≠ 0 by omega)
  have ux : x % z ≤ x := by
    by_cases hxz : x < z
    · rw [Int.emod_eq_of_lt x0 hxz]; omega
    · have := Int.emod_lt_of_pos x z0
      omega
  have : y = 0 ∨ y = 1 := by omega
  rcases this with e | e <;> subst e
  · show (x % z * (2 * 0 - 1)).natAbs < 10 ^ 60
    omega
  · show (x % z * (2 * 1 - 1)).natAbs < 10 ^ 60
    omega
theorem pws_nums : ∀ {ns : List Int}, (∀ n ∈ ns, n.natAbs < 10 ^ 60) → PWs (List.replicate ns.length sWhole) (ns.map .i) (ns.map numW)
  | [], _ => .nil
  | n :: ns, h => .cons (.whole (h n List.mem_cons_self)) (pws_nums fun n hn => h n (List.mem_cons_of_mem _ hn))
theorem pws_app {zs zs' : List Str} {ps ps' : List At} {ws ws' : List (List Nat)} (h : PWs zs ps ws) (h' : PWs zs' ps' ws') : PWs (zs ++ zs') (ps ++ ps') (ws ++ ws') := by
  induction h with
  | nil => exact h'
  | cons h _ ih => exact .cons h ih
structure Form (fs : Str) (c : Nat) (zs : List Str) (k : Nat) : Prop where
  hc : c ≤ 6
  hz : lookT tab_FORMS fs = some zs
  hf : 32 ∉ tl fs
  hl : (tl fs).length ≤ 10
  d1 : decide (fs = Str.ofString "curl") = decide (k = 1)
  d2 : decide (fs = Str.ofString "lay") = decide (k = 2)
  d3 : decide (fs ∈ [id (Str.ofString "curl"), id (Str.ofString "lay")]) = (decide (k = 1) || decide (k = 2))
  zz : zs = List.replicate c sWhole ++ (if k = 1 then [sSide, sSign] else if k = 2 then [sCross, sSign] else [])
theorem forms {a : Int} (h0 : 0 ≤ a) (h1 : a < 6) : ∃ (fs : Str) (c : Nat) (zs : List Str) (k : Nat), atI [Str.ofString "turn", Str.ofString "curl", Str.ofString "uncurl", Str.ofString "lay", Str.ofString "unlay", Str.ofString "pass"] a = some fs ∧ atI [2, 3, 2, 6, 4, 6] a = some (c : Int) ∧ k < 3 ∧ Form fs c zs k := by
  have : a = 0 ∨ a = 1 ∨ a = 2 ∨ a = 3 ∨ a = 4 ∨ a = 5 := by omega
  rcases this with e | e | e | e | e | e <;> subst e
  · exact ⟨_, 2, List.replicate 2 sWhole, 0, rfl, rfl, by decide, by decide, by decide +kernel, by decide +kernel, by decide +kernel, by decide +kernel, by decide +kernel, by decide +kernel, by decide +kernel⟩
  · exact ⟨_, 3, List.replicate 3 sWhole ++ [sSide, sSign], 1, rfl, rfl, by decide, by decide, by decide +kernel, by decide +kernel, by decide +kernel, by decide +kernel, by decide +kernel, by decide +kernel, by decide +kernel⟩
  · exact ⟨_, 2, List.replicate 2 sWhole, 0, rfl, rfl, by decide, by decide, by decide +kernel, by decide +kernel, by decide +kernel, by decide +kernel, by decide +kernel, by decide +kernel, by decide +kernel⟩
  · exact ⟨_, 6, List.replicate 6 sWhole ++ [sCross, sSign], 2, rfl, rfl, by decide, by decide, by decide +kernel, by decide +kernel, by decide +kernel, by decide +kernel, by decide +kernel, by decide +kernel, by decide +kernel⟩
  · exact ⟨_, 4, List.replicate 4 sWhole, 0, rfl, rfl, by decide, by decide, by decide +kernel, by decide +kernel, by decide +kernel, by decide +kernel, by decide +kernel, by decide +kernel, by decide +kernel⟩
  · exact ⟨_, 6, List.replicate 6 sWhole, 0, rfl, rfl, by decide, by decide, by decide +kernel, by decide +kernel, by decide +kernel, by decide +kernel, by decide +kernel, by decide +kernel, by decide +kernel⟩
def Mk (r : List At × Str × Bool) : Prop := ∃ l, MvW r.1 l ∧ r.2.1 = S l ∧ r.2.2 = r.1.any bigA
theorem made_ok {some_ more_ : List Int} (hr : RowN some_) (hm : RowIn [6, 2, 2] more_) : Sat (F_law_made some_ more_) Mk fun _ => False := by
  obtain ⟨a0, g0, b0, c0⟩ := hm.at (i := 0) (s := 6) (by omega) rfl
  obtain ⟨a1, g1, b1, c1⟩ := hm.at (i := 1) (s := 2) (by omega) rfl
  obtain ⟨a2, g2, b2, c2⟩ := hm.at (i := 2) (s := 2) (by omega) rfl
  obtain ⟨num, hnum⟩ := Classical.axiomOfChoice (r := fun (k : Nat) (n : Int) => k < 6 → F_law_number some_ k = .ok n ∧ n.natAbs < 10 ^ 60) fun k => by
    by_cases hk : k < 6
    · obtain ⟨n, h1, h2⟩ := number_ok hr hk
      exact ⟨n, fun _ => ⟨h1, h2⟩⟩
    · exact ⟨0, fun h => absurd h hk⟩
  obtain ⟨fs, c, zs, k, hfs, hct, hk3, F⟩ := forms b0 c0
  have hc6 := F.hc
  obtain ⟨ns, hnd⟩ : ∃ ns : List Int, ns = (List.range c).map num := ⟨_, rfl⟩
  have hns : ∀ n ∈ ns, n.natAbs < 10 ^ 60 := fun n hn => by
    rw [hnd] at hn
    obtain ⟨j, hj, rfl⟩ := List.mem_map.mp hn
    exact (hnum j (by have := List.mem_range.mp hj; omega)).2
  have lns : ns.length = c := by rw [hnd]; simp
  unfold F_law_made
  rw [g0, g1, g2]
  sleep 11
  refine s_atE hfs ?_
  refine s_atE hct ?_
  refine s_mapR c rfl (by omega) (g := fun i : Int => At.i (num i.toNat)) (fun j hj => by
    rw [(hnum j (by omega)).1]; rfl) ?_
  have eP : ((List.range c).map fun k : Nat => At.i (num ((k : Int)).toNat)) = ns.map At.i := by
    rw [hnd]; simp [List.map_map, Function.comp_def]
  rw [eP]
  refine s_mapL (g := fun x : At => match x with | .i n => S (numW n) | _ => S []) (by rw [List.length_map, lns]; omega) (fun x hx => by
    obtain ⟨n, hn, rfl⟩ := List.mem_map.mp hx
    show noX ((lift (strO n)) : Out Str) = _
    rw [str_ok (big_log (hns n hn))]; rfl) ?_
  have eW : ∀ l : List Int, ((l.map At.i).map fun x : At => match x with | .i n => S (numW n) | _ => S []) = (l.map numW).map S := fun l => by
    rw [List.map_map, List.map_map]; rfl
  rw [eW ns]
  have fin : ∀ (exz : List Str) (exp : List At) (exw : List (List Nat)), PWs exz exp exw → zs = List.replicate c sWhole ++ exz → exp.length ≤ 4 → exp.any bigA = false →
      Sat (lift (rgO 0 (c : Int))) (fun a_1 => Sat (fmapL (fun k_ => noX (((((lift (atI (ns.map At.i ++ exp) k_)).bind fun x => lift (asI x)).bind fun x => Out.ok (x, ())).bind fun t => Out.ok (absF t.fst)).bind fun t1 => Out.ok (decide (t1 ≥ 10 ^ Int.toNat 18)))) (fun k_ => Out.ok k_) a_1)
        (fun a_2 => Sat (lift (catO [fs] ((ns.map numW).map S ++ exw.map S))) (fun a_3 => Sat (lift (joinO (Str.ofString " ") a_3)) (fun a_4 => Sat (lift (catO [At.s fs] (ns.map At.i ++ exp))) (fun a => Mk (a, a_4, decide ((a_2.length : Int) > 0))) fun _ => False) fun _ => False) fun _ => False) fun _ => False) fun _ => False := by
    intro exz exp exw he hz hel heb
    have hpw : PWs zs (ns.map At.i ++ exp) (ns.map numW ++ exw) := by
      rw [hz, ← lns]
      exact pws_app (pws_nums hns) he
    have hwl := he.len
    refine s_fmapR c rfl (by omega) (q := fun i : Int => decide (absF (num i.toNat) ≥ 10 ^ 18)) (g := fun i => i) (fun j hj => ?_) (fun j hj _ => rfl) ?_
    · have : atI (ns.map At.i ++ exp) (j : Int) = some (.i (num j)) := by
        refine VL.atI_nat' ?_
        rw [List.getElem?_append_left (by rw [List.length_map, lns]; exact hj), List.getElem?_map]
        rw [hnd]; simp [hj]
      rw [this]; rfl
    have elen : decide ((((List.range c).filter fun k : Nat => decide (absF (num ((k : Int)).toNat) ≥ 10 ^ 18)).map fun k : Nat => (k : Int)).length > 0) = (At.s fs :: (ns.map At.i ++ exp)).any bigA := by
      have e1 : (At.s fs :: (ns.map At.i ++ exp)).any bigA = ns.any fun n => decide (¬ n.natAbs < 10 ^ 18) := by
        show ((bigA (At.s fs)) || (ns.map At.i ++ exp).any bigA) = _
        rw [List.any_append, heb, Bool.or_false, List.any_map]
        rfl
      rw [e1, List.length_map]
      apply Bool.eq_iff_iff.mpr
      rw [decide_eq_true_iff, List.any_eq_true]
      constructor
      · intro h
        obtain ⟨j, hj⟩ := List.exists_mem_of_length_pos h
        obtain ⟨h1, h2⟩ := List.mem_filter.mp hj
        refine ⟨num j, by rw [hnd]; exact List.mem_map.mpr ⟨j, h1, rfl⟩, ?_⟩
        have h2 := of_decide_eq_true h2
        rw [Int.toNat_natCast, absF_abs] at h2
        exact decide_eq_true (by omega)
      · rintro ⟨n, hn, hb⟩
        rw [hnd] at hn
        obtain ⟨j, hj, rfl⟩ := List.mem_map.mp hn
        have hb := of_decide_eq_true hb
        refine List.length_pos_of_mem (a := j) (List.mem_filter.mpr ⟨hj, decide_eq_true ?_⟩)
        rw [Int.toNat_natCast, absF_abs]
        omega
    have hfsS : fs = S (tl fs) := (S_tl fs).symm
    have hwl2 : ∀ w ∈ ns.map numW ++ exw, 32 ∉ w ∧ w.length ≤ 62 := hpw.words
    have hl1 : (ns.map numW ++ exw).length ≤ 10 := by rw [List.length_append, List.length_map, lns]; omega
    refine s_cat (by rw [List.length_append, List.length_map, List.length_map, List.length_map, lns]; simp; omega) ?_
    have esum := sum_le (l := (ns.map numW ++ exw).map (·.length)) (b := 62) fun x hx => by
      obtain ⟨w, hw, rfl⟩ := List.mem_map.mp hx
      exact (hwl2 w hw).2
    have ej : joinO (Str.ofString " ") ([fs] ++ ((ns.map numW).map S ++ exw.map S)) = some (S (TL.joinL [32] (tl fs :: (ns.map numW ++ exw)))) := by
      have e2 : [fs] ++ ((ns.map numW).map S ++ exw.map S) = (tl fs :: (ns.map numW ++ exw)).map S := by
        rw [List.map_cons, List.map_append, S_tl]; rfl
      have := F.hl
      rw [s_blank, e2, join_ok (by
        simp only [List.map_cons, List.sum_cons, List.length_cons, List.length_nil, List.length_map] at esum ⊢
        omega)]
    rw [ej]
    sleep 11
    refine s_cat (by rw [List.length_append, List.length_map, lns]; simp; omega) ?_
    refine ⟨TL.joinL [32] (tl fs :: (ns.map numW ++ exw)), ⟨tl fs, zs, ns.map At.i ++ exp, ns.map numW ++ exw, ?_, ?_, hpw, rfl, F.hf, F.hl, ?_⟩, rfl, ?_⟩
    · rw [S_tl]; rfl
    · rw [S_tl]; exact F.hz
    · have := hpw.len.1; omega
    · refine Eq.trans ?_ elen
      exact decide_eq_decide.mpr (by omega)
  have lastA : ∀ (xs : List At) (x : At), atI (xs ++ [x]) (-1) = some x := fun xs x => by
    unfold atI ixN
    simp
    have e : (-1 + ((xs.length : Int) + 1)).toNat = xs.length := by omega
    rw [if_pos (by omega)]
    show (xs ++ [x])[(-1 + ((xs.length : Int) + 1)).toNat]? = some x
    rw [e, List.getElem?_append_right (Nat.le_refl _), Nat.sub_self]; rfl
  have sgn : ∃ w, atI [Str.ofString "+", Str.ofString "-"] a2 = some (S w) ∧ PW sSign (.i (1 - 2 * a2)) w ∧ bigA (.i (1 - 2 * a2)) = false := by
    have : a2 = 0 ∨ a2 = 1 := by omega
    rcases this with e | e <;> subst e
    · exact ⟨[43], by rw [s_plus]; rfl, .plus, by decide⟩
    · exact ⟨[45], by rw [s_minus]; rfl, .minus, by decide⟩
  obtain ⟨ws, hws, pws, bws⟩ := sgn
  have hk : k = 0 ∨ k = 1 ∨ k = 2 := by omega
  rcases hk with e | e | e <;> subst e
  · rw [F.d1, F.d2, F.d3]
    simp only [show decide ((0 : Nat) = 1) = false from rfl, show decide ((0 : Nat) = 2) = false from rfl, Bool.or_self, Bool.false_eq_true, if_false]
    sleep 11
    have := fin [] [] [] .nil F.zz (by simp) rfl
    simpa using this
  · rw [F.d1, F.d2, F.d3]
    simp only [show decide ((1 : Nat) = 1) = true from rfl, show decide ((1 : Nat) = 2) = false from rfl, Bool.or_false, Bool.false_eq_true, if_false, if_true, decide_true]
    have sd : ∃ w, atI [At.s (Str.ofString "over"), At.s (Str.ofString "under")] a1 = some (.s (S w)) ∧ PW sSide (.s (S w)) w := by
      have : a1 = 0 ∨ a1 = 1 := by omega
      rcases this with e | e <;> subst e
      · exact ⟨overL, by rw [s_over]; rfl, .over⟩
      · exact ⟨underL, by rw [s_under]; rfl, .under⟩
    obtain ⟨wd, hwd, pwd⟩ := sd
    sleep 11
    refine s_atE hwd ?_
    refine s_app (by rw [List.length_map, lns]; omega) ?_
    refine s_atE (lastA _ _) ?_
    rw [show asS (.s (S wd)) = some (S wd) from rfl]
    sleep 11
    refine s_app (by rw [List.length_map, List.length_map, lns]; omega) ?_
    refine s_app (by simp [lns]; omega) ?_
    refine s_atE hws ?_
    refine s_app (by simp [lns]; omega) ?_
    have := fin [sSide, sSign] [.s (S wd), .i (1 - 2 * a2)] [wd, ws] (.cons pwd (.cons pws .nil)) F.zz (by simp) (by show (bigA (.s (S wd)) || (bigA (.i (1 - 2 * a2)) || false)) = false; rw [bws]; rfl)
    simpa using this
  · rw [F.d1, F.d2, F.d3]
    simp only [show decide ((2 : Nat) = 1) = false from rfl, show decide ((2 : Nat) = 2) = true from rfl, Bool.false_or, Bool.false_eq_true, if_false, if_true, decide_true]
    have sd : ∃ w, atI [Str.ofString "crossed", Str.ofString "plain"] a1 = some (S w) ∧ PW sCross (.b (decide (a1 = 0))) w := by
      have : a1 = 0 ∨ a1 = 1 := by omega
      rcases this with e | e <;> subst e
      · exact ⟨crossedL, by rw [s_crossed]; rfl, .crossed⟩
      · exact ⟨plainL, by rw [s_plain]; rfl, .plain⟩
    obtain ⟨wd, hwd, pwd⟩ := sd
    sleep 11
    refine s_app (by rw [List.length_map, lns]; omega) ?_
    refine s_atE hwd ?_
    refine s_app (by rw [List.length_map, List.length_map, lns]; omega) ?_
    refine s_app (by simp [lns]; omega) ?_
    refine s_atE hws ?_
    refine s_app (by simp [lns]; omega) ?_
    have := fin [sCross, sSign] [.b (decide (a1 = 0)), .i (1 - 2 * a2)] [wd, ws] (.cons pwd (.cons pws .nil)) F.zz (by simp) (by show (bigA (.b (decide (a1 = 0))) || (bigA (.i (1 - 2 * a2)) || false)) = false; rw [bws]; rfl)
    simpa using this
theorem eqG_no : eqG ((e2 eS eB) (Str.ofString "no", true)) ((e2 eS eB) (Str.ofString "no", true)) = some true := by decide +kernel
theorem eqv_A (x : At) : PyData.eqv (eA x) (eA x) = true := by
  cases x with
  | i n => simp [eA, PyData.eqv]
  | b b => cases b <;> rfl
  | s z => simp [eA, PyData.eqv]
theorem eqvAll_A : ∀ xs : List At, PyData.eqvAll (xs.map eA) (xs.map eA) = true
  | [] => rfl
  | x :: xs => by
    rw [List.map_cons]
    show (PyData.eqv (eA x) (eA x) && PyData.eqvAll (xs.map eA) (xs.map eA)) = true
    rw [eqv_A, eqvAll_A xs]; rfl
theorem layAll_A : ∀ {xs : List At}, (∀ x ∈ xs, PyData.canLay0 (eA x) = true) → PyData.canLayAll0 (xs.map eA) = true
  | [], _ => rfl
  | x :: xs, h => by
    rw [List.map_cons]
    show (PyData.canLay0 (eA x) && PyData.canLayAll0 (xs.map eA)) = true
    rw [h x List.mem_cons_self, layAll_A fun y hy => h y (List.mem_cons_of_mem _ hy)]; rfl
theorem depAll_A : ∀ xs : List At, PyData.depthAll (xs.map eA) = 0
  | [] => rfl
  | x :: xs => by
    have ih := depAll_A xs
    rw [List.map_cons]
    simp only [PyData.depthAll, ih]
    cases x <;> rfl
theorem eqG_mv {mv : List At} (h : ∀ x ∈ mv, PyData.canLay0 (eA x) = true) : eqG ((eTL eA) mv) ((eTL eA) mv) = some true := by
  have sh : SeqAt.shaped ((eTL eA) mv) = true := by
    unfold SeqAt.shaped
    rw [Bool.and_eq_true]
    refine ⟨?_, decide_eq_true ?_⟩
    · show PyData.canLayAll0 (mv.map eA) = true
      exact layAll_A h
    · have := depAll_A mv
      simp only [eTL, PyData.depth, this]
      omega
  unfold eqG
  rw [show scalD ((eTL eA) mv) ((eTL eA) mv) = none from rfl]
  simp only [sh, Bool.and_self, if_true]
  show some (PyData.eqvAll (mv.map eA) (mv.map eA)) = some true
  rw [eqvAll_A]
theorem lookT_mem {z : Str} {zs : List Str} : ∀ {t : WTab}, lookT t z = some zs → ∃ p ∈ t, p.1 = z
  | [], h => by cases h
  | p :: t, h => by
    unfold lookT at h
    split at h
    · exact ⟨p, List.mem_cons_self, by assumption⟩
    · obtain ⟨q, hq, e⟩ := lookT_mem h
      exact ⟨q, List.mem_cons_of_mem _ hq, e⟩
theorem lay_form {z : Str} {zs : List Str} (h : lookT tab_FORMS z = some zs) : PyData.canLay0 (.str z) = true := by
  have : ∀ p ∈ tab_FORMS, PyData.canLay0 (.str p.1) = true := by decide +kernel
  obtain ⟨p, hp, rfl⟩ := lookT_mem h
  exact this p hp
theorem lay_pw {z : Str} {p : At} {w : List Nat} (h : PW z p w) : PyData.canLay0 (eA p) = true := by
  cases h <;> first | rfl | decide +kernel
theorem lay_pws {zs : List Str} {ps : List At} {ws : List (List Nat)} (h : PWs zs ps ws) : ∀ p ∈ ps, PyData.canLay0 (eA p) = true := by
  induction h with
  | nil => intro p hp; cases hp
  | cons h _ ih =>
    intro p hp
    rcases List.mem_cons.mp hp with e | e
    · subst e; exact lay_pw h
    · exact ih p e
theorem read_ok {l : List Nat} (h : l.length ≤ 200000) : F_law_read (S l) = match moveOf l with | some d => .ok (.inr (Str.ofString "yes", d)) | none => .ok (.inl (Str.ofString "no", true)) := by
  unfold F_law_read
  rw [read_move_ok h]
  cases moveOf l with
  | none => rfl
  | some d => rfl
theorem alike_ok {mv : List At} (hl : mv.length ≤ 1000) (hlay : ∀ x ∈ mv, PyData.canLay0 (eA x) = true) : F_law_alike mv mv = .ok true := by
  refine Sat.eq ?_
  unfold F_law_alike
  rw [if_neg (by simp)]
  sleep 11
  refine s_forF mv.length rfl (by omega) (fun _ _ => True) trivial (fun k s hk _ => ?_) fun s _ => ?_
  · have : atI mv (k : Int) = some mv[k] := VL.atI_nat' (by rw [List.getElem?_eq_getElem hk])
    rw [this]
    sleep 11
    simp only [decide_true, Bool.not_true, Bool.false_eq_true, if_false]
    sleep 11
  · simp only [flowT_nxt]
    rw [eqG_mv hlay]
    sleep 11
theorem asked_ok {r : List At × Str × Bool} (h : Mk r) : F_law_asked r = .ok true := by
  obtain ⟨mv, z, far⟩ := r
  obtain ⟨l, hm, h2, h3⟩ := h
  simp only at hm h2 h3
  subst h2 h3
  have hl := hm.line_len
  refine Sat.eq ?_
  unfold F_law_asked
  sleep 11
  rw [hm.show]
  sleep 11
  simp only [decide_true, Bool.not_true, Bool.false_eq_true, if_false]
  sleep 11
  rw [read_ok (by omega), hm.back]
  by_cases q : mv.any bigA = true
  · rw [if_pos q]
    sleep 11
    rw [if_pos q, eqG_no]
    sleep 11
  · rw [if_neg q]
    sleep 11
    rw [if_neg q]
    have : mv.length ≤ 1000 ∧ ∀ x ∈ mv, PyData.canLay0 (eA x) = true := by
      obtain ⟨w0, zs, ps, ws, rfl, hz, pw, rfl, f0, l0, lz⟩ := hm.ex
      have := pw.len
      refine ⟨by simp; omega, fun x hx => ?_⟩
      rcases List.mem_cons.mp hx with e | e
      · subst e; exact lay_form hz
      · exact lay_pws pw x e
    rw [alike_ok this.1 this.2]
    sleep 11
    simp
theorem law_ok (ns : List Int) (hl : ns.length ≤ 63) (hb : ∀ z ∈ ns, Builtin.Int.intBits z ≤ 1048576) : Sat (F_law ns) (fun b => b = true) fun _ => False := by
  have big : (10 : Int) ^ ((59 : Int).toNat) = 10 ^ 59 := rfl
  have e6 : (6 : Int).toNat = 6 := rfl
  have h2 : (10 : Int) ^ 60 ≤ 2 ^ 5000 := by
    have : (2 : Int) ^ 5000 = 2 ^ 200 * 2 ^ 4800 := by rw [← Int.pow_add]
    rw [this]
    have : (1 : Int) ≤ 2 ^ 4800 := Int.pow_pos (by decide)
    have h3 : (10 : Int) ^ 60 ≤ 2 ^ 200 := by decide
    exact Int.le_trans h3 (by
      have := Int.mul_le_mul_of_nonneg_left this (show (0 : Int) ≤ 2 ^ 200 by decide)
      simpa using this)
  have rowN : ∀ s ∈ ([1] ++ (List.replicate 6 [4, 2, 10 ^ 59]).flatten : List Int), 0 < s ∧ s < 2 ^ 5000 := fun s hs => by
    rcases List.mem_append.mp hs with z | z
    · simp at z; omega
    · have := rep_mem z
      simp only [List.mem_cons, List.not_mem_nil, or_false] at this
      omega
  have row3 : ∀ s ∈ ([6, 2, 2] : List Int), 0 < s ∧ s < 2 ^ 5000 := fun s hs => by
    simp only [List.mem_cons, List.not_mem_nil, or_false] at hs
    omega
  unfold F_law
  sleep 11
  refine s_repL (by omega) (by omega) (by simp) ?_
  rw [e6, big]
  refine s_cat (by decide) ?_
  refine s_F (row_ok (by omega) (by decide) rowN) fun one hone => ?_
  refine s_repL (by omega) (by omega) (by simp) ?_
  rw [e6]
  refine s_cat (by decide) ?_
  refine s_F (row_ok (by omega) (by decide) rowN) fun two htwo => ?_
  refine s_F (row_ok (by omega) (by decide) row3) fun more hmore => ?_
  refine s_F (row_ok (by omega) (by decide) row3) fun again hagain => ?_
  refine s_F (made_ok hone hmore) fun a ha => ?_
  refine s_F (made_ok htwo hagain) fun b hb' => ?_
  rw [asked_ok ha, asked_ok hb']
  sleep 11
  rw [if_neg (by decide)]
  sleep 11
  rw [if_neg (by decide)]
  sleep 11
end LK93
set_option maxRecDepth 100000
set_option maxHeartbeats 4000000
namespace LK93
open PySem PySem.Spec PyProof.Rows L2 VL
def topS (i : Nat) : Stmt := PySem.Challenge.pw_plait_k93_moves_as_lines.main.body.getD i (.Pass ⟨0, 0, 0, 0⟩)
structure Ev (w : World) (K : PySem.W.Frag) (mg : Str → Option Value) (cl : Str → Option Addr) : Prop where
  q_NoLine : Asked K mg cl "NoLine" ["NoLine"]
  q_NoMove : Asked K mg cl "NoMove" ["NoMove"]
  m_abs : mg "abs" = none
  m_bool : mg "bool" = none
  m_int : mg "int" = none
  m_isinstance : mg "isinstance" = none
  m_len : mg "len" = none
  m_range : mg "range" = none
  m_str : mg "str" = none
  m_tuple : mg "tuple" = none
  m_zip : mg "zip" = none
  k_PlaitError : Clause K mg cl "PlaitError" ["PlaitError", "NoMove", "NoLine"]
  c_FIGURES : ∃ t, mg "FIGURES" = some (.str (Str.ofString "0123456789") t)
  c_MOST_FIGURES : ∃ t, mg "MOST_FIGURES" = some (.int 18 t)
  d_FORMS : DctE K w mg "FORMS" tab_FORMS
  x_NoLine : ∃ C, Err K mg cl "NoLine" C
  t : ExcAll K cl
section
variable {P : Program} {w : World} {K : PySem.W.Frag} {mg : Str → Option Value} {base : Heap} {cl : Str → Option Addr}
abbrev s_law_cell : Stmt := topS 16
abbrev N_law_cell : List Str := ["_law_script", "_law_place", "_law_seed", "_law_cell_here"]
abbrev lv_law_cell : Nat := 1
theorem sc_law_cell : FnScope N_law_cell ["_law_script", "_law_place"] (defScope s_law_cell) := ⟨rfl, rfl, rfl, by decide +kernel, rfl, by decide +kernel, by decide +kernel⟩
def w_law_cell : WS := (wSeq (wIf (wTest (wBin woLt (wVar 1) (wCB wLen (wCons (wVar 0) wNil)))) (wSeq (wRet (wBin wIxS (wMv 0) (wVar 1)))
  wNext) wNext)
  (wSeq (wSet 2 (wC (.int 5)))
  (wSeq (wCut (wFor (tgN 3) (wSl (wVar 0) wNoP (wPt (wC (.int 63))))
  (wSeq (wSet 2 (wBin woMod (wBin woAdd (wBin woAdd (wBin woMul (wVar 2) (wC (.int 48271))) (wBin woMod (wVar 3) (wC (.int 1000003)))) (wC (.int 1))) (wC (.int 2147483647))))
  wNext)))
  (wSeq (wRet (wBin woMod (wBin woAdd (wVar 2) (wBin woMul (wC (.int 7919)) (wVar 1))) (wC (.int 1000003))))
  wNext))))
theorem st_law_cell (x0 x1 : D) : startE N_law_cell [x0, x1] = [argS x0, argS x1, none, none] := rfl
theorem d_law_cell (E : Ev w K mg cl)  (f : Addr) (cdv : Value) (A : Around) (outer : List Env) (s : Shared) (H : Hp) (E0 : XK) (P0 : Addr → Prop) (hr : Room 0 (cxV P w K mg base N_law_cell "_law_cell" s_law_cell f cdv A outer s H E0).A) :
    PSs (cxV P w K mg base N_law_cell "_law_cell" s_law_cell f cdv A outer s H E0) (defBody s_law_cell) (rdS (cnOf K cl P0 H) (WXE E0) w_law_cell) := by
  have nd := sc_law_cell.nd
  exact (vss_cons (vs_if (vt_c c_lt (ve_var 1) (ve_len1 E.m_len (va_cons (ve_var 0) va_nil))) (vss_cons (vs_ret (ve_ixS (ve_mv 0) (ve_var 1)))
  vss_nil) vss_nil)
  (vss_cons (vs_set (i := 2) ve_int nd)
  (vss_cons (vs_cut (vs_for (passes_of rfl) rfl (ve_slice (ve_var 0) vo_none (vo_some ve_int)) (tg_name nd)
  (fun _ => (vss_cons (vs_set (i := 2) (ve_mod (ve_add (ve_add (ve_mul (ve_var 2) ve_int) (ve_mod (ve_var 3) ve_int)) ve_int) ve_int) nd)
  vss_nil))))
  (vss_cons (vs_ret (ve_mod (ve_add (ve_var 2) (ve_mul ve_int (ve_var 1))) ve_int))
  vss_nil))))
theorem b_law_cell (kV doc pm : Value) (an : Option Addr) (cdv ct : Value) (us : List Value) (h : us.length = 2) : bindArgs (PySem.W.fnOf "_law_cell" "_law_cell" (defArgs s_law_cell) (defBody s_law_cell) (defScope s_law_cell) .none kV doc pm an cdv ct) ⟨us, []⟩ = pure ((["_law_script", "_law_place"] : List Str).zip us) := match us, h with | [_, _], _ => rfl
theorem spec_law_cell : ∀ ds Qv Xv, XD.sp_law_cell ds Qv Xv → ds.length = 2 ∧ w_law_cell (startE N_law_cell ds) ⟨fun _ => Qv ⟨.none, mA⟩, fun r _ => Qv r, fun ex _ => Xv ex⟩ := by
  rintro ds Qv Xv ⟨script_, place_, rfl, h⟩
  refine ⟨rfl, ?_⟩
  have he : startE N_law_cell [eScr script_, eI place_] = [some (eScr script_, mS), some (eI place_, mA), none, none] := by
    rw [st_law_cell]
    try simp only [argS_F, argS_N]
  rw [he]
  have hr : RB (fun _ => True) w_law_cell [some (eScr script_, mS), some (eI place_, mA), none, none] (XD.F_law_cell script_ place_) (KT eI mA) := by
    unfold XD.F_law_cell w_law_cell
    exact (rs_ifRP kt_kt (rt_eq (rt_val (re_2P xo_lt (re_vF 1 eI (place_)) (re_cbP ((script_.length : Int)) (ra_consP (re_vS 0 eScr (script_)) ra_nil) (len_Scr (script_)))))) (rb_retI (re_eq (re_2Q xo_ixS (re_mO 0 eScr (script_)) (re_vF 1 eI (place_))))) (rs_set (re_eq (re_c (.int 5) eI (5))) (fun seed_ => [some (eScr (script_), mS), some (eI (place_), mA), some (eI (seed_), mA), none]) (fun seed_ => (rs_seqN (s := (fun (V3 : Int) => [some (eScr (script_), mS), some (eI (place_), mA), some (eI (V3), mA), none])) (rb_forP (s := (fun (V3 : Int) => [some (eScr (script_), mS), some (eI (place_), mA), some (eI (V3), mA), none])) (a := eI) seed_ (re_eq (re_slScr (re_vS 0 eScr (script_)) ro_no (ro_ptP (re_c (.int 63) eI (63))))) (el_c sl_o (el_c sl_o (el_c sl_o (el_c sl_n el_nil)))) (fun V3 cell_here_ => [some (eScr (script_), mS), some (eI (place_), mA), some (eI (V3), mA), some (eI (cell_here_), mA)]) (fun V3 cell_here_ => (rs_set (re_eq (re_modC 2147483647 (re_2P xo_add (re_2P xo_add (re_mulR 48271 (re_vF 2 eI (V3)) (re_c (.int 48271) eI (48271))) (re_modC 1000003 (re_vF 3 eI (cell_here_)) (re_c (.int 1000003) eI (1000003)))) (re_c (.int 1) eI (1))) (re_c (.int 2147483647) eI (2147483647)))) (fun seed_ => [some (eScr (script_), mS), some (eI (place_), mA), some (eI (seed_), mA), some (eI (cell_here_), mA)]) (fun seed_ => (rb_next (V := seed_) (el_c sl_o (el_c sl_o (el_c sl_o (el_c sl_n el_nil))))))))) (fun V3 => (rb_retP' (e := eI) ((V3 + (7919 * place_)) % 1000003) (re_eq (re_modC 1000003 (re_2P xo_add (re_vF 2 eI (V3)) (re_mulL 7919 (re_c (.int 7919) eI (7919)) (re_vF 1 eI (place_)))) (re_c (.int 1000003) eI (1000003))))))))))
  exact of_KT hr h
abbrev s_law_mix : Stmt := topS 17
abbrev N_law_mix : List Str := ["_law_cell_here", "_law_k", "_law_one", "_law_two"]
abbrev lv_law_mix : Nat := 1
theorem sc_law_mix : FnScope N_law_mix ["_law_cell_here", "_law_k"] (defScope s_law_mix) := ⟨rfl, rfl, rfl, by decide +kernel, rfl, by decide +kernel, by decide +kernel⟩
def w_law_mix : WS := (wSeq (wSet 2 (wBin woMod (wBin woPow (wBin woAdd (wBin woAdd (wBin woMod (wVar 0) (wC (.int 2147483629))) (wBin woMul (wC (.int 1013)) (wVar 1))) (wC (.int 7919))) (wC (.int 3))) (wC (.int 2147483647))))
  (wSeq (wSet 3 (wBin woMod (wBin woAdd (wBin woAdd (wBin woMul (wVar 2) (wC (.int 40699))) (wBin woMul (wBin woMul (wC (.int 3793)) (wVar 1)) (wVar 1))) (wC (.int 11))) (wC (.int 2147483399))))
  (wSeq (wRet (wBin woFd (wVar 3) (wC (.int 101))))
  wNext)))
theorem st_law_mix (x0 x1 : D) : startE N_law_mix [x0, x1] = [argS x0, argS x1, none, none] := rfl
theorem d_law_mix (E : Ev w K mg cl)  (f : Addr) (cdv : Value) (A : Around) (outer : List Env) (s : Shared) (H : Hp) (E0 : XK) (P0 : Addr → Prop) (hr : Room 0 (cxV P w K mg base N_law_mix "_law_mix" s_law_mix f cdv A outer s H E0).A) :
    PSs (cxV P w K mg base N_law_mix "_law_mix" s_law_mix f cdv A outer s H E0) (defBody s_law_mix) (rdS (cnOf K cl P0 H) (WXE E0) w_law_mix) := by
  have nd := sc_law_mix.nd
  exact (vss_cons (vs_set (i := 2) (ve_mod (ve_pow (ve_add (ve_add (ve_mod (ve_var 0) ve_int) (ve_mul ve_int (ve_var 1))) ve_int) ve_int) ve_int) nd)
  (vss_cons (vs_set (i := 3) (ve_mod (ve_add (ve_add (ve_mul (ve_var 2) ve_int) (ve_mul (ve_mul ve_int (ve_var 1)) (ve_var 1))) ve_int) ve_int) nd)
  (vss_cons (vs_ret (ve_fd (ve_var 3) ve_int))
  vss_nil)))
theorem b_law_mix (kV doc pm : Value) (an : Option Addr) (cdv ct : Value) (us : List Value) (h : us.length = 2) : bindArgs (PySem.W.fnOf "_law_mix" "_law_mix" (defArgs s_law_mix) (defBody s_law_mix) (defScope s_law_mix) .none kV doc pm an cdv ct) ⟨us, []⟩ = pure ((["_law_cell_here", "_law_k"] : List Str).zip us) := match us, h with | [_, _], _ => rfl
theorem spec_law_mix : ∀ ds Qv Xv, XD.sp_law_mix ds Qv Xv → ds.length = 2 ∧ w_law_mix (startE N_law_mix ds) ⟨fun _ => Qv ⟨.none, mA⟩, fun r _ => Qv r, fun ex _ => Xv ex⟩ := by
  rintro ds Qv Xv ⟨cell_here_, k_, rfl, h⟩
  refine ⟨rfl, ?_⟩
  have he : startE N_law_mix [eI cell_here_, eI k_] = [some (eI cell_here_, mA), some (eI k_, mA), none, none] := by
    rw [st_law_mix]
    try simp only [argS_F, argS_N]
  rw [he]
  have hr : RB (fun _ => True) w_law_mix [some (eI cell_here_, mA), some (eI k_, mA), none, none] (XD.F_law_mix cell_here_ k_) (KT eI mA) := by
    unfold XD.F_law_mix w_law_mix
    exact (rs_set (re_eq (re_modCO 2147483647 (re_2Q xo_pow (re_2P xo_add (re_2P xo_add (re_modC 2147483629 (re_vF 0 eI (cell_here_)) (re_c (.int 2147483629) eI (2147483629))) (re_mulL 1013 (re_c (.int 1013) eI (1013)) (re_vF 1 eI (k_)))) (re_c (.int 7919) eI (7919))) (re_c (.int 3) eI (3))) (re_c (.int 2147483647) eI (2147483647)))) (fun one_ => [some (eI (cell_here_), mA), some (eI (k_), mA), some (eI (one_), mA), none]) (fun one_ => (rs_set (re_eq (re_modCO 2147483399 (re_2 (opP_out xo_add) (re_2 (opP_out xo_add) (re_mulR 40699 (re_vF 2 eI (one_)) (re_c (.int 40699) eI (40699))) (re_2Q xo_mul (re_mulL 3793 (re_c (.int 3793) eI (3793)) (re_vF 1 eI (k_))) (re_vF 1 eI (k_)))) (re_c (.int 11) eI (11))) (re_c (.int 2147483399) eI (2147483399)))) (fun two_ => [some (eI (cell_here_), mA), some (eI (k_), mA), some (eI (one_), mA), some (eI (two_), mA)]) (fun two_ => (rb_retP' (e := eI) (two_ / 101) (re_eq (re_fdC 101 (re_vF 3 eI (two_)) (re_c (.int 101) eI (101)))))))))
  exact of_KT hr h
abbrev s_law_row : Stmt := topS 18
abbrev N_law_row : List Str := ["_law_script", "_law_place", "_law_sizes", "_law_cell_here", "_law_left", "_law_some", "_law_k", "_law_other"]
abbrev lv_law_row : Nat := 2
theorem sc_law_row : FnScope N_law_row ["_law_script", "_law_place", "_law_sizes"] (defScope s_law_row) := ⟨rfl, rfl, rfl, by decide +kernel, rfl, by decide +kernel, by decide +kernel⟩
def w_law_row : WS := (wSeq (wSet 3 (wCall XD.sp_law_cell (wCons (wVar 0) (wCons (wVar 1) wNil))))
  (wSeq (wSet 4 (wVar 3))
  (wSeq (wSet 5 (wCB wLst wNil))
  (wSeq (wCut (wForR 1 6 (wCons (wCB wLen (wCons (wVar 2) wNil)) wNil)
  (wSeq (wCut (wIf (wTest (wBin woLt (wVar 3) (wBin woPow (wC (.int 10)) (wC (.int 18))))) (wSeq (wApp (wPVar 5) (wBin woMod (wCall XD.sp_law_mix (wCons (wVar 3) (wCons (wVar 6) wNil))) (wBin wIx (wVar 2) (wVar 6))))
  wNext) (wSeq (wCut (wIf (wTest (wBin woGt (wVar 4) (wC (.int 0)))) (wSeq (wApp (wPVar 5) (wBin woMod (wVar 4) (wBin wIx (wVar 2) (wVar 6))))
  (wSeq (wSet 4 (wBin woFd (wVar 4) (wBin wIx (wVar 2) (wVar 6))))
  wNext)) (wSeq (wSet 7 (wCall XD.sp_law_cell (wCons (wVar 0) (wCons (wBin woMod (wBin woAdd (wBin woAdd (wVar 1) (wC (.int 1))) (wVar 6)) (wC (.int 63))) wNil))))
  (wSeq (wApp (wPVar 5) (wBin woMod (wCall XD.sp_law_mix (wCons (wMv 7) (wCons (wVar 6) wNil))) (wBin wIx (wVar 2) (wVar 6))))
  wNext))))
  wNext)))
  wNext)))
  (wSeq (wRet (wMv 5))
  wNext)))))
theorem st_law_row (x0 x1 x2 : D) : startE N_law_row [x0, x1, x2] = [argS x0, argS x1, argS x2, none, none, none, none, none] := rfl
theorem d_law_row (E : Ev w K mg cl) (G_law_cell : Def P w K mg base cl "_law_cell" 2 XD.sp_law_cell lv_law_cell) (G_law_mix : Def P w K mg base cl "_law_mix" 2 XD.sp_law_mix lv_law_mix) (f : Addr) (cdv : Value) (A : Around) (outer : List Env) (s : Shared) (H : Hp) (E0 : XK) (P0 : Addr → Prop) (hr : Room 1 (cxV P w K mg base N_law_row "_law_row" s_law_row f cdv A outer s H E0).A) :
    PSs (cxV P w K mg base N_law_row "_law_row" s_law_row f cdv A outer s H E0) (defBody s_law_row) (rdS (cnOf K cl P0 H) (WXE E0) w_law_row) := by
  have nd := sc_law_row.nd
  exact (vss_cons (vs_set (i := 3) (ve_call (k := lv_law_cell) G_law_cell (hr.mono (by decide)) (takes_of rfl rfl rfl rfl) (va_cons (ve_var 0) (va_cons (ve_var 1) va_nil))) nd)
  (vss_cons (vs_set (i := 4) (ve_var 3) nd)
  (vss_cons (vs_set (i := 5) (ve_lst va_nil) nd)
  (vss_cons (vs_cut (vs_forR1 (i := 6) (passes_of rfl) rfl E.m_range (va_cons (ve_len1 E.m_len (va_cons (ve_var 2) va_nil)) va_nil)
  (vss_cons (vs_cut (vs_if (vt_c c_lt (ve_var 3) (ve_pow ve_int ve_int)) (vss_cons (vs_app (vp_var 5) (ve_mod (ve_call (k := lv_law_mix) G_law_mix (hr.mono (by decide)) (takes_of rfl rfl rfl rfl) (va_cons (ve_var 3) (va_cons (ve_var 6) va_nil))) (ve_ix (ve_var 2) (ve_var 6))))
  vss_nil) (vss_cons (vs_cut (vs_if (vt_c c_gt (ve_var 4) ve_int) (vss_cons (vs_app (vp_var 5) (ve_mod (ve_var 4) (ve_ix (ve_var 2) (ve_var 6))))
  (vss_cons (vs_set (i := 4) (ve_fd (ve_var 4) (ve_ix (ve_var 2) (ve_var 6))) nd)
  vss_nil)) (vss_cons (vs_set (i := 7) (ve_call (k := lv_law_cell) G_law_cell (hr.mono (by decide)) (takes_of rfl rfl rfl rfl) (va_cons (ve_var 0) (va_cons (ve_mod (ve_add (ve_add (ve_var 1) ve_int) (ve_var 6)) ve_int) va_nil))) nd)
  (vss_cons (vs_app (vp_var 5) (ve_mod (ve_call (k := lv_law_mix) G_law_mix (hr.mono (by decide)) (takes_of rfl rfl rfl rfl) (va_cons (ve_mv 7) (va_cons (ve_var 6) va_nil))) (ve_ix (ve_var 2) (ve_var 6))))
  vss_nil))))
  vss_nil)))
  vss_nil) nd))
  (vss_cons (vs_ret (ve_mv 5))
  vss_nil)))))
theorem b_law_row (kV doc pm : Value) (an : Option Addr) (cdv ct : Value) (us : List Value) (h : us.length = 3) : bindArgs (PySem.W.fnOf "_law_row" "_law_row" (defArgs s_law_row) (defBody s_law_row) (defScope s_law_row) .none kV doc pm an cdv ct) ⟨us, []⟩ = pure ((["_law_script", "_law_place", "_law_sizes"] : List Str).zip us) := match us, h with | [_, _, _], _ => rfl
theorem spec_law_row : ∀ ds Qv Xv, XD.sp_law_row ds Qv Xv → ds.length = 3 ∧ w_law_row (startE N_law_row ds) ⟨fun _ => Qv ⟨.none, mA⟩, fun r _ => Qv r, fun ex _ => Xv ex⟩ := by
  rintro ds Qv Xv ⟨script_, place_, sizes_, rfl, h⟩
  refine ⟨rfl, ?_⟩
  have he : startE N_law_row [eScr script_, eI place_, (eL eI) sizes_] = [some (eScr script_, mS), some (eI place_, mA), some ((eL eI) sizes_, mS), none, none, none, none, none] := by
    rw [st_law_row]
    try simp only [argS_F, argS_N]
  rw [he]
  have hr : RB (fun _ => True) w_law_row [some (eScr script_, mS), some (eI place_, mA), some ((eL eI) sizes_, mS), none, none, none, none, none] (XD.F_law_row script_ place_ sizes_) (KT (eL eI) mA) := by
    unfold XD.F_law_row w_law_row
    exact (rs_set (re_eq (re_callP (b := eI) (M := (XD.F_law_cell script_ place_)) (ra_consP (re_vS 0 eScr (script_)) (ra_consP (re_vF 1 eI (place_)) ra_nil)) (fun Q X h => ⟨script_, place_, rfl, h⟩))) (fun cell_here_ => [some (eScr (script_), mS), some (eI (place_), mA), some ((eL eI) (sizes_), mS), some (eI (cell_here_), mA), none, none, none, none]) (fun cell_here_ => (rs_set (re_eq (re_vF 3 eI (cell_here_))) (fun left_ => [some (eScr (script_), mS), some (eI (place_), mA), some ((eL eI) (sizes_), mS), some (eI (cell_here_), mA), some (eI (left_), mA), none, none, none]) (fun left_ => (rs_set (re_eq (re_lstP (a := eI) [] ra_nil)) (fun some_ => [some (eScr (script_), mS), some (eI (place_), mA), some ((eL eI) (sizes_), mS), some (eI (cell_here_), mA), some (eI (left_), mA), some ((eL eI) (some_), mA), none, none]) (fun some_ => (rs_seqN (s := (fun (V18 : (List Int) × Int) => [some (eScr (script_), mS), some (eI (place_), mA), some ((eL eI) (sizes_), mS), some (eI (cell_here_), mA), some (eI (V18.2), mA), some ((eL eI) (V18.1), mA), none, none])) (rb_forRP (s := (fun (V18 : (List Int) × Int) => [some (eScr (script_), mS), some (eI (place_), mA), some ((eL eI) (sizes_), mS), some (eI (cell_here_), mA), some (eI (V18.2), mA), some ((eL eI) (V18.1), mA), none, none])) 0 (sizes_.length : Int) (some_, left_) (ra_consP (re_cbP ((sizes_.length : Int)) (ra_consP (re_vS 2 (eL eI) (sizes_)) ra_nil) (len_L (a := eI) (sizes_))) ra_nil) ⟨rfl, rfl⟩ (el_c sl_o (el_c sl_o (el_c sl_o (el_c sl_o (el_c sl_o (el_c sl_o (el_c sl_n (el_c sl_n el_nil)))))))) (fun V18 k_ => [some (eScr (script_), mS), some (eI (place_), mA), some ((eL eI) (sizes_), mS), some (eI (cell_here_), mA), some (eI (V18.2), mA), some ((eL eI) (V18.1), mA), some (eI (k_), mA), none]) (fun V18 k_ => (rs_seqN (s := (fun (V23 : (List Int) × Int) => [some (eScr (script_), mS), some (eI (place_), mA), some ((eL eI) (sizes_), mS), some (eI (cell_here_), mA), some (eI (V23.2), mA), some ((eL eI) (V23.1), mA), some (eI (k_), mA), none])) (rb_ifP (rt_eq (rt_val (re_2P xo_lt (re_vF 3 eI (cell_here_)) (re_powC 10 18 (re_c (.int 10) eI (10)) (re_c (.int 18) eI (18)))))) (rs_app (a := eI) (xs := V18.1) (re_eq (re_2 (opO_out xo_mod) (re_callP (b := eI) (M := (XD.F_law_mix cell_here_ k_)) (ra_consP (re_vF 3 eI (cell_here_)) (ra_consP (re_vF 6 eI (k_)) ra_nil)) (fun Q X h => ⟨cell_here_, k_, rfl, h⟩)) (re_2Q (xo_ixF (a := eI)) (re_vS 2 (eL eI) (sizes_)) (re_vF 6 eI (k_))))) (fun some_ => [some (eScr (script_), mS), some (eI (place_), mA), some ((eL eI) (sizes_), mS), some (eI (cell_here_), mA), some (eI (V18.2), mA), some ((eL eI) (some_), mA), some (eI (k_), mA), none]) (fun some_ => (rb_next (V := (some_, V18.2)) (el_c sl_o (el_c sl_o (el_c sl_o (el_c sl_o (el_c sl_o (el_c sl_o (el_c sl_o (el_c sl_n el_nil))))))))))) (rs_seqN (s := (fun (V24 : (List Int) × Int) => [some (eScr (script_), mS), some (eI (place_), mA), some ((eL eI) (sizes_), mS), some (eI (cell_here_), mA), some (eI (V24.2), mA), some ((eL eI) (V24.1), mA), some (eI (k_), mA), none])) (rb_ifP (rt_eq (rt_val (re_2P xo_gt (re_vF 4 eI (V18.2)) (re_c (.int 0) eI (0))))) (rs_app (a := eI) (xs := V18.1) (re_eq (re_2 (opO_out xo_mod) (re_vF 4 eI (V18.2)) (re_2Q (xo_ixF (a := eI)) (re_vS 2 (eL eI) (sizes_)) (re_vF 6 eI (k_))))) (fun some_ => [some (eScr (script_), mS), some (eI (place_), mA), some ((eL eI) (sizes_), mS), some (eI (cell_here_), mA), some (eI (V18.2), mA), some ((eL eI) (some_), mA), some (eI (k_), mA), none]) (fun some_ => (rs_set (re_eq (re_2 (opO_out xo_fd) (re_vF 4 eI (V18.2)) (re_2Q (xo_ixF (a := eI)) (re_vS 2 (eL eI) (sizes_)) (re_vF 6 eI (k_))))) (fun left_ => [some (eScr (script_), mS), some (eI (place_), mA), some ((eL eI) (sizes_), mS), some (eI (cell_here_), mA), some (eI (left_), mA), some ((eL eI) (some_), mA), some (eI (k_), mA), none]) (fun left_ => (rb_next (V := (some_, left_)) (el_c sl_o (el_c sl_o (el_c sl_o (el_c sl_o (el_c sl_o (el_c sl_o (el_c sl_o (el_c sl_n el_nil))))))))))))) (rs_set (re_eq (re_callP (b := eI) (M := (XD.F_law_cell script_ (((place_ + 1) + k_) % 63))) (ra_consP (re_vS 0 eScr (script_)) (ra_consP (re_modC 63 (re_2P xo_add (re_2P xo_add (re_vF 1 eI (place_)) (re_c (.int 1) eI (1))) (re_vF 6 eI (k_))) (re_c (.int 63) eI (63))) ra_nil)) (fun Q X h => ⟨script_, (((place_ + 1) + k_) % 63), rfl, h⟩))) (fun other_ => [some (eScr (script_), mS), some (eI (place_), mA), some ((eL eI) (sizes_), mS), some (eI (cell_here_), mA), some (eI (V18.2), mA), some ((eL eI) (V18.1), mA), some (eI (k_), mA), some (eI (other_), mA)]) (fun other_ => (rs_app (a := eI) (xs := V18.1) (re_eq (re_2 (opO_out xo_mod) (re_callP (b := eI) (M := (XD.F_law_mix other_ k_)) (ra_consP (re_mF 7 eI (other_)) (ra_consP (re_vF 6 eI (k_)) ra_nil)) (fun Q X h => ⟨other_, k_, rfl, h⟩)) (re_2Q (xo_ixF (a := eI)) (re_vS 2 (eL eI) (sizes_)) (re_vF 6 eI (k_))))) (fun some_ => [some (eScr (script_), mS), some (eI (place_), mA), some ((eL eI) (sizes_), mS), some (eI (cell_here_), mA), some (eI (V18.2), mA), some ((eL eI) (some_), mA), some (eI (k_), mA), some (eI (other_), mA)]) (fun some_ => (rb_next (V := (some_, V18.2)) (el_c sl_o (el_c sl_o (el_c sl_o (el_c sl_o (el_c sl_o (el_c sl_o (el_c sl_o (el_c sl_n el_nil)))))))))))))) (fun V24 => (rb_next (V := (V24.1, V24.2)) (el_c sl_o (el_c sl_o (el_c sl_o (el_c sl_o (el_c sl_o (el_c sl_o (el_c sl_o (el_c sl_n el_nil)))))))))))) (fun V23 => (rb_next (V := (V23.1, V23.2)) (el_c sl_o (el_c sl_o (el_c sl_o (el_c sl_o (el_c sl_o (el_c sl_o (el_c sl_n (el_c sl_n el_nil))))))))))))) (fun V18 => (rb_retP' (e := (eL eI)) V18.1 (re_eq (re_mO 5 (eL eI) (V18.1))))))))))))
  exact of_KT hr h
abbrev s_law_number : Stmt := topS 20
abbrev N_law_number : List Str := ["_law_some", "_law_k", "_law_high"]
abbrev lv_law_number : Nat := 1
theorem sc_law_number : FnScope N_law_number ["_law_some", "_law_k"] (defScope s_law_number) := ⟨rfl, rfl, rfl, by decide +kernel, rfl, by decide +kernel, by decide +kernel⟩
def w_law_number : WS := (wSeq (wSet 2 (wBin woMod (wBin wIx (wVar 0) (wBin woAdd (wBin woMul (wC (.int 3)) (wVar 1)) (wC (.int 3)))) (wBin wIx (wCB wLst (wCons (wC (.int 10)) (wCons (wBin woPow (wC (.int 10)) (wC (.int 6))) (wCons (wBin woPow (wC (.int 10)) (wC (.int 18))) (wCons (wBin woPow (wC (.int 10)) (wC (.int 59))) wNil))))) (wBin wIx (wVar 0) (wBin woAdd (wBin woMul (wC (.int 3)) (wVar 1)) (wC (.int 1)))))))
  (wSeq (wRet (wBin woMul (wVar 2) (wBin woSub (wBin woMul (wC (.int 2)) (wBin wIx (wVar 0) (wBin woAdd (wBin woMul (wC (.int 3)) (wVar 1)) (wC (.int 2))))) (wC (.int 1)))))
  wNext))
theorem st_law_number (x0 x1 : D) : startE N_law_number [x0, x1] = [argS x0, argS x1, none] := rfl
theorem d_law_number (E : Ev w K mg cl)  (f : Addr) (cdv : Value) (A : Around) (outer : List Env) (s : Shared) (H : Hp) (E0 : XK) (P0 : Addr → Prop) (hr : Room 0 (cxV P w K mg base N_law_number "_law_number" s_law_number f cdv A outer s H E0).A) :
    PSs (cxV P w K mg base N_law_number "_law_number" s_law_number f cdv A outer s H E0) (defBody s_law_number) (rdS (cnOf K cl P0 H) (WXE E0) w_law_number) := by
  have nd := sc_law_number.nd
  exact (vss_cons (vs_set (i := 2) (ve_mod (ve_ix (ve_var 0) (ve_add (ve_mul ve_int (ve_var 1)) ve_int)) (ve_ix (ve_lst (va_cons ve_int (va_cons (ve_pow ve_int ve_int) (va_cons (ve_pow ve_int ve_int) (va_cons (ve_pow ve_int ve_int) va_nil))))) (ve_ix (ve_var 0) (ve_add (ve_mul ve_int (ve_var 1)) ve_int)))) nd)
  (vss_cons (vs_ret (ve_mul (ve_var 2) (ve_sub (ve_mul ve_int (ve_ix (ve_var 0) (ve_add (ve_mul ve_int (ve_var 1)) ve_int))) ve_int)))
  vss_nil))
theorem b_law_number (kV doc pm : Value) (an : Option Addr) (cdv ct : Value) (us : List Value) (h : us.length = 2) : bindArgs (PySem.W.fnOf "_law_number" "_law_number" (defArgs s_law_number) (defBody s_law_number) (defScope s_law_number) .none kV doc pm an cdv ct) ⟨us, []⟩ = pure ((["_law_some", "_law_k"] : List Str).zip us) := match us, h with | [_, _], _ => rfl
theorem spec_law_number : ∀ ds Qv Xv, sp_law_number ds Qv Xv → ds.length = 2 ∧ w_law_number (startE N_law_number ds) ⟨fun _ => Qv ⟨.none, mA⟩, fun r _ => Qv r, fun ex _ => Xv ex⟩ := by
  rintro ds Qv Xv ⟨some_, k_, rfl, h⟩
  refine ⟨rfl, ?_⟩
  have he : startE N_law_number [(eL eI) some_, eI k_] = [some ((eL eI) some_, mS), some (eI k_, mA), none] := by
    rw [st_law_number]
    try simp only [argS_F, argS_N]
  rw [he]
  have hr : RB (fun _ => True) w_law_number [some ((eL eI) some_, mS), some (eI k_, mA), none] (F_law_number some_ k_) (KT eI mA) := by
    unfold F_law_number w_law_number
    exact (rs_set (re_eq (re_2 (opO_out xo_mod) (re_2Q (xo_ixF (a := eI)) (re_vS 0 (eL eI) (some_)) (re_2P xo_add (re_mulL 3 (re_c (.int 3) eI (3)) (re_vF 1 eI (k_))) (re_c (.int 3) eI (3)))) (re_2 (opO_out (xo_ixF (a := eI))) (re_lstFP (a := eI) [10, (10 ^ ((6 : Int).toNat) : Int), (10 ^ ((18 : Int).toNat) : Int), (10 ^ ((59 : Int).toNat) : Int)] (ra_consP (re_c (.int 10) eI (10)) (ra_consP (re_powC 10 6 (re_c (.int 10) eI (10)) (re_c (.int 6) eI (6))) (ra_consP (re_powC 10 18 (re_c (.int 10) eI (10)) (re_c (.int 18) eI (18))) (ra_consP (re_powC 10 59 (re_c (.int 10) eI (10)) (re_c (.int 59) eI (59))) ra_nil))))) (re_2Q (xo_ixF (a := eI)) (re_vS 0 (eL eI) (some_)) (re_2P xo_add (re_mulL 3 (re_c (.int 3) eI (3)) (re_vF 1 eI (k_))) (re_c (.int 1) eI (1))))))) (fun high_ => [some ((eL eI) (some_), mS), some (eI (k_), mA), some (eI (high_), mA)]) (fun high_ => (rb_retI (re_eq (re_2 (opO_out xo_mul) (re_vF 2 eI (high_)) (re_2 (opP_out xo_sub) (re_mulLO 2 (re_c (.int 2) eI (2)) (re_2Q (xo_ixF (a := eI)) (re_vS 0 (eL eI) (some_)) (re_2P xo_add (re_mulL 3 (re_c (.int 3) eI (3)) (re_vF 1 eI (k_))) (re_c (.int 2) eI (2))))) (re_c (.int 1) eI (1))))))))
  exact of_KT hr h
abbrev s_law_made : Stmt := topS 21
abbrev N_law_made : List Str := ["_law_some", "_law_more", "_law_form", "_law_count", "_law_parts", "_law_words", "_law_long", "_law_line", "_law_k", "_law_one"]
abbrev lv_law_made : Nat := 2
theorem sc_law_made : FnScope N_law_made ["_law_some", "_law_more"] (defScope s_law_made) := ⟨rfl, rfl, rfl, by decide +kernel, rfl, by decide +kernel, by decide +kernel⟩
def w_law_made : WS := (wSeq (wSet 2 (wBin wIx (wCB wLst (wCons (wC (.str (Str.ofString "turn"))) (wCons (wC (.str (Str.ofString "curl"))) (wCons (wC (.str (Str.ofString "uncurl"))) (wCons (wC (.str (Str.ofString "lay"))) (wCons (wC (.str (Str.ofString "unlay"))) (wCons (wC (.str (Str.ofString "pass"))) wNil))))))) (wBin wIx (wVar 1) (wC (.int 0)))))
  (wSeq (wSet 3 (wBin wIx (wCB wLst (wCons (wC (.int 2)) (wCons (wC (.int 3)) (wCons (wC (.int 2)) (wCons (wC (.int 6)) (wCons (wC (.int 4)) (wCons (wC (.int 6)) wNil))))))) (wBin wIx (wVar 1) (wC (.int 0)))))
  (wSeq (wSet 4 (wLcR 1 [8] 8 (wCons (wVar 3) wNil) wYes (wCall sp_law_number (wCons (wVar 0) (wCons (wVar 8) wNil)))))
  (wSeq (wSet 5 (wLc [9] (tgN 9) (wVar 4) wYes (wCB wStrI (wCons (wVar 9) wNil))))
  (wSeq (wCut (wIf (wTest (wBin woEq (wVar 2) (wC (.str (Str.ofString "curl"))))) (wSeq (wApp (wPVar 4) (wBin wIx (wCB wLst (wCons (wC (.str (Str.ofString "over"))) (wCons (wC (.str (Str.ofString "under"))) wNil))) (wBin wIx (wVar 1) (wC (.int 1)))))
  (wSeq (wApp (wPVar 5) (wBin wIx (wVar 4) (wNeg (wC (.int 1)))))
  wNext)) wNext))
  (wSeq (wCut (wIf (wTest (wBin woEq (wVar 2) (wC (.str (Str.ofString "lay"))))) (wSeq (wApp (wPVar 4) (wBin woEq (wBin wIx (wVar 1) (wC (.int 1))) (wC (.int 0))))
  (wSeq (wApp (wPVar 5) (wBin wIx (wCB wLst (wCons (wC (.str (Str.ofString "crossed"))) (wCons (wC (.str (Str.ofString "plain"))) wNil))) (wBin wIx (wVar 1) (wC (.int 1)))))
  wNext)) wNext))
  (wSeq (wCut (wIf (wTest (wBin (woInT false) (wVar 2) (wCB wTup (wCons (wC (.str (Str.ofString "curl"))) (wCons (wC (.str (Str.ofString "lay"))) wNil))))) (wSeq (wApp (wPVar 4) (wBin woSub (wC (.int 1)) (wBin woMul (wC (.int 2)) (wBin wIx (wVar 1) (wC (.int 2))))))
  (wSeq (wApp (wPVar 5) (wBin wIx (wCB wLst (wCons (wC (.str (Str.ofString "+"))) (wCons (wC (.str (Str.ofString "-"))) wNil))) (wBin wIx (wVar 1) (wC (.int 2)))))
  wNext)) wNext))
  (wSeq (wSet 6 (wLcR 1 [8] 8 (wCons (wVar 3) wNil) (wTest (wBin woGe (wCB wAbs (wCons (wBin wIx (wVar 4) (wVar 8)) wNil)) (wBin woPow (wC (.int 10)) (wC (.int 18))))) (wVar 8)))
  (wSeq (wSet 7 (wJoin (wC (.str (Str.ofString " "))) (wBin woAdd (wCB wLst (wCons (wVar 2) wNil)) (wVar 5))))
  (wSeq (wRet (wCB wTup (wCons (wCB wTuple (wCons (wBin woAdd (wCB wLst (wCons (wVar 2) wNil)) (wVar 4)) wNil)) (wCons (wMv 7) (wCons (wBin woGt (wCB wLen (wCons (wVar 6) wNil)) (wC (.int 0))) wNil)))))
  wNext))))))))))
theorem st_law_made (x0 x1 : D) : startE N_law_made [x0, x1] = [argS x0, argS x1, none, none, none, none, none, none, none, none] := rfl
theorem d_law_made (E : Ev w K mg cl) (G_law_number : Def P w K mg base cl "_law_number" 2 sp_law_number lv_law_number) (f : Addr) (cdv : Value) (A : Around) (outer : List Env) (s : Shared) (H : Hp) (E0 : XK) (P0 : Addr → Prop) (hr : Room 1 (cxV P w K mg base N_law_made "_law_made" s_law_made f cdv A outer s H E0).A) :
    PSs (cxV P w K mg base N_law_made "_law_made" s_law_made f cdv A outer s H E0) (defBody s_law_made) (rdS (cnOf K cl P0 H) (WXE E0) w_law_made) := by
  have nd := sc_law_made.nd
  exact (vss_cons (vs_set (i := 2) (ve_ix (ve_lst (va_cons ve_str (va_cons ve_str (va_cons ve_str (va_cons ve_str (va_cons ve_str (va_cons ve_str va_nil))))))) (ve_ix (ve_var 1) ve_int)) nd)
  (vss_cons (vs_set (i := 3) (ve_ix (ve_lst (va_cons ve_int (va_cons ve_int (va_cons ve_int (va_cons ve_int (va_cons ve_int (va_cons ve_int va_nil))))))) (ve_ix (ve_var 1) ve_int)) nd)
  (vss_cons (vs_set (i := 4) (ve_lcR1 rfl nd [("_law_k", 8)] E.m_range (va_cons (ve_var 3) va_nil) (fun _ _ _ _ _ => pg_name nd rfl (by first | exact .inl rfl | exact .inr rfl)) (fun _ _ _ _ _ => vts_nil) (fun _ _ _ _ _ => (ve_call (k := lv_law_number) G_law_number (hr.mono (by decide)) takes0 (va_cons (ve_var 0) (va_cons (ve_var 8) va_nil))))) nd)
  (vss_cons (vs_setLcN (n := 5) rfl nd [("_law_one", 9)] (ve_var 4) (fun _ _ _ _ _ => pg_name nd rfl (by first | exact .inl rfl | exact .inr rfl)) (fun _ _ _ _ _ => vts_nil) (fun _ _ _ _ _ => (ve_strI E.m_str (va_cons (ve_var 9) va_nil))))
  (vss_cons (vs_cut (vs_if (vt_c (c_eq hr) (ve_var 2) ve_str) (vss_cons (vs_app (vp_var 4) (ve_ix (ve_lst (va_cons ve_str (va_cons ve_str va_nil))) (ve_ix (ve_var 1) ve_int)))
  (vss_cons (vs_app (vp_var 5) (ve_ix (ve_var 4) (ve_neg ve_int)))
  vss_nil)) vss_nil))
  (vss_cons (vs_cut (vs_if (vt_c (c_eq hr) (ve_var 2) ve_str) (vss_cons (vs_app (vp_var 4) (ve_c (c_eq hr) (ve_ix (ve_var 1) ve_int) ve_int))
  (vss_cons (vs_app (vp_var 5) (ve_ix (ve_lst (va_cons ve_str (va_cons ve_str va_nil))) (ve_ix (ve_var 1) ve_int)))
  vss_nil)) vss_nil))
  (vss_cons (vs_cut (vs_if (vt_c c_inT (ve_var 2) (ve_tup (va_cons ve_str (va_cons ve_str va_nil)))) (vss_cons (vs_app (vp_var 4) (ve_sub ve_int (ve_mul ve_int (ve_ix (ve_var 1) ve_int))))
  (vss_cons (vs_app (vp_var 5) (ve_ix (ve_lst (va_cons ve_str (va_cons ve_str va_nil))) (ve_ix (ve_var 1) ve_int)))
  vss_nil)) vss_nil))
  (vss_cons (vs_setLcR1 (n := 6) rfl nd [("_law_k", 8)] E.m_range (va_cons (ve_var 3) va_nil) (fun _ _ _ _ _ => pg_name nd rfl (by first | exact .inl rfl | exact .inr rfl)) (fun _ _ _ _ _ => vts_one (vt_c c_ge (ve_abs1 E.m_abs (va_cons (ve_ix (ve_var 4) (ve_var 8)) va_nil)) (ve_pow ve_int ve_int))) (fun _ _ _ _ _ => (ve_var 8)))
  (vss_cons (vs_set (i := 7) (ve_join ve_str (ve_add (ve_lst (va_cons (ve_var 2) va_nil)) (ve_var 5))) nd)
  (vss_cons (vs_ret (ve_tup (va_cons (ve_tuple1 E.m_tuple (va_cons (ve_add (ve_lst (va_cons (ve_var 2) va_nil)) (ve_var 4)) va_nil)) (va_cons (ve_mv 7) (va_cons (ve_c c_gt (ve_len1 E.m_len (va_cons (ve_var 6) va_nil)) ve_int) va_nil)))))
  vss_nil))))))))))
theorem b_law_made (kV doc pm : Value) (an : Option Addr) (cdv ct : Value) (us : List Value) (h : us.length = 2) : bindArgs (PySem.W.fnOf "_law_made" "_law_made" (defArgs s_law_made) (defBody s_law_made) (defScope s_law_made) .none kV doc pm an cdv ct) ⟨us, []⟩ = pure ((["_law_some", "_law_more"] : List Str).zip us) := match us, h with | [_, _], _ => rfl
theorem spec_law_made : ∀ ds Qv Xv, sp_law_made ds Qv Xv → ds.length = 2 ∧ w_law_made (startE N_law_made ds) ⟨fun _ => Qv ⟨.none, mA⟩, fun r _ => Qv r, fun ex _ => Xv ex⟩ := by
  rintro ds Qv Xv ⟨some_, more_, rfl, h⟩
  refine ⟨rfl, ?_⟩
  have he : startE N_law_made [(eL eI) some_, (eL eI) more_] = [some ((eL eI) some_, mS), some ((eL eI) more_, mS), none, none, none, none, none, none, none, none] := by
    rw [st_law_made]
    try simp only [argS_F, argS_N]
  rw [he]
  have hr : RB (fun _ => True) w_law_made [some ((eL eI) some_, mS), some ((eL eI) more_, mS), none, none, none, none, none, none, none, none] (F_law_made some_ more_) (KT (e3 (eTL eA) eS eB) mA) := by
    unfold F_law_made w_law_made
    exact (rs_set (re_eq (re_2 (opO_out (xo_ixF (a := eS))) (re_lstFP (a := eS) [Str.ofString "turn", Str.ofString "curl", Str.ofString "uncurl", Str.ofString "lay", Str.ofString "unlay", Str.ofString "pass"] (ra_consP (re_c (.str (Str.ofString "turn")) eS (Str.ofString "turn")) (ra_consP (re_c (.str (Str.ofString "curl")) eS (Str.ofString "curl")) (ra_consP (re_c (.str (Str.ofString "uncurl")) eS (Str.ofString "uncurl")) (ra_consP (re_c (.str (Str.ofString "lay")) eS (Str.ofString "lay")) (ra_consP (re_c (.str (Str.ofString "unlay")) eS (Str.ofString "unlay")) (ra_consP (re_c (.str (Str.ofString "pass")) eS (Str.ofString "pass")) ra_nil))))))) (re_2Q (xo_ixF (a := eI)) (re_vS 1 (eL eI) (more_)) (re_c (.int 0) eI (0))))) (fun form_ => [some ((eL eI) (some_), mS), some ((eL eI) (more_), mS), some (eS (form_), mA), none, none, none, none, none, none, none]) (fun form_ => (rs_set (re_eq (re_2 (opO_out (xo_ixF (a := eI))) (re_lstFP (a := eI) [2, 3, 2, 6, 4, 6] (ra_consP (re_c (.int 2) eI (2)) (ra_consP (re_c (.int 3) eI (3)) (ra_consP (re_c (.int 2) eI (2)) (ra_consP (re_c (.int 6) eI (6)) (ra_consP (re_c (.int 4) eI (4)) (ra_consP (re_c (.int 6) eI (6)) ra_nil))))))) (re_2Q (xo_ixF (a := eI)) (re_vS 1 (eL eI) (more_)) (re_c (.int 0) eI (0))))) (fun count_ => [some ((eL eI) (some_), mS), some ((eL eI) (more_), mS), some (eS (form_), mA), some (eI (count_), mA), none, none, none, none, none, none]) (fun count_ => (rs_set (re_eq (re_lcR1P none mA 0 count_ (ent := (fun k_ => [some ((eL eI) (some_), mS), some ((eL eI) (more_), mS), some (eS (form_), mA), some (eI (count_), mA), none, none, none, none, some (eI (k_), mA), none])) (F := (fun k_ : Int => ((F_law_number some_ k_).bind fun x => .ok ((fun x => At.i x) x)))) (ra_consP (re_vF 3 eI (count_)) ra_nil) ⟨rfl, rfl⟩ (fun _ => rfl) (fun k_ => ⟨_, re_eq (re_asO (b := eA) (fun x => At.i x) (re_callP (b := eI) (M := (F_law_number some_ k_)) (ra_consP (re_vS 0 (eL eI) (some_)) (ra_consP (re_vF 8 eI (k_)) ra_nil)) (fun Q X h => ⟨some_, k_, rfl, h⟩)))⟩) (kid_F (c := eA)))) (fun parts_ => [some ((eL eI) (some_), mS), some ((eL eI) (more_), mS), some (eS (form_), mA), some (eI (count_), mA), some ((eL eA) (parts_), mA), none, none, none, none, none]) (fun parts_ => (rs_set (re_eq (re_lc1P none mA (a := eA) (ent := (fun one_ => [some ((eL eI) (some_), mS), some ((eL eI) (more_), mS), some (eS (form_), mA), some (eI (count_), mA), some ((eL eA) (parts_), .b), none, none, none, none, some (eA (one_), mA)])) (F := (fun one_ : At => (((lift (asI one_)).bind fun x => (Out.ok ()).bind fun t => .ok (x, t)).bind fun (t : Int × Unit) => lift (strO t.1)))) (re_eq (re_vA 4 (eL eA) (parts_))) (fun x => by rw [itemR_flat (Fl_.fl (e := eA) x)]; exact ⟨_, rfl, rfl⟩) (fun one_ => ⟨_, re_eq (re_cb (M := fun (t : Int × Unit) => lift (strO t.1)) (ra_cons (re_castP (a := eA) (b := eI) (re_vF 9 eA (one_)) c_asI) ra_nil) (fun (t : Int × Unit) Q Xe h => bi_strI (t.1) Q Xe h))⟩) (kid_F (c := eS)))) (fun words_ => [some ((eL eI) (some_), mS), some ((eL eI) (more_), mS), some (eS (form_), mA), some (eI (count_), mA), some ((eL eA) (parts_), mA), some ((eL eS) (words_), mA), none, none, none, none]) (fun words_ => (rs_seqN (s := (fun (V28 : (List At) × (List Str)) => [some ((eL eI) (some_), mS), some ((eL eI) (more_), mS), some (eS (form_), mA), some (eI (count_), mA), some ((eL eA) (V28.1), mA), some ((eL eS) (V28.2), mA), none, none, none, none])) (rb_ifP (rt_eq (rt_val (re_2P xo_eqS (re_vF 2 eS (form_)) (re_c (.str (Str.ofString "curl")) eS (Str.ofString "curl"))))) (rs_app (a := eA) (xs := parts_) (re_eq (re_2 (opO_out (xo_ixF (a := eA))) (re_lstFP (a := eA) [(At.s (Str.ofString "over")), (At.s (Str.ofString "under"))] (ra_consP (re_as (b := eA) (At.s (Str.ofString "over")) (re_c (.str (Str.ofString "over")) eS (Str.ofString "over"))) (ra_consP (re_as (b := eA) (At.s (Str.ofString "under")) (re_c (.str (Str.ofString "under")) eS (Str.ofString "under"))) ra_nil))) (re_2Q (xo_ixF (a := eI)) (re_vS 1 (eL eI) (more_)) (re_c (.int 1) eI (1))))) (fun parts_ => [some ((eL eI) (some_), mS), some ((eL eI) (more_), mS), some (eS (form_), mA), some (eI (count_), mA), some ((eL eA) (parts_), mA), some ((eL eS) (words_), mA), none, none, none, none]) (fun parts_ => (rs_app (a := eS) (xs := words_) (re_eq (re_cast (a := eA) (b := eS) (re_2Q (xo_ixF (a := eA)) (re_vA 4 (eL eA) (parts_)) (re_neg (re_c (.int 1) eI (1)))) c_asS)) (fun words_ => [some ((eL eI) (some_), mS), some ((eL eI) (more_), mS), some (eS (form_), mA), some (eI (count_), mA), some ((eL eA) (parts_), mA), some ((eL eS) (words_), mA), none, none, none, none]) (fun words_ => (rb_next (V := (parts_, words_)) (el_c sl_o (el_c sl_o (el_c sl_o (el_c sl_o (el_c sl_o (el_c sl_o (el_c sl_n (el_c sl_n (el_c sl_n (el_c sl_n el_nil))))))))))))))) (rb_next (V := (parts_, words_)) (el_c sl_o (el_c sl_o (el_c sl_o (el_c sl_o (el_c sl_o (el_c sl_o (el_c sl_n (el_c sl_n (el_c sl_n (el_c sl_n el_nil)))))))))))) (fun V28 => (rs_seqN (s := (fun (V29 : (List At) × (List Str)) => [some ((eL eI) (some_), mS), some ((eL eI) (more_), mS), some (eS (form_), mA), some (eI (count_), mA), some ((eL eA) (V29.1), mA), some ((eL eS) (V29.2), mA), none, none, none, none])) (rb_ifP (rt_eq (rt_val (re_2P xo_eqS (re_vF 2 eS (form_)) (re_c (.str (Str.ofString "lay")) eS (Str.ofString "lay"))))) (rs_app (a := eA) (xs := V28.1) (re_eq (re_asO (b := eA) (fun x => At.b x) (re_2 (opP_out xo_eqI) (re_2Q (xo_ixF (a := eI)) (re_vS 1 (eL eI) (more_)) (re_c (.int 1) eI (1))) (re_c (.int 0) eI (0))))) (fun parts_ => [some ((eL eI) (some_), mS), some ((eL eI) (more_), mS), some (eS (form_), mA), some (eI (count_), mA), some ((eL eA) (parts_), mA), some ((eL eS) (V28.2), mA), none, none, none, none]) (fun parts_ => (rs_app (a := eS) (xs := V28.2) (re_eq (re_2 (opO_out (xo_ixF (a := eS))) (re_lstFP (a := eS) [Str.ofString "crossed", Str.ofString "plain"] (ra_consP (re_c (.str (Str.ofString "crossed")) eS (Str.ofString "crossed")) (ra_consP (re_c (.str (Str.ofString "plain")) eS (Str.ofString "plain")) ra_nil))) (re_2Q (xo_ixF (a := eI)) (re_vS 1 (eL eI) (more_)) (re_c (.int 1) eI (1))))) (fun words_ => [some ((eL eI) (some_), mS), some ((eL eI) (more_), mS), some (eS (form_), mA), some (eI (count_), mA), some ((eL eA) (parts_), mA), some ((eL eS) (words_), mA), none, none, none, none]) (fun words_ => (rb_next (V := (parts_, words_)) (el_c sl_o (el_c sl_o (el_c sl_o (el_c sl_o (el_c sl_o (el_c sl_o (el_c sl_n (el_c sl_n (el_c sl_n (el_c sl_n el_nil))))))))))))))) (rb_next (V := (V28.1, V28.2)) (el_c sl_o (el_c sl_o (el_c sl_o (el_c sl_o (el_c sl_o (el_c sl_o (el_c sl_n (el_c sl_n (el_c sl_n (el_c sl_n el_nil)))))))))))) (fun V29 => (rs_seqN (s := (fun (V30 : (List At) × (List Str)) => [some ((eL eI) (some_), mS), some ((eL eI) (more_), mS), some (eS (form_), mA), some (eI (count_), mA), some ((eL eA) (V30.1), mA), some ((eL eS) (V30.2), mA), none, none, none, none])) (rb_ifP (rt_eq (rt_val (re_2P (xo_inT2 (a := eS) (b := eS) hs_S) (re_vF 2 eS (form_)) (re_tupFP (a := (e2 eS eS)) (Str.ofString "curl", Str.ofString "lay") (ra_consP (re_c (.str (Str.ofString "curl")) eS (Str.ofString "curl")) (ra_consP (re_c (.str (Str.ofString "lay")) eS (Str.ofString "lay")) ra_nil)))))) (rs_app (a := eA) (xs := V29.1) (re_eq (re_asO (b := eA) (fun x => At.i x) (re_2 (opP_out xo_sub) (re_c (.int 1) eI (1)) (re_mulLO 2 (re_c (.int 2) eI (2)) (re_2Q (xo_ixF (a := eI)) (re_vS 1 (eL eI) (more_)) (re_c (.int 2) eI (2))))))) (fun parts_ => [some ((eL eI) (some_), mS), some ((eL eI) (more_), mS), some (eS (form_), mA), some (eI (count_), mA), some ((eL eA) (parts_), mA), some ((eL eS) (V29.2), mA), none, none, none, none]) (fun parts_ => (rs_app (a := eS) (xs := V29.2) (re_eq (re_2 (opO_out (xo_ixF (a := eS))) (re_lstFP (a := eS) [Str.ofString "+", Str.ofString "-"] (ra_consP (re_c (.str (Str.ofString "+")) eS (Str.ofString "+")) (ra_consP (re_c (.str (Str.ofString "-")) eS (Str.ofString "-")) ra_nil))) (re_2Q (xo_ixF (a := eI)) (re_vS 1 (eL eI) (more_)) (re_c (.int 2) eI (2))))) (fun words_ => [some ((eL eI) (some_), mS), some ((eL eI) (more_), mS), some (eS (form_), mA), some (eI (count_), mA), some ((eL eA) (parts_), mA), some ((eL eS) (words_), mA), none, none, none, none]) (fun words_ => (rb_next (V := (parts_, words_)) (el_c sl_o (el_c sl_o (el_c sl_o (el_c sl_o (el_c sl_o (el_c sl_o (el_c sl_n (el_c sl_n (el_c sl_n (el_c sl_n el_nil))))))))))))))) (rb_next (V := (V29.1, V29.2)) (el_c sl_o (el_c sl_o (el_c sl_o (el_c sl_o (el_c sl_o (el_c sl_o (el_c sl_n (el_c sl_n (el_c sl_n (el_c sl_n el_nil)))))))))))) (fun V30 => (rs_set (re_eq (re_lcRP none mA 0 count_ (ent := (fun k_ => [some ((eL eI) (some_), mS), some ((eL eI) (more_), mS), some (eS (form_), mA), some (eI (count_), mA), some ((eL eA) (V30.1), .b), some ((eL eS) (V30.2), .b), none, none, some (eI (k_), mA), none])) (P := (fun k_ : Int => (((((lift (atI V30.1 k_)).bind fun x => lift (asI x)).bind fun x => (Out.ok ()).bind fun t => .ok (x, t)).bind fun (t : Int × Unit) => .ok (absF t.1)).bind fun t1 => (Out.ok ((10 ^ ((18 : Int).toNat) : Int))).bind fun t2 => .ok (decide (t1 ≥ t2))))) (F := (fun k_ : Int => (Out.ok (k_)))) (ra_consP (re_vF 3 eI (count_)) ra_nil) ⟨rfl, rfl⟩ (fun _ => rfl) (fun k_ => rt_eq (rt_val (re_2 (opP_out xo_ge) (re_cb (M := fun (t : Int × Unit) => .ok (absF t.1)) (ra_cons (re_cast (a := eA) (b := eI) (re_2Q (xo_ixF (a := eA)) (re_vB 4 (eL eA) (V30.1)) (re_vF 8 eI (k_))) c_asI) ra_nil) (fun (t : Int × Unit) _ _ h => bi_abs (t.1) _ h)) (re_powC 10 18 (re_c (.int 10) eI (10)) (re_c (.int 18) eI (18)))))) (fun k_ => ⟨_, re_eq (re_vF 8 eI (k_))⟩) (kid_F (c := eI)))) (fun long_ => [some ((eL eI) (some_), mS), some ((eL eI) (more_), mS), some (eS (form_), mA), some (eI (count_), mA), some ((eL eA) (V30.1), mA), some ((eL eS) (V30.2), mA), some ((eL eI) (long_), mA), none, none, none]) (fun long_ => (rs_set (re_eq (re_join (re_c (.str (Str.ofString " ")) eS (Str.ofString " ")) (re_2Q (xo_catF (a := eS)) (re_lstFP (a := eS) [form_] (ra_consP (re_vF 2 eS (form_)) ra_nil)) (re_vA 5 (eL eS) (V30.2))))) (fun line_ => [some ((eL eI) (some_), mS), some ((eL eI) (more_), mS), some (eS (form_), mA), some (eI (count_), mA), some ((eL eA) (V30.1), mA), some ((eL eS) (V30.2), mA), some ((eL eI) (long_), mA), some (eS (line_), mA), none, none]) (fun line_ => (rb_ret (e := (e3 (eTL eA) eS eB)) (fun x => (x.1, x.2.1, x.2.2)) (re_eq (re_tupF (a := (e3 (eTL eA) eS eB)) (fun (t : (List At) × Str × Bool × Unit) => (t.1, t.2.1, t.2.2.1)) (ra_cons (re_cb (M := fun (t : (List At) × Unit) => .ok (t.1)) (ra_cons (re_2Q (xo_catF (a := eA)) (re_lstFP (a := eA) [(At.s form_)] (ra_consP (re_as (b := eA) (At.s form_) (re_vF 2 eS (form_))) ra_nil)) (re_vA 4 (eL eA) (V30.1))) ra_nil) (fun (t : (List At) × Unit) _ _ h => bi_tuple (a := eA) (t.1) _ h)) (ra_consP (re_mF 7 eS (line_)) (ra_consP (re_2P xo_gt (re_cbP ((long_.length : Int)) (ra_consP (re_vA 6 (eL eI) (long_)) ra_nil) (len_L (a := eI) (long_))) (re_c (.int 0) eI (0))) ra_nil))))))))))))))))))))))))
  exact of_KT hr h
abbrev s_show_sign : Stmt := topS 10
abbrev N_show_sign : List Str := ["sign"]
abbrev lv_show_sign : Nat := 1
theorem sc_show_sign : FnScope N_show_sign ["sign"] (defScope s_show_sign) := ⟨rfl, rfl, rfl, by decide +kernel, rfl, by decide +kernel, by decide +kernel⟩
def w_show_sign : WS := (wSeq (wIf (wTest (wBin woGt (wVar 0) (wC (.int 0)))) (wSeq (wRet (wC (.str (Str.ofString "+"))))
  wNext) wNext)
  (wSeq (wRet (wC (.str (Str.ofString "-"))))
  wNext))
theorem st_show_sign (x0 : D) : startE N_show_sign [x0] = [argS x0] := rfl
theorem d_show_sign (E : Ev w K mg cl)  (f : Addr) (cdv : Value) (A : Around) (outer : List Env) (s : Shared) (H : Hp) (E0 : XK) (P0 : Addr → Prop) (hr : Room 0 (cxV P w K mg base N_show_sign "show_sign" s_show_sign f cdv A outer s H E0).A) :
    PSs (cxV P w K mg base N_show_sign "show_sign" s_show_sign f cdv A outer s H E0) (defBody s_show_sign) (rdS (cnOf K cl P0 H) (WXE E0) w_show_sign) := by
  have nd := sc_show_sign.nd
  exact (vss_cons (vs_if (vt_c c_gt (ve_var 0) ve_int) (vss_cons (vs_ret ve_str)
  vss_nil) vss_nil)
  (vss_cons (vs_ret ve_str)
  vss_nil))
theorem b_show_sign (kV doc pm : Value) (an : Option Addr) (cdv ct : Value) (us : List Value) (h : us.length = 1) : bindArgs (PySem.W.fnOf "show_sign" "show_sign" (defArgs s_show_sign) (defBody s_show_sign) (defScope s_show_sign) .none kV doc pm an cdv ct) ⟨us, []⟩ = pure ((["sign"] : List Str).zip us) := match us, h with | [_], _ => rfl
theorem spec_show_sign : ∀ ds Qv Xv, XTX.sp_show_sign ds Qv Xv → ds.length = 1 ∧ w_show_sign (startE N_show_sign ds) ⟨fun _ => Qv ⟨.none, mA⟩, fun r _ => Qv r, fun ex _ => Xv ex⟩ := by
  rintro ds Qv Xv ⟨sign_, rfl, h⟩
  refine ⟨rfl, ?_⟩
  have he : startE N_show_sign [eI sign_] = [some (eI sign_, mA)] := by
    rw [st_show_sign]
    try simp only [argS_F, argS_N]
  rw [he]
  have hr : RB (fun _ => True) w_show_sign [some (eI sign_, mA)] (XTX.F_show_sign sign_) (KT eS mA) := by
    unfold XTX.F_show_sign w_show_sign
    exact (rs_ifRP kt_kt (rt_eq (rt_val (re_2P xo_gt (re_vF 0 eI (sign_)) (re_c (.int 0) eI (0))))) (rb_retP' (e := eS) (Str.ofString "+") (re_eq (re_c (.str (Str.ofString "+")) eS (Str.ofString "+")))) (rb_retP' (e := eS) (Str.ofString "-") (re_eq (re_c (.str (Str.ofString "-")) eS (Str.ofString "-")))))
  exact of_KT hr h
abbrev s_show_part : Stmt := topS 11
abbrev N_show_part : List Str := ["sort", "part"]
abbrev lv_show_part : Nat := 2
theorem sc_show_part : FnScope N_show_part ["sort", "part"] (defScope s_show_part) := ⟨rfl, rfl, rfl, by decide +kernel, rfl, by decide +kernel, by decide +kernel⟩
def w_show_part : WS := (wSeq (wIf (wTest (wBin woEq (wVar 0) (wC (.str (Str.ofString "side"))))) (wSeq (wRet (wMv 1))
  wNext) wNext)
  (wSeq (wIf (wTest (wBin woEq (wVar 0) (wC (.str (Str.ofString "sign"))))) (wSeq (wRet (wCall XTX.sp_show_sign (wCons (wMv 1) wNil)))
  wNext) wNext)
  (wSeq (wIf (wTest (wBin woEq (wVar 0) (wC (.str (Str.ofString "cross"))))) (wSeq (wRet (wIfE (wTest (wVar 1)) (wC (.str (Str.ofString "crossed"))) (wC (.str (Str.ofString "plain")))))
  wNext) wNext)
  (wSeq (wRet (wCB wStrI (wCons (wVar 1) wNil)))
  wNext))))
theorem st_show_part (x0 x1 : D) : startE N_show_part [x0, x1] = [argS x0, argS x1] := rfl
theorem d_show_part (E : Ev w K mg cl) (G_show_sign : Def P w K mg base cl "show_sign" 1 XTX.sp_show_sign lv_show_sign) (f : Addr) (cdv : Value) (A : Around) (outer : List Env) (s : Shared) (H : Hp) (E0 : XK) (P0 : Addr → Prop) (hr : Room 1 (cxV P w K mg base N_show_part "show_part" s_show_part f cdv A outer s H E0).A) :
    PSs (cxV P w K mg base N_show_part "show_part" s_show_part f cdv A outer s H E0) (defBody s_show_part) (rdS (cnOf K cl P0 H) (WXE E0) w_show_part) := by
  have nd := sc_show_part.nd
  exact (vss_cons (vs_if (vt_c (c_eq hr) (ve_var 0) ve_str) (vss_cons (vs_ret (ve_mv 1))
  vss_nil) vss_nil)
  (vss_cons (vs_if (vt_c (c_eq hr) (ve_var 0) ve_str) (vss_cons (vs_ret (ve_call (k := lv_show_sign) G_show_sign (hr.mono (by decide)) (takes_of rfl rfl rfl rfl) (va_cons (ve_mv 1) va_nil)))
  vss_nil) vss_nil)
  (vss_cons (vs_if (vt_c (c_eq hr) (ve_var 0) ve_str) (vss_cons (vs_ret (ve_ifE (vt_val (ve_var 1)) ve_str ve_str))
  vss_nil) vss_nil)
  (vss_cons (vs_ret (ve_strI E.m_str (va_cons (ve_var 1) va_nil)))
  vss_nil))))
theorem b_show_part (kV doc pm : Value) (an : Option Addr) (cdv ct : Value) (us : List Value) (h : us.length = 2) : bindArgs (PySem.W.fnOf "show_part" "show_part" (defArgs s_show_part) (defBody s_show_part) (defScope s_show_part) .none kV doc pm an cdv ct) ⟨us, []⟩ = pure ((["sort", "part"] : List Str).zip us) := match us, h with | [_, _], _ => rfl
theorem spec_show_part : ∀ ds Qv Xv, XTZ.sp_show_part ds Qv Xv → ds.length = 2 ∧ w_show_part (startE N_show_part ds) ⟨fun _ => Qv ⟨.none, mA⟩, fun r _ => Qv r, fun ex _ => Xv ex⟩ := by
  rintro ds Qv Xv ⟨sort_, part_, rfl, h⟩
  refine ⟨rfl, ?_⟩
  have he : startE N_show_part [eS sort_, eA part_] = [some (eS sort_, mA), some (eA part_, mA)] := by
    rw [st_show_part]
    try simp only [argS_F, argS_N]
  rw [he]
  have hr : RB (fun _ => True) w_show_part [some (eS sort_, mA), some (eA part_, mA)] (XTZ.F_show_part sort_ part_) (KT eS mA) := by
    unfold XTZ.F_show_part w_show_part
    exact (rs_ifRP kt_kt (rt_eq (rt_val (re_2P xo_eqS (re_vF 0 eS (sort_)) (re_c (.str (Str.ofString "side")) eS (Str.ofString "side"))))) (rb_retI (re_eq (re_castP (a := eA) (b := eS) (re_mF 1 eA (part_)) c_asS))) (rs_ifRP kt_kt (rt_eq (rt_val (re_2P xo_eqS (re_vF 0 eS (sort_)) (re_c (.str (Str.ofString "sign")) eS (Str.ofString "sign"))))) (rb_retI (re_eq (re_call (b := eS) (M := fun (t : Int × Unit) => XTX.F_show_sign t.1) (ra_cons (re_castP (a := eA) (b := eI) (re_mF 1 eA (part_)) c_asI) ra_nil) (fun (t : Int × Unit) Q X h => ⟨t.1, rfl, h⟩)))) (rs_ifRP kt_kt (rt_eq (rt_val (re_2P xo_eqS (re_vF 0 eS (sort_)) (re_c (.str (Str.ofString "cross")) eS (Str.ofString "cross"))))) (rb_retI (re_eq (re_if (rt_val (re_castP (a := eA) (b := eB) (re_vF 1 eA (part_)) c_asB)) (re_c (.str (Str.ofString "crossed")) eS (Str.ofString "crossed")) (re_c (.str (Str.ofString "plain")) eS (Str.ofString "plain"))))) (rb_retI (re_eq (re_cb (M := fun (t : Int × Unit) => lift (strO t.1)) (ra_cons (re_castP (a := eA) (b := eI) (re_vF 1 eA (part_)) c_asI) ra_nil) (fun (t : Int × Unit) Q Xe h => bi_strI (t.1) Q Xe h)))))))
  exact of_KT hr h
abbrev s_show_move : Stmt := topS 13
abbrev N_show_move : List Str := ["move", "sorts", "words", "sort", "part"]
abbrev lv_show_move : Nat := 3
theorem sc_show_move : FnScope N_show_move ["move"] (defScope s_show_move) := ⟨rfl, rfl, rfl, by decide +kernel, rfl, by decide +kernel, by decide +kernel⟩
def w_show_move : WS := (wSeq (wSet 1 (wDctIx tab_FORMS (wBin wIx (wVar 0) (wC (.int 0)))))
  (wSeq (wSet 2 (wLcZE true true [3, 4] (tgT [3, 4]) (wCons (wVar 1) (wCons (wSl (wVar 0) (wPt (wC (.int 1))) wNoP) wNil)) (wCall XTZ.sp_show_part (wCons (wVar 3) (wCons (wVar 4) wNil)))))
  (wSeq (wRet (wJoin (wC (.str (Str.ofString " "))) (wBin woAdd (wCB wLst (wCons (wBin wIx (wVar 0) (wC (.int 0))) wNil)) (wVar 2))))
  wNext)))
theorem st_show_move (x0 : D) : startE N_show_move [x0] = [argS x0, none, none, none, none] := rfl
theorem d_show_move (E : Ev w K mg cl) (G_show_part : Def P w K mg base cl "show_part" 2 XTZ.sp_show_part lv_show_part) (f : Addr) (cdv : Value) (A : Around) (outer : List Env) (s : Shared) (H : Hp) (E0 : XK) (P0 : Addr → Prop) (hr : Room 2 (cxV P w K mg base N_show_move "show_move" s_show_move f cdv A outer s H E0).A) :
    PSs (cxV P w K mg base N_show_move "show_move" s_show_move f cdv A outer s H E0) (defBody s_show_move) (rdS (cnOf K cl P0 H) (WXE E0) w_show_move) := by
  have nd := sc_show_move.nd
  exact (vss_cons (vs_set (i := 1) (ve_dctIx E.d_FORMS (ve_ix (ve_var 0) ve_int)) nd)
  (vss_cons (vs_setLcZET (n := 2) (is := [3, 4]) rfl nd (takes_of rfl rfl rfl rfl) [("sort", 3), ("part", 4)] E.m_zip (va_cons (ve_var 1) (va_cons (ve_slice (ve_var 0) (vo_some ve_int) vo_none) va_nil)) (fun _ _ _ _ _ _ => pg_tup rfl (pgs_cons (pg_name nd rfl (by first | exact .inl rfl | exact .inr rfl)) (pgs_cons (pg_name nd rfl (by first | exact .inl rfl | exact .inr rfl)) pgs_nil))) (fun _ _ _ _ _ _ _ tk2 => (ve_call (k := lv_show_part) G_show_part (hr.mono (by decide)) tk2 (va_cons (ve_var 3) (va_cons (ve_var 4) va_nil)))))
  (vss_cons (vs_ret (ve_join ve_str (ve_add (ve_lst (va_cons (ve_ix (ve_var 0) ve_int) va_nil)) (ve_var 2))))
  vss_nil)))
theorem b_show_move (kV doc pm : Value) (an : Option Addr) (cdv ct : Value) (us : List Value) (h : us.length = 1) : bindArgs (PySem.W.fnOf "show_move" "show_move" (defArgs s_show_move) (defBody s_show_move) (defScope s_show_move) .none kV doc pm an cdv ct) ⟨us, []⟩ = pure ((["move"] : List Str).zip us) := match us, h with | [_], _ => rfl
theorem spec_show_move : ∀ ds Qv Xv, XTZ.sp_show_move ds Qv Xv → ds.length = 1 ∧ w_show_move (startE N_show_move ds) ⟨fun _ => Qv ⟨.none, mA⟩, fun r _ => Qv r, fun ex _ => Xv ex⟩ := by
  rintro ds Qv Xv ⟨move_, rfl, h⟩
  refine ⟨rfl, ?_⟩
  have he : startE N_show_move [(eTL eA) move_] = [some ((eTL eA) move_, mA), none, none, none, none] := by
    rw [st_show_move]
    try simp only [argS_F, argS_N]
  rw [he]
  have hr : RB (fun _ => True) w_show_move [some ((eTL eA) move_, mA), none, none, none, none] (XTZ.F_show_move move_) (KT eS mA) := by
    unfold XTZ.F_show_move w_show_move
    exact (rs_set (re_eq (re_dctIx (re_cast (a := eA) (b := eS) (re_2Q (xo_ixT (a := eA)) (re_vF 0 (eTL eA) (move_)) (re_c (.int 0) eI (0))) c_asS))) (fun sorts_ => [some ((eTL eA) (move_), mA), some (eW (sorts_), mA), none, none, none]) (fun sorts_ => (rs_set (re_eq (re_lcZE none mA (a := eS) (b := eA) (ent := (fun p34 => [some ((eTL eA) (move_), mA), some (eW (sorts_), mA), none, some (eS (p34.1), mA), some (eA (p34.2), mA)])) (F := (fun p34 : (Str × At) => (XTZ.F_show_part p34.1 p34.2))) (re_eq (re_vF 1 eW (sorts_))) (re_eq (re_slT (a := eA) (re_vF 0 (eTL eA) (move_)) (ro_ptP (re_c (.int 1) eI (1))) ro_no)) sq_W sq_TL (fun _ => ⟨_, rfl, by simp only [bEnv_c, bEnv_n, bS_fl, List.map_cons, List.map_nil, subT_F]; rfl⟩) (fun p34 => ⟨_, re_eq (re_callP (b := eS) (M := (XTZ.F_show_part p34.1 p34.2)) (ra_consP (re_vF 3 eS (p34.1)) (ra_consP (re_vF 4 eA (p34.2)) ra_nil)) (fun Q X h => ⟨p34.1, p34.2, rfl, h⟩))⟩) (kid_F (c := eS)))) (fun words_ => [some ((eTL eA) (move_), mA), some (eW (sorts_), mA), some ((eL eS) (words_), mA), none, none]) (fun words_ => (rb_retI (re_eq (re_join (re_c (.str (Str.ofString " ")) eS (Str.ofString " ")) (re_2 (opO_out (xo_catF (a := eS))) (re_lstF (a := eS) (fun (t : Str × Unit) => [t.1]) (ra_cons (re_cast (a := eA) (b := eS) (re_2Q (xo_ixT (a := eA)) (re_vF 0 (eTL eA) (move_)) (re_c (.int 0) eI (0))) c_asS) ra_nil)) (re_vA 2 (eL eS) (words_))))))))))
  exact of_KT hr h
abbrev s_read_number : Stmt := topS 8
abbrev N_read_number : List Str := ["word", "figures", "sign"]
abbrev lv_read_number : Nat := 1
theorem sc_read_number : FnScope N_read_number ["word"] (defScope s_read_number) := ⟨rfl, rfl, rfl, by decide +kernel, rfl, by decide +kernel, by decide +kernel⟩
def w_read_number : WS := (wSeq (wSet 1 (wVar 0))
  (wSeq (wCut (wIf (wTest (wBin woEq (wSl (wVar 0) wNoP (wPt (wC (.int 1)))) (wC (.str (Str.ofString "-"))))) (wSeq (wSet 1 (wSl (wVar 0) (wPt (wC (.int 1))) wNoP))
  wNext) wNext))
  (wSeq (wIf (wOr (wTest (wBin woEq (wCB wLen (wCons (wVar 1) wNil)) (wC (.int 0)))) (wTest (wBin woGt (wCB wLen (wCons (wVar 1) wNil)) (wC (.int 18))))) (wSeq (wRaise "NoLine")
  wNext) wNext)
  (wSeq (wCut (wForS (tgN 2) (wVar 1)
  (wSeq (wIf (wTest (wBin (woInS false) (wVar 2) (wC (.str (Str.ofString "0123456789"))))) (wSeq (wRaise "NoLine")
  wNext) wNext)
  wNext)))
  (wSeq (wIf (wAnd (wTest (wBin woEq (wBin wIx (wVar 1) (wC (.int 0))) (wC (.str (Str.ofString "0"))))) (wTest (wBin woNe (wVar 0) (wC (.str (Str.ofString "0")))))) (wSeq (wRaise "NoLine")
  wNext) wNext)
  (wSeq (wRet (wCB wIntS (wCons (wMv 0) wNil)))
  wNext))))))
theorem st_read_number (x0 : D) : startE N_read_number [x0] = [argS x0, none, none] := rfl
theorem d_read_number (E : Ev w K mg cl)  (f : Addr) (cdv : Value) (A : Around) (outer : List Env) (s : Shared) (H : Hp) (E0 : XK) (P0 : Addr → Prop) (hr : Room 0 (cxV P w K mg base N_read_number "read_number" s_read_number f cdv A outer s H E0).A) :
    PSs (cxV P w K mg base N_read_number "read_number" s_read_number f cdv A outer s H E0) (defBody s_read_number) (rdS (cnOf K cl P0 H) (WXE E0) w_read_number) := by
  have nd := sc_read_number.nd
  exact (vss_cons (vs_set (i := 1) (ve_var 0) nd)
  (vss_cons (vs_cut (vs_if (vt_c (c_eq hr) (ve_slice (ve_var 0) vo_none (vo_some ve_int)) ve_str) (vss_cons (vs_set (i := 1) (ve_slice (ve_var 0) (vo_some ve_int) vo_none) nd)
  vss_nil) vss_nil))
  (vss_cons (vs_if (PW.pt (vw_or (vt_c (c_eq hr) (ve_len1 E.m_len (va_cons (ve_var 1) va_nil)) ve_int) (vw_or1 (vt_c c_gt (ve_len1 E.m_len (va_cons (ve_var 1) va_nil)) (ve_gintE E.c_MOST_FIGURES))))) (vss_cons (vs_raiseE E.x_NoLine rfl (takes_of rfl rfl rfl rfl))
  vss_nil) vss_nil)
  (vss_cons (vs_cut (vs_forS (passes_of rfl) rfl (ve_var 1) (tg_name nd)
  (vss_cons (vs_if (vt_c c_notInS (ve_var 2) (ve_gstrE E.c_FIGURES)) (vss_cons (vs_raiseE E.x_NoLine rfl (takes_of rfl rfl rfl rfl))
  vss_nil) vss_nil)
  vss_nil)))
  (vss_cons (vs_if (PW.pt (vw_and (vt_c (c_eq hr) (ve_ix (ve_var 1) ve_int) ve_str) (vw_and1 (vt_c (c_ne hr) (ve_var 0) ve_str)))) (vss_cons (vs_raiseE E.x_NoLine rfl (takes_of rfl rfl rfl rfl))
  vss_nil) vss_nil)
  (vss_cons (vs_ret (ve_intS E.m_int (va_cons (ve_mv 0) va_nil)))
  vss_nil))))))
theorem b_read_number (kV doc pm : Value) (an : Option Addr) (cdv ct : Value) (us : List Value) (h : us.length = 1) : bindArgs (PySem.W.fnOf "read_number" "read_number" (defArgs s_read_number) (defBody s_read_number) (defScope s_read_number) .none kV doc pm an cdv ct) ⟨us, []⟩ = pure ((["word"] : List Str).zip us) := match us, h with | [_], _ => rfl
theorem spec_read_number : ∀ ds Qv Xv, XTX.sp_read_number ds Qv Xv → ds.length = 1 ∧ w_read_number (startE N_read_number ds) ⟨fun _ => Qv ⟨.none, mA⟩, fun r _ => Qv r, fun ex _ => Xv ex⟩ := by
  rintro ds Qv Xv ⟨word_, rfl, h⟩
  refine ⟨rfl, ?_⟩
  have he : startE N_read_number [eS word_] = [some (eS word_, mA), none, none] := by
    rw [st_read_number]
    try simp only [argS_F, argS_N]
  rw [he]
  have hr : RB (fun _ => True) w_read_number [some (eS word_, mA), none, none] (XTX.F_read_number word_) (KT eI mA) := by
    unfold XTX.F_read_number w_read_number
    exact (rs_set (re_eq (re_vF 0 eS (word_))) (fun figures_ => [some (eS (word_), mA), some (eS (figures_), mA), none]) (fun figures_ => (rs_seqN (s := (fun (V40 : Str) => [some (eS (word_), mA), some (eS (V40), mA), none])) (rb_if (rt_eq (rt_val (re_2 (opP_out xo_eqS) (re_eq (re_slS (re_vF 0 eS (word_)) ro_no (ro_ptP (re_c (.int 1) eI (1))))) (re_c (.str (Str.ofString "-")) eS (Str.ofString "-"))))) (rs_set (re_eq (re_eq (re_slS (re_vF 0 eS (word_)) (ro_ptP (re_c (.int 1) eI (1))) ro_no))) (fun figures_ => [some (eS (word_), mA), some (eS (figures_), mA), none]) (fun figures_ => (rb_next (V := figures_) (el_c sl_o (el_c sl_o (el_c sl_n el_nil)))))) (rb_next (V := figures_) (el_c sl_o (el_c sl_o (el_c sl_n el_nil))))) (fun V40 => (rs_ifR kt_kt (rt_eq (rt_or (rt_val (re_2 (opP_out xo_eqI) (re_eq (re_cb (M := fun (t : Str × Unit) => lift (lenSO t.1)) (ra_consP (re_vF 1 eS (V40)) ra_nil) (fun (t : Str × Unit) Q Xe h => bi_lenS (t.1) Q Xe h))) (re_c (.int 0) eI (0)))) (rt_val (re_2 (opP_out xo_gt) (re_eq (re_cb (M := fun (t : Str × Unit) => lift (lenSO t.1)) (ra_consP (re_vF 1 eS (V40)) ra_nil) (fun (t : Str × Unit) Q Xe h => bi_lenS (t.1) Q Xe h))) (re_c (.int 18) eI 18))))) (rb_raise) (rs_seqN (s := (fun (V41 : Unit) => [some (eS (word_), mA), some (eS (V40), mA), none])) (rb_forSN (s := (fun (V41 : Unit) => [some (eS (word_), mA), some (eS (V40), mA), none])) () (re_eq (re_vF 1 eS (V40))) (el_c sl_o (el_c sl_o (el_c sl_n el_nil))) (fun V41 sign_ => [some (eS (word_), mA), some (eS (V40), mA), some (eS (sign_), mA)]) (fun V41 sign_ => (rs_ifR (KA := fun _ _ => True) kx (rt_eq (rt_val (re_2Q xo_inS (re_vF 2 eS (sign_)) (re_c (.str (Str.ofString "0123456789")) eS (Str.ofString "0123456789"))))) (rb_raise) (rb_next (V := ()) (el_c sl_o (el_c sl_o (el_c sl_n el_nil))))))) (fun V41 => (rs_ifR kt_kt (rt_eq (rt_and (rt_val (re_2 (opP_out xo_eqS) (re_2Q xo_ixStr (re_vF 1 eS (V40)) (re_c (.int 0) eI (0))) (re_c (.str (Str.ofString "0")) eS (Str.ofString "0")))) (rt_val (re_2P xo_neS (re_vF 0 eS (word_)) (re_c (.str (Str.ofString "0")) eS (Str.ofString "0")))))) (rb_raise) (rb_retI (re_eq (re_eq (re_cb (M := fun (t : Str × Unit) => lift (intO t.1)) (ra_consP (re_mF 0 eS (word_)) ra_nil) (fun (t : Str × Unit) Q Xe h => bi_intS (t.1) Q Xe h)))))))))))))
  exact of_KT hr h
abbrev s_read_sign : Stmt := topS 9
abbrev N_read_sign : List Str := ["word"]
abbrev lv_read_sign : Nat := 1
theorem sc_read_sign : FnScope N_read_sign ["word"] (defScope s_read_sign) := ⟨rfl, rfl, rfl, by decide +kernel, rfl, by decide +kernel, by decide +kernel⟩
def w_read_sign : WS := (wSeq (wIf (wTest (wBin woEq (wVar 0) (wC (.str (Str.ofString "+"))))) (wSeq (wRet (wC (.int 1)))
  wNext) wNext)
  (wSeq (wIf (wTest (wBin woEq (wVar 0) (wC (.str (Str.ofString "-"))))) (wSeq (wRet (wNeg (wC (.int 1))))
  wNext) wNext)
  (wSeq (wRaise "NoLine")
  wNext)))
theorem st_read_sign (x0 : D) : startE N_read_sign [x0] = [argS x0] := rfl
theorem d_read_sign (E : Ev w K mg cl)  (f : Addr) (cdv : Value) (A : Around) (outer : List Env) (s : Shared) (H : Hp) (E0 : XK) (P0 : Addr → Prop) (hr : Room 0 (cxV P w K mg base N_read_sign "read_sign" s_read_sign f cdv A outer s H E0).A) :
    PSs (cxV P w K mg base N_read_sign "read_sign" s_read_sign f cdv A outer s H E0) (defBody s_read_sign) (rdS (cnOf K cl P0 H) (WXE E0) w_read_sign) := by
  have nd := sc_read_sign.nd
  exact (vss_cons (vs_if (vt_c (c_eq hr) (ve_var 0) ve_str) (vss_cons (vs_ret ve_int)
  vss_nil) vss_nil)
  (vss_cons (vs_if (vt_c (c_eq hr) (ve_var 0) ve_str) (vss_cons (vs_ret (ve_neg ve_int))
  vss_nil) vss_nil)
  (vss_cons (vs_raiseE E.x_NoLine rfl (takes_of rfl rfl rfl rfl))
  vss_nil)))
theorem b_read_sign (kV doc pm : Value) (an : Option Addr) (cdv ct : Value) (us : List Value) (h : us.length = 1) : bindArgs (PySem.W.fnOf "read_sign" "read_sign" (defArgs s_read_sign) (defBody s_read_sign) (defScope s_read_sign) .none kV doc pm an cdv ct) ⟨us, []⟩ = pure ((["word"] : List Str).zip us) := match us, h with | [_], _ => rfl
theorem spec_read_sign : ∀ ds Qv Xv, XTX.sp_read_sign ds Qv Xv → ds.length = 1 ∧ w_read_sign (startE N_read_sign ds) ⟨fun _ => Qv ⟨.none, mA⟩, fun r _ => Qv r, fun ex _ => Xv ex⟩ := by
  rintro ds Qv Xv ⟨word_, rfl, h⟩
  refine ⟨rfl, ?_⟩
  have he : startE N_read_sign [eS word_] = [some (eS word_, mA)] := by
    rw [st_read_sign]
    try simp only [argS_F, argS_N]
  rw [he]
  have hr : RB (fun _ => True) w_read_sign [some (eS word_, mA)] (XTX.F_read_sign word_) (KT eI mA) := by
    unfold XTX.F_read_sign w_read_sign
    exact (rs_ifRP kt_kt (rt_eq (rt_val (re_2P xo_eqS (re_vF 0 eS (word_)) (re_c (.str (Str.ofString "+")) eS (Str.ofString "+"))))) (rb_retP' (e := eI) 1 (re_eq (re_c (.int 1) eI (1)))) (rs_ifRP kt_kt (rt_eq (rt_val (re_2P xo_eqS (re_vF 0 eS (word_)) (re_c (.str (Str.ofString "-")) eS (Str.ofString "-"))))) (rb_retP' (e := eI) (-(1)) (re_eq (re_neg (re_c (.int 1) eI (1))))) (rb_raise)))
  exact of_KT hr h
abbrev s_read_part : Stmt := topS 12
abbrev N_read_part : List Str := ["sort", "word"]
abbrev lv_read_part : Nat := 2
theorem sc_read_part : FnScope N_read_part ["sort", "word"] (defScope s_read_part) := ⟨rfl, rfl, rfl, by decide +kernel, rfl, by decide +kernel, by decide +kernel⟩
def w_read_part : WS := (wSeq (wIf (wTest (wBin woEq (wVar 0) (wC (.str (Str.ofString "side"))))) (wSeq (wIf (wTest (wBin (woInT true) (wVar 1) (wCB wTup (wCons (wC (.str (Str.ofString "over"))) (wCons (wC (.str (Str.ofString "under"))) wNil))))) (wSeq (wRaise "NoLine")
  wNext) wNext)
  (wSeq (wRet (wMv 1))
  wNext)) wNext)
  (wSeq (wIf (wTest (wBin woEq (wVar 0) (wC (.str (Str.ofString "sign"))))) (wSeq (wRet (wCall XTX.sp_read_sign (wCons (wMv 1) wNil)))
  wNext) wNext)
  (wSeq (wIf (wTest (wBin woEq (wVar 0) (wC (.str (Str.ofString "cross"))))) (wSeq (wIf (wTest (wBin (woInT true) (wVar 1) (wCB wTup (wCons (wC (.str (Str.ofString "crossed"))) (wCons (wC (.str (Str.ofString "plain"))) wNil))))) (wSeq (wRaise "NoLine")
  wNext) wNext)
  (wSeq (wRet (wBin woEq (wVar 1) (wC (.str (Str.ofString "crossed")))))
  wNext)) wNext)
  (wSeq (wRet (wCall XTX.sp_read_number (wCons (wMv 1) wNil)))
  wNext))))
theorem st_read_part (x0 x1 : D) : startE N_read_part [x0, x1] = [argS x0, argS x1] := rfl
theorem d_read_part (E : Ev w K mg cl) (G_read_number : Def P w K mg base cl "read_number" 1 XTX.sp_read_number lv_read_number) (G_read_sign : Def P w K mg base cl "read_sign" 1 XTX.sp_read_sign lv_read_sign) (f : Addr) (cdv : Value) (A : Around) (outer : List Env) (s : Shared) (H : Hp) (E0 : XK) (P0 : Addr → Prop) (hr : Room 1 (cxV P w K mg base N_read_part "read_part" s_read_part f cdv A outer s H E0).A) :
    PSs (cxV P w K mg base N_read_part "read_part" s_read_part f cdv A outer s H E0) (defBody s_read_part) (rdS (cnOf K cl P0 H) (WXE E0) w_read_part) := by
  have nd := sc_read_part.nd
  exact (vss_cons (vs_if (vt_c (c_eq hr) (ve_var 0) ve_str) (vss_cons (vs_if (vt_c c_notInT (ve_var 1) (ve_tup (va_cons ve_str (va_cons ve_str va_nil)))) (vss_cons (vs_raiseE E.x_NoLine rfl (takes_of rfl rfl rfl rfl))
  vss_nil) vss_nil)
  (vss_cons (vs_ret (ve_mv 1))
  vss_nil)) vss_nil)
  (vss_cons (vs_if (vt_c (c_eq hr) (ve_var 0) ve_str) (vss_cons (vs_ret (ve_call (k := lv_read_sign) G_read_sign (hr.mono (by decide)) (takes_of rfl rfl rfl rfl) (va_cons (ve_mv 1) va_nil)))
  vss_nil) vss_nil)
  (vss_cons (vs_if (vt_c (c_eq hr) (ve_var 0) ve_str) (vss_cons (vs_if (vt_c c_notInT (ve_var 1) (ve_tup (va_cons ve_str (va_cons ve_str va_nil)))) (vss_cons (vs_raiseE E.x_NoLine rfl (takes_of rfl rfl rfl rfl))
  vss_nil) vss_nil)
  (vss_cons (vs_ret (ve_c (c_eq hr) (ve_var 1) ve_str))
  vss_nil)) vss_nil)
  (vss_cons (vs_ret (ve_call (k := lv_read_number) G_read_number (hr.mono (by decide)) (takes_of rfl rfl rfl rfl) (va_cons (ve_mv 1) va_nil)))
  vss_nil))))
theorem b_read_part (kV doc pm : Value) (an : Option Addr) (cdv ct : Value) (us : List Value) (h : us.length = 2) : bindArgs (PySem.W.fnOf "read_part" "read_part" (defArgs s_read_part) (defBody s_read_part) (defScope s_read_part) .none kV doc pm an cdv ct) ⟨us, []⟩ = pure ((["sort", "word"] : List Str).zip us) := match us, h with | [_, _], _ => rfl
theorem spec_read_part : ∀ ds Qv Xv, XTZ.sp_read_part ds Qv Xv → ds.length = 2 ∧ w_read_part (startE N_read_part ds) ⟨fun _ => Qv ⟨.none, mA⟩, fun r _ => Qv r, fun ex _ => Xv ex⟩ := by
  rintro ds Qv Xv ⟨sort_, word_, rfl, h⟩
  refine ⟨rfl, ?_⟩
  have he : startE N_read_part [eS sort_, eS word_] = [some (eS sort_, mA), some (eS word_, mA)] := by
    rw [st_read_part]
    try simp only [argS_F, argS_N]
  rw [he]
  have hr : RB (fun _ => True) w_read_part [some (eS sort_, mA), some (eS word_, mA)] (XTZ.F_read_part sort_ word_) (KT eA mA) := by
    unfold XTZ.F_read_part w_read_part
    exact (rs_ifRP kt_kt (rt_eq (rt_val (re_2P xo_eqS (re_vF 0 eS (sort_)) (re_c (.str (Str.ofString "side")) eS (Str.ofString "side"))))) (rs_ifRP kt_kt (rt_eq (rt_val (re_2P (xo_notInT2 (a := eS) (b := eS) hs_S) (re_vF 1 eS (word_)) (re_tupFP (a := (e2 eS eS)) (Str.ofString "over", Str.ofString "under") (ra_consP (re_c (.str (Str.ofString "over")) eS (Str.ofString "over")) (ra_consP (re_c (.str (Str.ofString "under")) eS (Str.ofString "under")) ra_nil)))))) (rb_raise) (rb_retP' (e := eA) (.s word_) (re_eq (re_mF 1 eS (word_))))) (rs_ifRP kt_kt (rt_eq (rt_val (re_2P xo_eqS (re_vF 0 eS (sort_)) (re_c (.str (Str.ofString "sign")) eS (Str.ofString "sign"))))) (rb_ret (e := eA) (fun x => (.i x)) (re_eq (re_callP (b := eI) (M := (XTX.F_read_sign word_)) (ra_consP (re_mF 1 eS (word_)) ra_nil) (fun Q X h => ⟨word_, rfl, h⟩)))) (rs_ifRP kt_kt (rt_eq (rt_val (re_2P xo_eqS (re_vF 0 eS (sort_)) (re_c (.str (Str.ofString "cross")) eS (Str.ofString "cross"))))) (rs_ifRP kt_kt (rt_eq (rt_val (re_2P (xo_notInT2 (a := eS) (b := eS) hs_S) (re_vF 1 eS (word_)) (re_tupFP (a := (e2 eS eS)) (Str.ofString "crossed", Str.ofString "plain") (ra_consP (re_c (.str (Str.ofString "crossed")) eS (Str.ofString "crossed")) (ra_consP (re_c (.str (Str.ofString "plain")) eS (Str.ofString "plain")) ra_nil)))))) (rb_raise) (rb_retP' (e := eA) (.b (decide (word_ = Str.ofString "crossed"))) (re_eq (re_2P xo_eqS (re_vF 1 eS (word_)) (re_c (.str (Str.ofString "crossed")) eS (Str.ofString "crossed")))))) (rb_ret (e := eA) (fun x => (.i x)) (re_eq (re_callP (b := eI) (M := (XTX.F_read_number word_)) (ra_consP (re_mF 1 eS (word_)) ra_nil) (fun Q X h => ⟨word_, rfl, h⟩)))))))
  exact of_KT hr h
abbrev s_read_move : Stmt := topS 14
abbrev N_read_move : List Str := ["line", "words", "sorts", "sort", "word"]
abbrev lv_read_move : Nat := 3
theorem sc_read_move : FnScope N_read_move ["line"] (defScope s_read_move) := ⟨rfl, rfl, rfl, by decide +kernel, rfl, by decide +kernel, by decide +kernel⟩
def w_read_move : WS := (wSeq (wSet 1 (wSplit (wVar 0) (wC (.str (Str.ofString " ")))))
  (wSeq (wSet 2 (wDctGet tab_FORMS (wBin wIx (wVar 1) (wC (.int 0)))))
  (wSeq (wIf (wOr (wTest (wBin woIsN (wVar 2) (wC .none))) (wTest (wBin woNe (wCB wLen (wCons (wVar 1) wNil)) (wBin woAdd (wLenW (wVar 2)) (wC (.int 1)))))) (wSeq (wRaise "NoLine")
  wNext) wNext)
  (wSeq (wRet (wCB wTuple (wCons (wBin woAdd (wCB wLst (wCons (wBin wIx (wVar 1) (wC (.int 0))) wNil)) (wLcZE true false [3, 4] (tgT [3, 4]) (wCons (wVar 2) (wCons (wSl (wVar 1) (wPt (wC (.int 1))) wNoP) wNil)) (wCall XTZ.sp_read_part (wCons (wVar 3) (wCons (wVar 4) wNil))))) wNil)))
  wNext))))
theorem st_read_move (x0 : D) : startE N_read_move [x0] = [argS x0, none, none, none, none] := rfl
theorem d_read_move (E : Ev w K mg cl) (G_read_part : Def P w K mg base cl "read_part" 2 XTZ.sp_read_part lv_read_part) (f : Addr) (cdv : Value) (A : Around) (outer : List Env) (s : Shared) (H : Hp) (E0 : XK) (P0 : Addr → Prop) (hr : Room 2 (cxV P w K mg base N_read_move "read_move" s_read_move f cdv A outer s H E0).A) :
    PSs (cxV P w K mg base N_read_move "read_move" s_read_move f cdv A outer s H E0) (defBody s_read_move) (rdS (cnOf K cl P0 H) (WXE E0) w_read_move) := by
  have nd := sc_read_move.nd
  exact (vss_cons (vs_set (i := 1) (ve_split (ve_var 0) ve_str) nd)
  (vss_cons (vs_set (i := 2) (ve_dctGet E.d_FORMS (ve_ix (ve_var 1) ve_int)) nd)
  (vss_cons (vs_if (PW.pt (vw_or (vt_c c_isN (ve_var 2) ve_non) (vw_or1 (vt_c (c_ne hr) (ve_len1 E.m_len (va_cons (ve_var 1) va_nil)) (ve_add (ve_lenW E.m_len (ve_var 2)) ve_int))))) (vss_cons (vs_raiseE E.x_NoLine rfl (takes_of rfl rfl rfl rfl))
  vss_nil) vss_nil)
  (vss_cons (vs_ret (ve_tuple1 E.m_tuple (va_cons (ve_add (ve_lst (va_cons (ve_ix (ve_var 1) ve_int) va_nil)) (ve_lcZEM (is := [3, 4]) rfl nd (takes_of rfl rfl rfl rfl) [("sort", 3), ("word", 4)] E.m_zip (va_cons (ve_var 2) (va_cons (ve_slice (ve_var 1) (vo_some ve_int) vo_none) va_nil)) (fun _ _ _ _ _ _ => pg_tup rfl (pgs_cons (pg_name nd rfl (by first | exact .inl rfl | exact .inr rfl)) (pgs_cons (pg_name nd rfl (by first | exact .inl rfl | exact .inr rfl)) pgs_nil))) (fun _ _ _ _ _ _ _ tk2 => (ve_call (k := lv_read_part) G_read_part (hr.mono (by decide)) tk2 (va_cons (ve_var 3) (va_cons (ve_var 4) va_nil)))))) va_nil)))
  vss_nil))))
theorem b_read_move (kV doc pm : Value) (an : Option Addr) (cdv ct : Value) (us : List Value) (h : us.length = 1) : bindArgs (PySem.W.fnOf "read_move" "read_move" (defArgs s_read_move) (defBody s_read_move) (defScope s_read_move) .none kV doc pm an cdv ct) ⟨us, []⟩ = pure ((["line"] : List Str).zip us) := match us, h with | [_], _ => rfl
theorem spec_read_move : ∀ ds Qv Xv, XTZ.sp_read_move ds Qv Xv → ds.length = 1 ∧ w_read_move (startE N_read_move ds) ⟨fun _ => Qv ⟨.none, mA⟩, fun r _ => Qv r, fun ex _ => Xv ex⟩ := by
  rintro ds Qv Xv ⟨line_, rfl, h⟩
  refine ⟨rfl, ?_⟩
  have he : startE N_read_move [eS line_] = [some (eS line_, mA), none, none, none, none] := by
    rw [st_read_move]
    try simp only [argS_F, argS_N]
  rw [he]
  have hr : RB (fun _ => True) w_read_move [some (eS line_, mA), none, none, none, none] (XTZ.F_read_move line_) (KT (eTL eA) mA) := by
    unfold XTZ.F_read_move w_read_move
    exact (rs_set (re_eq (re_eq (re_split (re_vF 0 eS (line_)) (re_c (.str (Str.ofString " ")) eS (Str.ofString " "))))) (fun words_ => [some (eS (line_), mA), some ((eL eS) (words_), mA), none, none, none]) (fun words_ => (rs_set (re_eq (re_dctGet (re_2Q (xo_ixF (a := eS)) (re_vA 1 (eL eS) (words_)) (re_c (.int 0) eI (0))))) (fun sorts_ => [some (eS (line_), mA), some ((eL eS) (words_), mA), some ((eO eW) (sorts_), mA), none, none]) (fun sorts_ => (rs_ifR kt_kt (rt_eq (rt_or (rt_val (re_2P (xo_isNO (a := eW) (fun _ => rfl)) (re_vF 2 (eO eW) (sorts_)) (re_c .none eN (())))) (rt_val (re_2 (opP_out xo_neI) (re_cbP ((words_.length : Int)) (ra_consP (re_vA 1 (eL eS) (words_)) ra_nil) (len_L (a := eS) (words_))) (re_2 (opP_out xo_add) (re_lenW (re_someP (a := eW) (re_vF 2 (eO eW) (sorts_)))) (re_c (.int 1) eI (1))))))) (rb_raise) (rb_retI (re_eq (re_cb (M := fun (t : (List At) × Unit) => .ok (t.1)) (ra_cons (re_2 (opO_out (xo_catF (a := eA))) (re_lstF (a := eA) (fun (t : At × Unit) => [t.1]) (ra_cons (re_asO (b := eA) (fun x => At.s x) (re_2Q (xo_ixF (a := eS)) (re_vA 1 (eL eS) (words_)) (re_c (.int 0) eI (0)))) ra_nil)) (re_lcZE none mA (a := eS) (b := eS) (ent := (fun p44 => [some (eS (line_), mA), some ((eL eS) (words_), .b), some ((eO eW) (sorts_), mA), some (eS (p44.1), mA), some (eS (p44.2), mA)])) (F := (fun p44 : (Str × Str) => (XTZ.F_read_part p44.1 p44.2))) (re_eq (re_someP (a := eW) (re_vF 2 (eO eW) (sorts_)))) (re_eq (re_slF (a := eS) (re_vA 1 (eL eS) (words_)) (ro_ptP (re_c (.int 1) eI (1))) ro_no)) sq_W sq_L (fun _ => ⟨_, rfl, by simp only [bEnv_c, bEnv_n, bS_fl, List.map_cons, List.map_nil, subT_F]; rfl⟩) (fun p44 => ⟨_, re_eq (re_callP (b := eA) (M := (XTZ.F_read_part p44.1 p44.2)) (ra_consP (re_vF 3 eS (p44.1)) (ra_consP (re_vF 4 eS (p44.2)) ra_nil)) (fun Q X h => ⟨p44.1, p44.2, rfl, h⟩))⟩) (kid_F (c := eA)))) ra_nil) (fun (t : (List At) × Unit) _ _ h => bi_tuple (a := eA) (t.1) _ h)))))))))
  exact of_KT hr h
abbrev s_law_read : Stmt := topS 19
abbrev N_law_read : List Str := ["_law_line", "_law_found", "e"]
abbrev lv_law_read : Nat := 4
theorem sc_law_read : FnScope N_law_read ["_law_line"] (defScope s_law_read) := ⟨rfl, rfl, rfl, by decide +kernel, rfl, by decide +kernel, by decide +kernel⟩
def w_law_read : WS := (wSeq (wCut (wTryN (wSeq (wSet 1 (wCall XTZ.sp_read_move (wCons (wMv 0) wNil)))
  wNext) ["PlaitError", "NoMove", "NoLine"] 2 (fun ad50 ex49 => wPre (wSeq (wRet (wCB wTup (wCons (wC (.str (Str.ofString "no"))) (wCons (wAndV (wIsE 2 ad50 ((["NoLine"] : List Str).contains ex49.cls)) (wNotV (wIsE 2 ad50 ((["NoMove"] : List Str).contains ex49.cls)))) wNil))))
  wNext))))
  (wSeq (wRet (wCB wTup (wCons (wC (.str (Str.ofString "yes"))) (wCons (wMv 1) wNil))))
  wNext))
theorem st_law_read (x0 : D) : startE N_law_read [x0] = [argS x0, none, none] := rfl
theorem d_law_read (E : Ev w K mg cl) (G_read_move : Def P w K mg base cl "read_move" 1 XTZ.sp_read_move lv_read_move) (f : Addr) (cdv : Value) (A : Around) (outer : List Env) (s : Shared) (H : Hp) (E0 : XK) (P0 : Addr → Prop) (hr : Room 3 (cxV P w K mg base N_law_read "_law_read" s_law_read f cdv A outer s H E0).A) :
    PSs (cxV P w K mg base N_law_read "_law_read" s_law_read f cdv A outer s H E0) (defBody s_law_read) (rdS (cnOf K cl P0 H) (WXE E0) w_law_read) := by
  have nd := sc_law_read.nd
  exact (vss_cons (vs_cut (vs_tryN (i := 2) rfl rfl nd E.k_PlaitError (takes_of rfl rfl rfl rfl) (fun _ _ _ tk1 hp1 => (vss_cons (vs_set (i := 1) (ve_call (k := lv_read_move) G_read_move (hr.mono (by decide)) tk1 (va_cons (ve_mv 0) va_nil)) nd)
  vss_nil)) (fun ad50 oe ex49 D pn eD hz hv => vss_pre (vss_cons (vs_ret (ve_tup (va_cons ve_str (va_cons (ve_and (ve_isEN E.t eD hz hv E.q_NoLine E.m_isinstance 2) (ve_one (ve_not (ve_isEN E.t eD hz hv E.q_NoMove E.m_isinstance 2)))) va_nil))))
  vss_nil))))
  (vss_cons (vs_ret (ve_tup (va_cons ve_str (va_cons (ve_mv 1) va_nil))))
  vss_nil))
theorem b_law_read (kV doc pm : Value) (an : Option Addr) (cdv ct : Value) (us : List Value) (h : us.length = 1) : bindArgs (PySem.W.fnOf "_law_read" "_law_read" (defArgs s_law_read) (defBody s_law_read) (defScope s_law_read) .none kV doc pm an cdv ct) ⟨us, []⟩ = pure ((["_law_line"] : List Str).zip us) := match us, h with | [_], _ => rfl
theorem spec_law_read : ∀ ds Qv Xv, sp_law_read ds Qv Xv → ds.length = 1 ∧ w_law_read (startE N_law_read ds) ⟨fun _ => Qv ⟨.none, mA⟩, fun r _ => Qv r, fun ex _ => Xv ex⟩ := by
  rintro ds Qv Xv ⟨line_, rfl, h⟩
  refine ⟨rfl, ?_⟩
  have he : startE N_law_read [eS line_] = [some (eS line_, mA), none, none] := by
    rw [st_law_read]
    try simp only [argS_F, argS_N]
  rw [he]
  have hr : RB (fun _ => True) w_law_read [some (eS line_, mA), none, none] (F_law_read line_) (KT (eU (e2 eS eB) (e2 eS (eTL eA))) mA) := by
    unfold F_law_read w_law_read
    exact (rs_seqT (s := (fun (V51 : (List At)) => [some (eS (line_), mA), some ((eTL eA) (V51), mA), none])) (rb_tryNF [some (eS (line_), mA), none, none] (rs_set (re_eq (re_callP (b := (eTL eA)) (M := (XTZ.F_read_move line_)) (ra_consP (re_mF 0 eS (line_)) ra_nil) (fun Q X h => ⟨line_, rfl, h⟩) (hg := (el_c sl_o (el_c sl_n (el_c sl_n el_nil)))))) (fun found_ => [some (eS (line_), mA), some ((eTL eA) (found_), mA), none]) (fun found_ => (rb_nextF (V := found_) (el_c sl_o (el_c sl_o (el_c sl_n el_nil)))))) (fun ad50 ex49 => (rb_retFP (e := (eU (e2 eS eB) (e2 eS (eTL eA)))) (.inl ((Str.ofString "no", (((["NoLine"] : List Str).contains ex49.cls) && !(((["NoMove"] : List Str).contains ex49.cls)))))) (re_eq (re_tupFP (a := (e2 eS eB)) (Str.ofString "no", (((["NoLine"] : List Str).contains ex49.cls) && !(((["NoMove"] : List Str).contains ex49.cls)))) (ra_consP (re_c (.str (Str.ofString "no")) eS (Str.ofString "no")) (ra_consP (re_andP (re_isE) (re_notP (re_isE))) ra_nil))))))) (fun V51 => (rb_retP' (e := (eU (e2 eS eB) (e2 eS (eTL eA)))) (.inr ((Str.ofString "yes", V51))) (re_eq (re_tupFP (a := (e2 eS (eTL eA))) (Str.ofString "yes", V51) (ra_consP (re_c (.str (Str.ofString "yes")) eS (Str.ofString "yes")) (ra_consP (re_mF 1 (eTL eA) (V51)) ra_nil)))))))
  exact of_KT hr h
abbrev s_law_alike : Stmt := topS 22
abbrev N_law_alike : List Str := ["_law_found", "_law_due", "_law_k"]
abbrev lv_law_alike : Nat := 1
theorem sc_law_alike : FnScope N_law_alike ["_law_found", "_law_due"] (defScope s_law_alike) := ⟨rfl, rfl, rfl, by decide +kernel, rfl, by decide +kernel, by decide +kernel⟩
def w_law_alike : WS := (wSeq (wIf (wOr (wNot (wTest (wIsi "tuple" (wVar 0)))) (wTest (wBin woNe (wCB wLen (wCons (wVar 0) wNil)) (wCB wLen (wCons (wVar 1) wNil))))) (wSeq (wRet (wC (.bool false)))
  wNext) wNext)
  (wSeq (wCut (wForR 1 2 (wCons (wCB wLen (wCons (wVar 1) wNil)) wNil)
  (wSeq (wIf (wTest (wBin woNe (wIsi "bool" (wBin wIx (wVar 1) (wVar 2))) (wIsi "bool" (wBin wIx (wVar 0) (wVar 2))))) (wSeq (wRet (wC (.bool false)))
  wNext) wNext)
  (wSeq (wIf (wTest (wBin woNe (wIsi "str" (wBin wIx (wVar 1) (wVar 2))) (wIsi "str" (wBin wIx (wVar 0) (wVar 2))))) (wSeq (wRet (wC (.bool false)))
  wNext) wNext)
  wNext))))
  (wSeq (wRet (wBin woEq (wVar 0) (wVar 1)))
  wNext)))
theorem st_law_alike (x0 x1 : D) : startE N_law_alike [x0, x1] = [argS x0, argS x1, none] := rfl
theorem d_law_alike (E : Ev w K mg cl)  (f : Addr) (cdv : Value) (A : Around) (outer : List Env) (s : Shared) (H : Hp) (E0 : XK) (P0 : Addr → Prop) (hr : Room 0 (cxV P w K mg base N_law_alike "_law_alike" s_law_alike f cdv A outer s H E0).A) :
    PSs (cxV P w K mg base N_law_alike "_law_alike" s_law_alike f cdv A outer s H E0) (defBody s_law_alike) (rdS (cnOf K cl P0 H) (WXE E0) w_law_alike) := by
  have nd := sc_law_alike.nd
  exact (vss_cons (vs_if (PW.pt (vw_or (vt_not (vt_val (ve_isi ta_tuple E.m_isinstance E.m_tuple (by decide +kernel) (ve_var 0)))) (vw_or1 (vt_c (c_ne hr) (ve_len1 E.m_len (va_cons (ve_var 0) va_nil)) (ve_len1 E.m_len (va_cons (ve_var 1) va_nil)))))) (vss_cons (vs_ret ve_bl)
  vss_nil) vss_nil)
  (vss_cons (vs_cut (vs_forR1 (i := 2) (passes_of rfl) rfl E.m_range (va_cons (ve_len1 E.m_len (va_cons (ve_var 1) va_nil)) va_nil)
  (vss_cons (vs_if (vt_c (c_ne hr) (ve_isi ta_bool E.m_isinstance E.m_bool (by decide +kernel) (ve_ix (ve_var 1) (ve_var 2))) (ve_isi ta_bool E.m_isinstance E.m_bool (by decide +kernel) (ve_ix (ve_var 0) (ve_var 2)))) (vss_cons (vs_ret ve_bl)
  vss_nil) vss_nil)
  (vss_cons (vs_if (vt_c (c_ne hr) (ve_isi ta_str E.m_isinstance E.m_str (by decide +kernel) (ve_ix (ve_var 1) (ve_var 2))) (ve_isi ta_str E.m_isinstance E.m_str (by decide +kernel) (ve_ix (ve_var 0) (ve_var 2)))) (vss_cons (vs_ret ve_bl)
  vss_nil) vss_nil)
  vss_nil)) nd))
  (vss_cons (vs_ret (ve_c (c_eq hr) (ve_var 0) (ve_var 1)))
  vss_nil)))
theorem b_law_alike (kV doc pm : Value) (an : Option Addr) (cdv ct : Value) (us : List Value) (h : us.length = 2) : bindArgs (PySem.W.fnOf "_law_alike" "_law_alike" (defArgs s_law_alike) (defBody s_law_alike) (defScope s_law_alike) .none kV doc pm an cdv ct) ⟨us, []⟩ = pure ((["_law_found", "_law_due"] : List Str).zip us) := match us, h with | [_, _], _ => rfl
theorem spec_law_alike : ∀ ds Qv Xv, sp_law_alike ds Qv Xv → ds.length = 2 ∧ w_law_alike (startE N_law_alike ds) ⟨fun _ => Qv ⟨.none, mA⟩, fun r _ => Qv r, fun ex _ => Xv ex⟩ := by
  rintro ds Qv Xv ⟨found_, due_, rfl, h⟩
  refine ⟨rfl, ?_⟩
  have he : startE N_law_alike [(eTL eA) found_, (eTL eA) due_] = [some ((eTL eA) found_, mA), some ((eTL eA) due_, mA), none] := by
    rw [st_law_alike]
    try simp only [argS_F, argS_N]
  rw [he]
  have hr : RB (fun _ => True) w_law_alike [some ((eTL eA) found_, mA), some ((eTL eA) due_, mA), none] (F_law_alike found_ due_) (KT eB mA) := by
    unfold F_law_alike w_law_alike
    exact (rs_ifRP kt_kt (rt_eq (rt_orF (rt_eq (rt_notP (rt_val (re_isi true (re_vF 0 (eTL eA) (found_)))))) (rt_val (re_2P xo_neI (re_cbP ((found_.length : Int)) (ra_consP (re_vF 0 (eTL eA) (found_)) ra_nil) (len_TL (a := eA) (found_))) (re_cbP ((due_.length : Int)) (ra_consP (re_vF 1 (eTL eA) (due_)) ra_nil) (len_TL (a := eA) (due_))))))) (rb_retP' (e := eB) false (re_eq (re_c (.bool false) eB (false)))) (rs_seqT (s := (fun (V54 : Unit) => [some ((eTL eA) (found_), mA), some ((eTL eA) (due_), mA), none])) (rb_forRFP (s := (fun (V54 : Unit) => [some ((eTL eA) (found_), mA), some ((eTL eA) (due_), mA), none])) 0 (due_.length : Int) () (ra_consP (re_cbP ((due_.length : Int)) (ra_consP (re_vF 1 (eTL eA) (due_)) ra_nil) (len_TL (a := eA) (due_))) ra_nil) ⟨rfl, rfl⟩ (el_c sl_o (el_c sl_o (el_c sl_n el_nil))) (fun V54 k_ => [some ((eTL eA) (found_), mA), some ((eTL eA) (due_), mA), some (eI (k_), mA)]) (fun V54 k_ => (rs_ifR kf_kr (rt_eq (rt_val (re_2 (opP_out xo_neB) (re_isiAO (re_2Q (xo_ixT (a := eA)) (re_vF 1 (eTL eA) (due_)) (re_vF 2 eI (k_)))) (re_isiAO (re_2Q (xo_ixT (a := eA)) (re_vF 0 (eTL eA) (found_)) (re_vF 2 eI (k_))))))) (rb_retRP (e := eB) false (re_eq (re_c (.bool false) eB (false)))) (rs_ifR kf_kr (rt_eq (rt_val (re_2 (opP_out xo_neB) (re_isiAO (re_2Q (xo_ixT (a := eA)) (re_vF 1 (eTL eA) (due_)) (re_vF 2 eI (k_)))) (re_isiAO (re_2Q (xo_ixT (a := eA)) (re_vF 0 (eTL eA) (found_)) (re_vF 2 eI (k_))))))) (rb_retRP (e := eB) false (re_eq (re_c (.bool false) eB (false)))) (rb_nextF (V := ()) (el_c sl_o (el_c sl_o (el_c sl_n el_nil)))))))) (fun V54 => (rb_retI (re_eq (re_2Q (xo_eqG (a := (eTL eA)) (b := (eTL eA))) (re_vF 0 (eTL eA) (found_)) (re_vF 1 (eTL eA) (due_))))))))
  exact of_KT hr h
abbrev s_law_asked : Stmt := topS 23
abbrev N_law_asked : List Str := ["_law_made_here", "_law_move", "_law_line", "_law_far", "_law_told", "_law_found"]
abbrev lv_law_asked : Nat := 5
theorem sc_law_asked : FnScope N_law_asked ["_law_made_here"] (defScope s_law_asked) := ⟨rfl, rfl, rfl, by decide +kernel, rfl, by decide +kernel, by decide +kernel⟩
def w_law_asked : WS := (wSeq (wAsg (tgT [1, 2, 3]) (wMv 0))
  (wSeq (wSet 4 (wCall XTZ.sp_show_move (wCons (wVar 1) wNil)))
  (wSeq (wIf (wOr (wNot (wTest (wIsi "str" (wVar 4)))) (wTest (wBin woNe (wVar 4) (wVar 2)))) (wSeq (wRet (wC (.bool false)))
  wNext) wNext)
  (wSeq (wSet 5 (wCall sp_law_read (wCons (wMv 2) wNil)))
  (wEi (wSeq (wIf (wTest (wVar 3)) (wSeq (wRet (wBin woEq (wVar 5) (wCB wTup (wCons (wC (.str (Str.ofString "no"))) (wCons (wC (.bool true)) wNil)))))
  wNext) wNext)
  (wRet (wAndV (wBin woEq (wBin wIx (wVar 5) (wC (.int 0))) (wC (.str (Str.ofString "yes")))) (wCall sp_law_alike (wCons (wBin wIx (wVar 5) (wC (.int 1))) (wCons (wMv 1) wNil))))))
 (wSeq (wIf (wTest (wVar 3)) (wSeq (wRet (wBin woEq (wVar 5) (wCB wTup (wCons (wC (.str (Str.ofString "no"))) (wCons (wC (.bool true)) wNil)))))
  wNext) wNext)
  (wSeq (wRet (wAndV (wBin woEq (wBin wIx (wVar 5) (wC (.int 0))) (wC (.str (Str.ofString "yes")))) (wCall sp_law_alike (wCons (wBin wIx (wVar 5) (wC (.int 1))) (wCons (wVar 1) wNil)))))
  wNext)))))))
theorem st_law_asked (x0 : D) : startE N_law_asked [x0] = [argS x0, none, none, none, none, none] := rfl
theorem d_law_asked (E : Ev w K mg cl) (G_show_move : Def P w K mg base cl "show_move" 1 XTZ.sp_show_move lv_show_move) (G_law_read : Def P w K mg base cl "_law_read" 1 sp_law_read lv_law_read) (G_law_alike : Def P w K mg base cl "_law_alike" 2 sp_law_alike lv_law_alike) (f : Addr) (cdv : Value) (A : Around) (outer : List Env) (s : Shared) (H : Hp) (E0 : XK) (P0 : Addr → Prop) (hr : Room 4 (cxV P w K mg base N_law_asked "_law_asked" s_law_asked f cdv A outer s H E0).A) :
    PSs (cxV P w K mg base N_law_asked "_law_asked" s_law_asked f cdv A outer s H E0) (defBody s_law_asked) (rdS (cnOf K cl P0 H) (WXE E0) w_law_asked) := by
  have nd := sc_law_asked.nd
  exact (vss_cons (vs_asg (ve_mv 0) (tg_tup rfl (na_cons (na_cons (na_cons na_nil nd) nd) nd)))
  (vss_cons (vs_set (i := 4) (ve_call (k := lv_show_move) G_show_move (hr.mono (by decide)) (takes_of rfl rfl rfl rfl) (va_cons (ve_var 1) va_nil)) nd)
  (vss_cons (vs_if (PW.pt (vw_or (vt_not (vt_val (ve_isi ta_str E.m_isinstance E.m_str (by decide +kernel) (ve_var 4)))) (vw_or1 (vt_c (c_ne hr) (ve_var 4) (ve_var 2))))) (vss_cons (vs_ret ve_bl)
  vss_nil) vss_nil)
  (vss_cons (vs_set (i := 5) (ve_call (k := lv_law_read) G_law_read (hr.mono (by decide)) (takes_of rfl rfl rfl rfl) (va_cons (ve_mv 2) va_nil)) nd)
  (vss_ei (vss_cons (vs_if (vt_val (ve_var 3)) (vss_cons (vs_ret (ve_c (c_eq hr) (ve_var 5) (ve_tup (va_cons ve_str (va_cons ve_bl va_nil)))))
  vss_nil) vss_nil)
  (vss_one (vs_ret (ve_and (ve_c (c_eq hr) (ve_ix (ve_var 5) ve_int) ve_str) (ve_one (ve_call (k := lv_law_alike) G_law_alike (hr.mono (by decide)) (takes_of rfl rfl rfl rfl) (va_cons (ve_ix (ve_var 5) ve_int) (va_cons (ve_mv 1) va_nil))))))))
 (vss_cons (vs_if (vt_val (ve_var 3)) (vss_cons (vs_ret (ve_c (c_eq hr) (ve_var 5) (ve_tup (va_cons ve_str (va_cons ve_bl va_nil)))))
  vss_nil) vss_nil)
  (vss_cons (vs_ret (ve_and (ve_c (c_eq hr) (ve_ix (ve_var 5) ve_int) ve_str) (ve_one (ve_call (k := lv_law_alike) G_law_alike (hr.mono (by decide)) (takes_of rfl rfl rfl rfl) (va_cons (ve_ix (ve_var 5) ve_int) (va_cons (ve_var 1) va_nil))))))
  vss_nil)))))))
theorem b_law_asked (kV doc pm : Value) (an : Option Addr) (cdv ct : Value) (us : List Value) (h : us.length = 1) : bindArgs (PySem.W.fnOf "_law_asked" "_law_asked" (defArgs s_law_asked) (defBody s_law_asked) (defScope s_law_asked) .none kV doc pm an cdv ct) ⟨us, []⟩ = pure ((["_law_made_here"] : List Str).zip us) := match us, h with | [_], _ => rfl
theorem spec_law_asked : ∀ ds Qv Xv, sp_law_asked ds Qv Xv → ds.length = 1 ∧ w_law_asked (startE N_law_asked ds) ⟨fun _ => Qv ⟨.none, mA⟩, fun r _ => Qv r, fun ex _ => Xv ex⟩ := by
  rintro ds Qv Xv ⟨made_here_, rfl, h⟩
  refine ⟨rfl, ?_⟩
  have he : startE N_law_asked [(e3 (eTL eA) eS eB) made_here_] = [some ((e3 (eTL eA) eS eB) made_here_, mA), none, none, none, none, none] := by
    rw [st_law_asked]
    try simp only [argS_F, argS_N]
  rw [he]
  have hr : RB (fun _ => True) w_law_asked [some ((e3 (eTL eA) eS eB) made_here_, mA), none, none, none, none, none] (F_law_asked made_here_) (KT eB mA) := by
    unfold F_law_asked w_law_asked
    exact (rs_asg (a := (e3 (eTL eA) eS eB)) (re_eq (re_mF 0 (e3 (eTL eA) eS eB) (made_here_))) (fun p56 => [some ((e3 (eTL eA) eS eB) (made_here_), mA), some ((eTL eA) (p56.1), mA), some (eS (p56.2.1), mA), some (eB (p56.2.2), mA), none, none]) (fun p56 => (rs_set (re_eq (re_callP (b := eS) (M := (XTZ.F_show_move p56.1)) (ra_consP (re_vF 1 (eTL eA) (p56.1)) ra_nil) (fun Q X h => ⟨p56.1, rfl, h⟩))) (fun told_ => [some ((e3 (eTL eA) eS eB) (made_here_), mA), some ((eTL eA) (p56.1), mA), some (eS (p56.2.1), mA), some (eB (p56.2.2), mA), some (eS (told_), mA), none]) (fun told_ => (rs_ifRP kt_kt (rt_eq (rt_orF (rt_eq (rt_notP (rt_val (re_isi true (re_vF 4 eS (told_)))))) (rt_val (re_2P xo_neS (re_vF 4 eS (told_)) (re_vF 2 eS (p56.2.1)))))) (rb_retP' (e := eB) false (re_eq (re_c (.bool false) eB (false)))) (rs_set (re_eq (re_callP (b := (eU (e2 eS eB) (e2 eS (eTL eA)))) (M := (F_law_read p56.2.1)) (ra_consP (re_mF 2 eS (p56.2.1)) ra_nil) (fun Q X h => ⟨p56.2.1, rfl, h⟩))) (fun found_ => [some ((e3 (eTL eA) eS eB) (made_here_), mA), some ((eTL eA) (p56.1), mA), some (eS (p56.2.1), mA), some (eB (p56.2.2), mA), some (eS (told_), mA), some ((eU (e2 eS eB) (e2 eS (eTL eA))) (found_), mA)]) (fun found_ => (match found_ with | .inl found_ => (rb_el (rs_ifRP kt_kt (rt_eq (rt_val (re_vF 3 eB (p56.2.2)))) (rb_retI (re_eq (re_2Q (xo_eqG (a := (e2 eS eB)) (b := (e2 eS eB))) (re_vF 5 (e2 eS eB) (found_)) (re_tupFP (a := (e2 eS eB)) (Str.ofString "no", true) (ra_consP (re_c (.str (Str.ofString "no")) eS (Str.ofString "no")) (ra_consP (re_c (.bool true) eB (true)) ra_nil)))))) rb_stuck)) | .inr found_ => (rb_er (rs_ifRP kt_kt (rt_eq (rt_val (re_vF 3 eB (p56.2.2)))) (rb_retI (re_eq (re_2Q (xo_eqG (a := (e2 eS (eTL eA))) (b := (e2 eS eB))) (re_vF 5 (e2 eS (eTL eA)) (found_)) (re_tupFP (a := (e2 eS eB)) (Str.ofString "no", true) (ra_consP (re_c (.str (Str.ofString "no")) eS (Str.ofString "no")) (ra_consP (re_c (.bool true) eB (true)) ra_nil)))))) (rb_retI (re_eq (re_and (re_2P xo_eqS (re_tF (e := eS) (b := (e2 eS (eTL eA))) 0 (found_.1) (re_vF 5 (e2 eS (eTL eA)) (found_)) (re_c (.int 0) eI (0))) (re_c (.str (Str.ofString "yes")) eS (Str.ofString "yes"))) (re_callP (b := eB) (M := (F_law_alike found_.2 p56.1)) (ra_consP (re_tF (e := (eTL eA)) (b := (e2 eS (eTL eA))) 1 (found_.2) (re_vF 5 (e2 eS (eTL eA)) (found_)) (re_c (.int 1) eI (1))) (ra_consP (re_vF 1 (eTL eA) (p56.1)) ra_nil)) (fun Q X h => ⟨found_.2, p56.1, rfl, h⟩)))))))))))))) (hs := fun _ => ⟨_, rfl, by simp only [List.map_cons, List.map_nil, subT_A]; rfl⟩))
  exact of_KT hr h
abbrev s_law : Stmt := topS 24
abbrev N_law : List Str := ["_law_script", "_law_one", "_law_two", "_law_more", "_law_again", "_law_first", "_law_other"]
theorem sc_law : FnScope N_law ["_law_script"] (defScope s_law) := ⟨rfl, rfl, rfl, by decide +kernel, rfl, by decide +kernel, by decide +kernel⟩
def w_law : WS := (wSeq (wSet 1 (wCall XD.sp_law_row (wCons (wVar 0) (wCons (wC (.int 0)) (wCons (wBin woAdd (wCB wLst (wCons (wC (.int 1)) wNil)) (wBin woMul (wCB wLst (wCons (wC (.int 4)) (wCons (wC (.int 2)) (wCons (wBin woPow (wC (.int 10)) (wC (.int 59))) wNil)))) (wC (.int 6)))) wNil)))))
  (wSeq (wSet 2 (wCall XD.sp_law_row (wCons (wVar 0) (wCons (wC (.int 1)) (wCons (wBin woAdd (wCB wLst (wCons (wC (.int 1)) wNil)) (wBin woMul (wCB wLst (wCons (wC (.int 4)) (wCons (wC (.int 2)) (wCons (wBin woPow (wC (.int 10)) (wC (.int 59))) wNil)))) (wC (.int 6)))) wNil)))))
  (wSeq (wSet 3 (wCall XD.sp_law_row (wCons (wVar 0) (wCons (wC (.int 2)) (wCons (wCB wLst (wCons (wC (.int 6)) (wCons (wC (.int 2)) (wCons (wC (.int 2)) wNil)))) wNil)))))
  (wSeq (wSet 4 (wCall XD.sp_law_row (wCons (wMv 0) (wCons (wC (.int 3)) (wCons (wCB wLst (wCons (wC (.int 6)) (wCons (wC (.int 2)) (wCons (wC (.int 2)) wNil)))) wNil)))))
  (wSeq (wSet 5 (wCall sp_law_made (wCons (wMv 1) (wCons (wMv 3) wNil))))
  (wSeq (wSet 6 (wCall sp_law_made (wCons (wMv 2) (wCons (wMv 4) wNil))))
  (wSeq (wIf (wOr (wNot (wTest (wCall sp_law_asked (wCons (wVar 5) wNil)))) (wNot (wTest (wCall sp_law_asked (wCons (wVar 6) wNil))))) (wSeq (wRet (wC (.bool false)))
  wNext) wNext)
  (wSeq (wRet (wCall sp_law_asked (wCons (wMv 5) wNil)))
  wNext))))))))
theorem st_law (x0 : D) : startE N_law [x0] = [argS x0, none, none, none, none, none, none] := rfl
theorem d_law (E : Ev w K mg cl) (G_law_row : Def P w K mg base cl "_law_row" 3 XD.sp_law_row lv_law_row) (G_law_made : Def P w K mg base cl "_law_made" 2 sp_law_made lv_law_made) (G_law_asked : Def P w K mg base cl "_law_asked" 1 sp_law_asked lv_law_asked) (f : Addr) (cdv : Value) (A : Around) (outer : List Env) (s : Shared) (H : Hp) (E0 : XK) (P0 : Addr → Prop) (hr : Room 5 (cxV P w K mg base N_law "law" s_law f cdv A outer s H E0).A) :
    PSs (cxV P w K mg base N_law "law" s_law f cdv A outer s H E0) (defBody s_law) (rdS (cnOf K cl P0 H) (WXE E0) w_law) := by
  have nd := sc_law.nd
  exact (vss_cons (vs_set (i := 1) (ve_call (k := lv_law_row) G_law_row (hr.mono (by decide)) (takes_of rfl rfl rfl rfl) (va_cons (ve_var 0) (va_cons ve_int (va_cons (ve_add (ve_lst (va_cons ve_int va_nil)) (ve_mul (ve_lst (va_cons ve_int (va_cons ve_int (va_cons (ve_pow ve_int ve_int) va_nil)))) ve_int)) va_nil)))) nd)
  (vss_cons (vs_set (i := 2) (ve_call (k := lv_law_row) G_law_row (hr.mono (by decide)) (takes_of rfl rfl rfl rfl) (va_cons (ve_var 0) (va_cons ve_int (va_cons (ve_add (ve_lst (va_cons ve_int va_nil)) (ve_mul (ve_lst (va_cons ve_int (va_cons ve_int (va_cons (ve_pow ve_int ve_int) va_nil)))) ve_int)) va_nil)))) nd)
  (vss_cons (vs_set (i := 3) (ve_call (k := lv_law_row) G_law_row (hr.mono (by decide)) (takes_of rfl rfl rfl rfl) (va_cons (ve_var 0) (va_cons ve_int (va_cons (ve_lst (va_cons ve_int (va_cons ve_int (va_cons ve_int va_nil)))) va_nil)))) nd)
  (vss_cons (vs_set (i := 4) (ve_call (k := lv_law_row) G_law_row (hr.mono (by decide)) (takes_of rfl rfl rfl rfl) (va_cons (ve_mv 0) (va_cons ve_int (va_cons (ve_lst (va_cons ve_int (va_cons ve_int (va_cons ve_int va_nil)))) va_nil)))) nd)
  (vss_cons (vs_set (i := 5) (ve_call (k := lv_law_made) G_law_made (hr.mono (by decide)) (takes_of rfl rfl rfl rfl) (va_cons (ve_mv 1) (va_cons (ve_mv 3) va_nil))) nd)
  (vss_cons (vs_set (i := 6) (ve_call (k := lv_law_made) G_law_made (hr.mono (by decide)) (takes_of rfl rfl rfl rfl) (va_cons (ve_mv 2) (va_cons (ve_mv 4) va_nil))) nd)
  (vss_cons (vs_if (PW.pt (vw_or (vt_not (vt_val (ve_call (k := lv_law_asked) G_law_asked (hr.mono (by decide)) (takes_of rfl rfl rfl rfl) (va_cons (ve_var 5) va_nil)))) (vw_or1 (vt_not (vt_val (ve_call (k := lv_law_asked) G_law_asked (hr.mono (by decide)) (takes_of rfl rfl rfl rfl) (va_cons (ve_var 6) va_nil))))))) (vss_cons (vs_ret ve_bl)
  vss_nil) vss_nil)
  (vss_cons (vs_ret (ve_call (k := lv_law_asked) G_law_asked (hr.mono (by decide)) (takes_of rfl rfl rfl rfl) (va_cons (ve_mv 5) va_nil)))
  vss_nil))))))))
theorem b_law (kV doc pm : Value) (an : Option Addr) (cdv ct : Value) (us : List Value) (h : us.length = 1) : bindArgs (PySem.W.fnOf "law" "law" (defArgs s_law) (defBody s_law) (defScope s_law) .none kV doc pm an cdv ct) ⟨us, []⟩ = pure ((["_law_script"] : List Str).zip us) := match us, h with | [_], _ => rfl
end
end LK93
set_option maxRecDepth 100000
set_option maxHeartbeats 4000000
namespace LK93
open PySem PySem.Spec PyProof.Rows L2 VL
def errNames : List Str := ["PlaitError", "NoMove", "NoLine"]
theorem spec_law : ∀ ds Qv Xv, LawS ds Qv Xv → ds.length = 1 ∧ w_law (startE N_law ds) ⟨fun _ => Qv ⟨.none, mA⟩, fun r _ => Qv r, fun ex _ => Xv ex⟩ := by
  rintro ds Qv Xv ⟨script_, rfl, hl, hb, h⟩
  refine ⟨rfl, ?_⟩
  have he : startE N_law [scriptD script_] = [some (eScr script_, mS), none, none, none, none, none, none] := by
    rw [st_law]
    have := argS_N (e := eScr) script_
    simp only [eScr] at this ⊢
    simp only [this]
  rw [he]
  have hr : RB (fun _ => True) w_law [some (eScr script_, mS), none, none, none, none, none, none] (F_law script_) (KT eB mA) := by
    unfold F_law w_law
    exact (rs_set (re_eq (re_call (b := (eL eI)) (M := fun (t : (List Int) × Int × (List Int) × Unit) => XD.F_law_row t.1 t.2.1 t.2.2.1) (ra_cons (re_vS 0 eScr (script_)) (ra_cons (re_c (.int 0) eI (0)) (ra_cons (re_2 (opO_out (xo_catF (a := eI))) (re_lstFP (a := eI) [1] (ra_consP (re_c (.int 1) eI (1)) ra_nil)) (re_2Q (xo_rep (a := eI)) (re_lstFP (a := eI) [4, 2, (10 ^ ((59 : Int).toNat) : Int)] (ra_consP (re_c (.int 4) eI (4)) (ra_consP (re_c (.int 2) eI (2)) (ra_consP (re_powC 10 59 (re_c (.int 10) eI (10)) (re_c (.int 59) eI (59))) ra_nil)))) (re_c (.int 6) eI (6)))) ra_nil))) (fun (t : (List Int) × Int × (List Int) × Unit) Q X h => ⟨t.1, t.2.1, t.2.2.1, rfl, h⟩))) (fun one_ => [some (eScr (script_), mS), some ((eL eI) (one_), mA), none, none, none, none, none]) (fun one_ => (rs_set (re_eq (re_call (b := (eL eI)) (M := fun (t : (List Int) × Int × (List Int) × Unit) => XD.F_law_row t.1 t.2.1 t.2.2.1) (ra_cons (re_vS 0 eScr (script_)) (ra_cons (re_c (.int 1) eI (1)) (ra_cons (re_2 (opO_out (xo_catF (a := eI))) (re_lstFP (a := eI) [1] (ra_consP (re_c (.int 1) eI (1)) ra_nil)) (re_2Q (xo_rep (a := eI)) (re_lstFP (a := eI) [4, 2, (10 ^ ((59 : Int).toNat) : Int)] (ra_consP (re_c (.int 4) eI (4)) (ra_consP (re_c (.int 2) eI (2)) (ra_consP (re_powC 10 59 (re_c (.int 10) eI (10)) (re_c (.int 59) eI (59))) ra_nil)))) (re_c (.int 6) eI (6)))) ra_nil))) (fun (t : (List Int) × Int × (List Int) × Unit) Q X h => ⟨t.1, t.2.1, t.2.2.1, rfl, h⟩))) (fun two_ => [some (eScr (script_), mS), some ((eL eI) (one_), mA), some ((eL eI) (two_), mA), none, none, none, none]) (fun two_ => (rs_set (re_eq (re_callP (b := (eL eI)) (M := (XD.F_law_row script_ 2 ([6, 2, 2]))) (ra_consP (re_vS 0 eScr (script_)) (ra_consP (re_c (.int 2) eI (2)) (ra_consP (re_lstFP (a := eI) [6, 2, 2] (ra_consP (re_c (.int 6) eI (6)) (ra_consP (re_c (.int 2) eI (2)) (ra_consP (re_c (.int 2) eI (2)) ra_nil)))) ra_nil))) (fun Q X h => ⟨script_, 2, ([6, 2, 2]), rfl, h⟩))) (fun more_ => [some (eScr (script_), mS), some ((eL eI) (one_), mA), some ((eL eI) (two_), mA), some ((eL eI) (more_), mA), none, none, none]) (fun more_ => (rs_set (re_eq (re_callP (b := (eL eI)) (M := (XD.F_law_row script_ 3 ([6, 2, 2]))) (ra_consP (re_mO 0 eScr (script_)) (ra_consP (re_c (.int 3) eI (3)) (ra_consP (re_lstFP (a := eI) [6, 2, 2] (ra_consP (re_c (.int 6) eI (6)) (ra_consP (re_c (.int 2) eI (2)) (ra_consP (re_c (.int 2) eI (2)) ra_nil)))) ra_nil))) (fun Q X h => ⟨script_, 3, ([6, 2, 2]), rfl, h⟩))) (fun again_ => [none, some ((eL eI) (one_), mA), some ((eL eI) (two_), mA), some ((eL eI) (more_), mA), some ((eL eI) (again_), mA), none, none]) (fun again_ => (rs_set (re_eq (re_callP (b := (e3 (eTL eA) eS eB)) (M := (F_law_made one_ more_)) (ra_consP (re_mO 1 (eL eI) (one_)) (ra_consP (re_mO 3 (eL eI) (more_)) ra_nil)) (fun Q X h => ⟨one_, more_, rfl, h⟩))) (fun first_ => [none, none, some ((eL eI) (two_), mA), none, some ((eL eI) (again_), mA), some ((e3 (eTL eA) eS eB) (first_), mA), none]) (fun first_ => (rs_set (re_eq (re_callP (b := (e3 (eTL eA) eS eB)) (M := (F_law_made two_ again_)) (ra_consP (re_mO 2 (eL eI) (two_)) (ra_consP (re_mO 4 (eL eI) (again_)) ra_nil)) (fun Q X h => ⟨two_, again_, rfl, h⟩))) (fun other_ => [none, none, none, none, none, some ((e3 (eTL eA) eS eB) (first_), mA), some ((e3 (eTL eA) eS eB) (other_), mA)]) (fun other_ => (rs_ifR kt_kt (rt_eq (rt_or (rt_not (rt_val (re_callP (b := eB) (M := (F_law_asked (first_.1, first_.2.1, first_.2.2))) (ra_consP (re_vF 5 (e3 (eTL eA) eS eB) (first_)) ra_nil) (fun Q X h => ⟨(first_.1, first_.2.1, first_.2.2), rfl, h⟩)))) (rt_not (rt_val (re_callP (b := eB) (M := (F_law_asked (other_.1, other_.2.1, other_.2.2))) (ra_consP (re_vF 6 (e3 (eTL eA) eS eB) (other_)) ra_nil) (fun Q X h => ⟨(other_.1, other_.2.1, other_.2.2), rfl, h⟩)))))) (rb_retP' (e := eB) false (re_eq (re_c (.bool false) eB (false)))) (rb_retI (re_eq (re_callP (b := eB) (M := (F_law_asked (first_.1, first_.2.1, first_.2.2))) (ra_consP (re_mF 5 (e3 (eTL eA) eS eB) (first_)) ra_nil) (fun Q X h => ⟨(first_.1, first_.2.1, first_.2.2), rfl, h⟩)))))))))))))))))
  exact of_KT hr ((law_ok script_ hl hb).mono (fun b e => by rw [e]; exact h) fun x e => e.elim)
theorem all_mk {P : Program} {w : World} {K : PySem.W.Frag} {h : Heap} {mg : Str → Option Value} {fa : Addr} (X : K.In h) (G : h.Ns mainGlobals mg) (hfa : mg "law" = some (.ref fa))
    (F_law_cell : FnAt K "_law_cell" s_law_cell)
    (F_law_mix : FnAt K "_law_mix" s_law_mix)
    (F_law_row : FnAt K "_law_row" s_law_row)
    (F_law_number : FnAt K "_law_number" s_law_number)
    (F_law_made : FnAt K "_law_made" s_law_made)
    (F_show_sign : FnAt K "show_sign" s_show_sign)
    (F_show_part : FnAt K "show_part" s_show_part)
    (F_show_move : FnAt K "show_move" s_show_move)
    (F_read_number : FnAt K "read_number" s_read_number)
    (F_read_sign : FnAt K "read_sign" s_read_sign)
    (F_read_part : FnAt K "read_part" s_read_part)
    (F_read_move : FnAt K "read_move" s_read_move)
    (F_law_read : FnAt K "_law_read" s_law_read)
    (F_law_alike : FnAt K "_law_alike" s_law_alike)
    (F_law_asked : FnAt K "_law_asked" s_law_asked)
    (F_law : FnAt K "law" s_law)
    (Q_NoLine : RefAt K "NoLine")
    (Q_NoLine_PlaitError : KitAt K "PlaitError" "NoLine" false)
    (Q_NoLine_NoMove : KitAt K "NoMove" "NoLine" false)
    (Q_NoLine_NoLine : KitAt K "NoLine" "NoLine" true)
    (Q_NoMove : RefAt K "NoMove")
    (Q_NoMove_PlaitError : KitAt K "PlaitError" "NoMove" false)
    (Q_NoMove_NoMove : KitAt K "NoMove" "NoMove" true)
    (Q_NoMove_NoLine : KitAt K "NoLine" "NoMove" false)
    (O_abs : NoAt K "abs")
    (O_bool : NoAt K "bool")
    (O_int : NoAt K "int")
    (O_isinstance : NoAt K "isinstance")
    (O_len : NoAt K "len")
    (O_range : NoAt K "range")
    (O_str : NoAt K "str")
    (O_tuple : NoAt K "tuple")
    (O_zip : NoAt K "zip")
    (C_PlaitError : RefAt K "PlaitError")
    (C_PlaitError_PlaitError : ExmAt K "PlaitError" "PlaitError" true)
    (C_PlaitError_NoMove : ExmAt K "NoMove" "PlaitError" true)
    (C_PlaitError_NoLine : ExmAt K "NoLine" "PlaitError" true)
    (I_FIGURES : StrAt K "FIGURES" (Str.ofString "0123456789"))
    (I_MOST_FIGURES : IntAt K "MOST_FIGURES" 18)
    (D_FORMS : DctT K w "FORMS" tab_FORMS)
    (R_NoLine : ErrAt K "NoLine")
    (T_PlaitError : ExcAt K "PlaitError")
    (T_NoMove : ExcAt K "NoMove")
    (T_NoLine : ExcAt K "NoLine")
    : ∃ fd : FuncData, (∀ (s : Shared) (v : Value), BindsTo s fd ⟨[v], []⟩ [("_law_script", v)]) ∧ ∀ base : Heap, K.In base → base.Ns mainGlobals mg → FnOk P w K mg base (L2.CX P w) 6 fa fd ["_law_script"] (spOf K (fun _ => none) LawS) := by
  obtain ⟨f0, oc, od, an, osl, kV, doc, pm, cdv, ct, e1, e2, e3, e4⟩ := F_law
  have e := hfa.symm.trans (PySem.W.mg_of X G e1)
  cases e
  have FF := fun_mk (st := s_law) e2 e3 e4
  refine ⟨PySem.W.fnOf "law" "law" (defArgs s_law) (defBody s_law) (defScope s_law) .none kV doc pm an cdv ct, fun s v => .of_eq (b_law kV doc pm an cdv ct [v] rfl), fun base _ _ => ?_⟩
  have E : Ev w K mg (clOf errNames mg) := ⟨asked_of X G Q_NoLine (each_name (names := errNames) (by
      intro x hx
      simp only [errNames, List.mem_cons, List.not_mem_nil, or_false] at hx
      rcases hx with rfl | rfl | rfl
      · exact Q_NoLine_PlaitError
      · exact Q_NoLine_NoMove
      · exact Q_NoLine_NoLine)), asked_of X G Q_NoMove (each_name (names := errNames) (by
      intro x hx
      simp only [errNames, List.mem_cons, List.not_mem_nil, or_false] at hx
      rcases hx with rfl | rfl | rfl
      · exact Q_NoMove_PlaitError
      · exact Q_NoMove_NoMove
      · exact Q_NoMove_NoLine)), O_abs.out X G, O_bool.out X G, O_int.out X G, O_isinstance.out X G, O_len.out X G, O_range.out X G, O_str.out X G, O_tuple.out X G, O_zip.out X G, clause_of X G C_PlaitError (each_name (names := errNames) (by
      intro x hx
      simp only [errNames, List.mem_cons, List.not_mem_nil, or_false] at hx
      rcases hx with rfl | rfl | rfl
      · exact C_PlaitError_PlaitError
      · exact C_PlaitError_NoMove
      · exact C_PlaitError_NoLine)), I_FIGURES.out X G, I_MOST_FIGURES.out X G, D_FORMS.out X G, R_NoLine.err X G (by decide), excAll_of X G (each_name (names := errNames) (by
      intro x hx
      simp only [errNames, List.mem_cons, List.not_mem_nil, or_false] at hx
      rcases hx with rfl | rfl | rfl
      · exact T_PlaitError
      · exact T_NoMove
      · exact T_NoLine))⟩
  have G_law_cell : Def P w K mg base (clOf errNames mg) "_law_cell" 2 XD.sp_law_cell lv_law_cell := def_at X G F_law_cell sc_law_cell b_law_cell (d_law_cell E ) spec_law_cell
  have G_law_mix : Def P w K mg base (clOf errNames mg) "_law_mix" 2 XD.sp_law_mix lv_law_mix := def_at X G F_law_mix sc_law_mix b_law_mix (d_law_mix E ) spec_law_mix
  have G_law_row : Def P w K mg base (clOf errNames mg) "_law_row" 3 XD.sp_law_row lv_law_row := def_at X G F_law_row sc_law_row b_law_row (d_law_row E G_law_cell G_law_mix) spec_law_row
  have G_law_number : Def P w K mg base (clOf errNames mg) "_law_number" 2 sp_law_number lv_law_number := def_at X G F_law_number sc_law_number b_law_number (d_law_number E ) spec_law_number
  have G_law_made : Def P w K mg base (clOf errNames mg) "_law_made" 2 sp_law_made lv_law_made := def_at X G F_law_made sc_law_made b_law_made (d_law_made E G_law_number) spec_law_made
  have G_show_sign : Def P w K mg base (clOf errNames mg) "show_sign" 1 XTX.sp_show_sign lv_show_sign := def_at X G F_show_sign sc_show_sign b_show_sign (d_show_sign E ) spec_show_sign
  have G_show_part : Def P w K mg base (clOf errNames mg) "show_part" 2 XTZ.sp_show_part lv_show_part := def_at X G F_show_part sc_show_part b_show_part (d_show_part E G_show_sign) spec_show_part
  have G_show_move : Def P w K mg base (clOf errNames mg) "show_move" 1 XTZ.sp_show_move lv_show_move := def_at X G F_show_move sc_show_move b_show_move (d_show_move E G_show_part) spec_show_move
  have G_read_number : Def P w K mg base (clOf errNames mg) "read_number" 1 XTX.sp_read_number lv_read_number := def_at X G F_read_number sc_read_number b_read_number (d_read_number E ) spec_read_number
  have G_read_sign : Def P w K mg base (clOf errNames mg) "read_sign" 1 XTX.sp_read_sign lv_read_sign := def_at X G F_read_sign sc_read_sign b_read_sign (d_read_sign E ) spec_read_sign
  have G_read_part : Def P w K mg base (clOf errNames mg) "read_part" 2 XTZ.sp_read_part lv_read_part := def_at X G F_read_part sc_read_part b_read_part (d_read_part E G_read_number G_read_sign) spec_read_part
  have G_read_move : Def P w K mg base (clOf errNames mg) "read_move" 1 XTZ.sp_read_move lv_read_move := def_at X G F_read_move sc_read_move b_read_move (d_read_move E G_read_part) spec_read_move
  have G_law_read : Def P w K mg base (clOf errNames mg) "_law_read" 1 sp_law_read lv_law_read := def_at X G F_law_read sc_law_read b_law_read (d_law_read E G_read_move) spec_law_read
  have G_law_alike : Def P w K mg base (clOf errNames mg) "_law_alike" 2 sp_law_alike lv_law_alike := def_at X G F_law_alike sc_law_alike b_law_alike (d_law_alike E ) spec_law_alike
  have G_law_asked : Def P w K mg base (clOf errNames mg) "_law_asked" 1 sp_law_asked lv_law_asked := def_at X G F_law_asked sc_law_asked b_law_asked (d_law_asked E G_show_move G_law_read G_law_alike) spec_law_asked
  exact FnOk.imp (def_okF (cl := clOf errNames mg) FF sc_law (d_law E G_law_row G_law_made G_law_asked _) spec_law) lawS_cl
end LK93
open PySem PySem.W PyProof.Rows
set_option maxHeartbeats 0 in
theorem PySem.Challenge.cw_plait_k93_moves_as_lines_holds : PySem.Challenge.rw_plait_k93_moves_as_lines.Holds := by
  w_on; o_law; k_head; (case hw => w_witness2)
  k_fill
  refine L2.walk_ofB (l := PySem.Challenge.rw_plait_k93_moves_as_lines) (n := 63) (k := 6) (x := "_law_script") (CX := fun w => L2.CX PySem.Challenge.rw_plait_k93_moves_as_lines.prog w) (sp := fun w => VL.spOf _ (fun _ => none) VL.LawS) rfl (by decide) rfl ⟨rfl, by decide, by decide⟩ (fun w h Y => PySem.W.kIn_of Y) ?F (fun w H a ns hl hb hO hS => VL.law_sp hl hb hO hS) (fun _ _ _ _ _ h => by obtain ⟨_, _, _, _, _, _, _, _, _, _, _, _, h⟩ := h; exact h)
  case F =>
    intro w mg fa h KX G hmg
    refine' LK93.all_mk KX G hmg (VL.FnAt.mk ?z1 ?z2 ?z3 ?z4) (VL.FnAt.mk ?z5 ?z6 ?z7 ?z8) (VL.FnAt.mk ?z9 ?z10 ?z11 ?z12) (VL.FnAt.mk ?z13 ?z14 ?z15 ?z16) (VL.FnAt.mk ?z17 ?z18 ?z19 ?z20) (VL.FnAt.mk ?z21 ?z22 ?z23 ?z24) (VL.FnAt.mk ?z25 ?z26 ?z27 ?z28) (VL.FnAt.mk ?z29 ?z30 ?z31 ?z32) (VL.FnAt.mk ?z33 ?z34 ?z35 ?z36) (VL.FnAt.mk ?z37 ?z38 ?z39 ?z40) (VL.FnAt.mk ?z41 ?z42 ?z43 ?z44) (VL.FnAt.mk ?z45 ?z46 ?z47 ?z48) (VL.FnAt.mk ?z49 ?z50 ?z51 ?z52) (VL.FnAt.mk ?z53 ?z54 ?z55 ?z56) (VL.FnAt.mk ?z57 ?z58 ?z59 ?z60) (VL.FnAt.mk ?z61 ?z62 ?z63 ?z64) (VL.RefAt.mk ?z65) (VL.KitAt.mk ?z66 ?z67 ?z68) (VL.KitAt.mk ?z69 ?z70 ?z71) (VL.KitAt.mk ?z72 ?z73 ?z74) (VL.RefAt.mk ?z75) (VL.KitAt.mk ?z76 ?z77 ?z78) (VL.KitAt.mk ?z79 ?z80 ?z81) (VL.KitAt.mk ?z82 ?z83 ?z84) (VL.NoAt.mk ?z85) (VL.NoAt.mk ?z86) (VL.NoAt.mk ?z87) (VL.NoAt.mk ?z88) (VL.NoAt.mk ?z89) (VL.NoAt.mk ?z90) (VL.NoAt.mk ?z91) (VL.NoAt.mk ?z92) (VL.NoAt.mk ?z93) (VL.RefAt.mk ?z94) (VL.ExmAt.mk ?z95 ?z96 ?z97) (VL.ExmAt.mk ?z98 ?z99 ?z100) (VL.ExmAt.mk ?z101 ?z102 ?z103) (VL.StrAt.mk ?z104) (VL.IntAt.mk ?z105) (VL.DctT.mk ?z106 ?z107 ?z108 ?z109 ?z110) (VL.ErrAt.mk ?z111 ?z112 ?z113 ?z114 ?z115) (VL.ExcAt.mk ?z116 ?z117 ?z118 ?z119 ?z120 ?z121 ?z122 ?z123 ?z124) (VL.ExcAt.mk ?z125 ?z126 ?z127 ?z128 ?z129 ?z130 ?z131 ?z132 ?z133) (VL.ExcAt.mk ?z134 ?z135 ?z136 ?z137 ?z138 ?z139 ?z140 ?z141 ?z142)
    (case z1 => k_is); (case z2 => k_is); (case z3 => k_is); (case z4 => k_is)
    (case z5 => k_is); (case z6 => k_is); (case z7 => k_is); (case z8 => k_is)
    (case z9 => k_is); (case z10 => k_is); (case z11 => k_is); (case z12 => k_is)
    (case z13 => k_is); (case z14 => k_is); (case z15 => k_is); (case z16 => k_is)
    (case z17 => k_is); (case z18 => k_is); (case z19 => k_is); (case z20 => k_is)
    (case z21 => k_is); (case z22 => k_is); (case z23 => k_is); (case z24 => k_is)
    (case z25 => k_is); (case z26 => k_is); (case z27 => k_is); (case z28 => k_is)
    (case z29 => k_is); (case z30 => k_is); (case z31 => k_is); (case z32 => k_is)
    (case z33 => k_is); (case z34 => k_is); (case z35 => k_is); (case z36 => k_is)
    (case z37 => k_is); (case z38 => k_is); (case z39 => k_is); (case z40 => k_is)
    (case z41 => k_is); (case z42 => k_is); (case z43 => k_is); (case z44 => k_is)
    (case z45 => k_is); (case z46 => k_is); (case z47 => k_is); (case z48 => k_is)
    (case z49 => k_is); (case z50 => k_is); (case z51 => k_is); (case z52 => k_is)
    (case z53 => k_is); (case z54 => k_is); (case z55 => k_is); (case z56 => k_is)
    (case z57 => k_is); (case z58 => k_is); (case z59 => k_is); (case z60 => k_is)
    (case z61 => k_is); (case z62 => k_is); (case z63 => k_is); (case z64 => k_is)
    (case z65 => k_is)
    (case z66 => k_is); (case z67 => k_is); (case z68 => kit_is)
    (case z69 => k_is); (case z70 => k_is); (case z71 => kit_is)
    (case z72 => k_is); (case z73 => k_is); (case z74 => kit_is)
    (case z75 => k_is)
    (case z76 => k_is); (case z77 => k_is); (case z78 => kit_is)
    (case z79 => k_is); (case z80 => k_is); (case z81 => kit_is)
    (case z82 => k_is); (case z83 => k_is); (case z84 => kit_is)
    (case z85 => k_is)
    (case z86 => k_is)
    (case z87 => k_is)
    (case z88 => k_is)
    (case z89 => k_is)
    (case z90 => k_is)
    (case z91 => k_is)
    (case z92 => k_is)
    (case z93 => k_is)
    (case z94 => k_is)
    (case z95 => k_is); (case z96 => k_is); (case z97 => kts_exm)
    (case z98 => k_is); (case z99 => k_is); (case z100 => kts_exm)
    (case z101 => k_is); (case z102 => k_is); (case z103 => kts_exm)
    (case z104 => k_is)
    (case z105 => k_is)
    (case z106 => k_is); (case z107 => k_is); (case z108 => k_keys); (case z109 => (repeat (first | exact VL.RowsT.nilT | (refine' VL.RowsT.consT rfl rfl (VL.WTup.mkT ?dl ?dc ?dd ?ds ?dv) ?_; (case dl => k_is); (case dc => rfl); (case dd => rfl); (case ds => decide); (case dv => (repeat (first | exact VL.vals_nilT | refine VL.vals_strT ?_))))))); (case z110 => exact rfl)
    (case z111 => k_is); (case z112 => k_exc); (case z113 => k_is); (case z114 => k_is); (case z115 => k_is)
    (case z116 => k_is); (case z117 => k_is); (case z118 => k_is); (case z119 => k_is); (case z120 => k_is); (case z121 => k_is); (case z122 => k_is); (case z123 => k_is); (case z124 => k_is)
    (case z125 => k_is); (case z126 => k_is); (case z127 => k_is); (case z128 => k_is); (case z129 => k_is); (case z130 => k_is); (case z131 => k_is); (case z132 => k_is); (case z133 => k_is)
    (case z134 => k_is); (case z135 => k_is); (case z136 => k_is); (case z137 => k_is); (case z138 => k_is); (case z139 => k_is); (case z140 => k_is); (case z141 => k_is); (case z142 => k_is)
