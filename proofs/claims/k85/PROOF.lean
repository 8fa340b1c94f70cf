import PyProof.Rows.All
import Wide.All
import OpenK.AllK
import Wide.FinOn
import HandS.ForMost
import HandS.ForExc
import HandS.More
import HandS.Wide
import HandS.Deep
import HandS.IsInst
import HandS.Style
import HandS.ExcIs
import HandS.ExcField
import HandS.TupAny
import HandS.EndBits
import HandS.Conv
import HandS.SortInts
import HandS.TupLe
import HandS.Flt
import KE.DatumOrd
import KE.LtSeq
import HandS.SortRule
import HandS.DictTup
import HandS.ExcValue
import HandS.ExcOwn
import HandS.SetKeys
import HandS.TupLen
import KE.SortData
import HandS.SetFor
import KE.DataMinMax
import HandS.ExcInit
import HandS.WordsExc
import KE.KExcIs
import HandS.Zip
import HandS.Text
import HandS.Iter
import HandS.Exc
import HandS.WrittenGet
import PySem.Challenge.RW_plait_k85_whole_words_of_plaits
set_option Elab.async false
set_option linter.all false
set_option maxRecDepth 100000
set_option maxHeartbeats 4000000
namespace VL
open PySem PySem.Spec PyProof.Rows L2
abbrev D := PyData
structure Kp (A : Addr → Prop) (H H' : Hp) : Prop where
  at_ : ∀ b o, A b → H b = some o → H' b = some o
  tup : ∀ b xs, H b = some (.tup xs) → H' b = some (.tup xs)
  frz : ∀ b o u, H b = some (.frz o u) → H' b = some (.frz o u)
theorem Kp.same {A : Addr → Prop} {H H' : Hp} (s : Same H H') : Kp A H H' := ⟨fun b o _ h => s b o h, fun b xs h => s b _ h, fun b o u h => s b _ h⟩
theorem Kp.mono {A A' : Addr → Prop} {H H' : Hp} (k : Kp A' H H') (h : ∀ b, A b → A' b) : Kp A H H' := ⟨fun b o a e => k.at_ b o (h b a) e, k.tup, k.frz⟩
theorem Kp.trans {A : Addr → Prop} {H H1 H2 : Hp} (a : Kp A H H1) (b : Kp A H1 H2) : Kp A H H2 := ⟨fun c o x h => b.at_ c o x (a.at_ c o x h), fun c xs h => b.tup c xs (a.tup c xs h), fun c o u h => b.frz c o u (a.frz c o u h)⟩
def mutO : HO → Prop
  | .lst _ => True | .dK _ => True | .dT _ => True | .ins _ _ _ => True | .set _ _ => True
  | _ => False
theorem Kp.write {A : Addr → Prop} {H : Hp} {a : Addr} {o o' : HO} (h : H a = some o) (m : mutO o) (n : ¬ A a) : Kp A H (upd H a o') :=
  ⟨fun b u x e => by rw [upd_ne (fun z => by subst z; exact n x)]; exact e,
   fun b xs e => by
    rw [upd_ne (fun z => by subst z; rw [h] at e; cases e; exact m)]; exact e,
   fun b u w e => by
    rw [upd_ne (fun z => by subst z; rw [h] at e; cases e; exact m)]; exact e⟩
theorem sqt_keep {K : PySem.W.Frag} {A : Addr → Prop} {H H' : Hp} {a : Addr} {xs : List V} (k : Kp A H H') (h : SqT K H a xs) : SqT K H' a xs := by
  rcases h with (h | ⟨o, h⟩) | h
  · exact .inl (.inl (k.tup _ _ h))
  · exact .inl (.inr ⟨o, k.frz _ _ _ h⟩)
  · exact .inr h
def SqF (K : PySem.W.Frag) (H : Hp) (a : Addr) (xs : List V) : Prop :=
  (∃ o, H a = some (.frz o (.lst xs))) ∨
    ∃ (o : Obj) (its : Array Value) (n : Nat), K.lookup a = some o ∧ o.cls = .type "list" ∧ o.dict = none ∧ o.data = .seq its n ∧ its.size ≤ sizeLine ∧ Vals xs its.toList
theorem SqF.seq {K : PySem.W.Frag} {H : Hp} {a : Addr} {xs : List V} (h : SqF K H a xs) : SqL K H a xs := by
  rcases h with ⟨o, h⟩ | h
  · exact .inl (.inr ⟨o, h⟩)
  · exact .inr h
theorem sqf_keep {K : PySem.W.Frag} {A : Addr → Prop} {H H' : Hp} {a : Addr} {xs : List V} (k : Kp A H H') (h : SqF K H a xs) : SqF K H' a xs := by
  rcases h with ⟨o, h⟩ | h
  · exact .inl ⟨o, k.frz _ _ _ h⟩
  · exact .inr h
def kD : Key → D
  | .inl i => .int i
  | .inr x => .str x
def mkDict (t : Bool) (ds : List (D × D)) : D := .dict (if t then (.none, .none) :: ds else ds)
def scriptD (ns : List Int) : D := .dict [(.list [], .list (ns.map .int))]
def opD (a : Addr) : D := .dict [(.list [.none], .int (a : Nat))]
def wtD (zs : List Str) : D := .dict [(.list [.bool false], .tuple (zs.map .str))]
def WTup (K : PySem.W.Frag) (a : Addr) (xs : List V) : Prop :=
  ∃ (o : Obj) (its : Array Value) (n : Nat), K.lookup a = some o ∧ o.cls = .type "tuple" ∧ o.data = .seq its n ∧ its.size ≤ sizeLine ∧ Vals xs its.toList
theorem _root_.L2.SqT.sm {K : PySem.W.Frag} {H H' : Hp} {a : Addr} {xs : List V} (h : SqT K H a xs) (s : Same H H') : SqT K H' a xs := sqt_keep (A := fun _ => False) (Kp.same s) h
def insD (cls : Str) (fs : List (Str × D)) : D := .dict ((.list [.bool true], .str cls) :: fs.map fun p => (.str p.1, p.2))
def shD (d : D) : D := .dict [(.list [.bool true, .bool true], d)]
def clsK (K : PySem.W.Frag) (n : Str) : Option Addr := match PySem.W.nsIn K mainGlobals n with
  | some (some (.ref C)) => some C
  | _ => none
def DictAt (H : Hp) (a : Addr) (kvs : List (D × V)) (t : Bool) : Prop :=
  (t = false ∧ ∃ k' : List (Key × V), H a = some (.dK k') ∧ kvs = k'.map fun p => (kD p.1, p.2)) ∨
  (t = true ∧ ∃ k' : List (List Key × V), H a = some (.dT k') ∧ kvs = k'.map fun p => (.tuple (p.1.map kD), p.2))
theorem DictAt.at {H H' : Hp} {a : Addr} {kvs : List (D × V)} {t : Bool} (h : DictAt H a kvs t) (e : ∀ o, H a = some o → H' a = some o) : DictAt H' a kvs t := by
  rcases h with ⟨ht, k', h, q⟩ | ⟨ht, k', h, q⟩
  · exact .inl ⟨ht, k', e _ h, q⟩
  · exact .inr ⟨ht, k', e _ h, q⟩
theorem DictAt.mut {H : Hp} {a : Addr} {kvs : List (D × V)} {t : Bool} (h : DictAt H a kvs t) : ∃ o, H a = some o ∧ mutO o := by
  rcases h with ⟨_, k', h, _⟩ | ⟨_, k', h, _⟩
  · exact ⟨_, h, trivial⟩
  · exact ⟨_, h, trivial⟩
mutual
def flatD : D → Bool
  | .list _ => false
  | .dict _ => false
  | .tuple ds => flatAll ds
  | _ => true
def flatAll : List D → Bool
  | [] => true
  | d :: ds => flatD d && flatAll ds
end
mutual
inductive RS (K : PySem.W.Frag) (A : Addr → Prop) (H : Hp) : V → D → Prop
  | non : RS K A H .non .none
  | bl (b : Bool) : RS K A H (.bl b) (.bool b)
  | int (i : Int) : RS K A H (.int i) (.int i)
  | str (x : Str) : RS K A H (.str x) (.str x)
  | lst {a : Addr} {xs : List V} {ds : List D} : H a = some (.lst xs) → A a → RSs K A H xs ds → RS K A H (.ref a) (.list ds)
  | tup {a : Addr} {xs : List V} {ds : List D} : H a = some (.tup xs) → RSs K A H xs ds → RS K A H (.ref a) (.tuple ds)
  | dct {a : Addr} {kvs : List (D × V)} {t : Bool} {ds : List (D × D)} : DictAt H a kvs t → A a → kvs.map (·.1) = ds.map (·.1) → RSs K A H (kvs.map (·.2)) (ds.map (·.2)) → RS K A H (.ref a) (mkDict t ds)
  | scr {a : Addr} {ns : List Int} : SqF K H a (ns.map V.int) → RS K A H (.ref a) (scriptD ns)
  | opq (a : Addr) : RS K A H (.ref a) (opD a)
  | shr {a : Addr} {d : D} : RS K A H (.ref a) d → RS K A H (.ref a) (shD d)
  | wtp {a : Addr} {zs : List Str} : WTup K a (zs.map V.str) → RS K A H (.ref a) (wtD zs)
  | ins {a C dx : Addr} {vs : List (Str × V)} {cls : Str} {fs : List (Str × D)} : H a = some (.ins C dx vs) → A a → clsK K cls = some C → vs.map (·.1) = fs.map (·.1) → RSs K A H (vs.map (·.2)) (fs.map (·.2)) → RS K A H (.ref a) (insD cls fs)
inductive RSs (K : PySem.W.Frag) (A : Addr → Prop) (H : Hp) : List V → List D → Prop
  | nil : RSs K A H [] []
  | cons {v : V} {vs : List V} {d : D} {ds : List D} : RS K A H v d → RSs K A H vs ds → RSs K A H (v :: vs) (d :: ds)
end
def popM : Option Nat → Option (Option Nat)
  | none => some none
  | some 0 => none
  | some (n + 1) => some (some n)
def succM : Option Nat → Option Nat
  | none => none
  | some n => some (n + 1)
theorem pop_succ (m : Option Nat) : popM (succM m) = some m := by cases m <;> rfl
mutual
inductive RO (K : PySem.W.Frag) (A : Addr → Prop) (H : Hp) : Option Nat → V → D → List Addr → Prop
  | sh {v : V} {d : D} : RS K A H v d → RO K A H (some 0) v d []
  | flat {m : Option Nat} {v : V} {d : D} : RS K A H v d → flatD d = true → RO K A H m v d []
  | lst {m n : Option Nat} {a : Addr} {xs : List V} {ds : List D} {l : List Addr} : popM m = some n → H a = some (.lst xs) → ROs K A H n xs ds l → RO K A H m (.ref a) (.list ds) (a :: l)
  | opq {m : Option Nat} (a : Addr) : RO K A H m (.ref a) (opD a) []
  | shr {n : Nat} {a : Addr} {d : D} : RS K A H (.ref a) d → RO K A H (some n) (.ref a) (shD d) []
  | wtp {m : Option Nat} {a : Addr} {zs : List Str} : WTup K a (zs.map V.str) → RO K A H m (.ref a) (wtD zs) []
  | ins {m n : Option Nat} {a C dx : Addr} {vs : List (Str × V)} {cls : Str} {fs : List (Str × D)} {l : List Addr} : popM m = some n → H a = some (.ins C dx vs) → clsK K cls = some C → vs.map (·.1) = fs.map (·.1) → ROs K A H n (vs.map (·.2)) (fs.map (·.2)) l → RO K A H m (.ref a) (insD cls fs) (a :: l)
  | tup {m : Option Nat} {a : Addr} {xs : List V} {ds : List D} {l : List Addr} : H a = some (.tup xs) → ROs K A H m xs ds l → RO K A H m (.ref a) (.tuple ds) l
  | dct {m n : Option Nat} {a : Addr} {kvs : List (D × V)} {t : Bool} {ds : List (D × D)} {l : List Addr} : popM m = some n → DictAt H a kvs t → kvs.map (·.1) = ds.map (·.1) → ROs K A H n (kvs.map (·.2)) (ds.map (·.2)) l → RO K A H m (.ref a) (mkDict t ds) (a :: l)
inductive ROs (K : PySem.W.Frag) (A : Addr → Prop) (H : Hp) : Option Nat → List V → List D → List Addr → Prop
  | nil {m : Option Nat} : ROs K A H m [] [] []
  | cons {m : Option Nat} {v : V} {vs : List V} {d : D} {ds : List D} {l1 l2 : List Addr} : RO K A H m v d l1 → ROs K A H m vs ds l2 → ROs K A H m (v :: vs) (d :: ds) (l1 ++ l2)
end
section
variable {K : PySem.W.Frag} {A A' : Addr → Prop} {H H' : Hp}
mutual
theorem RS.keep (k : Kp A H H') : ∀ {v : V} {d : D}, RS K A H v d → RS K A H' v d
  | _, _, .non => .non
  | _, _, .bl b => .bl b
  | _, _, .int i => .int i
  | _, _, .str x => .str x
  | _, _, .lst h a r => .lst (k.at_ _ _ a h) a (RSs.keep k r)
  | _, _, .tup h r => .tup (k.tup _ _ h) (RSs.keep k r)
  | _, _, .dct h a e r => .dct (h.at fun o q => k.at_ _ _ a q) a e (RSs.keep k r)
  | _, _, .scr h => .scr (sqf_keep k h)
  | _, _, .opq a => .opq a
  | _, _, .shr r => .shr (RS.keep k r)
  | _, _, .wtp a => .wtp a
  | _, _, .ins h a c e r => .ins (k.at_ _ _ a h) a c e (RSs.keep k r)
theorem RSs.keep (k : Kp A H H') : ∀ {v : List V} {d : List D}, RSs K A H v d → RSs K A H' v d
  | _, _, .nil => .nil
  | _, _, .cons h r => .cons (RS.keep k h) (RSs.keep k r)
end
mutual
theorem RS.mono (k : ∀ b o, A b → H b = some o → A' b) : ∀ {v : V} {d : D}, RS K A H v d → RS K A' H v d
  | _, _, .non => .non
  | _, _, .bl b => .bl b
  | _, _, .int i => .int i
  | _, _, .str x => .str x
  | _, _, .lst h a r => .lst h (k _ _ a h) (RSs.mono k r)
  | _, _, .tup h r => .tup h (RSs.mono k r)
  | _, _, .dct h a e r => .dct h (let ⟨_, q, _⟩ := h.mut; k _ _ a q) e (RSs.mono k r)
  | _, _, .scr h => .scr h
  | _, _, .opq a => .opq a
  | _, _, .shr r => .shr (RS.mono k r)
  | _, _, .wtp a => .wtp a
  | _, _, .ins h a c e r => .ins h (k _ _ a h) c e (RSs.mono k r)
theorem RSs.mono (k : ∀ b o, A b → H b = some o → A' b) : ∀ {v : List V} {d : List D}, RSs K A H v d → RSs K A' H v d
  | _, _, .nil => .nil
  | _, _, .cons h r => .cons (RS.mono k h) (RSs.mono k r)
end
theorem flat_dict {t : Bool} {ds : List (D × D)} : flatD (mkDict t ds) = false := by cases t <;> simp [mkDict, flatD]
theorem flat_script {ns : List Int} : flatD (scriptD ns) = false := rfl
mutual
theorem RS.flat : ∀ {v : V} {d : D}, RS K A H v d → flatD d = true → RS K A' H v d
  | _, _, .non, _ => .non
  | _, _, .bl b, _ => .bl b
  | _, _, .int i, _ => .int i
  | _, _, .str x, _ => .str x
  | _, _, .lst h a r, f => by simp [flatD] at f
  | _, _, .tup h r, f => .tup h (RSs.flat r (by simpa [flatD] using f))
  | _, _, .dct h a e r, f => by rw [flat_dict] at f; cases f
  | _, _, .scr h, f => by rw [flat_script] at f; cases f
  | _, _, .opq a, _ => .opq a
  | _, _, .shr r, f => by cases f
  | _, _, .wtp a, _ => .wtp a
  | _, _, .ins (fs := fs) h a c e r, f => by cases fs <;> cases f
theorem RSs.flat : ∀ {v : List V} {d : List D}, RSs K A H v d → flatAll d = true → RSs K A' H v d
  | _, _, .nil, _ => .nil
  | _, _, .cons h r, f => by
    simp only [flatAll, Bool.and_eq_true] at f
    exact .cons (RS.flat h f.1) (RSs.flat r f.2)
end
theorem RSs.len : ∀ {vs : List V} {ds : List D}, RSs K A H vs ds → vs.length = ds.length
  | _, _, .nil => rfl
  | _, _, .cons _ r => by simp [RSs.len r]
theorem RSs.get : ∀ {vs : List V} {ds : List D} {i : Nat} {d : D}, RSs K A H vs ds → ds[i]? = some d → ∃ v, vs[i]? = some v ∧ RS K A H v d
  | _, _, _, _, .nil, e => by simp at e
  | _, _, 0, _, .cons h _, e => by simp at e; subst e; exact ⟨_, rfl, h⟩
  | _, _, i + 1, d, .cons _ r, e => by
    obtain ⟨v, h1, h2⟩ := RSs.get (i := i) r (by simpa using e)
    exact ⟨v, by simpa using h1, h2⟩
theorem RSs.append : ∀ {xs ys : List V} {ds es : List D}, RSs K A H xs ds → RSs K A H ys es → RSs K A H (xs ++ ys) (ds ++ es)
  | _, _, _, _, .nil, s => s
  | _, _, _, _, .cons h r, s => .cons h (RSs.append r s)
theorem RSs.take : ∀ {xs : List V} {ds : List D} (n : Nat), RSs K A H xs ds → RSs K A H (xs.take n) (ds.take n)
  | _, _, 0, _ => .nil
  | _, _, _ + 1, .nil => .nil
  | _, _, n + 1, .cons h r => .cons h (RSs.take n r)
theorem RSs.drop : ∀ {xs : List V} {ds : List D} (n : Nat), RSs K A H xs ds → RSs K A H (xs.drop n) (ds.drop n)
  | _, _, 0, r => r
  | _, _, _ + 1, .nil => .nil
  | _, _, n + 1, .cons h r => RSs.drop n r
theorem RSs.rev {xs : List V} {ds : List D} (h : RSs K A H xs ds) : RSs K A H xs.reverse ds.reverse := by
  induction xs generalizing ds with
  | nil => cases h; exact .nil
  | cons x xs ih =>
    cases h with
    | cons h r =>
      simp only [List.reverse_cons]
      exact RSs.append (ih r) (.cons h .nil)
theorem RSs.rep {xs : List V} {ds : List D} (h : RSs K A H xs ds) : ∀ k : Nat, RSs K A H (List.replicate k xs).flatten (List.replicate k ds).flatten
  | 0 => .nil
  | k + 1 => by
    simp only [List.replicate_succ, List.flatten_cons]
    exact RSs.append h (RSs.rep h k)
mutual
theorem RS.dp : ∀ {v : V} {d : D}, RS K A H v d → d.canLay0 = true → Dp K H v d
  | _, _, .non, _ => .non
  | _, _, .bl b, _ => .bl b
  | _, _, .int i, _ => .int i
  | _, _, .str x, _ => .str x
  | _, _, .lst h a r, f => .lst (SqL.of h) (RSs.dp r (by simpa [PyData.canLay0] using f))
  | _, _, .tup h r, f => .tup (SqT.of h) (RSs.dp r (by simpa [PyData.canLay0] using f))
  | _, _, .dct h a e r, f => by simp [mkDict, PyData.canLay0] at f
  | _, _, .scr h, f => by simp [scriptD, PyData.canLay0] at f
  | _, _, .opq a, f => by simp [opD, PyData.canLay0] at f
  | _, _, .shr r, f => by simp [shD, PyData.canLay0] at f
  | _, _, .wtp a, f => by simp [wtD, PyData.canLay0] at f
  | _, _, .ins h a c e r, f => by simp [insD, PyData.canLay0] at f
theorem RSs.dp : ∀ {v : List V} {d : List D}, RSs K A H v d → PyData.canLayAll0 d = true → DpAll K H v d
  | _, _, .nil, _ => .nil
  | _, _, .cons h r, f => by
    simp only [PyData.canLayAll0, Bool.and_eq_true] at f
    exact .cons (RS.dp h f.1) (RSs.dp r f.2)
end
mutual
theorem RO.keep {m : Option Nat} (k : Kp A H H') : ∀ {v : V} {d : D} {l : List Addr}, RO K A H m v d l → (∀ b ∈ l, ∀ o, H b = some o → H' b = some o) → RO K A H' m v d l
  | _, _, _, .sh r, _ => .sh (r.keep k)
  | _, _, _, .flat r f, _ => .flat (r.keep k) f
  | _, _, _, .lst p h r, q => .lst p (q _ List.mem_cons_self _ h) (ROs.keep k r fun b hb => q b (List.mem_cons_of_mem _ hb))
  | _, _, _, .opq a, _ => .opq a
  | _, _, _, .shr r, _ => .shr (r.keep k)
  | _, _, _, .wtp a, _ => .wtp a
  | _, _, _, .ins p h c e r, q => .ins p (q _ List.mem_cons_self _ h) c e (ROs.keep k r fun b hb => q b (List.mem_cons_of_mem _ hb))
  | _, _, _, .tup h r, q => .tup (k.tup _ _ h) (ROs.keep k r q)
  | _, _, _, .dct p h e r, q => .dct p (h.at (q _ List.mem_cons_self)) e (ROs.keep k r fun b hb => q b (List.mem_cons_of_mem _ hb))
theorem ROs.keep {m : Option Nat} (k : Kp A H H') : ∀ {v : List V} {d : List D} {l : List Addr}, ROs K A H m v d l → (∀ b ∈ l, ∀ o, H b = some o → H' b = some o) → ROs K A H' m v d l
  | _, _, _, .nil, _ => .nil
  | _, _, _, .cons h r, q => .cons (RO.keep k h fun b hb => q b (List.mem_append_left _ hb)) (ROs.keep k r fun b hb => q b (List.mem_append_right _ hb))
end
mutual
theorem RO.mono {m : Option Nat} (k : ∀ b o, A b → H b = some o → A' b) : ∀ {v : V} {d : D} {l : List Addr}, RO K A H m v d l → RO K A' H m v d l
  | _, _, _, .sh r => .sh (r.mono k)
  | _, _, _, .flat r f => .flat (r.mono k) f
  | _, _, _, .lst p h r => .lst p h (ROs.mono k r)
  | _, _, _, .opq a => .opq a
  | _, _, _, .shr r => .shr (r.mono k)
  | _, _, _, .wtp a => .wtp a
  | _, _, _, .ins p h c e r => .ins p h c e (ROs.mono k r)
  | _, _, _, .tup h r => .tup h (ROs.mono k r)
  | _, _, _, .dct p h e r => .dct p h e (ROs.mono k r)
theorem ROs.mono {m : Option Nat} (k : ∀ b o, A b → H b = some o → A' b) : ∀ {v : List V} {d : List D} {l : List Addr}, ROs K A H m v d l → ROs K A' H m v d l
  | _, _, _, .nil => .nil
  | _, _, _, .cons h r => .cons (RO.mono k h) (ROs.mono k r)
end
theorem ROs.toSh : ∀ {v : List V} {d : List D}, RSs K A H v d → ROs K A H (some 0) v d []
  | _, _, .nil => .nil
  | _, _, .cons h r => .cons (.sh h) (ROs.toSh r)
mutual
theorem RO.all {m : Option Nat} (hm : m = none) : ∀ {v : V} {d : D} {l : List Addr}, RO K A H m v d l → RO K A' H m v d l
  | _, _, _, .sh r => by cases hm
  | _, _, _, .flat r f => .flat (r.flat f) f
  | _, _, _, .lst p h r => .lst p h (ROs.all (by subst hm; cases p; rfl) r)
  | _, _, _, .opq a => .opq a
  | _, _, _, .shr r => by cases hm
  | _, _, _, .wtp a => .wtp a
  | _, _, _, .ins p h c e r => .ins p h c e (ROs.all (by subst hm; cases p; rfl) r)
  | _, _, _, .tup h r => .tup h (ROs.all hm r)
  | _, _, _, .dct p h e r => .dct p h e (ROs.all (by subst hm; cases p; rfl) r)
theorem ROs.all {m : Option Nat} (hm : m = none) : ∀ {v : List V} {d : List D} {l : List Addr}, ROs K A H m v d l → ROs K A' H m v d l
  | _, _, _, .nil => .nil
  | _, _, _, .cons h r => .cons (RO.all hm h) (ROs.all hm r)
end
mutual
theorem RO.share {m : Option Nat} : ∀ {v : V} {d : D} {l : List Addr}, RO K A H m v d l → (∀ b ∈ l, A b) → RS K A H v d
  | _, _, _, .sh r, _ => r
  | _, _, _, .flat r f, _ => r
  | _, _, _, .lst p h r, q => .lst h (q _ List.mem_cons_self) (ROs.share r fun b hb => q b (List.mem_cons_of_mem _ hb))
  | _, _, _, .opq a, _ => .opq a
  | _, _, _, .shr r, _ => .shr r
  | _, _, _, .wtp a, _ => .wtp a
  | _, _, _, .ins p h c e r, q => .ins h (q _ List.mem_cons_self) c e (ROs.share r fun b hb => q b (List.mem_cons_of_mem _ hb))
  | _, _, _, .tup h r, q => .tup h (ROs.share r q)
  | _, _, _, .dct p h e r, q => .dct h (q _ List.mem_cons_self) e (ROs.share r fun b hb => q b (List.mem_cons_of_mem _ hb))
theorem ROs.share {m : Option Nat} : ∀ {v : List V} {d : List D} {l : List Addr}, ROs K A H m v d l → (∀ b ∈ l, A b) → RSs K A H v d
  | _, _, _, .nil, _ => .nil
  | _, _, _, .cons h r, q => .cons (RO.share h fun b hb => q b (List.mem_append_left _ hb)) (ROs.share r fun b hb => q b (List.mem_append_right _ hb))
end
mutual
theorem RO.zero : ∀ {v : V} {d : D} {l : List Addr}, RO K A H (some 0) v d l → RS K A H v d
  | _, _, _, .sh r => r
  | _, _, _, .flat r _ => r
  | _, _, _, .opq a => .opq a
  | _, _, _, .shr r => .shr r
  | _, _, _, .wtp a => .wtp a
  | _, _, _, .tup h r => .tup h (ROs.zero r)
theorem ROs.zero : ∀ {vs : List V} {ds : List D} {l : List Addr}, ROs K A H (some 0) vs ds l → RSs K A H vs ds
  | _, _, _, .nil => .nil
  | _, _, _, .cons h r => .cons (RO.zero h) (ROs.zero r)
end
mutual
theorem RO.there {m : Option Nat} : ∀ {v : V} {d : D} {l : List Addr}, RO K A H m v d l → ∀ b ∈ l, ∃ o, H b = some o ∧ mutO o
  | _, _, _, .sh r, b, hb => by cases hb
  | _, _, _, .flat r f, b, hb => by cases hb
  | _, _, _, .lst p h r, b, hb => by
    rcases List.mem_cons.mp hb with rfl | hb
    · exact ⟨_, h, trivial⟩
    · exact ROs.there r b hb
  | _, _, _, .opq a, b, hb => by cases hb
  | _, _, _, .shr r, b, hb => by cases hb
  | _, _, _, .wtp a, b, hb => by cases hb
  | _, _, _, .ins p h c e r, b, hb => by
    rcases List.mem_cons.mp hb with rfl | hb
    · exact ⟨_, h, trivial⟩
    · exact ROs.there r b hb
  | _, _, _, .tup h r, b, hb => ROs.there r b hb
  | _, _, _, .dct p h e r, b, hb => by
    rcases List.mem_cons.mp hb with rfl | hb
    · exact h.mut
    · exact ROs.there r b hb
theorem ROs.there {m : Option Nat} : ∀ {v : List V} {d : List D} {l : List Addr}, ROs K A H m v d l → ∀ b ∈ l, ∃ o, H b = some o ∧ mutO o
  | _, _, _, .nil, b, hb => by cases hb
  | _, _, _, .cons h r, b, hb => (List.mem_append.mp hb).elim (RO.there h b) (ROs.there r b)
end
theorem RO.of_flat {m : Option Nat} {v : V} {d : D} {l : List Addr} (r : RO K A H m v d l) (f : flatD d = true) : RS K A' H v d :=
  (RO.share (RO.mono (A' := fun _ => True) (fun _ _ _ _ => trivial) r) fun _ _ => trivial).flat f
def AT (B : Addr → Prop) (T : List Addr) : Addr → Prop := fun b => B b ∧ b ∉ T
def leM : Option Nat → Option Nat → Bool
  | some a, some b => decide (a ≤ b)
  | _, none => true
  | none, some _ => false
theorem leM_refl (m : Option Nat) : leM m m = true := by cases m <;> simp [leM]
theorem leM_pop {m' m n : Option Nat} (h : leM m' m = true) (p : popM m = some n) (z : m' ≠ some 0) : ∃ n', popM m' = some n' ∧ leM n' n = true := by
  match m', m, z, h, p with
  | none, none, _, _, p => exact ⟨none, rfl, by cases p; rfl⟩
  | some (k + 1), none, _, _, p => exact ⟨some k, rfl, by cases p; rfl⟩
  | some (k + 1), some (j + 1), _, h, p => exact ⟨some k, rfl, by cases p; simpa [leM] using h⟩
theorem AT.less {B : Addr → Prop} {T T' : List Addr} (h : ∀ b ∈ T', b ∈ T) {b : Addr} (a : AT B T b) : AT B T' b := ⟨a.1, fun z => a.2 (h _ z)⟩
section
variable {B : Addr → Prop} {T : List Addr}
mutual
theorem RO.weak {m m' : Option Nat} {v : V} {d : D} {l : List Addr} (hm : leM m' m = true) (z : m' ≠ some 0) (r : RO K (AT B T) H m v d l) (nd : l.Nodup) (hb : ∀ b ∈ l, B b) :
    ∃ l' : List Addr, l'.Sublist l ∧ ∀ T' : List Addr, (∀ b ∈ T', b ∈ T) → (∀ b ∈ l, b ∈ T' → b ∈ l') → RO K (AT B T') H m' v d l' := by
  match r with
  | .sh r => cases m' with
    | none => cases hm
    | some k => cases k with
      | zero => exact absurd rfl z
      | succ k => simp [leM] at hm
  | .flat r f => exact ⟨[], List.Sublist.refl _, fun T' _ _ => .flat (r.flat f) f⟩
  | .lst (a := a) (l := l1) p h r =>
    obtain ⟨n', p', hn⟩ := leM_pop hm p z
    have nd' := List.nodup_cons.mp nd
    by_cases z' : n' = some 0
    · subst z'
      refine ⟨[a], List.Sublist.cons_cons a (List.nil_sublist _), fun T' h1 h2 => .lst p' h ?_⟩
      exact ROs.toSh (ROs.share (ROs.mono (fun b o x _ => AT.less h1 x) r) fun b hb' => ⟨hb _ (List.mem_cons_of_mem _ hb'), fun q => by
        have := h2 b (List.mem_cons_of_mem _ hb') q
        simp at this; subst this; exact nd'.1 hb'⟩)
    · obtain ⟨l', hs, q⟩ := ROs.weak hn z' r nd'.2 (fun b hb' => hb _ (List.mem_cons_of_mem _ hb'))
      refine ⟨a :: l', hs.cons_cons a, fun T' h1 h2 => .lst p' h (q T' h1 fun b hb' ht => ?_)⟩
      rcases List.mem_cons.mp (h2 b (List.mem_cons_of_mem _ hb') ht) with e | e
      · subst e; exact absurd hb' nd'.1
      · exact e
  | .tup h r =>
    obtain ⟨l', hs, q⟩ := ROs.weak hm z r nd hb
    exact ⟨l', hs, fun T' h1 h2 => .tup h (q T' h1 h2)⟩
  | .opq a => exact ⟨[], List.Sublist.refl _, fun T' _ _ => .opq a⟩
  | .shr r => cases m' with
    | none => cases hm
    | some k => exact ⟨[], List.Sublist.refl _, fun T' h1 _ => .shr (r.mono fun b o x _ => AT.less h1 x)⟩
  | .wtp a => exact ⟨[], List.Sublist.refl _, fun T' _ _ => .wtp a⟩
  | .ins (a := a) (l := l1) p h c e r =>
    obtain ⟨n', p', hn⟩ := leM_pop hm p z
    have nd' := List.nodup_cons.mp nd
    by_cases z' : n' = some 0
    · subst z'
      refine ⟨[a], List.Sublist.cons_cons a (List.nil_sublist _), fun T' h1 h2 => .ins p' h c e ?_⟩
      exact ROs.toSh (ROs.share (ROs.mono (fun b o x _ => AT.less h1 x) r) fun b hb' => ⟨hb _ (List.mem_cons_of_mem _ hb'), fun q => by
        have := h2 b (List.mem_cons_of_mem _ hb') q
        simp at this; subst this; exact nd'.1 hb'⟩)
    · obtain ⟨l', hs, q⟩ := ROs.weak hn z' r nd'.2 (fun b hb' => hb _ (List.mem_cons_of_mem _ hb'))
      refine ⟨a :: l', hs.cons_cons a, fun T' h1 h2 => .ins p' h c e (q T' h1 fun b hb' ht => ?_)⟩
      rcases List.mem_cons.mp (h2 b (List.mem_cons_of_mem _ hb') ht) with e | e
      · subst e; exact absurd hb' nd'.1
      · exact e
  | .dct (a := a) (l := l1) p h e r =>
    obtain ⟨n', p', hn⟩ := leM_pop hm p z
    have nd' := List.nodup_cons.mp nd
    by_cases z' : n' = some 0
    · subst z'
      refine ⟨[a], List.Sublist.cons_cons a (List.nil_sublist _), fun T' h1 h2 => .dct p' h e ?_⟩
      exact ROs.toSh (ROs.share (ROs.mono (fun b o x _ => AT.less h1 x) r) fun b hb' => ⟨hb _ (List.mem_cons_of_mem _ hb'), fun q => by
        have := h2 b (List.mem_cons_of_mem _ hb') q
        simp at this; subst this; exact nd'.1 hb'⟩)
    · obtain ⟨l', hs, q⟩ := ROs.weak hn z' r nd'.2 (fun b hb' => hb _ (List.mem_cons_of_mem _ hb'))
      refine ⟨a :: l', hs.cons_cons a, fun T' h1 h2 => .dct p' h e (q T' h1 fun b hb' ht => ?_)⟩
      rcases List.mem_cons.mp (h2 b (List.mem_cons_of_mem _ hb') ht) with e | e
      · subst e; exact absurd hb' nd'.1
      · exact e
theorem ROs.weak {m m' : Option Nat} {v : List V} {d : List D} {l : List Addr} (hm : leM m' m = true) (z : m' ≠ some 0) (r : ROs K (AT B T) H m v d l) (nd : l.Nodup) (hb : ∀ b ∈ l, B b) :
    ∃ l' : List Addr, l'.Sublist l ∧ ∀ T' : List Addr, (∀ b ∈ T', b ∈ T) → (∀ b ∈ l, b ∈ T' → b ∈ l') → ROs K (AT B T') H m' v d l' := by
  match r with
  | .nil => exact ⟨[], List.Sublist.refl _, fun _ _ _ => .nil⟩
  | .cons (l1 := l1) (l2 := l2) h r =>
    have nd' := List.nodup_append.mp nd
    obtain ⟨k1, s1, q1⟩ := RO.weak hm z h nd'.1 (fun b hb' => hb _ (List.mem_append_left _ hb'))
    obtain ⟨k2, s2, q2⟩ := ROs.weak hm z r nd'.2.1 (fun b hb' => hb _ (List.mem_append_right _ hb'))
    refine ⟨k1 ++ k2, s1.append s2, fun T' h1 h2 => .cons (q1 T' h1 fun b hb' ht => ?_) (q2 T' h1 fun b hb' ht => ?_)⟩
    · rcases List.mem_append.mp (h2 b (List.mem_append_left _ hb') ht) with e | e
      · exact e
      · exact absurd rfl (nd'.2.2 b hb' b (s2.subset e))
    · rcases List.mem_append.mp (h2 b (List.mem_append_right _ hb') ht) with e | e
      · exact absurd rfl (nd'.2.2 b (s1.subset e) b hb')
      · exact e
end
end
end
end VL
set_option maxRecDepth 100000
set_option maxHeartbeats 4000000
namespace VL
open PySem PySem.Spec PyProof.Rows L2
inductive Md where
  | b
  | o (m : Option Nat)
  deriving DecidableEq
abbrev mA : Md := .o none
abbrev mS : Md := .o (some 0)
structure R where
  d : D
  m : Md
structure Exn where
  cls : Str
  fld : Option (Str × D)
abbrev Sg := L2.St
abbrev VEnv := List (Option (D × Md))
structure Cn where
  K : PySem.W.Frag
  P0 : Addr → Prop
  H0 : Hp
  rw : List Addr
  cl : Str → Option Addr
  hd : List (V × D) := []
  pin : List (Nat × V) := []
def Cn.Own (c : Cn) (a : Addr) : Prop := c.H0 a = none ∨ a ∈ c.rw
def Cn.B (c : Cn) (a : Addr) : Prop := c.P0 a ∨ c.Own a
inductive Slots (c : Cn) (T : List Addr) (H : Hp) : VEnv → Sg → List (List Addr) → Prop
  | nil : Slots c T H [] [] []
  | non {e : VEnv} {x : Option V} {σ : Sg} {L : List (List Addr)} : Slots c T H e σ L → Slots c T H (none :: e) (x :: σ) ([] :: L)
  | bor {e : VEnv} {d : D} {v : V} {σ : Sg} {L : List (List Addr)} : RS c.K (fun _ => True) H v d → Slots c T H e σ L → Slots c T H (some (d, .b) :: e) (some v :: σ) ([] :: L)
  | own {e : VEnv} {d : D} {m : Option Nat} {v : V} {l : List Addr} {σ : Sg} {L : List (List Addr)} : RO c.K (AT c.B T) H m v d l → Slots c T H e σ L → Slots c T H (some (d, .o m) :: e) (some v :: σ) (l :: L)
structure Sim (c : Cn) (L : List (List Addr)) (Tm : List Addr) (env : VEnv) (σ : Sg) (H : Hp) : Prop where
  sl : Slots c (L.flatten ++ Tm) H env σ L
  nd : (L.flatten ++ Tm).Nodup
  own : ∀ a ∈ L.flatten ++ Tm, c.Own a ∧ ∃ o, H a = some o
  fr : ∀ b o, c.H0 b = some o → b ∉ c.rw → H b = some o
  hd : ∀ p ∈ c.hd, RS c.K (AT c.B (L.flatten ++ Tm)) H p.1 p.2
  pin : ∀ p ∈ c.pin, σ[p.1]? = some (some p.2)
def Res (c : Cn) (T : List Addr) (H : Hp) (r : R) (v : V) (l : List Addr) : Prop :=
  match r.m with
  | .b => RS c.K (fun _ => True) H v r.d ∧ l = []
  | .o m => RO c.K (AT c.B T) H m v r.d l
theorem Res.dep {c : Cn} {T : List Addr} {H : Hp} {d : D} {m : Option Nat} {v : V} {l : List Addr} (h : Res c T H ⟨d, .o m⟩ v l) : RO c.K (AT c.B T) H m v d l := h
theorem Res.bor {c : Cn} {T : List Addr} {H : Hp} {d : D} {v : V} {l : List Addr} (h : Res c T H ⟨d, .b⟩ v l) : RS c.K (fun _ => True) H v d := h.1
theorem Res.read {c : Cn} {T : List Addr} {H : Hp} {r : R} {v : V} {l : List Addr} (h : Res c T H r v l) : RS c.K (fun _ => True) H v r.d := by
  obtain ⟨d, m⟩ := r
  cases m with
  | b => exact h.1
  | o m => exact RO.share (RO.mono (fun _ _ _ _ => trivial) h.dep) fun _ _ => trivial
theorem Res.flat {c : Cn} {T : List Addr} {H : Hp} {d : D} {m : Option Nat} {v : V} {A : Addr → Prop} (h : RS c.K A H v d) (f : flatD d = true) : Res c T H ⟨d, .o m⟩ v [] := RO.flat (h.flat f) f
theorem Res.keep {c : Cn} {T T' : List Addr} {H H' : Hp} {r : R} {v : V} {l : List Addr} (h : Res c T H r v l) (s : Same H H') (g : ∀ b ∈ T', b ∈ T ∨ H b = none) : Res c T' H' r v l := by
  obtain ⟨d, m⟩ := r
  cases m with
  | b => exact ⟨h.1.keep (Kp.same s), h.2⟩
  | o m => exact (RO.mono (fun b o a e => ⟨a.1, fun z => (g b z).elim a.2 fun n => by rw [e] at n; cases n⟩) h.dep).keep (Kp.same s) fun b _ o e => s b o e
section
variable {c : Cn} {L L' : List (List Addr)} {T T' Tm l : List Addr} {env env' : VEnv} {σ : Sg} {H H' H1 H2 : Hp}
theorem Slots.keep (h : Slots c T H env σ L) (s : Same H H') (g : ∀ b ∈ T', b ∈ T ∨ H b = none) : Slots c T' H' env σ L := by
  induction h with
  | nil => exact .nil
  | non _ ih => exact .non ih
  | bor r _ ih => exact .bor (r.keep (Kp.same s)) ih
  | own r _ ih => exact .own (Res.keep (r := ⟨_, .o _⟩) r s g) ih
theorem Slots.len (h : Slots c T H env σ L) : env.length = σ.length ∧ env.length = L.length := by
  induction h with
  | nil => exact ⟨rfl, rfl⟩
  | non _ ih => simp [ih.1, ← ih.2]
  | bor r _ ih => simp [ih.1, ← ih.2]
  | own r _ ih => simp [ih.1, ← ih.2]
theorem Slots.get {i : Nat} {d : D} {m : Md} (h : Slots c T H env σ L) (e : env[i]? = some (some (d, m))) : ∃ v l, σ[i]? = some (some v) ∧ L[i]? = some l ∧ Res c T H ⟨d, m⟩ v l := by
  induction h generalizing i with
  | nil => simp at e
  | non _ ih => cases i with
    | zero => simp at e
    | succ i => simpa using ih (by simpa using e)
  | bor r _ ih => cases i with
    | zero => simp at e; obtain ⟨rfl, rfl⟩ := e; exact ⟨_, _, rfl, rfl, r, rfl⟩
    | succ i => simpa using ih (by simpa using e)
  | own r _ ih => cases i with
    | zero => simp at e; obtain ⟨rfl, rfl⟩ := e; exact ⟨_, _, rfl, rfl, r⟩
    | succ i => simpa using ih (by simpa using e)
structure Step (c : Cn) (H H' : Hp) (G : List Addr) (Tm : List Addr) (L' : List (List Addr)) (l : List Addr) (env' : VEnv) (σ : Sg) : Prop where
  same : Same H H'
  sim : Sim c L' (Tm ++ l) env' σ H'
  gr : ∀ b ∈ L'.flatten ++ (Tm ++ l), b ∈ G ∨ H b = none
theorem Sim.less {Tm' : List Addr} (h : Sim c L Tm env σ H) (s : Tm'.Sublist Tm) : Sim c L Tm' env σ H := by
  have sub : (L.flatten ++ Tm').Sublist (L.flatten ++ Tm) := (List.Sublist.refl _).append s
  exact ⟨h.sl.keep (Same.refl H) fun b hb => .inl (sub.subset hb), h.nd.sublist sub, fun a ha => h.own a (sub.subset ha), h.fr, fun p hp => (h.hd p hp).mono fun b o a _ => AT.less (fun b hb => sub.subset hb) a, h.pin⟩
theorem Sim.drop (h : Sim c L (Tm ++ l) env σ H) : Sim c L Tm env σ H := h.less (List.sublist_append_left _ _)
theorem Step.refl {G : List Addr} (h : Sim c L Tm env σ H) (g : ∀ b ∈ L.flatten ++ Tm, b ∈ G := by exact fun _ hb => hb) : Step c H H G Tm L [] env σ := ⟨Same.refl H, by rw [List.append_nil]; exact h, fun b hb => .inl (by rw [List.append_nil] at hb; exact g b hb)⟩
theorem Step.wider {G G' : List Addr} (h : Step c H H' G Tm L' l env σ) (g : ∀ b ∈ G, b ∈ G') : Step c H H' G' Tm L' l env σ := ⟨h.same, h.sim, fun b hb => (h.gr b hb).imp (g b) id⟩
theorem mem_less {A B C D : List Addr} (s : ∀ b ∈ C, b ∈ D) : ∀ b ∈ A ++ (B ++ C), b ∈ A ++ (B ++ D) := fun b hb => by
  rcases List.mem_append.mp hb with z | z
  · exact List.mem_append_left _ z
  · rcases List.mem_append.mp z with z | z
    · exact List.mem_append_right _ (List.mem_append_left _ z)
    · exact List.mem_append_right _ (List.mem_append_right _ (s b z))
theorem Step.sub {G l' : List Addr} (h : Step c H H' G Tm L' l env σ) (s : l'.Sublist l) : Step c H H' G Tm L' l' env σ :=
  ⟨h.same, h.sim.less ((List.Sublist.refl _).append s), fun b hb => h.gr b (mem_less (fun b hb => s.subset hb) b hb)⟩
theorem Step.drop {G : List Addr} (h : Step c H H' G Tm L' l env σ) : Step c H H' G Tm L' [] env σ := h.sub (List.nil_sublist _)
theorem Step.sim0 {G : List Addr} (h : Step c H H' G Tm L' l env σ) : Sim c L' Tm env σ H' := h.sim.drop
theorem Step.perm {G l' : List Addr} (h : Step c H H' G Tm L' l env σ) (p : l'.Perm l) : Step c H H' G Tm L' l' env σ := by
  have pp : (L'.flatten ++ (Tm ++ l')).Perm (L'.flatten ++ (Tm ++ l)) := (p.append_left _).append_left _
  have mem : ∀ b, b ∈ L'.flatten ++ (Tm ++ l') → b ∈ L'.flatten ++ (Tm ++ l) := fun b hb => pp.mem_iff.mp hb
  exact ⟨h.same, ⟨h.sim.sl.keep (Same.refl _) fun b hb => .inl (mem b hb), pp.nodup_iff.mpr h.sim.nd, fun a ha => h.sim.own a (mem a ha), h.sim.fr, fun p hp => (h.sim.hd p hp).mono fun b o a _ => AT.less mem a, h.sim.pin⟩, fun b hb => h.gr b (mem b hb)⟩
theorem Step.trans {G l1 l2 : List Addr} {L1 L2 : List (List Addr)} {env1 env2 : VEnv} (a : Step c H H1 G Tm L1 l1 env1 σ) (b : Step c H1 H2 (L1.flatten ++ (Tm ++ l1)) (Tm ++ l1) L2 l2 env2 σ) : Step c H H2 G Tm L2 (l1 ++ l2) env2 σ :=
  ⟨a.same.trans b.same, by rw [← List.append_assoc]; exact b.sim, fun x hx => by
    rw [← List.append_assoc Tm] at hx
    rcases b.gr x hx with z | z
    · exact a.gr x z
    · exact .inr (a.same.free z)⟩
theorem Step.then {G l1 l2 : List Addr} {L1 L2 : List (List Addr)} {env1 env2 : VEnv} (a : Step c H H1 G Tm L1 l1 env1 σ) (b : Step c H1 H2 (L1.flatten ++ (Tm ++ l1)) Tm L2 l2 env2 σ) : Step c H H2 G Tm L2 l2 env2 σ :=
  ⟨a.same.trans b.same, b.sim, fun x hx => by
    rcases b.gr x hx with z | z
    · exact a.gr x z
    · exact .inr (a.same.free z)⟩
theorem Sim.nowhere (S : Sim c L Tm env σ H) {b : Addr} (n : H b = none) : c.Own b ∧ b ∉ L.flatten ++ Tm := by
  refine ⟨?_, fun z => ?_⟩
  · by_cases z : b ∈ c.rw
    · exact .inr z
    · cases q : c.H0 b with
      | none => exact .inl q
      | some u => have := S.fr b u q z; rw [n] at this; cases this
  · obtain ⟨_, o', e⟩ := S.own b z
    rw [n] at e; cases e
theorem Step.news (h : Sim c L Tm env σ H) (sm : Same H H') (nd : l.Nodup) (hl : ∀ b ∈ l, H b = none ∧ ∃ o, H' b = some o) : Step c H H' (L.flatten ++ Tm) Tm L l env σ := by
  have gr : ∀ b ∈ L.flatten ++ (Tm ++ l), b ∈ L.flatten ++ Tm ∨ H b = none := fun b hb => by
    rw [← List.append_assoc] at hb
    rcases List.mem_append.mp hb with z | z
    · exact .inl z
    · exact .inr (hl b z).1
  refine ⟨sm, ⟨h.sl.keep sm gr, ?_, fun a ha => ?_, fun b u e r => sm b u (h.fr b u e r), fun p hp => ((h.hd p hp).mono fun b o a e => ⟨a.1, fun z => (gr b z).elim a.2 fun n => by rw [e] at n; cases n⟩).keep (Kp.same sm), h.pin⟩, gr⟩
  · rw [← List.append_assoc, List.nodup_append]
    exact ⟨h.nd, nd, fun a ha b hb z => by subst z; exact (h.nowhere (hl a hb).1).2 ha⟩
  · rw [← List.append_assoc] at ha
    rcases List.mem_append.mp ha with z | z
    · obtain ⟨q, u, e⟩ := h.own a z
      exact ⟨q, u, sm a u e⟩
    · exact ⟨(h.nowhere (hl a z).1).1, (hl a z).2⟩
theorem same_new {p : Addr} {o : HO} (n : H p = none) : Same H (upd H p o) := fun b u e => by rw [upd_ne (ne_of_none e n)]; exact e
theorem Step.new {p : Addr} {o : HO} (h : Sim c L Tm env σ H) (n : H p = none) : Step c H (upd H p o) (L.flatten ++ Tm) Tm L [p] env σ :=
  Step.news h (same_new n) (by simp) fun b hb => by simp at hb; subst hb; exact ⟨n, o, upd_same⟩
theorem Sim.tmp (S : Sim c L (Tm ++ l) env σ H) : l.Nodup ∧ (∀ b ∈ l, c.B b) ∧ ∀ b ∈ l, b ∉ L.flatten ++ Tm := by
  have nd := S.nd
  rw [← List.append_assoc] at nd
  have nd' := List.nodup_append.mp nd
  exact ⟨nd'.2.1, fun b hb => .inr (S.own b (by simp [hb])).1, fun b hb z => nd'.2.2 b z b hb rfl⟩
theorem Res.shared {r : R} {v : V} {m : Option Nat} {la : List Addr} (h : Res c (L.flatten ++ (Tm ++ la)) H r v l) (hm : r.m = .o m) (S : Sim c L (Tm ++ la) env σ H) (hl : ∀ b ∈ l, b ∈ la) : RS c.K (AT c.B (L.flatten ++ Tm)) H v r.d := by
  obtain ⟨d, m'⟩ := r
  cases hm
  obtain ⟨_, hb, hx⟩ := S.tmp
  refine RO.share (RO.mono (fun b o a _ => AT.less (fun b hb => ?_) a) h.dep) fun b hb' => ⟨hb b (hl b hb'), hx b (hl b hb')⟩
  rw [← List.append_assoc]
  exact List.mem_append_left _ hb
end
def ExR (c : Cn) (H : Hp) (ex : Exn) (cls : Value) (d : Option Addr) : Prop :=
  ∃ C, c.cl ex.cls = some C ∧ cls = .ref C ∧ match ex.fld with
    | none => d = none
    | some (f, dt) => ∃ dd v, d = some dd ∧ H dd = some (.xd [(f, v)]) ∧ RS c.K (fun _ => True) H v dt
def Kont (c : Cn) (σ : Sg) (L : List (List Addr)) (Tm : List Addr) (H : Hp) (Qv : R → VEnv → Prop) (Q : VK) : Prop :=
  ∀ r v l L' env' H', Qv r env' → Step c H H' (L.flatten ++ Tm) Tm L' l env' σ → Res c (L'.flatten ++ (Tm ++ l)) H' r v l → Q v H'
def KontX (c : Cn) (σ : Sg) (L : List (List Addr)) (Tm : List Addr) (H : Hp) (X : Exn → VEnv → Prop) (W : WX) : Prop :=
  ∀ ex cls d L' env' H', X ex env' → Step c H H' (L.flatten ++ Tm) Tm L' [] env' σ → ExR c H' ex cls d → W cls d σ H'
abbrev WE := VEnv → (R → VEnv → Prop) → (Exn → VEnv → Prop) → Prop
def rdE (c : Cn) (W : WX) (w : WE) : TE := fun σ H Q => ∃ env L Tm Qv X, Sim c L Tm env σ H ∧ w env Qv X ∧ Kont c σ L Tm H Qv Q ∧ KontX c σ L Tm H X W
abbrev WT := VEnv → (Bool → VEnv → Prop) → (Exn → VEnv → Prop) → Prop
def rdT (c : Cn) (W : WX) (w : WT) : TT := fun σ H Q => ∃ env L Tm Qv X, Sim c L Tm env σ H ∧ w env Qv X ∧
  (∀ b L' env' H', Qv b env' → Step c H H' (L.flatten ++ Tm) Tm L' [] env' σ → Q b H') ∧ KontX c σ L Tm H X W
inductive Ress (c : Cn) (T : List Addr) (H : Hp) : List R → List V → List Addr → Prop
  | nil : Ress c T H [] [] []
  | cons {r : R} {rs : List R} {v : V} {vs : List V} {l1 l2 : List Addr} : Res c T H r v l1 → Ress c T H rs vs l2 → Ress c T H (r :: rs) (v :: vs) (l1 ++ l2)
abbrev WA := VEnv → (List R → VEnv → Prop) → (Exn → VEnv → Prop) → Prop
def rdA (c : Cn) (W : WX) (w : WA) : TA := fun σ H Q => ∃ env L Tm Qv X, Sim c L Tm env σ H ∧ w env Qv X ∧
  (∀ rs vs l L' env' H', Qv rs env' → Step c H H' (L.flatten ++ Tm) Tm L' l env' σ → Ress c (L'.flatten ++ (Tm ++ l)) H' rs vs l → Q vs H') ∧ KontX c σ L Tm H X W
theorem PE.imp {X : Cx} {e : Expr} {t t' : TE} (h : PE X e t) (q : ∀ σ H Q, t' σ H Q → t σ H Q) : PE X e t' := ⟨fun pins s σ H Q I w => h.run pins s σ H Q I (q _ _ _ w)⟩
theorem PT.imp {X : Cx} {e : Expr} {t t' : TT} (h : PT X e t) (q : ∀ σ H Q, t' σ H Q → t σ H Q) : PT X e t' := ⟨fun pins s σ H Q I w => h.run pins s σ H Q I (q _ _ _ w)⟩
theorem PW.imp {X : Cx} {e : Expr} {t t' : TT} (h : PW X e t) (q : ∀ σ H Q, t' σ H Q → t σ H Q) : PW X e t' := ⟨fun wh pins s σ H Q I w => h.run wh pins s σ H Q I (q _ _ _ w)⟩
theorem PA.imp {X : Cx} {e : List Expr} {t t' : TA} (h : PA X e t) (q : ∀ σ H Q, t' σ H Q → t σ H Q) : PA X e t' := ⟨fun pos pins s σ H Q I w => h.run pos pins s σ H Q I (q _ _ _ w)⟩
theorem PS.imp {X : Cx} {e : Stmt} {t t' : TS} (h : PS X e t) (q : ∀ D σ H, t' D σ H → t D σ H) : PS X e t' := ⟨fun pins s σ H D I w => h.run pins s σ H D I (q _ _ _ w)⟩
theorem PSs.imp {X : Cx} {e : List Stmt} {t t' : TS} (h : PSs X e t) (q : ∀ D σ H, t' D σ H → t D σ H) : PSs X e t' := ⟨fun pins s σ H D I w => h.run pins s σ H D I (q _ _ _ w)⟩
def readR (d : D) (m : Md) : R := if flatD d then ⟨d, mA⟩ else match m with
  | .o (some 0) => ⟨d, mS⟩
  | _ => ⟨d, .b⟩
theorem Res.ofRead {c : Cn} {T : List Addr} {H : Hp} {d : D} {m : Md} {v : V} {l : List Addr} (h : Res c T H ⟨d, m⟩ v l) : Res c T H (readR d m) v [] := by
  unfold readR
  by_cases f : flatD d = true
  · rw [if_pos f]; exact Res.flat h.read f
  · rw [if_neg f]
    match m, h with
    | .b, h => exact ⟨h.read, rfl⟩
    | .o none, h => exact ⟨h.read, rfl⟩
    | .o (some (n + 1)), h => exact ⟨h.read, rfl⟩
    | .o (some 0), h =>
      have h' := h.dep
      generalize hm : (some 0 : Option Nat) = m0 at h'
      cases h' with
      | sh r => exact .sh r
      | flat r f' => exact absurd f' f
      | lst p _ _ => subst hm; cases p
      | dct p _ _ _ => subst hm; cases p
      | tup hs r => subst hm; exact .sh (.tup hs (ROs.zero r))
      | opq a => subst hm; exact RO.sh (.opq a)
      | shr r => cases hm; exact RO.sh (.shr r)
      | wtp a => subst hm; exact RO.sh (.wtp a)
      | ins p _ _ _ _ => subst hm; cases p
end VL
set_option maxRecDepth 100000
set_option maxHeartbeats 4000000
namespace VL
open PySem PySem.Spec PyProof.Rows L2
section
variable {c : Cn} {W : WX} {L L' : List (List Addr)} {T T' Tm l : List Addr} {env env' : VEnv} {σ : Sg} {H H' H1 H2 : Hp}
def wVar (i : Nat) : WE := fun env Q _ => ∃ d m, env[i]? = some (some (d, m)) ∧ Q (readR d m) env
def wMv (i : Nat) : WE := fun env Q _ => ∃ d m, env[i]? = some (some (d, m)) ∧ if flatD d = true then Q ⟨d, mA⟩ env else match m with
  | .b => Q ⟨d, .b⟩ env
  | .o m => Q ⟨d, .o m⟩ (env.set i none)
def wC (d : D) : WE := fun env Q _ => Q ⟨d, mA⟩ env
theorem rd_var {i : Nat} {σ : Sg} {H : Hp} {Q : VK} (h : rdE c W (wVar i) σ H Q) : tVar i σ H Q := by
  obtain ⟨env, L, Tm, Qv, X, S, ⟨d, m, e, q⟩, k, _⟩ := h
  obtain ⟨v, l, hv, hl, r⟩ := S.sl.get e
  refine ⟨v, hv, k _ _ [] _ _ _ q (Step.refl S) ?_⟩
  rw [List.append_nil]
  exact r.ofRead
theorem flatten_set {L : List (List Addr)} {i : Nat} {l : List Addr} (e : L[i]? = some l) : ((L.set i []).flatten ++ l).Perm L.flatten := by
  induction L generalizing i with
  | nil => simp at e
  | cons a L ih => cases i with
    | zero => simp at e; subst e; simp; exact List.perm_append_comm
    | succ i =>
      simp at e
      simp only [List.set_cons_succ, List.flatten_cons, List.append_assoc]
      exact (ih e).append_left a
theorem Slots.kill {i : Nat} (h : Slots c T H env σ L) : Slots c T H (env.set i none) σ (L.set i []) := by
  induction h generalizing i with
  | nil => exact .nil
  | non h ih => cases i with
    | zero => exact .non h
    | succ i => exact .non ih
  | bor r h ih => cases i with
    | zero => exact .non h
    | succ i => exact .bor r ih
  | own r h ih => cases i with
    | zero => exact .non h
    | succ i => exact .own r ih
theorem perm_mid {a b t : List Addr} {x : List Addr} (p : (a ++ x).Perm b) : (a ++ (t ++ x)).Perm (b ++ t) := by
  have : (a ++ (t ++ x)).Perm ((a ++ x) ++ t) := by
    rw [List.append_assoc]; exact List.perm_append_comm.append_left a
  exact this.trans (p.append_right t)
theorem Sim.move {i : Nat} (S : Sim c L Tm env σ H) (e : L[i]? = some l) : Step c H H (L.flatten ++ Tm) Tm (L.set i []) l (env.set i none) σ := by
  have p := perm_mid (t := Tm) (flatten_set e)
  have mem : ∀ b, b ∈ (L.set i []).flatten ++ (Tm ++ l) ↔ b ∈ L.flatten ++ Tm := fun b => p.mem_iff
  refine ⟨Same.refl H, ⟨(S.sl.kill).keep (Same.refl H) fun b hb => .inl ((mem b).mp hb), p.nodup_iff.mpr S.nd, fun a ha => S.own a ((mem a).mp ha), S.fr, fun p hp => (S.hd p hp).mono fun b o a _ => AT.less (fun b hb => (mem b).mp hb) a, S.pin⟩, fun b hb => .inl ((mem b).mp hb)⟩
theorem rd_mv {i : Nat} {σ : Sg} {H : Hp} {Q : VK} (h : rdE c W (wMv i) σ H Q) : tVar i σ H Q := by
  obtain ⟨env, L, Tm, Qv, X, S, ⟨d, m, e, q⟩, k, _⟩ := h
  obtain ⟨v, l, hv, hl, r⟩ := S.sl.get e
  refine ⟨v, hv, ?_⟩
  by_cases f : flatD d = true
  · rw [if_pos f] at q
    refine k _ _ [] _ _ _ q (Step.refl S) ?_
    exact Res.flat r.read f
  · rw [if_neg f] at q
    cases m with
    | b =>
      refine k _ _ [] _ _ _ q (Step.refl S) ?_
      exact ⟨r.read, rfl⟩
    | o m =>
      have st := S.move hl
      refine k _ _ l _ _ _ q st ?_
      exact Res.keep r (Same.refl H) fun b hb => st.gr b hb
theorem rd_C {v : V} {d : D} (hr : ∀ K A H, RS K A H v d) (f : flatD d = true) {σ : Sg} {H : Hp} {Q : VK} (h : rdE c W (wC d) σ H Q) : tC v σ H Q := by
  obtain ⟨env, L, Tm, Qv, X, S, q, k, _⟩ := h
  exact k _ _ [] _ _ _ q (Step.refl S) (Res.flat (hr c.K (fun _ => True) H) f)
end
section
variable {X : Cx} {c : Cn} {W : WX} {pos : Pos}
theorem ve_var (i : Nat) {x : Str} (hN : X.N[i]? = some x := by rfl) (hv : Vis X.env.scope x := by first | exact Or.inl rfl | exact Or.inr (Or.inl rfl) | exact Or.inr (Or.inr rfl)) (hd : (x == ("__debug__" : Str)) = false := by decide)
    (hcd : (x == ("__classdict__" : Str)) = false := by decide) : PE X (.Name x pos) (rdE c W (wVar i)) := PE.imp (pe_var hN hv hd hcd) fun _ _ _ => rd_var
theorem ve_mv (i : Nat) {x : Str} (hN : X.N[i]? = some x := by rfl) (hv : Vis X.env.scope x := by first | exact Or.inl rfl | exact Or.inr (Or.inl rfl) | exact Or.inr (Or.inr rfl)) (hd : (x == ("__debug__" : Str)) = false := by decide)
    (hcd : (x == ("__classdict__" : Str)) = false := by decide) : PE X (.Name x pos) (rdE c W (wMv i)) := PE.imp (pe_var hN hv hd hcd) fun _ _ _ => rd_mv
theorem ve_int {i : Int} {j} : PE X (.Constant (.int i) j pos) (rdE c W (wC (.int i))) := PE.imp pe_int fun _ _ _ => rd_C (fun _ _ _ => .int i) rfl
theorem ve_bl {b : Bool} {j} : PE X (.Constant (.bool b) j pos) (rdE c W (wC (.bool b))) := PE.imp pe_bl fun _ _ _ => rd_C (fun _ _ _ => .bl b) rfl
theorem ve_non {j} : PE X (.Constant .none j pos) (rdE c W (wC .none)) := PE.imp pe_non fun _ _ _ => rd_C (fun _ _ _ => .non) rfl
theorem ve_gint {x : Str} {i : Int} {t : Tok} (hm : X.mg x = some (.int i t)) (hg : Gl X x := by rfl) (hd : (x == ("__debug__" : Str)) = false := by decide) : PE X (.Name x pos) (rdE c W (wC (.int i))) :=
  PE.imp (pe_glob (v := .int i) hg hm ⟨_, rfl⟩ hd) fun _ _ _ => rd_C (fun _ _ _ => .int i) rfl
end
abbrev WO := R → R → (R → Prop) → Prop
def wBin (wo : WO) (wa wb : WE) : WE := fun env Q X => wa env (fun ra e1 => wb e1 (fun rb e2 => wo ra rb fun r => Q r e2) X) X
def OpS (c : Cn) (r2 : R2) (wo : WO) : Prop :=
  ∀ (L : List (List Addr)) (Tm la lb : List Addr) (env : VEnv) (σ : Sg) (H : Hp) (ra rb : R) (x y : V) (Qv : R → Prop) (Q : VK),
    Sim c L (Tm ++ (la ++ lb)) env σ H → Res c (L.flatten ++ (Tm ++ (la ++ lb))) H ra x la → Res c (L.flatten ++ (Tm ++ (la ++ lb))) H rb y lb → wo ra rb Qv →
    (∀ r v l H', Qv r → Step c H H' (L.flatten ++ (Tm ++ (la ++ lb))) Tm L l env σ → Res c (L.flatten ++ (Tm ++ l)) H' r v l → Q v H') → r2 x y H Q
theorem OpS.or {c : Cn} {r r' : R2} {w w' : WO} (h : OpS c r w) (h' : OpS c r' w') : OpS c (fun x y H Q => r x y H Q ∨ r' x y H Q) (fun a b Q => w a b Q ∨ w' a b Q) := by
  intro L Tm la lb env σ H ra rb x y Qv Q S h1 h2 hw k
  rcases hw with hw | hw
  · exact .inl (h L Tm la lb env σ H ra rb x y Qv Q S h1 h2 hw k)
  · exact .inr (h' L Tm la lb env σ H ra rb x y Qv Q S h1 h2 hw k)
section
variable {X : Cx} {c : Cn} {W : WX} {pos : Pos} {wa wb : WE} {wo : WO} {r2 : R2} {a b : Expr}
theorem KontX.step {c : Cn} {σ : Sg} {L L1 : List (List Addr)} {Tm la : List Addr} {H H1 : Hp} {env1 : VEnv} {X : Exn → VEnv → Prop} {W : WX} (k : KontX c σ L Tm H X W) (st : Step c H H1 (L.flatten ++ Tm) Tm L1 la env1 σ) : KontX c σ L1 (Tm ++ la) H1 X W :=
  fun ex cls d L' env' H' hx s e => k ex cls d L' env' H' hx (by
    have z := st.trans s
    exact z.drop) e
theorem rd_bin (hs : OpS c r2 wo) {σ : Sg} {H : Hp} {Q : VK} (h : rdE c W (wBin wo wa wb) σ H Q) : tOp r2 (rdE c W wa) (rdE c W wb) σ H Q := by
  obtain ⟨env, L, Tm, Qv, X, S, w, k, kx⟩ := h
  refine ⟨env, L, Tm, _, X, S, w, fun ra x la L1 env1 H1 h1 st1 r1 => ?_, kx⟩
  refine ⟨env1, L1, Tm ++ la, _, X, st1.sim, h1, fun rb y lb L2 env2 H2 h2 st2 r2' => ?_, kx.step st1⟩
  have r1' := r1.keep st2.same st2.gr
  have st12 := st1.trans st2
  rw [List.append_assoc] at r1' r2'
  exact hs L2 Tm la lb env2 σ H2 ra rb x y (fun r => Qv r env2) Q st12.sim r1' r2' h2 fun r v l H' q st3 r3 => k r v l L2 env2 H' q (Step.then st12 st3) r3
theorem ve_op {op : Operator} (ho : OpR X (binaryOp op) r2) (hs : OpS c r2 wo) (ha : PE X a (rdE c W wa)) (hb : PE X b (rdE c W wb)) : PE X (.BinOp a op b pos) (rdE c W (wBin wo wa wb)) :=
  PE.imp (pe_op ho ha hb) fun _ _ _ => rd_bin hs
theorem ve_cmp {op : CmpOp} (ho : OpR X (compareOp op) r2) (hs : OpS c r2 wo) (ha : PE X a (rdE c W wa)) (hb : PE X b (rdE c W wb)) (hm : behindInMarks op b = false := by first | exact nomark _ | with_unfolding_all rfl) : PE X (.Compare a [op] [b] pos) (rdE c W (wBin wo wa wb)) :=
  PE.imp (pe_cmpR ho ha hb hm) fun _ _ _ => rd_bin hs
def wTest (w : WE) : WT := fun env Q X => w env (fun r e => ∃ k, r.d = .bool k ∧ Q k e) X
theorem rd_test' {t : TE} {w : WE} (ht : ∀ σ H Q, rdE c W w σ H Q → t σ H Q) {σ : Sg} {H : Hp} {Q : Bool → Hp → Prop} (h : rdT c W (wTest w) σ H Q) : t σ H fun x H' => ∃ k, x = .bl k ∧ Q k H' := by
  obtain ⟨env, L, Tm, Qv, X, S, w, k, kx⟩ := h
  refine ht _ _ _ ⟨env, L, Tm, _, X, S, w, fun r v l L1 env1 H1 ⟨b, e, q⟩ st r1 => ?_, kx⟩
  obtain ⟨d, m⟩ := r
  cases e
  have := r1.read
  cases this
  exact ⟨b, rfl, k b L1 env1 H1 q st.drop⟩
theorem vt_cmp {op : CmpOp} (ho : OpR X (compareOp op) r2) (hs : OpS c r2 wo) (ha : PE X a (rdE c W wa)) (hb : PE X b (rdE c W wb)) (hm : behindInMarks op b = false := by first | exact nomark _ | with_unfolding_all rfl) : PT X (.Compare a [op] [b] pos) (rdT c W (wTest (wBin wo wa wb))) :=
  PT.imp (pt_cmpR ho ha hb hm) fun _ _ _ => rd_test' fun _ _ _ => rd_bin hs
theorem vt_val {e : Expr} {w : WE} (h : PE X e (rdE c W w)) (he : ∀ whole, isTrue e X.env whole = (do let v ← whole; standAt e.pos; holding [v] (truthy v)) := by intro _; rfl) : PT X e (rdT c W (wTest w)) :=
  PT.imp (pt_val h he) fun _ _ _ => rd_test' fun _ _ _ z => z
end
section
variable {c : Cn}
theorem flat_end1 {L : List (List Addr)} {Tm l : List Addr} {env : VEnv} {σ : Sg} {H : Hp} {d : D} {v : V} {Qv : R → Prop} {Q : VK} (S : Sim c L (Tm ++ l) env σ H) (q : Qv ⟨d, mA⟩) (r : RS c.K (fun _ => True) H v d) (f : flatD d = true)
    (k : ∀ r v l' H', Qv r → Step c H H' (L.flatten ++ (Tm ++ l)) Tm L l' env σ → Res c (L.flatten ++ (Tm ++ l')) H' r v l' → Q v H') : Q v H :=
  k _ _ [] _ q (Step.refl S.drop fun b hb => by rw [← List.append_assoc]; exact List.mem_append_left _ hb) (Res.flat r f)
def woI (C : Int → Int → Prop) (g : Int → Int → D) : WO := fun ra rb Q => ∃ i j, ra.d = .int i ∧ rb.d = .int j ∧ C i j ∧ Q ⟨g i j, mA⟩
theorem ops_I {C : Int → Int → Prop} {g : Int → Int → V} {gd : Int → Int → D} (hg : ∀ K A H i j, RS K A H (g i j) (gd i j)) (hf : ∀ i j, flatD (gd i j) = true) : OpS c (rI C g) (woI C gd) := by
  intro L Tm la lb env σ H ra rb x y Qv Q S h1 h2 ⟨i, j, e1, e2, hc, q⟩ k
  obtain ⟨d1, m1⟩ := ra; obtain ⟨d2, m2⟩ := rb
  cases e1; cases e2
  have a1 := h1.read; have a2 := h2.read
  cases a1; cases a2
  exact ⟨i, j, rfl, rfl, hc, flat_end1 S q (hg c.K _ H i j) (hf i j) k⟩
def woI0 (g : Int → Int → D) : WO := fun ra rb Q => ∃ i j, ra.d = .int i ∧ rb.d = .int j ∧ Q ⟨g i j, mA⟩
theorem ops_I0 {g : Int → Int → V} {gd : Int → Int → D} (hg : ∀ K A H i j, RS K A H (g i j) (gd i j)) (hf : ∀ i j, flatD (gd i j) = true) : OpS c (rI0 g) (woI0 gd) := by
  intro L Tm la lb env σ H ra rb x y Qv Q S h1 h2 ⟨i, j, e1, e2, q⟩ k
  obtain ⟨d1, m1⟩ := ra; obtain ⟨d2, m2⟩ := rb
  cases e1; cases e2
  have a1 := h1.read; have a2 := h2.read
  cases a1; cases a2
  exact ⟨i, j, rfl, rfl, flat_end1 S q (hg c.K _ H i j) (hf i j) k⟩
end
end VL
set_option maxRecDepth 100000
set_option maxHeartbeats 4000000
namespace VL
open PySem PySem.Spec PyProof.Rows L2
def wNil : WA := fun env Q _ => Q [] env
def wCons (w : WE) (wa : WA) : WA := fun env Q X => w env (fun r e => wa e (fun rs e' => Q (r :: rs) e') X) X
section
variable {c : Cn} {T T' l : List Addr} {H H' : Hp}
theorem Ress.keep {rs : List R} {vs : List V} (h : Ress c T H rs vs l) (s : Same H H') (g : ∀ b ∈ T', b ∈ T ∨ H b = none) : Ress c T' H' rs vs l := by
  induction h with
  | nil => exact .nil
  | cons r _ ih => exact .cons (r.keep s g) ih
theorem Ress.read {rs : List R} {vs : List V} (h : Ress c T H rs vs l) : RSs c.K (fun _ => True) H vs (rs.map (·.d)) := by
  induction h with
  | nil => exact .nil
  | cons r _ ih => exact .cons r.read ih
theorem Ress.len {rs : List R} {vs : List V} (h : Ress c T H rs vs l) : rs.length = vs.length := by
  induction h with
  | nil => rfl
  | cons r _ ih => simp [ih]
end
section
variable {X : Cx} {c : Cn} {W : WX} {pos : Pos} {w : WE} {wa : WA} {e : Expr} {es : List Expr}
theorem va_nil : PA X [] (rdA c W wNil) := PA.imp pa_nil fun σ H Q h => by
  obtain ⟨env, L, Tm, Qv, X, S, q, k, _⟩ := h
  exact k [] [] [] L env H q (Step.refl S) .nil
theorem va_cons (he : PE X e (rdE c W w)) (hr : PA X es (rdA c W wa)) (hs : starEach (e :: es) X.env = (false, eval e X.env) :: starEach es X.env := by rfl) : PA X (e :: es) (rdA c W (wCons w wa)) := PA.imp (pa_cons he hr hs) fun σ H Q h => by
  obtain ⟨env, L, Tm, Qv, X, S, q, k, kx⟩ := h
  refine ⟨env, L, Tm, _, X, S, q, fun r x la L1 env1 H1 h1 st1 r1 => ?_, kx⟩
  refine ⟨env1, L1, Tm ++ la, _, X, st1.sim, h1, fun rs vs lb L2 env2 H2 h2 st2 r2 => ?_, kx.step st1⟩
  have e := r1.keep st2.same st2.gr
  rw [List.append_assoc] at e r2
  exact k (r :: rs) (x :: vs) (la ++ lb) L2 env2 H2 h2 (st1.trans st2) (.cons e r2)
end
abbrev FSpec := List D → (R → Prop) → (Exn → Prop) → Prop
def spOf (K : PySem.W.Frag) (cl : Str → Option Addr) (S : FSpec) : Sp := fun vs H Q E => ∃ ds P0 Qv X, RSs K P0 H vs ds ∧ S ds Qv X ∧
  (∀ r v l H', Qv r → Same H H' → l.Nodup → (∀ b ∈ l, H b = none ∧ ∃ o, H' b = some o) → Res ⟨K, P0, H, [], cl, [], []⟩ l H' r v l → Q v H') ∧
  (∀ ex cls d H', X ex → Same H H' → ExR ⟨K, P0, H, [], cl, [], []⟩ H' ex cls d → E cls d H')
structure Def (P : Program) (w : World) (K : PySem.W.Frag) (mg : Str → Option Value) (base : Heap) (cl : Str → Option Addr) (x : Str) (n : Nat) (S : FSpec) (k : Nat) : Prop where
  ex : ∃ (f : Addr) (fd : FuncData) (ps : List Str), ps.length = n ∧ FnOk P w K mg base (L2.CX P w) k f fd ps (spOf K cl S) ∧ mg x = some (.ref f) ∧ PySem.W.keepIn K (.ref f) = true ∧ Binds K fd ps []
def isB : Md → Bool
  | .b => true
  | .o _ => false
def outR (rs : List R) (r : R) : R := if rs.any (fun r => isB r.m) = true then (match r.m with | .o none => r | _ => ⟨r.d, .b⟩) else r
def wCall (S : FSpec) (wa : WA) : WE := fun env Q X => wa env (fun rs e => S (rs.map (·.d)) (fun r => Q (outR rs r) e) (fun ex => X ex e)) X
section
variable {c : Cn} {L : List (List Addr)} {Tm l : List Addr} {env : VEnv} {σ : Sg} {H : Hp}
theorem Ress.shared {rs : List R} {vs : List V} {la : List Addr} (h : Ress c (L.flatten ++ (Tm ++ la)) H rs vs l) (hm : rs.any (fun r => isB r.m) = false) (S : Sim c L (Tm ++ la) env σ H) (hl : ∀ b ∈ l, b ∈ la) : RSs c.K (AT c.B (L.flatten ++ Tm)) H vs (rs.map (·.d)) := by
  induction h with
  | nil => exact .nil
  | @cons r rs v vs l1 l2 hr _ ih =>
    simp only [List.any_cons, Bool.or_eq_false_iff] at hm
    obtain ⟨d, m⟩ := r
    cases m with
    | b => simp [isB] at hm
    | o m => exact .cons (hr.shared rfl S fun b hb => hl b (List.mem_append_left _ hb)) (ih hm.2 fun b hb => hl b (List.mem_append_right _ hb))
theorem Res.come {P0 : Addr → Prop} {cl : Str → Option Addr} {H1 : Hp} {r : R} {v : V} (S : Sim c L Tm env σ H) (h : Res ⟨c.K, P0, H, [], cl, [], []⟩ l H1 r v l) (nl : ∀ b ∈ l, H b = none)
    (hp : ∀ b, P0 b → AT c.B (L.flatten ++ Tm) b) : Res c (L.flatten ++ (Tm ++ l)) H1 r v l := by
  obtain ⟨d, m⟩ := r
  cases m with
  | b => exact h
  | o m =>
    refine RO.mono (fun b o a e => ?_) h.dep
    obtain ⟨a1, a2⟩ := a
    have fin : ∀ {x : Addr}, AT c.B (L.flatten ++ Tm) x → x ∉ l → AT c.B (L.flatten ++ (Tm ++ l)) x := fun {x} q n => ⟨q.1, fun z => by
      rw [← List.append_assoc] at z
      exact (List.mem_append.mp z).elim q.2 n⟩
    rcases a1 with a1 | a1 | a1
    · exact fin (hp b a1) a2
    · obtain ⟨o1, o2⟩ := S.nowhere a1
      exact fin ⟨.inr o1, o2⟩ a2
    · cases a1
theorem Res.toAll {P0 : Addr → Prop} {cl : Str → Option Addr} {H0 H1 : Hp} {T T' : List Addr} {d : D} {v : V} (h : Res ⟨c.K, P0, H0, [], cl, [], []⟩ T H1 ⟨d, .o none⟩ v l) : Res c T' H1 ⟨d, .o none⟩ v l := RO.all rfl h.dep
end
section
variable {X : Cx} {c : Cn} {W : WX} {pos p : Pos} {wa : WA} {e : Expr} {es : List Expr} {x : Str} {n k : Nat} {S : FSpec}
theorem rd_call {σ : Sg} {H : Hp} {Q : VK} {K : PySem.W.Frag} {cl : Str → Option Addr} (hK : c.K = K) (hcl : c.cl = cl) (h : rdE c W (wCall S wa) σ H Q) : tCallS (spOf K cl S) (L2.WE W) (rdA c W wa) σ H Q := by
  subst hK; subst hcl
  obtain ⟨env, L, Tm, Qv, X, S0, q, k, kx⟩ := h
  refine ⟨env, L, Tm, _, X, S0, q, fun rs vs l L1 env1 H1 h1 st1 r1 => ?_, kx⟩
  have S1 : Sim c L1 Tm env1 σ H1 := st1.sim0
  have up : ∀ {H' : Hp} {l' : List Addr}, Step c H1 H' (L1.flatten ++ Tm) Tm L1 l' env1 σ → Step c H H' (L.flatten ++ Tm) Tm L1 l' env1 σ := fun z => Step.then st1 (z.wider fun b hb => by rw [← List.append_assoc]; exact List.mem_append_left _ hb)
  have kx' : ∀ ex cls d H', X ex env1 → Same H1 H' → ExR c H' ex cls d → W cls d σ H' := fun ex cls d H' hx s ee => by
    refine kx ex cls d L1 env1 H' hx ?_ ee
    exact up (Step.news (l := []) S1 s List.nodup_nil (fun b hb => by cases hb))
  by_cases hb : rs.any (fun r => isB r.m) = true
  · refine ⟨_, fun _ => True, _, _, r1.read, h1, fun r v l' H' hq s nd nl rr => ?_, fun ex cls d H' hx s ee => kx' ex cls d H' hx s ee⟩
    unfold outR at hq
    rw [if_pos hb] at hq
    obtain ⟨d, m⟩ := r
    match m with
    | .o none => exact k _ v l' L1 env1 H' hq (up (Step.news S1 s nd nl)) rr.toAll
    | .o (some j) => exact k _ v [] L1 env1 H' hq (up (Step.news S1 s nd nl).drop) ⟨rr.read, rfl⟩
    | .b => exact k _ v [] L1 env1 H' hq (up (Step.news S1 s nd nl).drop) ⟨rr.read, rfl⟩
  · have hb' : rs.any (fun r => isB r.m) = false := by simpa using hb
    refine ⟨_, AT c.B (L1.flatten ++ Tm), _, _, r1.shared hb' st1.sim (fun _ z => z), h1, fun r v l' H' hq s nd nl rr => ?_, fun ex cls d H' hx s ee => kx' ex cls d H' hx s ee⟩
    unfold outR at hq
    rw [if_neg hb] at hq
    exact k _ v l' L1 env1 H' hq (up (Step.news S1 s nd nl)) (rr.come S1 (fun b hb => (nl b hb).1) fun _ z => z)
theorem ve_call (hd : Def X.prog X.w X.K X.mg X.base c.cl x n S k) (hr : Room k X.A) (tk : Takes X W) (ha : PA X (e :: es) (rdA c W wa)) (hK : c.K = X.K := by rfl) (hg : Gl X x := by rfl)
    (hdb : (x == ("__debug__" : Str)) = false := by decide) (he : starEach (e :: es) X.env = (false, eval e X.env) :: starEach es X.env := by rfl) (hpl : (backTo pos (starEach es X.env)).any (·.1) = false := by rfl) :
    PE X (.Call (.Name x p) (e :: es) [] pos) (rdE c W (wCall S wa)) := by
  obtain ⟨f, fd, ps, hl, F, hm, hk, hb⟩ := hd.ex
  exact PE.imp (pe_callS F hr hg hm hk hb (fun σ => passAt tk σ) ha hdb he hpl) fun σ H Q => rd_call hK rfl
end
abbrev WF := List R → (R → Prop) → Prop
def CallS (c : Cn) (r : List V → Hp → VK → Prop) (wf : WF) : Prop :=
  ∀ (L : List (List Addr)) (Tm l : List Addr) (env : VEnv) (σ : Sg) (H : Hp) (rs : List R) (vs : List V) (Qv : R → Prop) (Q : VK),
    Sim c L (Tm ++ l) env σ H → Ress c (L.flatten ++ (Tm ++ l)) H rs vs l → wf rs Qv →
    (∀ r v l' H', Qv r → Step c H H' (L.flatten ++ (Tm ++ l)) Tm L l' env σ → Res c (L.flatten ++ (Tm ++ l')) H' r v l' → Q v H') → r vs H Q
def wCB (wf : WF) (wa : WA) : WE := fun env Q X => wa env (fun rs e => wf rs fun r => Q r e) X
section
variable {X : Cx} {c : Cn} {W : WX} {pos p : Pos} {wa : WA} {wf : WF} {e : Expr} {es : List Expr} {x : Str} {r : List V → Hp → VK → Prop}
theorem CallS.or {r r' : List V → Hp → VK → Prop} {w w' : WF} (h : CallS c r w) (h' : CallS c r' w') : CallS c (fun xs H Q => r xs H Q ∨ r' xs H Q) (fun rs Q => w rs Q ∨ w' rs Q) := by
  intro L Tm l env σ H rs vs Qv Q S h1 hw k
  rcases hw with hw | hw
  · exact .inl (h L Tm l env σ H rs vs Qv Q S h1 hw k)
  · exact .inr (h' L Tm l env σ H rs vs Qv Q S h1 hw k)
theorem CallS.imp {w w' : WF} (h : CallS c r w) (q : ∀ rs Q, w' rs Q → w rs Q) : CallS c r w' := fun L Tm l env σ H rs vs Qv Q S h1 hw k => h L Tm l env σ H rs vs Qv Q S h1 (q _ _ hw) k
theorem OpS.imp {r2 : R2} {w w' : WO} (h : OpS c r2 w) (q : ∀ a b Q, w' a b Q → w a b Q) : OpS c r2 w' := fun L Tm la lb env σ H ra rb x y Qv Q S h1 h2 hw k => h L Tm la lb env σ H ra rb x y Qv Q S h1 h2 (q _ _ _ hw) k
theorem rd_cb (hs : CallS c r wf) {σ : Sg} {H : Hp} {Q : VK} (h : rdE c W (wCB wf wa) σ H Q) : tCB r (rdA c W wa) σ H Q := by
  obtain ⟨env, L, Tm, Qv, X, S0, q, k, kx⟩ := h
  refine ⟨env, L, Tm, _, X, S0, q, fun rs vs l L1 env1 H1 h1 st1 r1 => ?_, kx⟩
  exact hs L1 Tm l env1 σ H1 rs vs _ Q st1.sim r1 h1 fun r v l' H' hq st2 r2 => k r v l' L1 env1 H' hq (Step.then st1 st2) r2
theorem ve_callB {id : String} (hc : CallR X (.builtin id) r) (hs : CallS c r wf) (hm : X.mg x = none) (hv : bootBuiltins x = some (.builtin id)) (ha : PA X (e :: es) (rdA c W wa)) (hg : Gl X x := by rfl) (hn : x ≠ "__name__" := by decide) (hdb : (x == ("__debug__" : Str)) = false := by decide)
    (he : starEach (e :: es) X.env = (false, eval e X.env) :: starEach es X.env := by rfl) (hpl : (backTo pos (starEach es X.env)).any (·.1) = false := by rfl) : PE X (.Call (.Name x p) (e :: es) [] pos) (rdE c W (wCB wf wa)) :=
  PE.imp (pe_callB hc hg hm hv ha hn hdb he hpl) fun _ _ _ => rd_cb hs
theorem ve_callTy {T : String} (hc : CallR X (.type T) r) (hs : CallS c r wf) (hm : X.mg x = none) (hv : bootBuiltins x = some (.type T)) (ha : PA X (e :: es) (rdA c W wa)) (hg : Gl X x := by rfl) (hn : x ≠ "__name__" := by decide) (hdb : (x == ("__debug__" : Str)) = false := by decide)
    (he : starEach (e :: es) X.env = (false, eval e X.env) :: starEach es X.env := by rfl) (hpl : (backTo pos (starEach es X.env)).any (·.1) = false := by rfl) : PE X (.Call (.Name x p) (e :: es) [] pos) (rdE c W (wCB wf wa)) :=
  PE.imp (pe_callTy hc hg hm hv ha hn hdb he hpl) fun _ _ _ => rd_cb hs
end
section
variable {c : Cn}
theorem ress1 {T l : List Addr} {H : Hp} {r : R} {vs : List V} (h : Ress c T H [r] vs l) : ∃ v, vs = [v] ∧ Res c T H r v l := by
  cases h with
  | cons h1 h2 => cases h2; exact ⟨_, rfl, by rw [List.append_nil]; exact h1⟩
theorem ress2 {T l : List Addr} {H : Hp} {r r' : R} {vs : List V} (h : Ress c T H [r, r'] vs l) : ∃ v v' l1 l2, vs = [v, v'] ∧ l = l1 ++ l2 ∧ Res c T H r v l1 ∧ Res c T H r' v' l2 := by
  cases h with
  | cons h1 h2 =>
    obtain ⟨v, rfl, h3⟩ := ress1 h2
    exact ⟨_, _, _, _, rfl, rfl, h1, h3⟩
def wLen : WF := fun rs Q => ∃ r, rs = [r] ∧ match r.d with
  | .list ds => Q ⟨.int ds.length, mA⟩
  | .tuple ds => Q ⟨.int ds.length, mA⟩
  | .str z => z.length ≤ sizeLine ∧ Q ⟨.int z.length, mA⟩
  | .dict [(.list [], .list ns)] => Q ⟨.int ns.length, mA⟩
  | _ => False
theorem len_R {X : Cx} : CallR X (.builtin "len") (fun xs H Q => (∃ p ys, xs = [.ref p] ∧ (SqL X.K H p ys ∨ SqT X.K H p ys) ∧ Q (.int ys.length) H) ∨ (∃ z, xs = [.str z] ∧ z.length ≤ sizeLine ∧ Q (.int z.length) H)) := call_len_seq.or call_len_str
theorem script_inv {ds : List (D × D)} {t : Bool} {q : List D} {y : D} {kvs : List (D × V)} {H : Hp} {a : Addr} (h : DictAt H a kvs t) (e : kvs.map (·.1) = ds.map (·.1)) (z : mkDict t ds = .dict [(.list q, y)]) : False := by
  unfold mkDict at z
  cases t with
  | true => simp at z
  | false =>
    simp at z
    subst z
    rcases h with ⟨_, k', _, q⟩ | ⟨q, _⟩
    · subst q
      cases k' with
      | nil => simp at e
      | cons p k' =>
        simp at e
        obtain ⟨p1, p3⟩ := p
        cases p1 with
        | inl i => exact nomatch e.1
        | inr i => exact nomatch e.1
    · cases q
theorem s_len : CallS c (fun xs H Q => (∃ p ys, xs = [.ref p] ∧ (SqL c.K H p ys ∨ SqT c.K H p ys) ∧ Q (.int ys.length) H) ∨ (∃ z, xs = [.str z] ∧ z.length ≤ sizeLine ∧ Q (.int z.length) H)) wLen := by
  intro L Tm l env σ H rs vs Qv Q S h ⟨r, e, q⟩ k
  subst e
  obtain ⟨v, rfl, hr⟩ := ress1 h
  obtain ⟨d, m⟩ := r
  have hr' := hr.read
  simp only at q hr'
  generalize hd : d = d0 at hr'
  cases hr' with
  | non => subst hd; exact q.elim
  | bl b => subst hd; exact q.elim
  | int i => subst hd; exact q.elim
  | str z => subst hd; exact .inr ⟨z, rfl, q.1, flat_end1 S q.2 (.int _) rfl k⟩
  | lst ha _ r => subst hd; refine .inl ⟨_, _, rfl, .inl (SqL.of ha), ?_⟩; rw [r.len]; exact flat_end1 S q (.int _) rfl k
  | tup ha r => subst hd; refine .inl ⟨_, _, rfl, .inr (SqT.of ha), ?_⟩; rw [r.len]; exact flat_end1 S q (.int _) rfl k
  | dct ha _ e r =>
    subst hd
    split at q
    · rename_i z; exact absurd z (by simp [mkDict])
    · rename_i z; exact absurd z (by simp [mkDict])
    · rename_i z; exact absurd z (by simp [mkDict])
    · rename_i z; exact (script_inv ha e z).elim
    · exact q.elim
  | opq a =>
    subst hd
    split at q
    · rename_i z; exact absurd z (by simp [opD])
    · rename_i z; exact absurd z (by simp [opD])
    · rename_i z; exact absurd z (by simp [opD])
    · rename_i z; simp [opD] at z
    · exact q.elim
  | wtp a =>
    subst hd
    split at q
    · rename_i z; exact absurd z (by simp [wtD])
    · rename_i z; exact absurd z (by simp [wtD])
    · rename_i z; exact absurd z (by simp [wtD])
    · rename_i z; simp [wtD] at z
    · exact q.elim
  | shr _ =>
    subst hd
    split at q
    · rename_i z; exact absurd z (by simp [shD])
    · rename_i z; exact absurd z (by simp [shD])
    · rename_i z; exact absurd z (by simp [shD])
    · rename_i z; simp [shD] at z
    · exact q.elim
  | ins _ _ _ _ _ =>
    subst hd
    split at q
    · rename_i z; exact absurd z (by simp [insD])
    · rename_i z; exact absurd z (by simp [insD])
    · rename_i z; exact absurd z (by simp [insD])
    · rename_i z; simp [insD] at z
    · exact q.elim
  | @scr a ns ha =>
    subst hd
    refine .inl ⟨_, _, rfl, .inl ha.seq, ?_⟩
    simp only [scriptD, List.length_map] at q ⊢
    exact flat_end1 S q (.int _) rfl k
def wI2 (g : Int → Int → D) : WF := fun rs Q => ∃ r r' i j, rs = [r, r'] ∧ r.d = .int i ∧ r'.d = .int j ∧ Q ⟨g i j, mA⟩
theorem s_I2 {g : Int → Int → V} {gd : Int → Int → D} (hg : ∀ K A H i j, RS K A H (g i j) (gd i j)) (hf : ∀ i j, flatD (gd i j) = true) : CallS c (fun xs H Q => ∃ i j, xs = [.int i, .int j] ∧ Q (g i j) H) (wI2 gd) := by
  intro L Tm l env σ H rs vs Qv Q S h ⟨r, r', i, j, e, e2, e3, q⟩ k
  subst e
  obtain ⟨v, v', l1, l2, rfl, rfl, hr, hr'⟩ := ress2 h
  obtain ⟨d, m⟩ := r
  obtain ⟨d', m'⟩ := r'
  cases e2; cases e3
  have := hr.read
  cases this
  have := hr'.read
  cases this
  exact ⟨i, j, rfl, flat_end1 S q (hg _ _ _ _ _) (hf i j) k⟩
end
end VL
set_option maxRecDepth 100000
set_option maxHeartbeats 4000000
namespace VL
open PySem PySem.Spec PyProof.Rows L2
def minM : Option Nat → Option Nat → Option Nat
  | none, b => b
  | a, none => a
  | some a, some b => some (min a b)
theorem minM_l (a b : Option Nat) : leM (minM a b) a = true := by
  cases a <;> cases b <;> simp [minM, leM] <;> omega
theorem minM_r (a b : Option Nat) : leM (minM a b) b = true := by
  cases a <;> cases b <;> simp [minM, leM] <;> omega
theorem leM_trans {a b c : Option Nat} (h : leM a b = true) (g : leM b c = true) : leM a c = true := by
  cases a <;> cases b <;> cases c <;> simp [leM] at * <;> omega
def joinM : List R → Option (Option Nat)
  | [] => some none
  | r :: rs => if flatD r.d = true then joinM rs else match r.m with
    | .b => none
    | .o m => (joinM rs).map (minM m)
def kidOk (n : Option Nat) (r : R) : Prop := flatD r.d = true ∨ ∃ m, r.m = .o m ∧ leM n m = true
theorem joinM_ok {rs : List R} {n : Option Nat} (h : joinM rs = some n) : ∀ r ∈ rs, kidOk n r := by
  induction rs generalizing n with
  | nil => intro r hr; cases hr
  | cons r rs ih =>
    unfold joinM at h
    intro r' hr'
    by_cases f : flatD r.d = true
    · rw [if_pos f] at h
      rcases List.mem_cons.mp hr' with rfl | z
      · exact .inl f
      · exact ih h _ z
    · rw [if_neg f] at h
      obtain ⟨d, m⟩ := r
      cases m with
      | b => cases h
      | o m =>
        obtain ⟨k, hk, e⟩ := Option.map_eq_some_iff.mp h
        subst e
        rcases List.mem_cons.mp hr' with rfl | z
        · exact .inr ⟨m, rfl, minM_l m k⟩
        · rcases ih hk _ z with f' | ⟨m', e', q⟩
          · exact .inl f'
          · exact .inr ⟨m', e', leM_trans (minM_r m k) q⟩
section
variable {c : Cn} {T T' l : List Addr} {H H' : Hp}
theorem RO.lower {m n : Option Nat} {v : V} {d : D} (h : RO c.K (AT c.B T) H m v d l) (hn : leM n m = true) (nd : l.Nodup) (hb : ∀ b ∈ l, c.B b) :
    ∃ l' : List Addr, l'.Sublist l ∧ ∀ T' : List Addr, (∀ b ∈ T', b ∈ T) → (∀ b ∈ l, b ∈ T' → b ∈ l') → RO c.K (AT c.B T') H n v d l' := by
  by_cases z : n = some 0
  · subst z
    exact ⟨[], List.nil_sublist _, fun T' h1 h2 => .sh (RO.share (RO.mono (fun b o a _ => AT.less h1 a) h) fun b hb' => ⟨hb b hb', fun q => by have := h2 b hb' q; cases this⟩)⟩
  · exact RO.weak hn z h nd hb
theorem Ress.kids {rs : List R} {vs : List V} {n : Option Nat} (h : Ress c T H rs vs l) (hk : ∀ r ∈ rs, kidOk n r) (nd : l.Nodup) (hb : ∀ b ∈ l, c.B b) :
    ∃ l' : List Addr, l'.Sublist l ∧ ∀ T' : List Addr, (∀ b ∈ T', b ∈ T) → (∀ b ∈ l, b ∈ T' → b ∈ l') → ROs c.K (AT c.B T') H n vs (rs.map (·.d)) l' := by
  induction h with
  | nil => exact ⟨[], List.Sublist.refl _, fun _ _ _ => .nil⟩
  | @cons r rs v vs l1 l2 hr _ ih =>
    have nd' := List.nodup_append.mp nd
    obtain ⟨k2, s2, q2⟩ := ih (fun r hr => hk r (List.mem_cons_of_mem _ hr)) nd'.2.1 fun b hb' => hb b (List.mem_append_right _ hb')
    have h1 : ∃ k1 : List Addr, k1.Sublist l1 ∧ ∀ T' : List Addr, (∀ b ∈ T', b ∈ T) → (∀ b ∈ l1, b ∈ T' → b ∈ k1) → RO c.K (AT c.B T') H n v r.d k1 := by
      rcases hk r List.mem_cons_self with f | ⟨m, e, q⟩
      · exact ⟨[], List.nil_sublist _, fun T' _ _ => .flat (hr.read.flat f) f⟩
      · obtain ⟨d, m'⟩ := r
        cases e
        exact RO.lower hr.dep q nd'.1 fun b hb' => hb b (List.mem_append_left _ hb')
    obtain ⟨k1, s1, q1⟩ := h1
    refine ⟨k1 ++ k2, s1.append s2, fun T' g1 g2 => .cons (q1 T' g1 fun b hb' ht => ?_) (q2 T' g1 fun b hb' ht => ?_)⟩
    · rcases List.mem_append.mp (g2 b (List.mem_append_left _ hb') ht) with e | e
      · exact e
      · exact absurd rfl (nd'.2.2 b hb' b (s2.subset e))
    · rcases List.mem_append.mp (g2 b (List.mem_append_right _ hb') ht) with e | e
      · exact absurd rfl (nd'.2.2 b (s1.subset e) b hb')
      · exact e
theorem ROs.keepT {m : Option Nat} {vs : List V} {ds : List D} (h : ROs c.K (AT c.B T) H m vs ds l) (s : Same H H') (g : ∀ b ∈ T', b ∈ T ∨ H b = none) : ROs c.K (AT c.B T') H' m vs ds l :=
  (ROs.mono (fun b o a e => ⟨a.1, fun z => (g b z).elim a.2 fun n => by rw [e] at n; cases n⟩) h).keep (Kp.same s) fun b _ o e => s b o e
end
section
variable {c : Cn} {L L' : List (List Addr)} {Tm l l' : List Addr} {env : VEnv} {σ : Sg} {H H' : Hp}
theorem kids_ready {rs : List R} {vs : List V} {n : Option Nat} (S : Sim c L (Tm ++ l) env σ H) (h : Ress c (L.flatten ++ (Tm ++ l)) H rs vs l) (hn : joinM rs = some n) :
    ∃ l' : List Addr, l'.Sublist l ∧ ROs c.K (AT c.B (L.flatten ++ (Tm ++ l'))) H n vs (rs.map (·.d)) l' := by
  obtain ⟨nd, hb, hx⟩ := S.tmp
  obtain ⟨l', s, q⟩ := h.kids (joinM_ok hn) nd hb
  refine ⟨l', s, q _ (fun b hb' => ?_) fun b hb1 hb2 => ?_⟩
  · rcases List.mem_append.mp hb' with z | z
    · exact List.mem_append_left _ z
    · rcases List.mem_append.mp z with z | z
      · exact List.mem_append_right _ (List.mem_append_left _ z)
      · exact List.mem_append_right _ (List.mem_append_right _ (s.subset z))
  · rw [← List.append_assoc] at hb2
    exact (List.mem_append.mp hb2).elim (fun z => absurd z (hx b hb1)) id
end
def wLst : WF := fun rs Q => rs.length ≤ 1000 ∧ match joinM rs with
  | some n => Q ⟨.list (rs.map (·.d)), .o (succM n)⟩
  | none => Q ⟨.list (rs.map (·.d)), .b⟩
def wTup : WF := fun rs Q => rs.length ≤ 1000 ∧ match joinM rs with
  | some n => Q ⟨.tuple (rs.map (·.d)), .o n⟩
  | none => Q ⟨.tuple (rs.map (·.d)), .b⟩
section
variable {c : Cn} {W : WX} {X : Cx} {wa : WA} {es : List Expr} {pos : Pos}
theorem le_line {n : Nat} (h : n ≤ 1000) : n ≤ sizeLine := Nat.le_of_lt (small1000 h)
theorem new_end {L : List (List Addr)} {Tm l l' : List Addr} {env : VEnv} {σ : Sg} {H : Hp} {p : Addr} {o : HO} (S : Sim c L (Tm ++ l) env σ H) (np : H p = none) (s : l'.Sublist l) : Step c H (upd H p o) (L.flatten ++ (Tm ++ l)) Tm L (p :: l') env σ := by
  have S' : Sim c L (Tm ++ l') env σ H := S.less ((List.Sublist.refl _).append s)
  have st' := Step.new (o := o) S' np
  refine Step.perm (l := l' ++ [p]) ⟨st'.same, by rw [← List.append_assoc]; exact st'.sim, fun b hb => ?_⟩ (List.perm_append_singleton p l').symm
  rw [← List.append_assoc Tm] at hb
  rcases st'.gr b hb with z | z
  · exact .inl (mem_less (fun b hb => s.subset hb) b z)
  · exact .inr z
theorem s_lst : CallS c (fun xs H Q => xs.length ≤ sizeLine ∧ ∀ p, H p = none → Q (.ref p) (upd H p (.lst xs))) wLst := by
  intro L Tm l env σ H rs vs Qv Q S h ⟨hz, q⟩ k
  refine ⟨by rw [← h.len]; exact le_line hz, fun p np => ?_⟩
  cases hj : joinM rs with
  | none =>
    rw [hj] at q
    exact k _ _ [] _ q (new_end S np (List.nil_sublist _)).drop ⟨.lst upd_same trivial (h.read.keep (Kp.same (same_new np))), rfl⟩
  | some n =>
    rw [hj] at q
    obtain ⟨l', s, r⟩ := kids_ready S h hj
    refine k _ _ (p :: l') _ q (new_end S np s) (RO.lst (pop_succ n) upd_same (ROs.keepT r (same_new np) fun b hb => ?_))
    rcases List.mem_append.mp hb with z | z
    · exact .inl (List.mem_append_left _ z)
    · rcases List.mem_append.mp z with z | z
      · exact .inl (List.mem_append_right _ (List.mem_append_left _ z))
      · rcases List.mem_cons.mp z with z | z
        · subst z; exact .inr np
        · exact .inl (List.mem_append_right _ (List.mem_append_right _ z))
theorem s_tup : CallS c (fun xs H Q => xs.length ≤ sizeLine ∧ ∀ p, H p = none → Q (.ref p) (upd H p (.tup xs))) wTup := by
  intro L Tm l env σ H rs vs Qv Q S h ⟨hz, q⟩ k
  refine ⟨by rw [← h.len]; exact le_line hz, fun p np => ?_⟩
  have tp : (upd H p (.tup vs)) p = some (.tup vs) := upd_same
  cases hj : joinM rs with
  | none =>
    rw [hj] at q
    exact k _ _ [] _ q (new_end S np (List.nil_sublist _)).drop ⟨.tup tp (h.read.keep (Kp.same (same_new np))), rfl⟩
  | some n =>
    rw [hj] at q
    obtain ⟨l', s, r⟩ := kids_ready S h hj
    refine k _ _ l' _ q ((new_end S np s).sub (List.sublist_cons_self p l')) (RO.tup tp (ROs.keepT r (same_new np) fun b hb => .inl hb))
theorem ve_lst (ha : PA X es (rdA c W wa)) : PE X (.List es pos) (rdE c W (wCB wLst wa)) := PE.imp (pe_lst ha) fun _ _ _ => rd_cb s_lst
theorem ve_tup {x1} (ha : PA X es (rdA c W wa)) : PE X (.Tuple es x1 pos) (rdE c W (wCB wTup wa)) := PE.imp (pe_tup ha) fun _ _ _ => rd_cb s_tup
end
end VL
set_option maxRecDepth 100000
set_option maxHeartbeats 4000000
namespace VL
open PySem PySem.Spec PyProof.Rows L2
def kidM : Md → Md
  | .b => .b
  | .o none => .o none
  | .o (some 0) => .o (some 0)
  | .o (some (k + 1)) => .o (some k)
def subL (m : Md) (d : D) : R := if flatD d = true then ⟨d, mA⟩ else ⟨d, kidM m⟩
def subT (m : Md) (d : D) : R := if flatD d = true then ⟨d, mA⟩ else ⟨d, m⟩
section
variable {K : PySem.W.Frag} {A : Addr → Prop} {c : Cn} {T l : List Addr} {H : Hp}
theorem ROs.get : ∀ {m : Option Nat} {vs : List V} {ds : List D} {l : List Addr} {i : Nat} {d : D}, ROs K A H m vs ds l → ds[i]? = some d → ∃ v l', vs[i]? = some v ∧ RO K A H m v d l' ∧ l'.Sublist l
  | _, _, _, _, _, _, .nil, e => by simp at e
  | _, _, _, _, 0, _, .cons h _, e => by simp at e; subst e; exact ⟨_, _, rfl, h, List.sublist_append_left _ _⟩
  | _, _, _, _, i + 1, d, .cons _ r, e => by
    obtain ⟨v, l', h1, h2, h3⟩ := ROs.get (i := i) r (by simpa using e)
    exact ⟨v, l', by simpa using h1, h2, h3.trans (List.sublist_append_right _ _)⟩
theorem ROs.len : ∀ {m : Option Nat} {vs : List V} {ds : List D} {l : List Addr}, ROs K A H m vs ds l → vs.length = ds.length
  | _, _, _, _, .nil => rfl
  | _, _, _, _, .cons _ r => by simp [ROs.len r]
theorem RS.lst_inv {v : V} {ds : List D} (h : RS K A H v (.list ds)) : ∃ a xs, v = .ref a ∧ H a = some (.lst xs) ∧ A a ∧ RSs K A H xs ds := by
  generalize e : PyData.list ds = d at h
  cases h with
  | lst ha a r => cases e; exact ⟨_, _, rfl, ha, a, r⟩
  | dct _ _ _ _ => simp [mkDict] at e
  | scr _ => simp [scriptD] at e
  | opq a => simp [opD] at e
  | wtp a => simp [wtD] at e
  | shr _ => simp [shD] at e
  | ins _ _ _ _ _ => simp [insD] at e
  | _ => cases e
theorem RS.tup_inv {v : V} {ds : List D} (h : RS K A H v (.tuple ds)) : ∃ a xs, v = .ref a ∧ H a = some (.tup xs) ∧ RSs K A H xs ds := by
  generalize e : PyData.tuple ds = d at h
  cases h with
  | tup ha r => cases e; exact ⟨_, _, rfl, ha, r⟩
  | dct _ _ _ _ => simp [mkDict] at e
  | scr _ => simp [scriptD] at e
  | opq a => simp [opD] at e
  | wtp a => simp [wtD] at e
  | shr _ => simp [shD] at e
  | ins _ _ _ _ _ => simp [insD] at e
  | _ => cases e
theorem RO.lst_inv {m : Option Nat} {v : V} {ds : List D} (h : RO K A H m v (.list ds) l) : (m = some 0 ∧ l = [] ∧ RS K A H v (.list ds)) ∨ ∃ n a xs l', popM m = some n ∧ v = .ref a ∧ H a = some (.lst xs) ∧ ROs K A H n xs ds l' ∧ l = a :: l' := by
  generalize e : PyData.list ds = d at h
  cases h with
  | sh r => exact .inl ⟨rfl, rfl, r⟩
  | flat r f => subst e; simp [flatD] at f
  | lst p ha r => cases e; exact .inr ⟨_, _, _, _, p, rfl, ha, r, rfl⟩
  | dct _ _ _ _ => simp [mkDict] at e
  | opq a => simp [opD] at e
  | wtp a => simp [wtD] at e
  | shr _ => simp [shD] at e
  | ins _ _ _ _ _ => simp [insD] at e
  | tup _ _ => cases e
theorem Res.kidL {m : Md} {ds : List D} {v : V} (h : Res c T H ⟨.list ds, m⟩ v l) : ∃ a xs, v = .ref a ∧ H a = some (.lst xs) ∧ xs.length = ds.length ∧
    ∀ (i : Nat) (d : D), ds[i]? = some d → ∃ v' l', xs[i]? = some v' ∧ l'.Sublist l ∧ Res c T H ⟨d, kidM m⟩ v' l' := by
  have sh : ∀ {A : Addr → Prop} {v : V}, RS c.K A H v (.list ds) → ∃ a xs, v = .ref a ∧ H a = some (.lst xs) ∧ xs.length = ds.length ∧ ∀ (i : Nat) (d : D), ds[i]? = some d → ∃ v', xs[i]? = some v' ∧ RS c.K A H v' d := fun {A v} h => by
    obtain ⟨a, xs, e, ha, _, r⟩ := h.lst_inv
    exact ⟨a, xs, e, ha, r.len, fun i d e => r.get e⟩
  cases m with
  | b =>
    obtain ⟨a, xs, e, ha, hl, q⟩ := sh h.1
    exact ⟨a, xs, e, ha, hl, fun i d e => let ⟨v', e', r⟩ := q i d e; ⟨v', [], e', List.nil_sublist _, r, rfl⟩⟩
  | o m =>
    rcases RO.lst_inv h.dep with ⟨rfl, rfl, r⟩ | ⟨n, a, xs, l', p, e, ha, r, rfl⟩
    · obtain ⟨a, xs, e, ha, hl, q⟩ := sh r
      exact ⟨a, xs, e, ha, hl, fun i d e => let ⟨v', e', r⟩ := q i d e; ⟨v', [], e', List.nil_sublist _, RO.sh r⟩⟩
    · refine ⟨a, xs, e, ha, r.len, fun i d e => ?_⟩
      obtain ⟨v', l1, h1, h2, h3⟩ := r.get e
      refine ⟨v', l1, h1, h3.trans (List.sublist_cons_self _ _), ?_⟩
      match m, p with
      | none, p => cases p; exact h2
      | some (k + 1), p => cases p; exact h2
theorem Res.kidT {m : Md} {ds : List D} {v : V} (h : Res c T H ⟨.tuple ds, m⟩ v l) : ∃ a xs, v = .ref a ∧ H a = some (.tup xs) ∧ xs.length = ds.length ∧
    ∀ (i : Nat) (d : D), ds[i]? = some d → ∃ v' l', xs[i]? = some v' ∧ l'.Sublist l ∧ Res c T H ⟨d, m⟩ v' l' := by
  cases m with
  | b =>
    obtain ⟨a, xs, e, ha, r⟩ := h.1.tup_inv
    exact ⟨a, xs, e, ha, r.len, fun i d e => let ⟨v', e', r'⟩ := r.get e; ⟨v', [], e', List.nil_sublist _, r', rfl⟩⟩
  | o m =>
    have h' := h.dep
    generalize e : PyData.tuple ds = d at h'
    cases h' with
    | opq a => simp [opD] at e
    | wtp a => simp [wtD] at e
    | shr _ => simp [shD] at e
    | ins _ _ _ _ _ => simp [insD] at e
    | sh r =>
      subst e
      obtain ⟨a, xs, e, ha, r⟩ := r.tup_inv
      exact ⟨a, xs, e, ha, r.len, fun i d e => let ⟨v', e', r'⟩ := r.get e; ⟨v', [], e', List.nil_sublist _, RO.sh r'⟩⟩
    | flat r f =>
      subst e
      obtain ⟨a, xs, e, ha, r⟩ := r.tup_inv
      have f' : flatAll ds = true := by simpa [flatD] using f
      exact ⟨a, xs, e, ha, r.len, fun i d e => let ⟨v', e', r'⟩ := r.get e; ⟨v', [], e', List.nil_sublist _, RO.flat r' (flat_get f' e)⟩⟩
    | tup ha r =>
      cases e
      exact ⟨_, _, rfl, ha, r.len, fun i d e => let ⟨v', l1, h1, h2, h3⟩ := r.get e; ⟨v', l1, h1, h3, h2⟩⟩
    | lst _ _ _ => cases e
    | dct _ _ _ _ => simp [mkDict] at e
where
  flat_get : ∀ {ds : List D} {i : Nat} {d : D}, flatAll ds = true → ds[i]? = some d → flatD d = true
    | [], _, _, _, e => by simp at e
    | x :: ds, 0, d, f, e => by simp [flatAll] at f e; subst e; exact f.1
    | x :: ds, i + 1, d, f, e => by simp [flatAll] at f e; exact flat_get f.2 e
theorem Res.ofSub {m : Md} {d : D} {v : V} (h : Res c T H ⟨d, m⟩ v l) : ∃ l', l'.Sublist l ∧ Res c T H (if flatD d = true then ⟨d, mA⟩ else ⟨d, m⟩) v l' := by
  by_cases f : flatD d = true
  · rw [if_pos f]; exact ⟨[], List.nil_sublist _, Res.flat h.read f⟩
  · rw [if_neg f]; exact ⟨l, List.Sublist.refl _, h⟩
theorem atI_tr {α β : Type} {xs : List α} {ys : List β} {i : Int} {y : β} (hl : xs.length = ys.length) (h : atI ys i = some y) : ∃ j : Nat, ys[j]? = some y ∧ ∀ x, xs[j]? = some x → atI xs i = some x := by
  unfold atI at h ⊢
  rw [← hl] at h
  cases hj : ixN xs.length i with
  | none => rw [hj] at h; cases h
  | some j => rw [hj] at h; exact ⟨j, h, fun x e => e⟩
end
def wIx : WO := fun ra rb Q => ∃ i, rb.d = .int i ∧ match ra.d with
  | .list ds => ∃ d, atI ds i = some d ∧ Q (subL ra.m d)
  | .tuple ds => ∃ d, atI ds i = some d ∧ Q (subT ra.m d)
  | .str z => z.length ≤ sizeLine ∧ ∃ k, atI z.cps.toList i = some k ∧ Q ⟨.str ⟨#[k]⟩, mA⟩
  | _ => False
section
variable {X : Cx} {c : Cn} {W : WX} {pos : Pos} {wa wb : WE} {a b : Expr}
theorem temp_end {L : List (List Addr)} {Tm l l' : List Addr} {env : VEnv} {σ : Sg} {H : Hp} {r : R} {v : V} {Qv : R → Prop} {Q : VK} (S : Sim c L (Tm ++ l) env σ H) (s : l'.Sublist l) (q : Qv r) (h : Res c (L.flatten ++ (Tm ++ l)) H r v l')
    (k : ∀ r v l' H', Qv r → Step c H H' (L.flatten ++ (Tm ++ l)) Tm L l' env σ → Res c (L.flatten ++ (Tm ++ l')) H' r v l' → Q v H') : Q v H :=
  k r v l' H q ⟨Same.refl H, S.less ((List.Sublist.refl _).append s), fun b hb => .inl (mem_less (fun b hb => s.subset hb) b hb)⟩ (h.keep (Same.refl H) fun b hb => .inl (mem_less (fun b hb => s.subset hb) b hb))
theorem s_ix : OpS c (rIx c.K) wIx := by
  intro L Tm la lb env σ H ra rb x y Qv Q S h1 h2 ⟨i, e2, q⟩ k
  obtain ⟨d, m⟩ := ra
  obtain ⟨d2, m2⟩ := rb
  cases e2
  have r2 := h2.read
  cases r2
  have sub : ∀ {l' : List Addr}, l'.Sublist la → l'.Sublist (la ++ lb) := fun s => s.trans (List.sublist_append_left _ _)
  match d, q with
  | .list ds, ⟨d, e, q⟩ =>
    obtain ⟨a, xs, rfl, ha, hl, g⟩ := Res.kidL (ds := ds) (m := m) h1
    obtain ⟨j, e1, e2⟩ := atI_tr hl e
    obtain ⟨v', l', e3, s, r⟩ := g j d e1
    obtain ⟨l'', s', r'⟩ := r.ofSub
    exact .inl ⟨a, xs, i, v', rfl, rfl, SqL.of ha, e2 v' e3, temp_end S (sub (s'.trans s)) q r' k⟩
  | .tuple ds, ⟨d, e, q⟩ =>
    obtain ⟨a, xs, rfl, ha, hl, g⟩ := Res.kidT (ds := ds) (m := m) h1
    obtain ⟨j, e1, e2⟩ := atI_tr hl e
    obtain ⟨v', l', e3, s, r⟩ := g j d e1
    obtain ⟨l'', s', r'⟩ := r.ofSub
    exact .inr (.inl ⟨a, xs, i, v', rfl, rfl, SqT.of ha, e2 v' e3, temp_end S (sub (s'.trans s)) q r' k⟩)
  | .str z, ⟨hz, kk, e, q⟩ =>
    have := h1.read
    cases this
    exact .inr (.inr ⟨z, i, kk, rfl, rfl, hz, e, flat_end1 S q (.str _) rfl k⟩)
theorem ve_ix (ha : PE X a (rdE c W wa)) (hb : PE X b (rdE c W wb)) (hK : c.K = X.K := by rfl) (hs : PlainIx b := by exact fun _ _ => rfl) : PE X (.Subscript a b pos) (rdE c W (wBin wIx wa wb)) :=
  PE.imp (pe_ix ix_seq ha hb hs) fun _ _ _ => by rw [← hK]; exact rd_bin s_ix
end
def cpR (ds : List D) (b : Bool) : R := ⟨.list ds, if flatAll ds = true then mA else if b = true then .b else .o (some 1)⟩
section
variable {c : Cn} {L : List (List Addr)} {Tm l : List Addr} {env : VEnv} {σ : Sg} {H : Hp} {Qv : R → Prop} {Q : VK}
theorem flat_kids {K : PySem.W.Frag} {A A' : Addr → Prop} {xs : List V} {ds : List D} (h : RSs K A H xs ds) (f : flatAll ds = true) : ROs K A' H none xs ds [] := by
  induction xs generalizing ds with
  | nil => cases h; exact .nil
  | cons x xs ih =>
    cases h with
    | cons h r =>
      simp only [flatAll, Bool.and_eq_true] at f
      exact .cons (l1 := []) (l2 := []) (.flat (h.flat f.1) f.1) (ih r f.2)
theorem cp_end {p : Addr} {xs : List V} {ds : List D} {b : Bool} (S : Sim c L (Tm ++ l) env σ H) (np : H p = none) (h : RSs c.K (fun _ => True) H xs ds) (h' : b = false → RSs c.K (AT c.B (L.flatten ++ Tm)) H xs ds) (q : Qv (cpR ds b))
    (k : ∀ r v l' H', Qv r → Step c H H' (L.flatten ++ (Tm ++ l)) Tm L l' env σ → Res c (L.flatten ++ (Tm ++ l')) H' r v l' → Q v H') : Q (.ref p) (upd H p (.lst xs)) := by
  have s := same_new (o := .lst xs) np
  unfold cpR at q
  have st := new_end (o := .lst xs) S np (List.nil_sublist l)
  by_cases f : flatAll ds = true
  · rw [if_pos f] at q
    exact k _ _ [p] _ q st (RO.lst (by rfl) upd_same (flat_kids (h.keep (Kp.same s)) f))
  · rw [if_neg f] at q
    cases b with
    | true => exact k _ _ [] _ q st.drop ⟨.lst upd_same trivial (h.keep (Kp.same s)), rfl⟩
    | false =>
      refine k _ _ [p] _ q st (RO.lst (n := some 0) (by rfl) upd_same (ROs.toSh (((h' rfl).mono fun b o a e => ⟨a.1, fun z => ?_⟩).keep (Kp.same s))))
      rw [← List.append_assoc] at z
      rcases List.mem_append.mp z with z | z
      · exact a.2 z
      · simp at z; subst z; rw [np] at e; cases e
end
end VL
set_option maxRecDepth 100000
set_option maxHeartbeats 4000000
namespace VL
open PySem PySem.Spec PyProof.Rows L2
section
variable {c : Cn}
def woAdd : WO := fun ra rb Q => match ra.d, rb.d with
  | .int i, .int j => Q ⟨.int (i + j), mA⟩
  | .str x, .str y => x.length + y.length ≤ sizeLine ∧ Q ⟨.str (x ++ y), mA⟩
  | .list xs, .list ys => xs.length + ys.length ≤ sizeLine ∧ Q (cpR (xs ++ ys) (isB ra.m || isB rb.m))
  | _, _ => False
def rAdd : R2 := fun x y H Q => rI0 (fun i j => .int (i + j)) x y H Q ∨ (∃ i j, x = .str i ∧ y = .str j ∧ i.length + j.length ≤ sizeLine ∧ Q (.str (i ++ j)) H) ∨ rCat x y H Q
theorem op_add3 {X : Cx} : OpR X (binaryOp .Add) rAdd := op_add.or (op_add_str.or op_cat)
theorem Res.lstS {L : List (List Addr)} {Tm l la : List Addr} {env : VEnv} {σ : Sg} {H : Hp} {ds : List D} {m : Md} {v : V} (h : Res c (L.flatten ++ (Tm ++ la)) H ⟨.list ds, m⟩ v l) (hm : isB m = false) (S : Sim c L (Tm ++ la) env σ H) (hl : ∀ b ∈ l, b ∈ la) :
    ∃ a xs, v = .ref a ∧ H a = some (.lst xs) ∧ RSs c.K (AT c.B (L.flatten ++ Tm)) H xs ds := by
  cases m with
  | b => cases hm
  | o m =>
    obtain ⟨a, xs, e, ha, _, r⟩ := (Res.shared (m := m) h rfl S hl).lst_inv
    exact ⟨a, xs, e, ha, r⟩
theorem s_add : OpS c rAdd woAdd := by
  intro L Tm la lb env σ H ra rb x y Qv Q S h1 h2 q k
  obtain ⟨d1, m1⟩ := ra
  obtain ⟨d2, m2⟩ := rb
  have r1 := h1.read
  have r2 := h2.read
  unfold woAdd at q
  simp only at q r1 r2
  split at q
  · cases r1; cases r2
    exact .inl ⟨_, _, rfl, rfl, flat_end1 S q (.int _) rfl k⟩
  · cases r1; cases r2
    exact .inr (.inl ⟨_, _, rfl, rfl, q.1, flat_end1 S q.2 (.str _) rfl k⟩)
  · rename_i xs ys
    obtain ⟨a, us, rfl, ha, _, r1'⟩ := r1.lst_inv
    obtain ⟨b, ws, rfl, hb, _, r2'⟩ := r2.lst_inv
    refine .inr (.inr ⟨a, b, us, ws, rfl, rfl, ha, hb, by rw [r1'.len, r2'.len]; exact q.1, fun p np => ?_⟩)
    refine cp_end S np (RSs.append r1' r2') (fun hm => ?_) q.2 k
    simp only [Bool.or_eq_false_iff] at hm
    obtain ⟨a', us', e1, ha', s1⟩ := Res.lstS (m := m1) h1 hm.1 S fun b hb => List.mem_append_left _ hb
    obtain ⟨b', ws', e2, hb', s2⟩ := Res.lstS (m := m2) h2 hm.2 S fun b hb => List.mem_append_right _ hb
    cases e1; cases e2
    rw [ha] at ha'; cases ha'
    rw [hb] at hb'; cases hb'
    exact RSs.append s1 s2
  · exact q.elim
def woMul : WO := fun ra rb Q => match ra.d, rb.d with
  | .int i, .int j => (CMul i j ∨ CMulW i j) ∧ Q ⟨.int (i * j), mA⟩
  | .list xs, .int k => -(2 ^ 63) ≤ k ∧ k < 2 ^ 63 ∧ xs.length * k.toNat ≤ sizeLine ∧ Q (cpR (List.replicate k.toNat xs).flatten (isB ra.m))
  | _, _ => False
def rMul : R2 := fun x y H Q => rI CMul (fun i j => .int (i * j)) x y H Q ∨ rI CMulW (fun i j => .int (i * j)) x y H Q ∨ rRep x y H Q
theorem op_mul3 {X : Cx} : OpR X (binaryOp .Mult) rMul := op_mul.or (op_mulW.or op_rep)
theorem s_mul : OpS c rMul woMul := by
  intro L Tm la lb env σ H ra rb x y Qv Q S h1 h2 q k
  obtain ⟨d1, m1⟩ := ra
  obtain ⟨d2, m2⟩ := rb
  have r1 := h1.read
  have r2 := h2.read
  unfold woMul at q
  simp only at q r1 r2
  split at q
  · cases r1; cases r2
    rcases q.1 with z | z
    · exact .inl ⟨_, _, rfl, rfl, z, flat_end1 S q.2 (.int _) rfl k⟩
    · exact .inr (.inl ⟨_, _, rfl, rfl, z, flat_end1 S q.2 (.int _) rfl k⟩)
  · rename_i xs kk
    cases r2
    obtain ⟨a, us, rfl, ha, _, r1'⟩ := r1.lst_inv
    refine .inr (.inr ⟨a, kk, us, rfl, rfl, ha, q.1, q.2.1, by rw [r1'.len]; exact q.2.2.1, fun p np => ?_⟩)
    refine cp_end S np (RSs.rep r1' _) (fun hm => ?_) q.2.2.2 k
    obtain ⟨a', us', e1, ha', s1⟩ := Res.lstS (m := m1) h1 hm S fun b hb => List.mem_append_left _ hb
    cases e1
    rw [ha] at ha'; cases ha'
    exact RSs.rep s1 _
  · exact q.elim
end
section
variable {X : Cx} {c : Cn} {W : WX} {pos : Pos} {wa wb : WE} {a b : Expr}
theorem ve_add (ha : PE X a (rdE c W wa)) (hb : PE X b (rdE c W wb)) : PE X (.BinOp a .Add b pos) (rdE c W (wBin woAdd wa wb)) := ve_op op_add3 s_add ha hb
theorem ve_mul (ha : PE X a (rdE c W wa)) (hb : PE X b (rdE c W wb)) : PE X (.BinOp a .Mult b pos) (rdE c W (wBin woMul wa wb)) := ve_op op_mul3 s_mul ha hb
def woSub : WO := woI0 fun i j => .int (i - j)
theorem ve_sub (ha : PE X a (rdE c W wa)) (hb : PE X b (rdE c W wb)) : PE X (.BinOp a .Sub b pos) (rdE c W (wBin woSub wa wb)) := ve_op op_sub (ops_I0 (fun _ _ _ _ _ => .int _) fun _ _ => rfl) ha hb
def woMod : WO := woI (fun _ j => 0 < j) fun i j => .int (i % j)
theorem ve_mod (ha : PE X a (rdE c W wa)) (hb : PE X b (rdE c W wb)) : PE X (.BinOp a .Mod b pos) (rdE c W (wBin woMod wa wb)) := ve_op op_mod (ops_I (fun _ _ _ _ _ => .int _) fun _ _ => rfl) ha hb
def woFd : WO := woI (fun i j => CDiv i j ∨ CDivW i j) fun i j => .int (i / j)
theorem op_fd {X : Cx} : OpR X (binaryOp .FloorDiv) (rI (fun i j => CDiv i j ∨ CDivW i j) fun i j => .int (i / j)) := by
  intro pins s σ H x y v u Q I rx ry ⟨i, j, e1, e2, hc, q⟩
  rcases hc with hc | hc
  · exact op_fdiv pins s σ H x y v u Q I rx ry ⟨i, j, e1, e2, hc, q⟩
  · exact op_fdivW pins s σ H x y v u Q I rx ry ⟨i, j, e1, e2, hc, q⟩
theorem ve_fd (ha : PE X a (rdE c W wa)) (hb : PE X b (rdE c W wb)) : PE X (.BinOp a .FloorDiv b pos) (rdE c W (wBin woFd wa wb)) := ve_op op_fd (ops_I (fun _ _ _ _ _ => .int _) fun _ _ => rfl) ha hb
def woPow : WO := woI CPow fun i j => .int (i ^ j.toNat)
theorem ve_pow (ha : PE X a (rdE c W wa)) (hb : PE X b (rdE c W wb)) : PE X (.BinOp a .Pow b pos) (rdE c W (wBin woPow wa wb)) := ve_op op_pow (ops_I (fun _ _ _ _ _ => .int _) fun _ _ => rfl) ha hb
def wNeg (w : WE) : WE := fun env Q X => w env (fun r e => ∃ i, r.d = .int i ∧ Q ⟨.int (-i), mA⟩ e) X
theorem rd_un {r1 : V → Hp → VK → Prop} {w : WE} {g : R → (D → Prop) → Prop} (hg : ∀ (c : Cn) T H r v l (Qd : D → Prop) (Q : VK), Res c T H r v l → g r Qd → (∀ d v, Qd d → flatD d = true → RS c.K (fun _ => True) H v d → Q v H) → r1 v H Q)
    {σ : Sg} {H : Hp} {Q : VK} (h : rdE c W (fun env Q X => w env (fun r e => g r fun d => Q ⟨d, mA⟩ e) X) σ H Q) : tUn r1 (rdE c W w) σ H Q := by
  obtain ⟨env, L, Tm, Qv, X, S, q, k, kx⟩ := h
  refine ⟨env, L, Tm, _, X, S, q, fun r v l L1 env1 H1 h1 st r1' => ?_, kx⟩
  exact hg c _ H1 r v l _ Q r1' h1 fun d v q f rs => k ⟨d, mA⟩ v [] L1 env1 H1 q st.drop (Res.flat rs f)
theorem ve_neg (ha : PE X a (rdE c W wa)) : PE X (.UnaryOp .USub a pos) (rdE c W (wNeg wa)) := PE.imp (pe_un un_neg ha) fun σ H Q h => by
  refine rd_un (g := fun r Q => ∃ i, r.d = .int i ∧ Q (.int (-i))) (fun c T H r v l Qd Q hr ⟨i, e, q⟩ k => ?_) h
  obtain ⟨d, m⟩ := r
  cases e
  have := hr.read
  cases this
  exact ⟨i, rfl, k _ _ q rfl (.int _)⟩
end
def scalD : D → D → Option Bool
  | .int i, .int j => some (decide (i = j))
  | .str x, .str y => some (decide (x = y))
  | .bool a, .bool b => some (decide (a = b))
  | .none, .none => some true
  | .none, .int _ => some false | .int _, .none => some false
  | .none, .bool _ => some false | .bool _, .none => some false
  | .none, .str _ => some false | .str _, .none => some false
  | .int _, .str _ => some false | .str _, .int _ => some false
  | .bool _, .str _ => some false | .str _, .bool _ => some false
  | _, _ => none
def woEq : WO := fun ra rb Q => match scalD ra.d rb.d with
  | some b => Q ⟨.bool b, mA⟩
  | none => SeqAt.shaped ra.d = true ∧ SeqAt.shaped rb.d = true ∧ Q ⟨.bool (PyData.eqv ra.d rb.d), mA⟩
def woNe : WO := fun ra rb Q => match scalD ra.d rb.d with
  | some b => Q ⟨.bool (!b), mA⟩
  | none => SeqAt.shaped ra.d = true ∧ SeqAt.shaped rb.d = true ∧ Q ⟨.bool (!PyData.eqv ra.d rb.d), mA⟩
section
variable {c : Cn}
theorem scal_sound {K : PySem.W.Frag} {A : Addr → Prop} {H : Hp} {x y : V} {d e : D} {b : Bool} (h1 : RS K A H x d) (h2 : RS K A H y e) (h : scalD d e = some b) : scal x y = true ∧ decide (x = y) = b := by
  unfold scalD at h
  split at h <;> first | (cases h1; cases h2; cases h; simp [scal]; done) | cases h
theorem s_eq : OpS c (fun x y H Q => rEq x y H Q ∨ rEqD c.K x y H Q) woEq := by
  intro L Tm la lb env σ H ra rb x y Qv Q S h1 h2 q k
  unfold woEq at q
  cases hs : scalD ra.d rb.d with
  | some b =>
    rw [hs] at q
    obtain ⟨e1, e2⟩ := scal_sound h1.read h2.read hs
    refine .inl ⟨e1, ?_⟩
    rw [e2]
    exact flat_end1 S q (.bl _) rfl k
  | none =>
    rw [hs] at q
    obtain ⟨s1, s2, q⟩ := q
    exact .inr ⟨ra.d, rb.d, h1.read.dp (SeqAt.canLay_of_shaped s1), h2.read.dp (SeqAt.canLay_of_shaped s2), s1, s2, flat_end1 S q (.bl _) rfl k⟩
theorem s_ne : OpS c (fun x y H Q => rNe x y H Q ∨ rNeD c.K x y H Q) woNe := by
  intro L Tm la lb env σ H ra rb x y Qv Q S h1 h2 q k
  unfold woNe at q
  cases hs : scalD ra.d rb.d with
  | some b =>
    rw [hs] at q
    obtain ⟨e1, e2⟩ := scal_sound h1.read h2.read hs
    refine .inl ⟨e1, ?_⟩
    rw [e2]
    exact flat_end1 S q (.bl _) rfl k
  | none =>
    rw [hs] at q
    obtain ⟨s1, s2, q⟩ := q
    exact .inr ⟨ra.d, rb.d, h1.read.dp (SeqAt.canLay_of_shaped s1), h2.read.dp (SeqAt.canLay_of_shaped s2), s1, s2, flat_end1 S q (.bl _) rfl k⟩
def isNon : D → Bool
  | .none => true
  | _ => false
def woNotN : WO := fun ra rb Q => rb.d = .none ∧ Q ⟨.bool (!isNon ra.d), mA⟩
theorem non_sound {K : PySem.W.Frag} {A : Addr → Prop} {H : Hp} {x : V} {d : D} (h : RS K A H x d) : decide (x = .non) = isNon d := by
  cases h <;> simp [isNon, mkDict, scriptD, opD, insD, wtD, shD]
theorem s_notN : OpS c (fun x y H Q => y = .non ∧ Q (.bl (!decide (x = .non))) H) woNotN := by
  intro L Tm la lb env σ H ra rb x y Qv Q S h1 h2 ⟨e, q⟩ k
  obtain ⟨d2, m2⟩ := rb
  cases e
  have := h2.read
  cases this
  refine ⟨rfl, ?_⟩
  rw [non_sound h1.read]
  exact flat_end1 S q (.bl _) rfl k
end
section
variable {X : Cx} {c : Cn} {W : WX} {pos : Pos} {wa wb : WE} {a b : Expr}
def woLt : WO := woI0 fun i j => .bool (decide (i < j))
def woLe : WO := woI0 fun i j => .bool (decide (i ≤ j))
def woGt : WO := woI0 fun i j => .bool (decide (j < i))
theorem s_lt : OpS c (rI0 fun i j => .bl (decide (i < j))) woLt := ops_I0 (fun _ _ _ _ _ => .bl _) fun _ _ => rfl
theorem s_le : OpS c (rI0 fun i j => .bl (decide (i ≤ j))) woLe := ops_I0 (fun _ _ _ _ _ => .bl _) fun _ _ => rfl
theorem s_gt : OpS c (rI0 fun i j => .bl (decide (j < i))) woGt := ops_I0 (fun _ _ _ _ _ => .bl _) fun _ _ => rfl
structure CmpOk (X : Cx) (c : Cn) (op : CmpOp) (wo : WO) : Prop where
  ok : ∃ r2, OpR X (compareOp op) r2 ∧ OpS c r2 wo
theorem c_lt : CmpOk X c .Lt woLt := ⟨_, op_lt, s_lt⟩
theorem c_le : CmpOk X c .LtE woLe := ⟨_, op_le, s_le⟩
theorem c_gt : CmpOk X c .Gt woGt := ⟨_, op_gt, s_gt⟩
theorem c_eq {k : Nat} (hr : Room k X.A) (hK : c.K = X.K := by rfl) : CmpOk X c .Eq woEq := ⟨_, op_eq.or (op_eqD hr.units), by rw [← hK]; exact s_eq⟩
theorem c_ne {k : Nat} (hr : Room k X.A) (hK : c.K = X.K := by rfl) : CmpOk X c .NotEq woNe := ⟨_, op_ne.or (op_neD hr.units), by rw [← hK]; exact s_ne⟩
theorem c_notN : CmpOk X c .IsNot woNotN := ⟨_, op_notN, s_notN⟩
theorem ve_c {op : CmpOp} {wo : WO} (h : CmpOk X c op wo) (ha : PE X a (rdE c W wa)) (hb : PE X b (rdE c W wb)) (hm : behindInMarks op b = false := by first | exact nomark _ | with_unfolding_all rfl) : PE X (.Compare a [op] [b] pos) (rdE c W (wBin wo wa wb)) := by
  obtain ⟨r2, ho, hs⟩ := h.ok
  exact ve_cmp ho hs ha hb hm
theorem vt_c {op : CmpOp} {wo : WO} (h : CmpOk X c op wo) (ha : PE X a (rdE c W wa)) (hb : PE X b (rdE c W wb)) (hm : behindInMarks op b = false := by first | exact nomark _ | with_unfolding_all rfl) : PT X (.Compare a [op] [b] pos) (rdT c W (wTest (wBin wo wa wb))) := by
  obtain ⟨r2, ho, hs⟩ := h.ok
  exact vt_cmp ho hs ha hb hm
end
def wAnd (w u : WT) : WT := fun env Q X => w env (fun b e => if b = true then u e Q X else Q false e) X
def wOr (w u : WT) : WT := fun env Q X => w env (fun b e => if b = true then Q true e else u e Q X) X
def wNot (w : WT) : WT := fun env Q X => w env (fun b e => Q (!b) e) X
def wAndV (wa wb : WE) : WE := fun env Q X => wa env (fun r e => ∃ b, r.d = .bool b ∧ if b = true then wb e Q X else Q ⟨.bool false, mA⟩ e) X
def wNotV (wa : WE) : WE := fun env Q X => wa env (fun r e => ∃ b, r.d = .bool b ∧ Q ⟨.bool (!b), mA⟩ e) X
section
variable {X : Cx} {c : Cn} {W : WX} {pos : Pos} {wa wb : WE} {w u : WT} {a b : Expr} {rest : List Expr}
theorem Kont.next {σ : Sg} {L L1 : List (List Addr)} {Tm la : List Addr} {H H1 : Hp} {env1 : VEnv} {Qv : R → VEnv → Prop} {Q : VK} (k : Kont c σ L Tm H Qv Q) (st : Step c H H1 (L.flatten ++ Tm) Tm L1 la env1 σ) : Kont c σ L1 Tm H1 Qv Q :=
  fun r v l L' env' H' q s r' => k r v l L' env' H' q (Step.then st (s.wider fun b hb => by rw [← List.append_assoc]; exact List.mem_append_left _ hb)) r'
theorem KontX.next {σ : Sg} {L L1 : List (List Addr)} {Tm la : List Addr} {H H1 : Hp} {env1 : VEnv} {X : Exn → VEnv → Prop} {W : WX} (k : KontX c σ L Tm H X W) (st : Step c H H1 (L.flatten ++ Tm) Tm L1 la env1 σ) : KontX c σ L1 Tm H1 X W :=
  fun ex cls d L' env' H' hx s e => k ex cls d L' env' H' hx (Step.then st (s.wider fun b hb => by rw [← List.append_assoc]; exact List.mem_append_left _ hb)) e
theorem vw_and1 (ha : PT X a (rdT c W w)) : PW X (.BoolOp .And [a] pos) (rdT c W w) := pw_and1 ha
theorem vw_or1 (ha : PT X a (rdT c W w)) : PW X (.BoolOp .Or [a] pos) (rdT c W w) := pw_or1 ha
theorem vw_and (ha : PT X a (rdT c W w)) (hb : PW X (.BoolOp .And (b :: rest) pos) (rdT c W u)) : PW X (.BoolOp .And (a :: b :: rest) pos) (rdT c W (wAnd w u)) := PW.imp (pw_and ha hb) fun σ H Q h => by
  obtain ⟨env, L, Tm, Qv, X, S, q, k, kx⟩ := h
  refine ⟨env, L, Tm, _, X, S, q, fun b L1 env1 H1 h1 st => ?_, kx⟩
  cases b with
  | true => exact ⟨env1, L1, Tm, Qv, X, st.sim0, h1, fun b L2 env2 H2 h2 st2 => k b L2 env2 H2 h2 (Step.then st (st2.wider fun b hb => by rw [← List.append_assoc]; exact List.mem_append_left _ hb)), kx.next st⟩
  | false => exact k false L1 env1 H1 h1 st
theorem vw_or (ha : PT X a (rdT c W w)) (hb : PW X (.BoolOp .Or (b :: rest) pos) (rdT c W u)) : PW X (.BoolOp .Or (a :: b :: rest) pos) (rdT c W (wOr w u)) := PW.imp (pw_or ha hb) fun σ H Q h => by
  obtain ⟨env, L, Tm, Qv, X, S, q, k, kx⟩ := h
  refine ⟨env, L, Tm, _, X, S, q, fun b L1 env1 H1 h1 st => ?_, kx⟩
  cases b with
  | false => exact ⟨env1, L1, Tm, Qv, X, st.sim0, h1, fun b L2 env2 H2 h2 st2 => k b L2 env2 H2 h2 (Step.then st (st2.wider fun b hb => by rw [← List.append_assoc]; exact List.mem_append_left _ hb)), kx.next st⟩
  | true => exact k true L1 env1 H1 h1 st
theorem vt_not (ha : PT X a (rdT c W w)) : PT X (.UnaryOp .Not a pos) (rdT c W (wNot w)) := PT.imp (pt_not ha) fun σ H Q h => by
  obtain ⟨env, L, Tm, Qv, X, S, q, k, kx⟩ := h
  exact ⟨env, L, Tm, _, X, S, q, fun b L1 env1 H1 h1 st => k (!b) L1 env1 H1 h1 st, kx⟩
theorem ve_one {op} (ha : PE X a (rdE c W wa)) : PE X (.BoolOp op [a] pos) (rdE c W wa) := pe_one ha
theorem ve_and (ha : PE X a (rdE c W wa)) (hb : PE X (.BoolOp .And (b :: rest) pos) (rdE c W wb)) : PE X (.BoolOp .And (a :: b :: rest) pos) (rdE c W (wAndV wa wb)) := PE.imp (pe_and ha hb) fun σ H Q h => by
  obtain ⟨env, L, Tm, Qv, X, S, q, k, kx⟩ := h
  refine ⟨env, L, Tm, _, X, S, q, fun r v l L1 env1 H1 ⟨b, e, h1⟩ st hr => ?_, kx⟩
  obtain ⟨d, m⟩ := r
  cases e
  have := hr.read
  cases this
  refine ⟨b, rfl, ?_⟩
  cases b with
  | true => exact ⟨env1, L1, Tm, Qv, X, st.sim0, h1, k.next st, kx.next st⟩
  | false => exact k _ _ [] L1 env1 H1 h1 st.drop (Res.flat (A := fun _ => True) (.bl _) rfl)
theorem ve_not (ha : PE X a (rdE c W wa)) : PE X (.UnaryOp .Not a pos) (rdE c W (wNotV wa)) := PE.imp (pe_not ha) fun σ H Q h => by
  obtain ⟨env, L, Tm, Qv, X, S, q, k, kx⟩ := h
  refine ⟨env, L, Tm, _, X, S, q, fun r v l L1 env1 H1 ⟨b, e, h1⟩ st hr => ?_, kx⟩
  obtain ⟨d, m⟩ := r
  cases e
  have := hr.read
  cases this
  exact ⟨b, rfl, k _ _ [] L1 env1 H1 h1 st.drop (Res.flat (A := fun _ => True) (.bl _) rfl)⟩
end
end VL
set_option maxRecDepth 100000
set_option maxHeartbeats 4000000
namespace VL
open PySem PySem.Spec PyProof.Rows L2
def NavP (H : Hp) : V → List Int → V → Prop
  | v, [], w => w = v
  | v, i :: p, w => ∃ a xs u, v = .ref a ∧ (H a = some (.lst xs) ∨ H a = some (.tup xs)) ∧ atI xs i = some u ∧ NavP H u p w
def depP : Option Nat → D → List Int → Option (Option Nat)
  | m, _, [] => some m
  | m, .list ds, i :: p => (popM m).bind fun n => (atI ds i).bind fun d => depP n d p
  | m, .tuple ds, i :: p => (atI ds i).bind fun d => depP m d p
  | _, _, _ => none
def getP : D → List Int → Option D
  | d, [] => some d
  | .list ds, i :: p => (atI ds i).bind fun d => getP d p
  | .tuple ds, i :: p => (atI ds i).bind fun d => getP d p
  | _, _ => none
def setP : D → List Int → D → Option D
  | _, [], e => some e
  | .list ds, i :: p, e => (ixN ds.length i).bind fun j => (ds[j]?).bind fun d => (setP d p e).map fun d' => .list (ds.set j d')
  | .tuple ds, i :: p, e => (ixN ds.length i).bind fun j => (ds[j]?).bind fun d => (setP d p e).map fun d' => .tuple (ds.set j d')
  | _, _, _ => none
section
variable {K : PySem.W.Frag} {A A' : Addr → Prop} {H H' : Hp}
theorem flat_kidsM {m : Option Nat} {xs : List V} {ds : List D} (h : RSs K A H xs ds) (f : flatAll ds = true) : ROs K A' H m xs ds [] := by
  induction xs generalizing ds with
  | nil => cases h; exact .nil
  | cons x xs ih =>
    cases h with
    | cons h r =>
      simp only [flatAll, Bool.and_eq_true] at f
      exact .cons (l1 := []) (l2 := []) (.flat (h.flat f.1) f.1) (ih r f.2)
theorem RO.tup_inv {m : Option Nat} {v : V} {ds : List D} {l : List Addr} (h : RO K A H m v (.tuple ds) l) : ∃ a xs, v = .ref a ∧ H a = some (.tup xs) ∧ ROs K A H m xs ds l := by
  generalize e : PyData.tuple ds = d at h
  cases h with
  | sh r => subst e; obtain ⟨a, xs, q, ha, r⟩ := r.tup_inv; exact ⟨a, xs, q, ha, ROs.toSh r⟩
  | flat r f => subst e; obtain ⟨a, xs, q, ha, r⟩ := r.tup_inv; exact ⟨a, xs, q, ha, flat_kidsM r (by simpa [flatD] using f)⟩
  | tup ha r => cases e; exact ⟨_, _, rfl, ha, r⟩
  | lst _ _ _ => cases e
  | dct _ _ _ _ => simp [mkDict] at e
  | opq a => simp [opD] at e
  | wtp a => simp [wtD] at e
  | shr _ => simp [shD] at e
  | ins _ _ _ _ _ => simp [insD] at e
theorem ROs.split : ∀ {m : Option Nat} {xs : List V} {ds : List D} {l : List Addr} {j : Nat} {d : D}, ROs K A H m xs ds l → ds[j]? = some d →
    ∃ u lj lr, xs[j]? = some u ∧ l.Perm (lr ++ lj) ∧ RO K A H m u d lj ∧
      ∀ (A' : Addr → Prop) (H' : Hp) (u' : V) (d' : D) (l' : List Addr), Kp A' H H' → (∀ b ∈ lr, ∀ o, H b = some o → H' b = some o) → (∀ b o, A b → H b = some o → A' b) → RO K A' H' m u' d' l' →
        ∃ l'', l''.Perm (lr ++ l') ∧ ROs K A' H' m (xs.set j u') (ds.set j d') l''
  | _, _, _, _, _, _, .nil, e => by simp at e
  | m, _, _, _, 0, _, .cons (l1 := l1) (l2 := l2) h r, e => by
    simp at e; subst e
    refine ⟨_, l1, l2, rfl, List.perm_append_comm, h, fun A' H' u' d' l' k q hA n => ⟨l' ++ l2, List.perm_append_comm, .cons n ?_⟩⟩
    exact ROs.keep k (ROs.mono hA r) q
  | m, _, _, _, j + 1, d, .cons (l1 := l1) (l2 := l2) h r, e => by
    obtain ⟨u, lj, lr, h1, h2, h3, h4⟩ := ROs.split (j := j) r (by simpa using e)
    refine ⟨u, lj, l1 ++ lr, by simpa using h1, ?_, h3, fun A' H' u' d' l' k q hA n => ?_⟩
    · rw [List.append_assoc]; exact h2.append_left _
    · obtain ⟨l'', p, n'⟩ := h4 A' H' u' d' l' k (fun b hb => q b (List.mem_append_right _ hb)) hA n
      refine ⟨l1 ++ l'', ?_, .cons (RO.keep k (RO.mono hA h) fun b hb => q b (List.mem_append_left _ hb)) n'⟩
      rw [List.append_assoc]; exact p.append_left _
theorem set_same {α : Type} : ∀ {xs : List α} {j : Nat} {u : α}, xs[j]? = some u → xs.set j u = xs
  | [], _, _, e => by simp at e
  | x :: xs, 0, u, e => by simp at e; subst e; rfl
  | x :: xs, j + 1, u, e => by simp at e; simp [set_same e]
theorem atI_ix {α : Type} {xs : List α} {i : Int} {x : α} (h : atI xs i = some x) : ∃ j, ixN xs.length i = some j ∧ xs[j]? = some x := by
  unfold atI at h
  cases hj : ixN xs.length i with
  | none => rw [hj] at h; cases h
  | some j => rw [hj] at h; exact ⟨j, rfl, h⟩
theorem atI_of {α : Type} {xs : List α} {i : Int} {x : α} {j n : Nat} (hn : xs.length = n) (h : ixN n i = some j) (e : xs[j]? = some x) : atI xs i = some x := by
  unfold atI
  rw [hn, h]
  exact e
theorem RO.path : ∀ (p : List Int) {m mp : Option Nat} {v : V} {d dp : D} {l : List Addr}, RO K A H m v d l → depP m d p = some mp → getP d p = some dp →
    ∃ vp lp lr, NavP H v p vp ∧ l.Perm (lr ++ lp) ∧ RO K A H mp vp dp lp ∧
      ∀ (A' : Addr → Prop) (H' : Hp) (dn : D) (ln : List Addr), Kp A' H H' → (∀ b ∈ lr, ∀ o, H b = some o → H' b = some o) → (∀ b o, A b → H b = some o → A' b) → RO K A' H' mp vp dn ln →
        ∃ d' l', setP d p dn = some d' ∧ l'.Perm (lr ++ ln) ∧ RO K A' H' m v d' l'
  | [], m, mp, v, d, dp, l, h, e, g => by
    simp only [depP, getP, Option.some.injEq] at e g
    subst e g
    exact ⟨v, l, [], rfl, by simp, h, fun A' H' dn ln _ _ _ n => ⟨dn, ln, rfl, by simp, n⟩⟩
  | i :: p, m, mp, v, .list ds, dp, l, h, e, g => by
    simp only [depP, Option.bind_eq_some_iff] at e
    simp only [getP, Option.bind_eq_some_iff] at g
    obtain ⟨n, hn, d, hd, e⟩ := e
    obtain ⟨d2, hd2, g⟩ := g
    rw [hd] at hd2; cases hd2
    obtain ⟨j, hj, hdj⟩ := atI_ix hd
    rcases h.lst_inv with ⟨rfl, _, _⟩ | ⟨n', a, xs, l', hn', rfl, ha, r, rfl⟩
    · cases hn
    · rw [hn] at hn'; cases hn'
      obtain ⟨u, lj, lr, h1, h2, h3, h4⟩ := r.split hdj
      obtain ⟨vp, lp, lr2, q1, q2, q3, q4⟩ := RO.path p h3 e g
      refine ⟨vp, lp, a :: (lr ++ lr2), ⟨a, xs, u, rfl, .inl ha, atI_of r.len hj h1, q1⟩, ?_, q3, fun A' H' dn ln k q hA n => ?_⟩
      · have := h2.trans (q2.append_left lr)
        rw [← List.append_assoc] at this
        exact this.cons a
      · obtain ⟨d', l1, s1, p1, r1⟩ := q4 A' H' dn ln k (fun b hb => q b (List.mem_cons_of_mem _ (List.mem_append_right _ hb))) hA n
        obtain ⟨l2, p2, r2⟩ := h4 A' H' u d' l1 k (fun b hb => q b (List.mem_cons_of_mem _ (List.mem_append_left _ hb))) hA r1
        rw [set_same h1] at r2
        refine ⟨.list (ds.set j d'), a :: l2, ?_, ?_, .lst hn (q a List.mem_cons_self _ ha) r2⟩
        · simp only [setP, hj, hdj, s1, Option.bind_some, Option.map_some]
        · have := p2.trans (p1.append_left lr)
          rw [← List.append_assoc] at this
          exact this.cons a
  | i :: p, m, mp, v, .tuple ds, dp, l, h, e, g => by
    simp only [depP, Option.bind_eq_some_iff] at e
    simp only [getP, Option.bind_eq_some_iff] at g
    obtain ⟨d, hd, e⟩ := e
    obtain ⟨d2, hd2, g⟩ := g
    rw [hd] at hd2; cases hd2
    obtain ⟨j, hj, hdj⟩ := atI_ix hd
    obtain ⟨a, xs, rfl, ha, r⟩ := h.tup_inv
    obtain ⟨u, lj, lr, h1, h2, h3, h4⟩ := r.split hdj
    obtain ⟨vp, lp, lr2, q1, q2, q3, q4⟩ := RO.path p h3 e g
    refine ⟨vp, lp, lr ++ lr2, ⟨a, xs, u, rfl, .inr ha, atI_of r.len hj h1, q1⟩, ?_, q3, fun A' H' dn ln k q hA n => ?_⟩
    · have := h2.trans (q2.append_left lr)
      rw [← List.append_assoc] at this
      exact this
    · obtain ⟨d', l1, s1, p1, r1⟩ := q4 A' H' dn ln k (fun b hb => q b (List.mem_append_right _ hb)) hA n
      obtain ⟨l2, p2, r2⟩ := h4 A' H' u d' l1 k (fun b hb => q b (List.mem_append_left _ hb)) hA r1
      rw [set_same h1] at r2
      refine ⟨.tuple (ds.set j d'), l2, ?_, ?_, .tup (k.tup _ _ ha) r2⟩
      · simp only [setP, hj, hdj, s1, Option.bind_some, Option.map_some]
      · have := p2.trans (p1.append_left lr)
        rw [← List.append_assoc] at this
        exact this
theorem ROs.append {m : Option Nat} {xs ys : List V} {ds es : List D} {l l' : List Addr} (h : ROs K A H m xs ds l) (r : ROs K A H m ys es l') : ROs K A H m (xs ++ ys) (ds ++ es) (l ++ l') := by
  induction xs generalizing ds l with
  | nil => cases h; exact r
  | cons x xs ih =>
    cases h with
    | cons h1 h2 => rw [List.append_assoc]; exact .cons h1 (ih h2)
theorem NavP.keep (s : Same H H') : ∀ {p : List Int} {v w : V}, NavP H v p w → NavP H' v p w
  | [], _, _, h => h
  | _ :: _, _, _, ⟨a, xs, u, e, h1, h2, h3⟩ => ⟨a, xs, u, e, h1.imp (s _ _) (s _ _), h2, NavP.keep s h3⟩
theorem NavP.inj : ∀ {p : List Int} {v w w' : V}, NavP H v p w → NavP H v p w' → w' = w
  | [], _, _, _, h, h' => by cases h; exact h'
  | _ :: _, _, _, _, ⟨a, xs, u, e, h1, h2, h3⟩, ⟨a', xs', u', e', h1', h2', h3'⟩ => by
    subst e
    cases e'
    have : xs = xs' := by
      rcases h1 with h1 | h1 <;> rcases h1' with h1' | h1' <;> rw [h1] at h1' <;> cases h1' <;> rfl
    subst this
    rw [h2] at h2'; cases h2'
    exact NavP.inj h3 h3'
theorem NavP.snoc : ∀ {p : List Int} {v w u : V} {a : Addr} {xs : List V} {i : Int}, NavP H v p w → w = .ref a → (H a = some (.lst xs) ∨ H a = some (.tup xs)) → atI xs i = some u → NavP H v (p ++ [i]) u
  | [], v, w, u, a, xs, i, h, e, h1, h2 => by
    have : w = v := h
    subst this
    exact ⟨a, xs, u, e, h1, h2, rfl⟩
  | _ :: _, v, w, u, a, xs, i, ⟨b, ys, z, e0, g1, g2, g3⟩, e, h1, h2 => ⟨b, ys, z, e0, g1, g2, NavP.snoc g3 e h1 h2⟩
theorem RS.nav : ∀ {p : List Int} {v : V} {d dp : D}, RS K A H v d → getP d p = some dp → ∃ w, NavP H v p w ∧ RS K A H w dp
  | [], v, d, dp, h, e => by simp [getP] at e; subst e; exact ⟨v, rfl, h⟩
  | i :: p, v, .list ds, dp, h, e => by
    simp only [getP, Option.bind_eq_some_iff] at e
    obtain ⟨d, hd, e⟩ := e
    obtain ⟨a, xs, rfl, ha, _, r⟩ := h.lst_inv
    obtain ⟨j, hj, hdj⟩ := atI_ix hd
    obtain ⟨u, hu, ru⟩ := r.get hdj
    obtain ⟨w, n, rw⟩ := RS.nav ru e
    exact ⟨w, ⟨a, xs, u, rfl, .inl ha, atI_of r.len hj hu, n⟩, rw⟩
  | i :: p, v, .tuple ds, dp, h, e => by
    simp only [getP, Option.bind_eq_some_iff] at e
    obtain ⟨d, hd, e⟩ := e
    obtain ⟨a, xs, rfl, ha, r⟩ := h.tup_inv
    obtain ⟨j, hj, hdj⟩ := atI_ix hd
    obtain ⟨u, hu, ru⟩ := r.get hdj
    obtain ⟨w, n, rw⟩ := RS.nav ru e
    exact ⟨w, ⟨a, xs, u, rfl, .inr ha, atI_of r.len hj hu, n⟩, rw⟩
  | i :: p, v, .none, dp, h, e => by simp [getP] at e
  | i :: p, v, .bool _, dp, h, e => by simp [getP] at e
  | i :: p, v, .int _, dp, h, e => by simp [getP] at e
  | i :: p, v, .str _, dp, h, e => by simp [getP] at e
  | i :: p, v, .dict _, dp, h, e => by simp [getP] at e
end
def killB (env : VEnv) : VEnv := env.map fun s => match s with
  | some (_, .b) => none
  | s => s
section
variable {c : Cn} {L : List (List Addr)} {T T' Tm l : List Addr} {env : VEnv} {σ : Sg} {H H' : Hp} {a : Addr}
theorem Slots.change {i : Nat} {d : D} {m : Option Nat} {v : V} {li : List Addr} (h : Slots c T H env σ L) (hv : σ[i]? = some (some v)) (hL : L[i]? = some l)
    (keep : ∀ (k : Nat) (lk : List Addr) (d : D) (m : Option Nat) (v : V), k ≠ i → L[k]? = some lk → RO c.K (AT c.B T) H m v d lk → RO c.K (AT c.B T') H' m v d lk)
    (new : RO c.K (AT c.B T') H' m v d li) : Slots c T' H' (killB (env.set i (some (d, .o m)))) σ (L.set i li) := by
  induction h generalizing i with
  | nil => simp at hv
  | @non e x σ L h ih => cases i with
    | zero =>
      simp at hv
      subst hv
      exact .own new (rest h fun k lk d m v e r => keep (k + 1) lk d m v (by omega) (by simpa using e) r)
    | succ i => exact .non (ih (by simpa using hv) (by simpa using hL) fun k lk d m v hk e r => keep (k + 1) lk d m v (by omega) (by simpa using e) r)
  | @bor e d0 v0 σ L r h ih => cases i with
    | zero =>
      simp at hv
      subst hv
      exact .own new (rest h fun k lk d m v e r => keep (k + 1) lk d m v (by omega) (by simpa using e) r)
    | succ i => exact .non (ih (by simpa using hv) (by simpa using hL) fun k lk d m v hk e r => keep (k + 1) lk d m v (by omega) (by simpa using e) r)
  | @own e d0 m0 v0 l0 σ L r h ih => cases i with
    | zero =>
      simp at hv
      subst hv
      exact .own new (rest h fun k lk d m v e r => keep (k + 1) lk d m v (by omega) (by simpa using e) r)
    | succ i => exact .own (keep 0 l0 d0 m0 v0 (by omega) rfl r) (ih (by simpa using hv) (by simpa using hL) fun k lk d m v hk e r => keep (k + 1) lk d m v (by omega) (by simpa using e) r)
where
  rest {env : VEnv} {σ : Sg} {L : List (List Addr)} (h : Slots c T H env σ L)
      (keep : ∀ (k : Nat) (lk : List Addr) (d : D) (m : Option Nat) (v : V), L[k]? = some lk → RO c.K (AT c.B T) H m v d lk → RO c.K (AT c.B T') H' m v d lk) : Slots c T' H' (killB env) σ L := by
    induction h with
    | nil => exact .nil
    | non h ih => exact .non (ih fun k lk d m v e r => keep (k + 1) lk d m v (by simpa using e) r)
    | bor r h ih => exact .non (ih fun k lk d m v e r => keep (k + 1) lk d m v (by simpa using e) r)
    | own r h ih => exact .own (keep 0 _ _ _ _ rfl r) (ih fun k lk d m v e r => keep (k + 1) lk d m v (by simpa using e) r)
theorem mem_flatten_of {L : List (List Addr)} {k : Nat} {lk : List Addr} (e : L[k]? = some lk) {b : Addr} (hb : b ∈ lk) : b ∈ L.flatten := List.mem_flatten.mpr ⟨lk, List.mem_of_getElem? e, hb⟩
theorem apart_of {L : List (List Addr)} {i k : Nat} {li lk : List Addr} (nd : L.flatten.Nodup) (hi : L[i]? = some li) (hk : L[k]? = some lk) (n : k ≠ i) {b : Addr} (h1 : b ∈ li) (h2 : b ∈ lk) : False := by
  induction L generalizing i k with
  | nil => simp at hi
  | cons x L ih =>
    rw [List.flatten_cons] at nd
    have nd' := List.nodup_append.mp nd
    cases i with
    | zero =>
      simp at hi; subst hi
      cases k with
      | zero => exact n rfl
      | succ k => exact nd'.2.2 b h1 b (mem_flatten_of (by simpa using hk) h2) rfl
    | succ i =>
      cases k with
      | zero => simp at hk; subst hk; exact nd'.2.2 b h2 b (mem_flatten_of (by simpa using hi) h1) rfl
      | succ k => exact ih nd'.2.1 (by simpa using hi) (by simpa using hk) (by omega)
theorem Sim.change {i : Nat} {d : D} {m : Option Nat} {v : V} {li : List Addr} {o o' : HO} (S : Sim c L Tm env σ H) (hv : σ[i]? = some (some v)) (hL : L[i]? = some l) (ha : a ∈ l) (ho : H a = some o) (mo : mutO o)
    (new : RO c.K (AT c.B (L.set i li).flatten) (upd H a o') m v d li) (sub : ∀ b ∈ li, b ∈ l ∨ b ∈ Tm) (nd : li.Nodup) : Sim c (L.set i li) [] (killB (env.set i (some (d, .o m)))) σ (upd H a o') := by
  have ndL := (List.nodup_append.mp S.nd).1
  have haT : a ∈ L.flatten ++ Tm := List.mem_append_left _ (mem_flatten_of hL ha)
  have p1 := flatten_set hL
  have p2 : ((L.set i li).flatten).Perm ((L.set i []).flatten ++ li) := by
    have hi : i < L.length := (List.getElem?_eq_some_iff.mp hL).1
    have := flatten_set (L := L.set i li) (i := i) (l := li) (by simp [hi])
    rw [List.set_set] at this
    exact this.symm
  have memT : ∀ b ∈ (L.set i li).flatten, b ∈ L.flatten ++ Tm := fun b hb => by
    rcases List.mem_append.mp (p2.mem_iff.mp hb) with z | z
    · exact List.mem_append_left _ (p1.mem_iff.mp (List.mem_append_left _ z))
    · rcases sub b z with z | z
      · exact List.mem_append_left _ (mem_flatten_of hL z)
      · exact List.mem_append_right _ z
  have kp : Kp (AT c.B (L.flatten ++ Tm)) H (upd H a o') := Kp.write ho mo fun z => z.2 haT
  refine ⟨?_, ?_, fun b hb => ?_, fun b u e r => ?_, fun p hp => ((S.hd p hp).keep kp).mono fun b o a _ => AT.less (fun b hb => memT b (by rwa [List.append_nil] at hb)) a, S.pin⟩
  · rw [List.append_nil]
    refine S.sl.change hv hL (fun k lk d m v hk e r => ?_) new
    have r' := RO.keep kp r fun b hb u q => by rw [upd_ne (fun z => by subst z; exact apart_of ndL hL e hk ha hb)]; exact q
    exact RO.mono (fun b u x _ => AT.less memT x) r'
  · rw [List.append_nil]
    refine p2.nodup_iff.mpr (List.nodup_append.mpr ⟨?_, nd, fun b hb b' hb' z => ?_⟩)
    · exact (List.nodup_append.mp (p1.nodup_iff.mpr ndL)).1
    · subst z
      rcases sub b hb' with z | z
      · exact (List.nodup_append.mp (p1.nodup_iff.mpr ndL)).2.2 b hb b z rfl
      · exact (List.nodup_append.mp S.nd).2.2 b (p1.mem_iff.mp (List.mem_append_left _ hb)) b z rfl
  · rw [List.append_nil] at hb
    obtain ⟨q, u, e⟩ := S.own b (memT b hb)
    refine ⟨q, ?_⟩
    by_cases z : b = a
    · subst z; exact ⟨_, upd_same⟩
    · exact ⟨u, by rw [upd_ne z]; exact e⟩
  · have := S.fr b u e r
    rw [upd_ne (fun z => ?_)]
    · exact this
    · subst z
      rcases (S.own b haT).1 with z | z
      · rw [z] at e; cases e
      · exact r z
end
end VL
set_option maxRecDepth 100000
set_option maxHeartbeats 4000000
namespace VL
open PySem PySem.Spec PyProof.Rows L2
abbrev WP := VEnv → (Nat → List Int → VEnv → Prop) → (Exn → VEnv → Prop) → Prop
def rdP (c : Cn) (W : WX) (w : WP) : TE := fun σ H Q => ∃ env L Tm Qv X, Sim c L Tm env σ H ∧ w env Qv X ∧
  (∀ i p v v0 L' env' H', Qv i p env' → Step c H H' (L.flatten ++ Tm) Tm L' [] env' σ → σ[i]? = some (some v0) → NavP H' v0 p v → Q v H') ∧ KontX c σ L Tm H X W
def wPVar (i : Nat) : WP := fun env Q _ => (∃ s, env[i]? = some (some s)) ∧ Q i [] env
section
variable {X : Cx} {c : Cn} {W : WX} {pos : Pos} {wp : WP} {wi : WE} {o i : Expr}
theorem vp_var (i : Nat) {x : Str} (hN : X.N[i]? = some x := by rfl) (hv : Vis X.env.scope x := by first | exact Or.inl rfl | exact Or.inr (Or.inl rfl) | exact Or.inr (Or.inr rfl)) (hd : (x == ("__debug__" : Str)) = false := by decide)
    (hcd : (x == ("__classdict__" : Str)) = false := by decide) : PE X (.Name x pos) (rdP c W (wPVar i)) := PE.imp (pe_var hN hv hd hcd) fun σ H Q h => by
  obtain ⟨env, L, Tm, Qv, X, S, ⟨⟨⟨d, m⟩, e⟩, q⟩, k, _⟩ := h
  obtain ⟨v, l, hv, hl, r⟩ := S.sl.get e
  exact ⟨v, hv, k i [] v v L env H q (Step.refl S) hv rfl⟩
end
structure DV where
  nx : VEnv → Prop
  rt : R → VEnv → Prop
  ex : Exn → VEnv → Prop
abbrev WS := VEnv → DV → Prop
structure Ret (c : Cn) (r : R) (v : V) (l : List Addr) (H : Hp) (env : VEnv) : Prop where
  fr : ∀ b o, c.H0 b = some o → b ∉ c.rw → H b = some o
  nd : l.Nodup
  own : ∀ b ∈ l, c.Own b ∧ ∃ o, H b = some o
  res : Res c l H r v l
  sim : ∃ L σ, Sim c L l env σ H ∧ Res c (L.flatten ++ l) H r v l
def rdS (c : Cn) (W : WX) (w : WS) : TS := fun D σ H => ∃ env L Dv, Sim c L [] env σ H ∧ w env Dv ∧
  (∀ env' L' σ' H', Dv.nx env' → Sim c L' [] env' σ' H' → D.nx σ' H') ∧
  (∀ r v l H' e, Dv.rt r e → Ret c r v l H' e → D.rt v H') ∧
  (∀ ex env' L' σ' H' cls d, Dv.ex ex env' → Sim c L' [] env' σ' H' → ExR c H' ex cls d → W cls d σ' H')
section
variable {X : Cx} {c : Cn} {W : WX} {pos : Pos} {w u : WS} {we : WE} {e : Expr} {st : Stmt} {rest : List Stmt}
theorem rd_first {σ : Sg} {H : Hp} {Q : VK} {env : VEnv} {L : List (List Addr)} {Dv : DV} {Qv : R → VEnv → Prop} (S : Sim c L [] env σ H) (hw : we env Qv (fun ex e => Dv.ex ex e))
    (hx : ∀ ex env' L' σ' H' cls d, Dv.ex ex env' → Sim c L' [] env' σ' H' → ExR c H' ex cls d → W cls d σ' H')
    (k : ∀ r v l L' env' H', Qv r env' → Sim c L' l env' σ H' → Res c (L'.flatten ++ l) H' r v l → Q v H') : rdE c W we σ H Q :=
  ⟨env, L, [], Qv, _, S, hw, fun r v l L' env' H' q st hr => k r v l L' env' H' q st.sim hr, fun ex cls d L' env' H' hq st he => hx ex env' L' σ H' cls d hq st.sim0 he⟩
def wNext : WS := fun env Dv => Dv.nx env
def wSeq (w u : WS) : WS := fun env Dv => w env { Dv with nx := fun e => u e Dv }
theorem vss_nil : PSs X [] (rdS c W wNext) := PSs.imp pss_nil fun D σ H h => by
  obtain ⟨env, L, Dv, S, q, k, _, _⟩ := h
  exact k env L σ H q S
theorem vss_cons (h1 : PS X st (rdS c W w)) (h2 : PSs X rest (rdS c W u)) : PSs X (st :: rest) (rdS c W (wSeq w u)) := PSs.imp (pss_cons h1 h2) fun D σ H h => by
  obtain ⟨env, L, Dv, S, q, k, kr, kx⟩ := h
  exact ⟨env, L, _, S, q, fun env' L' σ' H' h' S' => ⟨env', L', Dv, S', h', k, kr, kx⟩, kr, kx⟩
theorem Slots.put {T T' : List Addr} {H : Hp} {env : VEnv} {σ : Sg} {L : List (List Addr)} {i : Nat} {d : D} {m : Md} {v : V} {l : List Addr} (h : Slots c T H env σ L) (r : Res c T H ⟨d, m⟩ v l) (s : ∀ b ∈ T', b ∈ T) : Slots c T' H (env.set i (some (d, m))) (σ.set i (some v)) (L.set i l) := by
  have hk := h.keep (T' := T') (Same.refl H) fun b hb => .inl (s b hb)
  have rk := r.keep (T' := T') (Same.refl H) fun b hb => .inl (s b hb)
  clear h r
  induction hk generalizing i with
  | nil => exact .nil
  | non h ih => cases i with
    | zero => exact fin rk h
    | succ i => exact .non ih
  | bor r0 h ih => cases i with
    | zero => exact fin rk h
    | succ i => exact .bor r0 ih
  | own r0 h ih => cases i with
    | zero => exact fin rk h
    | succ i => exact .own r0 ih
where
  fin {T : List Addr} {H : Hp} {env : VEnv} {σ : Sg} {L : List (List Addr)} {d : D} {m : Md} {v : V} {l : List Addr} (r : Res c T H ⟨d, m⟩ v l) (h : Slots c T H env σ L) : Slots c T H (some (d, m) :: env) (some v :: σ) (l :: L) := by
    cases m with
    | b => obtain ⟨r, e⟩ := r; subst e; exact .bor r h
    | o m => exact .own r h
theorem flatten_put {L : List (List Addr)} {i : Nat} {l l0 : List Addr} (e : L[i]? = some l0) : ((L.set i l).flatten).Perm ((L.set i []).flatten ++ l) := by
  have hi : i < L.length := (List.getElem?_eq_some_iff.mp e).1
  have := flatten_set (L := L.set i l) (i := i) (l := l) (by simp [hi])
  rw [List.set_set] at this
  exact this.symm
def PinF (c : Cn) (is : List Nat) : Prop := ∀ p ∈ c.pin, p.1 ∉ is
theorem pinF_nil {c : Cn} {is : List Nat} (h : c.pin = []) : PinF c is := fun p hp => by rw [h] at hp; cases hp
theorem pinF_one {c : Cn} {is : List Nat} {j : Nat} {v : V} (h : c.pin = [(j, v)]) (hj : j ∉ is) : PinF c is := fun p hp => by
  rw [h] at hp
  rw [List.mem_singleton.mp hp]; exact hj
theorem PinF.sub {c : Cn} {is js : List Nat} (h : PinF c is) (s : ∀ i ∈ js, i ∈ is) : PinF c js := fun p hp z => h p hp (s _ z)
theorem PinF.set {c : Cn} {i : Nat} {σ : Sg} {x : Option V} (h : PinF c [i]) (s : ∀ p ∈ c.pin, σ[p.1]? = some (some p.2)) : ∀ p ∈ c.pin, (σ.set i x)[p.1]? = some (some p.2) := fun p hp => by
  rw [List.getElem?_set_ne (fun e => h p hp (by rw [e]; exact List.mem_singleton.mpr rfl))]
  exact s p hp
theorem Sim.put {σ : Sg} {H : Hp} {env : VEnv} {L : List (List Addr)} {i : Nat} {r : R} {v : V} {l Tm : List Addr} (S : Sim c L (Tm ++ l) env σ H) (hr : Res c (L.flatten ++ (Tm ++ l)) H r v l) (pf : PinF c [i]) : ∃ L', Sim c L' Tm (env.set i (some (r.d, r.m))) (σ.set i (some v)) H ∧ ∀ b ∈ L'.flatten ++ Tm, b ∈ L.flatten ++ (Tm ++ l) := by
  obtain ⟨d, m⟩ := r
  obtain ⟨len1, len2⟩ := S.sl.len
  by_cases hi : i < L.length
  · obtain ⟨l0, e0⟩ : ∃ l0, L[i]? = some l0 := ⟨L[i], List.getElem?_eq_getElem hi⟩
    have p1 := flatten_set e0
    have p2 := flatten_put (l := l) e0
    have sub : ∀ b ∈ (L.set i l).flatten ++ Tm, b ∈ L.flatten ++ (Tm ++ l) := fun b hb => by
      rcases List.mem_append.mp hb with z | z
      · rcases List.mem_append.mp (p2.mem_iff.mp z) with z | z
        · exact List.mem_append_left _ (p1.mem_iff.mp (List.mem_append_left _ z))
        · exact List.mem_append_right _ (List.mem_append_right _ z)
      · exact List.mem_append_right _ (List.mem_append_left _ z)
    refine ⟨L.set i l, ⟨S.sl.put hr sub, ?_, fun a ha => S.own a (sub a ha), S.fr, fun p hp => (S.hd p hp).mono fun b o a _ => AT.less sub a, pf.set S.pin⟩, sub⟩
    have nd := S.nd
    have nd1 : (L.flatten ++ (Tm ++ l)).Perm (((L.set i []).flatten ++ l0) ++ (l ++ Tm)) := p1.symm.append List.perm_append_comm
    have nd2 := nd1.nodup_iff.mp nd
    have sl : ((L.set i []).flatten ++ (l ++ Tm)).Sublist (((L.set i []).flatten ++ l0) ++ (l ++ Tm)) := (List.sublist_append_left _ _).append (List.Sublist.refl _)
    have nd3 := nd2.sublist sl
    refine (List.Perm.nodup_iff ?_).mpr nd3
    rw [← List.append_assoc]
    exact p2.append_right Tm
  · have e1 : env.set i (some (d, m)) = env := List.set_eq_of_length_le (by omega)
    have e2 : σ.set i (some v) = σ := List.set_eq_of_length_le (by omega)
    rw [e1, e2]
    exact ⟨L, S.drop, fun b hb => by rw [← List.append_assoc]; exact List.mem_append_left _ hb⟩
def wSet (i : Nat) (we : WE) : WS := fun env Dv => we env (fun r e => Dv.nx (e.set i (some (r.d, r.m)))) Dv.ex
theorem vs_set {i : Nat} {x : Str} {pos' : Pos} (he : PE X e (rdE c W we)) (hN : X.N.Nodup) (hi : X.N[i]? = some x := by rfl) (hx : Loc X.env.scope x := by first | exact .inl rfl | exact .inr rfl) (hs : swapsWith e (some (.Name x pos')) pos.line X.env = pure false := by rfl)
    (hf : X.fn x = true ∨ X.env.scope.names.lookup x = some .local := by first | exact .inl rfl | exact .inr rfl | assumption) (pf : PinF c [i] := by first | exact pinF_nil rfl | exact pinF_one rfl (by decide) | assumption) : PS X (.Assign [.Name x pos'] e pos) (rdS c W (wSet i we)) := PS.imp (ps_set hN hi hx he hs hf) fun D σ H h => by
  obtain ⟨env, L, Dv, S, q, k, kr, kx⟩ := h
  refine rd_first S q kx fun r v l L' env' H' hq S' hr => ?_
  obtain ⟨L2, S2, _⟩ := Sim.put (Tm := []) (i := i) (l := l) (r := r) S' hr pf
  exact k _ L2 _ H' hq S2
def wRet (we : WE) : WS := fun env Dv => we env (fun r e => isB r.m = false ∧ Dv.rt r e) Dv.ex
theorem vs_ret (he : PE X e (rdE c W we)) : PS X (.Return (some e) pos) (rdS c W (wRet we)) := PS.imp (ps_ret he) fun D σ H h => by
  obtain ⟨env, L, Dv, S, q, k, kr, kx⟩ := h
  refine rd_first S q kx fun r v l L' env' H' ⟨hb, hq⟩ S' hr => ?_
  refine kr r v l H' env' hq ⟨S'.fr, ?_, fun b hb => S'.own b (List.mem_append_right _ hb), ?_, L', σ, S', hr⟩
  · exact (List.nodup_append.mp S'.nd).2.1
  · exact hr.keep (Same.refl _) fun b hb => .inl (List.mem_append_right _ hb)
def wExpr (we : WE) : WS := fun env Dv => we env (fun _ e => Dv.nx e) Dv.ex
theorem vs_expr (he : PE X e (rdE c W we)) (hs : swapsWith e none pos.line X.env = pure false := by rfl) : PS X (.Expr e pos) (rdS c W (wExpr we)) := PS.imp (ps_expr he hs) fun D σ H h => by
  obtain ⟨env, L, Dv, S, q, k, kr, kx⟩ := h
  exact rd_first S q kx fun r v l L' env' H' hq S' hr => k _ L' _ H' hq (Sim.drop (Tm := []) (l := l) S')
def wIf (t : WT) (w u : WS) : WS := fun env Dv => t env (fun b e => if b = true then w e Dv else u e Dv) Dv.ex
theorem vs_if {t : Expr} {a b : List Stmt} {wt : WT} (ht : PT X t (rdT c W wt)) (ha : PSs X a (rdS c W w)) (hb : PSs X b (rdS c W u)) : PS X (.If t a b pos) (rdS c W (wIf wt w u)) := PS.imp (ps_if ht ha hb) fun D σ H h => by
  obtain ⟨env, L, Dv, S, q, k, kr, kx⟩ := h
  refine ⟨env, L, [], _, _, S, q, fun b L' env' H' hq st => ?_, fun ex cls d L' env' H' hq st he => kx ex env' L' σ H' cls d hq st.sim0 he⟩
  cases b with
  | true => exact ⟨env', L', Dv, st.sim0, hq, k, kr, kx⟩
  | false => exact ⟨env', L', Dv, st.sim0, hq, k, kr, kx⟩
end
end VL
set_option maxRecDepth 100000
set_option maxHeartbeats 4000000
namespace VL
open PySem PySem.Spec PyProof.Rows L2
section
variable {c : Cn} {L : List (List Addr)} {l : List Addr} {env : VEnv} {σ : Sg} {H : Hp}
theorem Sim.mutL {i : Nat} {p : List Int} {d : D} {m mp n : Option Nat} {v v0 : V} {ds : List D} (S : Sim c L l env σ H) (e : env[i]? = some (some (d, .o m))) (hv : σ[i]? = some (some v0)) (nav : NavP H v0 p v)
    (g : getP d p = some (.list ds)) (dp : depP m d p = some mp) (pn : popM mp = some n) :
    ∃ a xs, v = .ref a ∧ H a = some (.lst xs) ∧ xs.length = ds.length ∧ RSs c.K (fun _ => True) H xs ds ∧
      ∀ xs' ds' d', (∀ lk, ROs c.K (AT c.B (L.flatten ++ l)) H n xs ds lk → lk.Nodup → (∀ b ∈ lk, c.B b ∧ b ∉ l) → ∃ lk', (∀ b ∈ lk', b ∈ lk ∨ b ∈ l) ∧ lk'.Nodup ∧
            ∀ T', (∀ b ∈ T', b ∈ L.flatten ++ l) → (∀ b ∈ l ++ lk, b ∈ T' → b ∈ lk') → ∃ lk2 : List Addr, lk2.Perm lk' ∧ ROs c.K (AT c.B T') H n xs' ds' lk2) →
        setP d p (.list ds') = some d' → ∃ L', Sim c L' [] (killB (env.set i (some (d', .o m)))) σ (upd H a (.lst xs')) := by
  obtain ⟨v1, li, hv1, hL, r⟩ := S.sl.get e
  rw [hv] at hv1; cases hv1
  obtain ⟨vp, lp, lr, nav', pm, rp, up⟩ := RO.path p r.dep dp g
  have := nav'.inj nav
  subst this
  rcases rp.lst_inv with ⟨rfl, _, _⟩ | ⟨n', a, xs, lk, hn', rfl, ha, rk, rfl⟩
  · cases pn
  rw [pn] at hn'; cases hn'
  refine ⟨a, xs, rfl, ha, rk.len, ROs.share (ROs.mono (fun _ _ _ _ => trivial) rk) fun _ _ => trivial, fun xs' ds' d' hk hs => ?_⟩
  have ndT := S.nd
  have ndL : L.flatten.Nodup := (List.nodup_append.mp ndT).1
  have liT : ∀ b ∈ li, b ∈ L.flatten := fun b hb => mem_flatten_of hL hb
  have ndli : li.Nodup := by
    have p1 := flatten_set hL
    exact (List.nodup_append.mp (p1.nodup_iff.mpr ndL)).2.1
  have nd2 : (lr ++ (a :: lk)).Nodup := pm.nodup_iff.mp ndli
  have nd3 := List.nodup_append.mp nd2
  have nd4 := List.nodup_cons.mp nd3.2.1
  have inli : ∀ b ∈ lr ++ (a :: lk), b ∈ li := fun b hb => pm.mem_iff.mpr hb
  have notl : ∀ b ∈ li, b ∉ l := fun b hb z => (List.nodup_append.mp ndT).2.2 b (liT b hb) b z rfl
  obtain ⟨lk', sub, ndk, mk⟩ := hk lk rk nd4.2 fun b hb => by
    have hb' := inli b (List.mem_append_right _ (List.mem_cons_of_mem _ hb))
    exact ⟨.inr (S.own b (List.mem_append_left _ (liT b hb'))).1, notl b hb'⟩
  have ali : a ∈ li := inli a (by simp)
  have hi : i < L.length := (List.getElem?_eq_some_iff.mp hL).1
  have ndn : (lr ++ (a :: lk')).Nodup := by
    refine List.nodup_append.mpr ⟨nd3.1, List.nodup_cons.mpr ⟨fun z => ?_, ndk⟩, fun b hb b' hb' z => ?_⟩
    · rcases sub a z with z | z
      · exact nd4.1 z
      · exact notl a ali z
    · subst z
      rcases List.mem_cons.mp hb' with z | z
      · subst z; exact nd3.2.2 b hb b (by simp) rfl
      · rcases sub b z with z | z
        · exact nd3.2.2 b hb b (by simp [z]) rfl
        · exact notl b (inli b (List.mem_append_left _ hb)) z
  have memT : ∀ b ∈ (L.set i (lr ++ (a :: lk'))).flatten, b ∈ L.flatten ++ l := fun b hb => by
    rcases List.mem_append.mp ((flatten_put hL).mem_iff.mp hb) with z | z
    · exact List.mem_append_left _ ((flatten_set hL).mem_iff.mp (List.mem_append_left _ z))
    · rcases List.mem_append.mp z with z | z
      · exact List.mem_append_left _ (liT b (inli b (List.mem_append_left _ z)))
      · rcases List.mem_cons.mp z with z | z
        · subst z; exact List.mem_append_left _ (liT b ali)
        · rcases sub b z with z | z
          · exact List.mem_append_left _ (liT b (inli b (by simp [z])))
          · exact List.mem_append_right _ z
  have aT : a ∈ (L.set i (lr ++ (a :: lk'))).flatten := (flatten_put hL).mem_iff.mpr (by simp)
  obtain ⟨lk2, pk, kids⟩ := mk _ memT fun b hb hb' => by
    rcases List.mem_append.mp ((flatten_put hL).mem_iff.mp hb') with z | z
    · -- in another slot
      exfalso
      rcases List.mem_append.mp hb with y | y
      · exact (List.nodup_append.mp ndT).2.2 b ((flatten_set hL).mem_iff.mp (List.mem_append_left _ z)) b y rfl
      · have p1 := flatten_set hL
        exact (List.nodup_append.mp (p1.nodup_iff.mpr ndL)).2.2 b z b (inli b (by simp [y])) rfl
    · rcases List.mem_append.mp hb with y | y
      · rcases List.mem_append.mp z with z | z
        · exact absurd y (notl b (inli b (List.mem_append_left _ z)))
        · rcases List.mem_cons.mp z with z | z
          · subst z; exact absurd y (notl b ali)
          · exact z
      · rcases List.mem_append.mp z with z | z
        · exact absurd rfl (nd3.2.2 b z b (by simp [y]))
        · rcases List.mem_cons.mp z with z | z
          · subst z; exact absurd y nd4.1
          · exact z
  have kp : Kp (AT c.B (L.set i (lr ++ (a :: lk'))).flatten) H (upd H a (.lst xs')) := Kp.write ha trivial fun z => z.2 aT
  have ne : ∀ b, b ≠ a → ∀ o, H b = some o → (upd H a (.lst xs')) b = some o := fun b hb o q => by rw [upd_ne hb]; exact q
  have kids' : ROs c.K (AT c.B (L.set i (lr ++ (a :: lk'))).flatten) (upd H a (.lst xs')) n xs' ds' lk2 := kids.keep kp fun b hb => ne b fun z => by
    subst z
    rcases sub b (pk.mem_iff.mp hb) with z | z
    · exact nd4.1 z
    · exact notl b ali z
  obtain ⟨d2, l2, hs2, pm2, r2⟩ := up (AT c.B (L.set i (lr ++ (a :: lk'))).flatten) (upd H a (.lst xs')) (.list ds') (a :: lk2) kp (fun b hb => ne b fun z => by subst z; exact nd3.2.2 b hb b (by simp) rfl)
    (fun b o x _ => AT.less memT x) (RO.lst pn upd_same kids')
  rw [hs] at hs2; cases hs2
  replace pm2 : l2.Perm (lr ++ (a :: lk')) := pm2.trans ((pk.cons a).append_left lr)
  have mem2 : ∀ b, b ∈ (L.set i l2).flatten ↔ b ∈ (L.set i (lr ++ (a :: lk'))).flatten := fun b => by
    rw [(flatten_put (l := l2) hL).mem_iff, (flatten_put (l := lr ++ (a :: lk')) hL).mem_iff, List.mem_append, List.mem_append, pm2.mem_iff]
  refine ⟨L.set i l2, S.change hv hL ali ha trivial (RO.mono (fun b o x _ => AT.less (fun b hb => (mem2 b).mp hb) x) r2) (fun b hb => ?_) (pm2.nodup_iff.mpr ndn)⟩
  rcases List.mem_append.mp (pm2.mem_iff.mp hb) with z | z
  · exact .inl (inli b (List.mem_append_left _ z))
  · rcases List.mem_cons.mp z with z | z
    · subst z; exact .inl ali
    · rcases sub b z with z | z
      · exact .inl (inli b (by simp [z]))
      · exact .inr z
theorem Res.item {r : R} {v : V} {n : Option Nat} (S : Sim c L l env σ H) (h : Res c (L.flatten ++ l) H r v l) (hk : kidOk n r) :
    ∃ k : List Addr, k.Sublist l ∧ ∀ T', (∀ b ∈ T', b ∈ L.flatten ++ l) → (∀ b ∈ l, b ∈ T' → b ∈ k) → RO c.K (AT c.B T') H n v r.d k := by
  rcases hk with f | ⟨m, e, q⟩
  · exact ⟨[], List.nil_sublist _, fun T' _ _ => .flat (h.read.flat f) f⟩
  · obtain ⟨d, m'⟩ := r
    cases e
    have nd := List.nodup_append.mp S.nd
    exact RO.lower h.dep q nd.2.1 fun b hb => .inr (S.own b (List.mem_append_right _ hb)).1
end
def isL (env : VEnv) (i : Nat) (p : List Int) : Prop := ∃ d m ds, env[i]? = some (some (d, m)) ∧ getP d p = some (.list ds)
theorem isL.ty {c : Cn} {L : List (List Addr)} {l : List Addr} {env : VEnv} {σ : Sg} {H : Hp} {i : Nat} {p : List Int} {v v0 : V} (h : isL env i p) (S : Sim c L l env σ H) (hv : σ[i]? = some (some v0)) (nav : NavP H v0 p v) {K : PySem.W.Frag} : ∃ a xs, v = .ref a ∧ H a = some (.lst xs) ∧ tyV K "list" v H := by
  obtain ⟨d, m, ds, e, g⟩ := h
  obtain ⟨v1, li, hv1, _, r⟩ := S.sl.get e
  rw [hv] at hv1; cases hv1
  obtain ⟨w, n, rw⟩ := RS.nav r.read g
  have := n.inj nav
  subst this
  obtain ⟨a, xs, rfl, ha, _, _⟩ := rw.lst_inv
  exact ⟨a, xs, rfl, ha, Or.inl ⟨rfl, _, Or.inl (Or.inl ha)⟩⟩
structure OwnL (env : VEnv) (i : Nat) (p : List Int) (ds : List D) (d : D) (m n : Option Nat) : Prop where
  at_ : env[i]? = some (some (d, .o m))
  get : getP d p = some (.list ds)
  dep : ∃ mp, depP m d p = some mp ∧ popM mp = some n
def wApp (wp : WP) (we : WE) : WS := fun env Dv => wp env (fun i p e => isL e i p ∧ we e (fun r e' => ∃ d m ds n d', OwnL e' i p ds d m n ∧ kidOk n r ∧ ds.length < 1000000 ∧
  setP d p (.list (ds ++ [r.d])) = some d' ∧ Dv.nx (killB (e'.set i (some (d', .o m))))) Dv.ex) Dv.ex
section
variable {X : Cx} {c : Cn} {W : WX} {pos apos cpos : Pos} {wp : WP} {we : WE} {o e : Expr}
theorem line_big {n : Nat} (h : n < 1000000) : n < sizeLine := Nat.lt_of_lt_of_le h (by rw [sizeLine_eq]; omega)
theorem rd_tgt {σ : Sg} {H : Hp} {Q : V → Hp → Prop} {env : VEnv} {L : List (List Addr)} {Dv : DV} {Qv : Nat → List Int → VEnv → Prop} (S : Sim c L [] env σ H) (hw : wp env Qv Dv.ex)
    (hx : ∀ ex env' L' σ' H' cls d, Dv.ex ex env' → Sim c L' [] env' σ' H' → ExR c H' ex cls d → W cls d σ' H')
    (k : ∀ i p v v0 L' env' H', Qv i p env' → Sim c L' [] env' σ H' → σ[i]? = some (some v0) → NavP H' v0 p v → Q v H') : rdP c W wp σ H Q :=
  ⟨env, L, [], Qv, _, S, hw, fun i p v v0 L' env' H' q st hv nav => k i p v v0 L' env' H' q st.sim0 hv nav, fun ex cls d L' env' H' hq st he => hx ex env' L' σ H' cls d hq st.sim0 he⟩
theorem rd_arg {σ : Sg} {H : Hp} {Q : VK} {env : VEnv} {L : List (List Addr)} {Dv : DV} {Qv : R → VEnv → Prop} (S : Sim c L [] env σ H) (hw : we env Qv Dv.ex)
    (hx : ∀ ex env' L' σ' H' cls d, Dv.ex ex env' → Sim c L' [] env' σ' H' → ExR c H' ex cls d → W cls d σ' H')
    (k : ∀ r v l L' env' H', Qv r env' → Same H H' → Sim c L' l env' σ H' → Res c (L'.flatten ++ l) H' r v l → Q v H') : rdE c W we σ H Q :=
  ⟨env, L, [], Qv, _, S, hw, fun r v l L' env' H' q st hr => k r v l L' env' H' q st.same st.sim hr, fun ex cls d L' env' H' hq st he => hx ex env' L' σ H' cls d hq st.sim0 he⟩
theorem vs_app (ho : PE X o (rdP c W wp)) (he : PE X e (rdE c W we))
    (hb : PE X o (rdP c W wp) → PE X e (rdE c W we) → PE X (.Call (.Attribute o "append" apos) [e] [] cpos) (tBM X.K "list" rAppend (rdP c W wp) (tCons (rdE c W we) tNil)) := by exact fun ho he => pe_bm PySem.F.plainAttrs_list PySem.F.slot_list_append PySem.F.type_list_append mt_append ho (pa_cons he pa_nil)) :
    PS X (.Expr (.Call (.Attribute o "append" apos) [e] [] cpos) pos) (rdS c W (wApp wp we)) := PS.imp (ps_expr (hb ho he)) fun D σ H h => by
  obtain ⟨env, L, Dv, S, q, k, kr, kx⟩ := h
  refine rd_tgt S q kx fun i p v v0 L1 env1 H1 ⟨h0, h1⟩ S1 hv nav => ?_
  obtain ⟨_, _, _, _, ty⟩ := h0.ty S1 hv nav (K := X.K)
  refine ⟨ty, rd_arg S1 h1 kx fun r y l L2 env2 H2 ⟨d, m, ds, n, d', ⟨e1, e2, mp, e3, e4⟩, e5, e6, e7, h2⟩ sm S2 hr => ?_⟩
  obtain ⟨a, xs, rfl, ha, hl, _, up⟩ := S2.mutL e1 hv (nav.keep sm) e2 e3 e4
  obtain ⟨kk, ks, kq⟩ := Res.item S2 hr e5
  suffices hk : _ by
    obtain ⟨L3, S3⟩ := up (xs ++ [y]) _ d' hk e7
    exact ⟨a, xs, y, rfl, rfl, ha, by rw [hl]; exact line_big e6, k _ L3 σ _ h2 S3⟩
  · refine fun lk rk nd hlk => ⟨lk ++ kk, fun b hb => (List.mem_append.mp hb).imp id fun z => ks.subset z, List.nodup_append.mpr ⟨nd, (List.nodup_append.mp S2.nd).2.1.sublist ks, fun b hb b' hb' z => by subst z; exact (hlk b hb).2 (ks.subset hb')⟩, fun T' h1 h2 => ⟨_, List.Perm.refl _, ?_⟩⟩
    have rk' : ROs c.K (AT c.B T') H2 n xs ds lk := ROs.mono (fun b o x _ => AT.less h1 x) rk
    have ri := kq T' h1 fun b hb hb' => by
      rcases List.mem_append.mp (h2 b (List.mem_append_left _ hb) hb') with z | z
      · exact absurd hb (hlk b z).2
      · exact z
    have := ROs.append rk' (.cons ri .nil)
    simpa using this
end
def wPut (wp : WP) (wi we : WE) : WS := fun env Dv => we env (fun r e => wp e (fun i p e1 => wi e1 (fun rk e2 => ∃ d m ds n k j d', rk.d = .int k ∧ OwnL e2 i p ds d m n ∧ kidOk n r ∧ ixN ds.length k = some j ∧
  setP d p (.list (ds.set j r.d)) = some d' ∧ Dv.nx (killB (e2.set i (some (d', .o m))))) Dv.ex) Dv.ex) Dv.ex
section
variable {X : Cx} {c : Cn} {W : WX} {pos tpos : Pos} {wp : WP} {wi we : WE} {o i e : Expr}
theorem ixN_lt {n : Nat} {k : Int} {j : Nat} (h : ixN n k = some j) : j < n := (ixN_seq h).2.1
theorem vs_put (ho : PE X o (rdP c W wp)) (hi : PE X i (rdE c W wi)) (he : PE X e (rdE c W we)) (ha : ∀ v, assign (.Subscript o i tpos) X.env v = (do
      let ov ← holding [v] (eval o X.env)
      let iv ← holding [v, ov] (eval i X.env)
      standAt tpos
      holding [v, ov, iv] (setItem ov iv v)
      release [v, ov, iv] []) := by intro _; rfl) (hs : swapsWithSole [.Subscript o i tpos] e pos.line X.env = pure false := by rfl) (hw : swappedStores [.Subscript o i tpos] e X.env = pure none := by rfl) :
    PS X (.Assign [.Subscript o i tpos] e pos) (rdS c W (wPut wp wi we)) := PS.imp (ps_asg he (pg_sub ho hi set_list ha) hs hw) fun D σ H h => by
  obtain ⟨env, L, Dv, S, q, k, kr, kx⟩ := h
  refine rd_first S q kx fun r y l L1 env1 H1 h1 S1 hr => ?_
  refine ⟨env1, L1, l, _, _, S1, h1, fun s p v v0 L2 env2 H2 h2 st2 hv nav => ?_, fun ex cls d L' env' H' hq st he => kx ex env' L' σ H' cls d hq (Sim.drop (Tm := []) st.sim0) he⟩
  refine ⟨env2, L2, l, _, _, st2.sim0, h2, fun rk w l3 L3 env3 H3 ⟨d, m, ds, n, kk, j, d', e0, ⟨e1, e2, mp, e3, e4⟩, e5, e6, e7, h3⟩ st3 hrk => ?_, fun ex cls d L' env' H' hq st he => kx ex env' L' σ H' cls d hq (Sim.drop (Tm := []) st.sim0) he⟩
  obtain ⟨dk, mk⟩ := rk
  cases e0
  have hrk' := hrk.read
  cases hrk'
  have S3 := st3.sim0
  have g2 : ∀ b ∈ L2.flatten ++ l, b ∈ L1.flatten ++ l ∨ H1 b = none := fun b hb => st2.drop.gr b (by rw [List.append_nil]; exact hb)
  have hr2 := hr.keep st2.same g2
  have g3 : ∀ b ∈ L3.flatten ++ l, b ∈ L2.flatten ++ l ∨ H2 b = none := fun b hb => st3.drop.gr b (by rw [List.append_nil]; exact hb)
  have hr3 := hr2.keep st3.same g3
  obtain ⟨a, xs, rfl, ha, hl, _, up⟩ := S3.mutL e1 hv (nav.keep st3.same) e2 e3 e4
  obtain ⟨kk', ks, kq⟩ := Res.item S3 hr3 e5
  have hj : j < ds.length := ixN_lt e6
  suffices hk : _ by
    obtain ⟨L4, S4⟩ := up (xs.set j y) _ d' hk e7
    exact ⟨a, xs, kk, j, rfl, rfl, ha, by rw [hl]; exact e6, k _ L4 σ _ h3 S4⟩
  · intro lk rk nd hlk
    obtain ⟨u, lj, lr, q1, q2, q3, q4⟩ := rk.split (List.getElem?_eq_getElem hj)
    have nd2 := List.nodup_append.mp (q2.nodup_iff.mp nd)
    have nd3 : (lr ++ kk').Nodup := List.nodup_append.mpr ⟨nd2.1, (List.nodup_append.mp S3.nd).2.1.sublist ks, fun b hb b' hb' z => by subst z; exact (hlk b (q2.mem_iff.mpr (List.mem_append_left _ hb))).2 (ks.subset hb')⟩
    refine ⟨lr ++ kk', fun b hb => (List.mem_append.mp hb).imp (fun z => q2.mem_iff.mpr (List.mem_append_left _ z)) fun z => ks.subset z, nd3, fun T' h1 h2 => ?_⟩
    have ri := kq T' h1 fun b hb hb' => by
      rcases List.mem_append.mp (h2 b (List.mem_append_left _ hb) hb') with z | z
      · exact absurd hb (hlk b (q2.mem_iff.mpr (List.mem_append_left _ z))).2
      · exact z
    obtain ⟨l'', p'', r''⟩ := q4 (AT c.B T') H3 y r.d kk' (Kp.same (Same.refl _)) (fun b _ o z => z) (fun b o x _ => AT.less h1 x) ri
    exact ⟨l'', p'', r''⟩
end
end VL
set_option maxRecDepth 100000
set_option maxHeartbeats 4000000
namespace VL
open PySem PySem.Spec PyProof.Rows L2
def slLe : Option (D × Md) → Option (D × Md) → Prop
  | none, _ => True
  | some (d, .b), some (d', _) => d = d'
  | some (d, .o m), some (d', .o m') => d = d' ∧ leM m m' = true
  | _, _ => False
def envLe : VEnv → VEnv → Prop
  | [], [] => True
  | s :: e, s' :: e' => slLe s s' ∧ envLe e e'
  | _, _ => False
theorem slLe.refl (s : Option (D × Md)) : slLe s s := by
  match s with
  | none => exact True.intro
  | some (d, .b) => exact rfl
  | some (d, .o m) => exact ⟨rfl, leM_refl m⟩
theorem envLe.refl : ∀ e : VEnv, envLe e e
  | [] => True.intro
  | s :: e => ⟨slLe.refl s, envLe.refl e⟩
section
variable {c : Cn} {T : List Addr} {H : Hp}
theorem Slots.lower : ∀ {e e0 : VEnv} {σ : Sg} {L : List (List Addr)}, Slots c T H e σ L → envLe e0 e → L.flatten.Nodup → (∀ b ∈ L.flatten, c.B b) →
    ∃ L0 : List (List Addr), L0.flatten.Sublist L.flatten ∧ ∀ T', (∀ b ∈ T', b ∈ T) → (∀ b ∈ L.flatten, b ∈ T' → b ∈ L0.flatten) → Slots c T' H e0 σ L0 := by
  intro e e0 σ L h
  induction h generalizing e0 with
  | nil =>
    intro le nd hb
    cases e0 with
    | nil => exact ⟨[], List.Sublist.refl _, fun _ _ _ => .nil⟩
    | cons _ _ => exact le.elim
  | @non e x σ L h ih =>
    intro le nd hb
    cases e0 with
    | nil => exact le.elim
    | cons s e0 =>
      obtain ⟨L0, sb, q⟩ := ih le.2 (by simpa using nd) (by simpa using hb)
      have hs : s = none := by
        match s, le.1 with
        | none, _ => rfl
        | some (_, .b), z => exact z.elim
        | some (_, .o _), z => exact z.elim
      subst hs
      exact ⟨[] :: L0, by simpa using sb, fun T' h1 h2 => .non (q T' h1 (by simpa using h2))⟩
  | @bor e d v σ L r h ih =>
    intro le nd hb
    cases e0 with
    | nil => exact le.elim
    | cons s e0 =>
      obtain ⟨L0, sb, q⟩ := ih le.2 (by simpa using nd) (by simpa using hb)
      refine ⟨[] :: L0, by simpa using sb, fun T' h1 h2 => ?_⟩
      have hr := q T' h1 (by simpa using h2)
      match s, le.1 with
      | none, _ => exact .non hr
      | some (_, .b), z => cases z; exact .bor r hr
      | some (_, .o _), z => exact z.elim
  | @own e d m v l σ L r h ih =>
    intro le nd hb
    cases e0 with
    | nil => exact le.elim
    | cons s e0 =>
      rw [List.flatten_cons] at nd hb
      have nd' := List.nodup_append.mp nd
      obtain ⟨L0, sb, q⟩ := ih le.2 nd'.2.1 (fun b hb' => hb b (List.mem_append_right _ hb'))
      match s, le.1 with
      | none, _ =>
        refine ⟨[] :: L0, by simpa using sb.trans (List.sublist_append_right _ _), fun T' h1 h2 => .non (q T' h1 fun b hb1 hb2 => by simpa using h2 b (by simp [hb1]) hb2)⟩
      | some (_, .b), z =>
        cases z
        refine ⟨[] :: L0, by simpa using sb.trans (List.sublist_append_right _ _), fun T' h1 h2 => .bor ?_ (q T' h1 fun b hb1 hb2 => by simpa using h2 b (by simp [hb1]) hb2)⟩
        exact RO.share (RO.mono (fun _ _ _ _ => trivial) r) fun _ _ => trivial
      | some (_, .o m0), z =>
        obtain ⟨z1, z2⟩ := z
        cases z1
        obtain ⟨l0, s0, q0⟩ := RO.lower r z2 nd'.1 fun b hb' => hb b (List.mem_append_left _ hb')
        refine ⟨l0 :: L0, by simpa using s0.append sb, fun T' h1 h2 => .own (q0 T' h1 fun b hb1 hb2 => ?_) (q T' h1 fun b hb1 hb2 => ?_)⟩
        · rcases List.mem_append.mp (by simpa using h2 b (by simp [hb1]) hb2 : b ∈ l0 ++ L0.flatten) with z | z
          · exact z
          · exact absurd rfl (nd'.2.2 b hb1 b (sb.subset z))
        · rcases List.mem_append.mp (by simpa using h2 b (by simp [hb1]) hb2 : b ∈ l0 ++ L0.flatten) with z | z
          · exact absurd rfl (nd'.2.2 b (s0.subset z) b hb1)
          · exact z
theorem Sim.lower {L : List (List Addr)} {Tm : List Addr} {e e0 : VEnv} {σ : Sg} (S : Sim c L Tm e σ H) (le : envLe e0 e) : ∃ L0, Sim c L0 Tm e0 σ H := by
  have nd := List.nodup_append.mp S.nd
  obtain ⟨L0, sb, q⟩ := S.sl.lower le nd.1 fun b hb => .inr (S.own b (List.mem_append_left _ hb)).1
  have sb' : (L0.flatten ++ Tm).Sublist (L.flatten ++ Tm) := sb.append (List.Sublist.refl _)
  refine ⟨L0, q _ (fun b hb => sb'.subset hb) fun b h1 h2 => ?_, S.nd.sublist sb', fun a ha => S.own a (sb'.subset ha), S.fr, fun p hp => (S.hd p hp).mono fun b o a _ => AT.less (fun b hb => sb'.subset hb) a, S.pin⟩
  rcases List.mem_append.mp h2 with z | z
  · exact z
  · exact absurd rfl (nd.2.2 b h1 b z)
end
section
variable {X : Cx} {c : Cn} {W : WX} {w : WS} {st : Stmt}
end
def putAll : VEnv → List Nat → List R → VEnv
  | e, i :: is, r :: rs => putAll (e.set i (some (r.d, r.m))) is rs
  | e, _, _ => e
def setAll : Sg → List Nat → List V → Sg
  | σ, i :: is, v :: vs => setAll (σ.set i (some v)) is vs
  | σ, _, _ => σ
section
variable {c : Cn} {H : Hp}
theorem Sim.putAllG {Tm : List Addr} : ∀ {is : List Nat} {rs : List R} {vs : List V} {l : List Addr} {L : List (List Addr)} {env : VEnv} {σ : Sg} {T : List Addr}, Ress c T H rs vs l → Sim c L (Tm ++ l) env σ H → (∀ b ∈ L.flatten ++ (Tm ++ l), b ∈ T) → PinF c is →
    ∃ L', Sim c L' Tm (VL.putAll env is rs) (setAll σ is vs) H ∧ ∀ b ∈ L'.flatten ++ Tm, b ∈ L.flatten ++ (Tm ++ l) := by
  intro is rs vs l L env σ T h
  induction h generalizing is L env σ with
  | nil => intro S _ _; cases is <;> exact ⟨L, by simpa [VL.putAll, setAll] using S, fun b hb => by simpa using hb⟩
  | @cons r rs v vs l1 l2 hr _ ih =>
    intro S g pf
    cases is with
    | nil => exact ⟨L, S.drop, fun b hb => by rw [← List.append_assoc]; exact List.mem_append_left _ hb⟩
    | cons i is =>
      have pm : (Tm ++ (l1 ++ l2)).Perm ((Tm ++ l2) ++ l1) := by
        rw [List.append_assoc]; exact List.perm_append_comm.append_left _
      have S' : Sim c L ((Tm ++ l2) ++ l1) env σ H := by
        have mem : ∀ b, b ∈ L.flatten ++ ((Tm ++ l2) ++ l1) → b ∈ L.flatten ++ (Tm ++ (l1 ++ l2)) := fun b hb => (pm.append_left _).mem_iff.mpr hb
        exact ⟨S.sl.keep (Same.refl _) fun b hb => .inl (mem b hb), (pm.append_left _).nodup_iff.mp S.nd, fun a ha => S.own a (mem a ha), S.fr, fun p hp => (S.hd p hp).mono fun b o a _ => AT.less mem a, S.pin⟩
      have hr' : Res c (L.flatten ++ ((Tm ++ l2) ++ l1)) H r v l1 := hr.keep (Same.refl _) fun b hb => .inl (g b ((pm.append_left _).mem_iff.mpr hb))
      obtain ⟨L1, S1, g1⟩ := Sim.put (i := i) S' hr' (pf.sub fun j hj => by rw [List.mem_singleton.mp hj]; exact List.mem_cons_self)
      obtain ⟨L2, S2, g2⟩ := ih (is := is) S1 (fun b hb => g b ((pm.append_left _).mem_iff.mpr (g1 b hb))) (pf.sub fun j hj => List.mem_cons_of_mem _ hj)
      exact ⟨L2, S2, fun b hb => (pm.append_left _).mem_iff.mpr (g1 b (g2 b hb))⟩
theorem Sim.putAll {Tm : List Addr} {is : List Nat} {rs : List R} {vs : List V} {l : List Addr} {L : List (List Addr)} {env : VEnv} {σ : Sg} {T : List Addr} (h : Ress c T H rs vs l) (S : Sim c L (Tm ++ l) env σ H) (g : ∀ b ∈ L.flatten ++ (Tm ++ l), b ∈ T) (pf : PinF c is) :
    ∃ L', Sim c L' Tm (VL.putAll env is rs) (setAll σ is vs) H := let ⟨L', S', _⟩ := Sim.putAllG h S g pf; ⟨L', S'⟩
theorem Res.items {T l : List Addr} {m : Md} {ds : List D} {v : V} (h : Res c T H ⟨.tuple ds, m⟩ v l) : ∃ a xs l', v = .ref a ∧ H a = some (.tup xs) ∧ l'.Sublist l ∧ Ress c T H (ds.map (subT m)) xs l' := by
  cases m with
  | b =>
    obtain ⟨a, xs, e, ha, r⟩ := h.1.tup_inv
    have : ∀ {xs : List V} {ds : List D}, RSs c.K (fun _ => True) H xs ds → Ress c T H (ds.map (subT .b)) xs [] := by
      intro xs ds r
      induction xs generalizing ds with
      | nil => cases r; exact .nil
      | cons x xs ih =>
        cases r with
        | @cons _ _ d ds h r =>
          have hx : Res c T H (subT .b d) x [] := by
            unfold subT
            by_cases f : flatD d = true
            · rw [if_pos f]; exact Res.flat h f
            · rw [if_neg f]; exact ⟨h, rfl⟩
          exact .cons (l1 := []) (l2 := []) hx (ih r)
    exact ⟨a, xs, [], e, ha, List.nil_sublist _, this r⟩
  | o m =>
    obtain ⟨a, xs, e, ha, r⟩ := h.dep.tup_inv
    have : ∀ {xs : List V} {ds : List D} {l : List Addr}, ROs c.K (AT c.B T) H m xs ds l → ∃ l', l'.Sublist l ∧ Ress c T H (ds.map (subT (.o m))) xs l' := by
      intro xs ds l r
      induction xs generalizing ds l with
      | nil => cases r; exact ⟨[], List.Sublist.refl _, .nil⟩
      | cons x xs ih =>
        cases r with
        | @cons _ _ _ d ds l1 l2 h r =>
          obtain ⟨l', s, q⟩ := ih r
          by_cases f : flatD d = true
          · refine ⟨[] ++ l', s.trans (List.sublist_append_right _ _), .cons ?_ q⟩
            unfold subT
            rw [if_pos f]; exact Res.flat (A := fun _ => True) (RO.of_flat h f) f
          · refine ⟨l1 ++ l', (List.Sublist.refl _).append s, .cons ?_ q⟩
            unfold subT
            rw [if_neg f]; exact h
    obtain ⟨l', s, q⟩ := this r
    exact ⟨a, xs, l', e, ha, s, q⟩
theorem Ress.keepT {T T' l : List Addr} {rs : List R} {vs : List V} (h : Ress c T H rs vs l) (g : ∀ b ∈ T', b ∈ T) : Ress c T' H rs vs l := h.keep (Same.refl H) fun b hb => .inl (g b hb)
end
structure Tg where
  is : List Nat
  f : R → Option (List R)
def tgN (i : Nat) : Tg := ⟨[i], fun r => some [r]⟩
def tgT (is : List Nat) : Tg := ⟨is, fun r => match r.d with
  | .tuple ds => if ds.length = is.length then some (ds.map (subT r.m)) else none
  | _ => none⟩
structure TgOk (X : Cx) (tg : Expr) (g : Tg) : Prop where
  ok : ∃ t, PG X tg t ∧ ∀ (c : Cn) (T : List Addr) (H : Hp) (r : R) (v : V) (l : List Addr) (rs : List R), c.K = X.K → Res c T H r v l → g.f r = some rs →
    ∃ vs l', l'.Sublist l ∧ Ress c T H rs vs l' ∧ vs.length = g.is.length ∧ ∀ σ Q, Q (setAll σ g.is vs) H → t v σ H Q
section
variable {X : Cx} {c : Cn} {pos : Pos} {t t' : TG}
theorem tg_name {i : Nat} {x : Str} (hN : X.N.Nodup) (hi : X.N[i]? = some x := by rfl) (hx : Loc X.env.scope x := by first | exact .inl rfl | exact .inr rfl) (hf : X.fn x = true ∨ X.env.scope.names.lookup x = some .local := by first | exact .inl rfl | exact .inr rfl | assumption) : TgOk X (.Name x pos) (tgN i) :=
  ⟨_, pg_name hN hi hx hf, fun c T H r v l rs _ hr e => by
    cases e
    exact ⟨[v], l, List.Sublist.refl _, by simpa using Ress.cons hr .nil, rfl, fun σ Q q => q⟩⟩
inductive NamesAt (X : Cx) : List Expr → List Nat → TGs → Prop
  | nil : NamesAt X [] [] gNil
  | cons {e : Expr} {es : List Expr} {i : Nat} {is : List Nat} {u : TGs} : PG X e (gName i) → NamesAt X es is u → ((assignEach (e :: es) X.env).map (·.2) = assign e X.env :: (assignEach es X.env).map (·.2)) → NamesAt X (e :: es) (i :: is) (gCons (gName i) u)
theorem na_nil : NamesAt X [] [] gNil := .nil
theorem na_cons {i : Nat} {is : List Nat} {x : Str} {p : Pos} {es : List Expr} {u : TGs} (h : NamesAt X es is u) (hN : X.N.Nodup) (hi : X.N[i]? = some x := by rfl) (hx : Loc X.env.scope x := by first | exact .inl rfl | exact .inr rfl) (hf : X.fn x = true ∨ X.env.scope.names.lookup x = some .local := by first | exact .inl rfl | exact .inr rfl | assumption)
    (hs : (assignEach (.Name x p :: es) X.env).map (·.2) = assign (.Name x p) X.env :: (assignEach es X.env).map (·.2) := by rfl) : NamesAt X (.Name x p :: es) (i :: is) (gCons (gName i) u) := .cons (pg_name hN hi hx hf) h hs
theorem NamesAt.pgs {es : List Expr} {is : List Nat} {u : TGs} (h : NamesAt X es is u) : PGs X es u := by
  induction h with
  | nil => exact pgs_nil
  | cons h1 _ hs ih => exact pgs_cons h1 ih hs
theorem NamesAt.run {es : List Expr} {is : List Nat} {u : TGs} (h : NamesAt X es is u) : ∀ {vs : List V} {σ : Sg} {H : Hp} {Q : Sg → Hp → Prop}, vs.length = is.length → Q (setAll σ is vs) H → u vs σ H Q := by
  induction h with
  | nil =>
    intro vs σ H Q hl q
    cases vs with
    | nil => exact ⟨rfl, q⟩
    | cons _ _ => cases hl
  | cons _ _ _ ih =>
    intro vs σ H Q hl q
    cases vs with
    | nil => cases hl
    | cons v vs => exact ⟨v, vs, rfl, ih (by simpa using hl) q⟩
theorem tg_tup {es : List Expr} {is : List Nat} {u : TGs} {k : Nat} (hc : X.calm = true) (h : NamesAt X es is u) (hn : (assignEach es X.env).length = is.length := by rfl) (hst : (assignEach es X.env).findIdx? (·.1) = none := by rfl) : TgOk X (.Tuple es k pos) (tgT is) :=
  ⟨_, pg_tup hc h.pgs hn hst, fun c T H r v l rs hK hr e => by
    obtain ⟨d, m⟩ := r
    unfold tgT at e
    simp only at e
    split at e
    · rename_i ds
      split at e
      · rename_i hl
        cases e
        obtain ⟨a, xs, l', rfl, ha, s, rs⟩ := Res.items (ds := ds) (m := m) hr
        have lx : xs.length = ds.length := by rw [← rs.len, List.length_map]
        exact ⟨xs, l', s, rs, by rw [lx]; exact hl, fun σ Q q => ⟨a, xs, rfl, SqT.of ha, by rw [lx]; exact hl, h.run (by rw [lx]; exact hl) q⟩⟩
      · cases e
    · cases e⟩
end
def wAsg (g : Tg) (we : WE) : WS := fun env Dv => we env (fun r e => ∃ rs, g.f r = some rs ∧ Dv.nx (putAll e g.is rs)) Dv.ex
section
variable {X : Cx} {c : Cn} {W : WX} {pos : Pos} {we : WE} {g : Tg} {tg e : Expr}
theorem vs_asg (he : PE X e (rdE c W we)) (hg : TgOk X tg g) (hK : c.K = X.K := by rfl) (hs : swapsWithSole [tg] e pos.line X.env = pure false := by rfl) (hw : swappedStores [tg] e X.env = pure none := by rfl)
    (h1 : (assignEach [tg] X.env).map (·.2) = [assign tg X.env] := by rfl) (pf : PinF c g.is := by first | exact pinF_nil rfl | exact pinF_one rfl (by decide) | assumption) : PS X (.Assign [tg] e pos) (rdS c W (wAsg g we)) := by
  obtain ⟨t, hp, run⟩ := hg.ok
  refine PS.imp (ps_asg he hp hs hw h1) fun D σ H h => ?_
  obtain ⟨env, L, Dv, S, q, k, kr, kx⟩ := h
  refine rd_first S q kx fun r v l L' env' H' ⟨rs, hq, hn⟩ S' hr => ?_
  obtain ⟨vs, l', s, rr, hl, go⟩ := run c _ H' r v l rs hK hr hq
  have S2 : Sim c L' ([] ++ l') env' σ H' := S'.less s
  obtain ⟨L2, S3⟩ := Sim.putAll (is := g.is) (Tm := []) rr S2 (fun b hb => by
    rcases List.mem_append.mp hb with z | z
    · exact List.mem_append_left _ z
    · exact List.mem_append_right _ (s.subset z)) pf
  exact go σ _ (k _ L2 _ H' hn S3)
def wPar (is : List Nat) (wa : WA) : WS := fun env Dv => wa env (fun rs e => rs.length = is.length ∧ Dv.nx (putAll e is rs)) Dv.ex
theorem rd_args {σ : Sg} {H : Hp} {Q : List V → Hp → Prop} {wa : WA} {env : VEnv} {L : List (List Addr)} {Dv : DV} {Qv : List R → VEnv → Prop} (S : Sim c L [] env σ H) (hw : wa env Qv Dv.ex)
    (hx : ∀ ex env' L' σ' H' cls d, Dv.ex ex env' → Sim c L' [] env' σ' H' → ExR c H' ex cls d → W cls d σ' H')
    (k : ∀ rs vs l L' env' H', Qv rs env' → Sim c L' l env' σ H' → Ress c (L'.flatten ++ l) H' rs vs l → Q vs H') : rdA c W wa σ H Q :=
  ⟨env, L, [], Qv, _, S, hw, fun rs vs l L' env' H' q st hr => k rs vs l L' env' H' q st.sim hr, fun ex cls d L' env' H' hq st he => hx ex env' L' σ H' cls d hq st.sim0 he⟩
theorem vs_par {i j : Nat} {x y : Str} {a b : Expr} {wa : WA} {px py pt : Pos} {kt k2 pt2} (ha : PA X [a, b] (rdA c W wa)) (hc : X.calm = true) (hN : X.N.Nodup) (hij : i ≠ j := by decide) (hi : X.N[i]? = some x := by rfl) (hj : X.N[j]? = some y := by rfl)
    (hx : X.env.scope.names.lookup x = some .local := by rfl) (hy : X.env.scope.names.lookup y = some .local := by rfl)
    (hw : swappedStores [.Tuple [.Name x px, .Name y py] kt pt] (.Tuple [a, b] k2 pt2) X.env = pure (some [x, y]) := by rfl)
    (hs : swapsWithSole [.Tuple [.Name x px, .Name y py] kt pt] (.Tuple [a, b] k2 pt2) pos.line X.env = pure false := by rfl) (pf : PinF c [i, j] := by first | exact pinF_nil rfl | exact pinF_one rfl (by decide) | assumption) :
    PS X (.Assign [.Tuple [.Name x px, .Name y py] kt pt] (.Tuple [a, b] k2 pt2) pos) (rdS c W (wPar [i, j] wa)) := PS.imp (ps_par hc hN hi hj hij hx hy ha hw hs) fun D σ H h => by
  obtain ⟨env, L, Dv, S, q, k, kr, kx⟩ := h
  refine rd_args S q kx fun rs vs l L' env' H' ⟨hl, hq⟩ S' hr => ?_
  have hv := hr.len
  match vs, rs, hl, hv, hr with
  | [v, w], rs, hl, hv, hr =>
    obtain ⟨L2, S2⟩ := Sim.putAll (is := [i, j]) (Tm := []) hr S' (fun b hb => hb) pf
    exact ⟨v, w, rfl, k _ L2 _ H' hq S2⟩
  | [], rs, hl, hv, hr => rw [hl] at hv; cases hv
  | [v], rs, hl, hv, hr => rw [hl] at hv; cases hv
  | _ :: _ :: _ :: _, rs, hl, hv, hr => rw [hl] at hv; simp at hv
end
def wWhile (t : WT) (w : WS) : WS := fun env Dv => ∃ (I : VEnv → Nat → Prop) (e0 : VEnv) (m0 : Nat), envLe e0 env ∧ I e0 m0 ∧ ∀ e m, I e m → t e (fun b e1 => if b = true then w e1 { Dv with nx := fun e2 => ∃ e3 m', envLe e3 e2 ∧ I e3 m' ∧ m' < m } else Dv.nx e1) Dv.ex
section
variable {X : Cx} {c : Cn} {W : WX} {pos : Pos} {t : WT} {w : WS} {te : Expr} {body : List Stmt}
theorem vs_while (hp : PassesOwn (model X.prog X.w) X.A X.env X.xe) (ht : PT X te (rdT c W t)) (hb : PSs X body (rdS c W w)) : PS X (.While te body [] pos) (rdS c W (wWhile t w)) := PS.imp (ps_while hp ht hb) fun D σ H h => by
  obtain ⟨env, L, Dv, S, ⟨I, e0, m0, le, i0, step⟩, k, kr, kx⟩ := h
  obtain ⟨L0, S0⟩ := S.lower le
  refine ⟨fun m σ H => ∃ e L, Sim c L [] e σ H ∧ I e m, ⟨m0, e0, L0, S0, i0⟩, ?_⟩
  rintro m σ1 H1 ⟨e, L1, S1, i1⟩
  refine ⟨e, L1, [], _, _, S1, step e m i1, fun b L2 e2 H2 hq st => ?_, fun ex cls d L' env' H' hq st he => kx ex env' L' σ1 H' cls d hq st.sim0 he⟩
  cases b with
  | false => exact k e2 L2 σ1 H2 hq st.sim0
  | true =>
    refine ⟨fun σ' H' => ∃ e m' L, Sim c L [] e σ' H' ∧ I e m' ∧ m' < m, fun σ' H' ⟨e, m', L, S, i, lt⟩ => ⟨m', lt, e, L, S, i⟩, ?_⟩
    refine ⟨e2, L2, _, st.sim0, hq, fun env' L' σ' H' ⟨e3, m', le3, i3, lt3⟩ S' => ?_, kr, kx⟩
    obtain ⟨L3, S3⟩ := S'.lower le3
    exact ⟨e3, m', L3, S3, i3, lt3⟩
end
end VL
set_option maxRecDepth 100000
set_option maxHeartbeats 4000000
namespace VL
open PySem PySem.Spec PyProof.Rows L2
theorem PI.imp {X : Cx} {tg iter : Expr} {w w' : TI} (h : PI X tg iter w) (q : ∀ σ H R, w' σ H R → w σ H R) : PI X tg iter w' := ⟨fun pins s σ H R I hw => h.run pins s σ H R I (q _ _ _ hw)⟩
theorem PI.or {X : Cx} {tg iter : Expr} {w w' : TI} (h : PI X tg iter w) (h' : PI X tg iter w') : PI X tg iter (fun σ H R => w σ H R ∨ w' σ H R) := ⟨fun pins s σ H R I hw => hw.elim (fun z => h.run pins s σ H R I z) fun z => h'.run pins s σ H R I z⟩
def iSeq (K : PySem.W.Frag) (tl : TE) : TI := fun σ H R => tl σ H fun x H1 => ∃ a, x = .ref a ∧ (((∃ xs, SqL K H1 a xs) ∧ R (Itl K a) H1) ∨ ((∃ xs, SqT K H1 a xs) ∧ R (Itt K a) H1))
theorem pi_seq {X : Cx} {tg l : Expr} {tl : TE} (hl : PE X l tl) : PI X tg l (iSeq X.K tl) := by
  refine ⟨fun pins s σ H R I h => ?_⟩
  refine thn (hl.run pins s σ H _ I h) fun v s1 ⟨x, H1, I1, r1, q1⟩ => ?_
  obtain ⟨a, e, q⟩ := q1
  subst e
  cases r1
  rcases q with ⟨⟨xs, hq⟩, q⟩ | ⟨⟨xs, hq⟩, q⟩
  · obtain ⟨its, rv, p, hz⟩ := I1.list hq
    refine wpAny_pyIter_list p.isList ?_
    refine ⟨s1.heap.objs.size, [s1.heap.objs.size], _, _, H1, rfl, I1.kept (t' := s1.toks) fun b o e => Heap.get?_push_of_some _ e, turn_list a _, ⟨_, Heap.get?_push_size _ rfl, rfl, rfl⟩, fun b hb => ?_, q⟩
    have e : b = s1.heap.objs.size := by simpa using hb
    subst e
    exact I1.fpOk (Nat.le_refl _) (I1.hok.fresh (Nat.le_refl _))
  · obtain ⟨its, rv, p, hz⟩ := I1.tuple hq
    refine wpAny_pyIter_tuple (show s1.heap.IsTuple a its.toArray from p) ?_
    refine ⟨s1.heap.objs.size, [s1.heap.objs.size], _, _, H1, rfl, I1.kept (t' := s1.toks) fun b o e => Heap.get?_push_of_some _ e, turn_tuple a _, ⟨_, Heap.get?_push_size _ rfl, rfl, rfl⟩, fun b hb => ?_, q⟩
    have e : b = s1.heap.objs.size := by simpa using hb
    subst e
    exact I1.fpOk (Nat.le_refl _) (I1.hok.fresh (Nat.le_refl _))
def seqOf : D → Option (List D)
  | .list ds => some ds
  | .tuple ds => some ds
  | _ => none
def itemR (m : Md) (d : D) : R := if flatD d = true then ⟨d, mA⟩ else match m with
  | .b => ⟨d, .b⟩
  | .o _ => ⟨d, mS⟩
section
variable {c : Cn} {L : List (List Addr)} {Tm l T : List Addr} {env : VEnv} {σ : Sg} {H H' : Hp}
theorem seq_run {K : PySem.W.Frag} {A : Addr → Prop} {v : V} {d : D} {ds : List D} (h : RS K A H v d) (e : seqOf d = some ds) :
    ∃ a xs, v = .ref a ∧ RSs K A H xs ds ∧ ((d = .list ds ∧ H a = some (.lst xs)) ∨ (d = .tuple ds ∧ H a = some (.tup xs))) := by
  match d, e with
  | .list ds', e =>
    cases e
    obtain ⟨a, xs, q, ha, _, r⟩ := h.lst_inv
    exact ⟨a, xs, q, r, .inl ⟨rfl, ha⟩⟩
  | .tuple ds', e =>
    cases e
    obtain ⟨a, xs, q, ha, r⟩ := h.tup_inv
    exact ⟨a, xs, q, r, .inr ⟨rfl, ha⟩⟩
end
def wFor (g : Tg) (we : WE) (w : WS) : WS := fun env Dv => we env (fun r e => ∃ ds, seqOf r.d = some ds ∧ isB r.m = false ∧ ∃ (I : Nat → VEnv → Prop) (e0 : VEnv), envLe e0 e ∧ I 0 e0 ∧
  (∀ i d e, ds[i]? = some d → I i e → ∃ rs, g.f (itemR mS d) = some rs ∧ w (putAll e g.is rs) { Dv with nx := fun e2 => ∃ e3, envLe e3 e2 ∧ I (i + 1) e3 }) ∧ (∀ e, I ds.length e → Dv.nx e)) Dv.ex
def Cn.with (c : Cn) (hd : List (V × D)) : Cn := { c with hd := hd }
section
variable {X : Cx} {c : Cn} {W : WX} {pos : Pos} {g : Tg} {we : WE} {w : WS} {tg iter : Expr} {body : List Stmt}
theorem Sim.unhd {c : Cn} {p : V × D} {L : List (List Addr)} {Tm : List Addr} {e : VEnv} {σ : Sg} {H : Hp} (S : Sim (c.with (p :: c.hd)) L Tm e σ H) : Sim c L Tm e σ H :=
  ⟨(by
    have := S.sl
    exact un this), S.nd, S.own, S.fr, fun q hq => S.hd q (List.mem_cons_of_mem _ hq), S.pin⟩
where
  un {c : Cn} {hd : List (V × D)} {T : List Addr} {H : Hp} {e : VEnv} {σ : Sg} {L : List (List Addr)} (h : Slots (c.with hd) T H e σ L) : Slots c T H e σ L := by
    induction h with
    | nil => exact .nil
    | non _ ih => exact .non ih
    | bor r _ ih => exact .bor r ih
    | own r _ ih => exact .own r ih
theorem Sim.addhd {c : Cn} {v : V} {d : D} {L : List (List Addr)} {Tm : List Addr} {e : VEnv} {σ : Sg} {H : Hp} (S : Sim c L Tm e σ H) (h : RS c.K (AT c.B (L.flatten ++ Tm)) H v d) : Sim (c.with ((v, d) :: c.hd)) L Tm e σ H :=
  ⟨up S.sl, S.nd, S.own, S.fr, fun q hq => by
    rcases List.mem_cons.mp hq with z | z
    · subst z; exact h
    · exact S.hd q z, S.pin⟩
where
  up {c : Cn} {hd : List (V × D)} {T : List Addr} {H : Hp} {e : VEnv} {σ : Sg} {L : List (List Addr)} (h : Slots c T H e σ L) : Slots (c.with hd) T H e σ L := by
    induction h with
    | nil => exact .nil
    | non _ ih => exact .non ih
    | bor r _ ih => exact .bor r ih
    | own r _ ih => exact .own r ih
theorem Res.share0 {r : R} {v : V} {l : List Addr} {L : List (List Addr)} {env : VEnv} {σ : Sg} {H : Hp} (h : Res c (L.flatten ++ l) H r v l) (hb : isB r.m = false) (S : Sim c L l env σ H) : RS c.K (AT c.B (L.flatten ++ [])) H v r.d := by
  obtain ⟨d, m⟩ := r
  cases m with
  | b => cases hb
  | o m => exact Res.shared (Tm := []) (la := l) (m := m) h rfl S fun b hb => hb
structure Walked (J : It) (xs : List V) (H : Hp) : Prop where
  go : ∀ (i : Nat) x, xs[i]? = some x → J.go i H
  stop : ∀ (i : Nat), xs.length ≤ i → J.stop i H
  yld : ∀ (i : Nat) x y H', xs[i]? = some x → J.yld i H y H' → H' = H ∧ y = x
theorem walked_l {K : PySem.W.Frag} {a : Addr} {xs : List V} {H : Hp} (p : H a = some (.lst xs)) : Walked (Itl K a) xs H :=
  ⟨fun i x e => ⟨xs, x, SqL.of p, e⟩, fun i e => ⟨xs, SqL.of p, e⟩, fun i x y H' e ⟨h1, h2⟩ => ⟨h1, Option.some.inj ((h2 xs (SqL.of p)).symm.trans e)⟩⟩
theorem walked_t {K : PySem.W.Frag} {a : Addr} {xs : List V} {H : Hp} (p : H a = some (.tup xs)) : Walked (Itt K a) xs H :=
  ⟨fun i x e => ⟨xs, x, SqT.of p, e⟩, fun i e => ⟨xs, SqT.of p, e⟩, fun i x y H' e ⟨h1, h2⟩ => ⟨h1, Option.some.inj ((h2 xs (SqT.of p)).symm.trans e)⟩⟩
theorem Res.ofItem {T : List Addr} {H : Hp} {v : V} {d : D} (h : RS c.K (AT c.B T) H v d) : Res c T H (itemR mS d) v [] := by
  unfold itemR
  by_cases f : flatD d = true
  · rw [if_pos f]; exact Res.flat h f
  · rw [if_neg f]; exact RO.sh h
theorem vs_for (hp : PassesOwn (model X.prog X.w) X.A X.env X.xe) (hc : X.calm = true) (he : PE X iter (rdE c W we)) (hg : TgOk X tg g) (hb : ∀ hd, PSs X body (rdS (c.with hd) W w)) (hK : c.K = X.K := by rfl)
    (hs : ∀ x, foldedSetIterable iter X.env x = pure x := by intro _; rfl) (pf : PinF c g.is := by first | exact pinF_nil rfl | exact pinF_one rfl (by decide) | assumption) : PS X (.For tg iter body [] pos) (rdS c W (wFor g we w)) := by
  obtain ⟨t, hpg, run⟩ := hg.ok
  refine PS.imp (ps_for (tb := fun D σ H => ∃ hd, rdS (c.with hd) W w D σ H) hp hc (pi_seq he) hpg ⟨fun pins s σ H D I hh => hh.elim fun hd z => (hb hd).run pins s σ H D I z⟩ hs) fun D σ H h => ?_
  obtain ⟨env, L, Dv, S, q, k, kr, kx⟩ := h
  refine rd_first S q kx fun r v l L1 e1 H1 ⟨ds, hd, hm, I, e0, le, i0, step, last⟩ S1 hr => ?_
  have sh := hr.share0 hm S1
  have S2 : Sim c L1 [] e1 σ H1 := Sim.drop (Tm := []) (l := l) S1
  obtain ⟨L0, S0⟩ := (S2.addhd sh).lower le
  have go : ∀ (J : It), (∀ L e σ H, Sim (c.with ((v, r.d) :: c.hd)) L [] e σ H → ∃ xs, Walked J xs H ∧ RSs c.K (AT c.B (L.flatten ++ [])) H xs ds) →
      ∃ Wv : Nat → Nat → Sg → Hp → Prop, (∃ m, Wv 0 m σ H1) ∧ ∀ i m σ H, Wv i m σ H → (J.stop i H ∧ D.nx σ H) ∨ (J.go i H ∧ ∃ N : Sg → Hp → Prop, (∀ σ' H', N σ' H' → ∃ m', m' < m ∧ Wv (i + 1) m' σ' H') ∧ ∀ x H', J.yld i H x H' → t x σ H' fun σ2 H2 => ∃ hd, rdS (c.with hd) W w { D with nx := N, ct := N, bk := D.nx } σ2 H2) := by
    intro J hP
    refine ⟨fun i m σ H => m = ds.length - i ∧ i ≤ ds.length ∧ ∃ e L, Sim (c.with ((v, r.d) :: c.hd)) L [] e σ H ∧ I i e, ⟨ds.length, by simp, Nat.zero_le _, e0, L0, S0, i0⟩, ?_⟩
    rintro i m σ2 H2 ⟨rfl, hi, e, L, S, ii⟩
    obtain ⟨xs, wk, rs⟩ := hP L e σ2 H2 S
    by_cases hlt : i < ds.length
    · obtain ⟨x, hx, rx⟩ := rs.get (List.getElem?_eq_getElem hlt)
      refine .inr ⟨wk.go i x hx, fun σ' H' => ∃ e L, Sim (c.with ((v, r.d) :: c.hd)) L [] e σ' H' ∧ I (i + 1) e, fun σ' H' ⟨e, L, S, ii⟩ => ⟨ds.length - (i + 1), by omega, rfl, hlt, e, L, S, ii⟩, fun y H' hy => ?_⟩
      obtain ⟨rfl, rfl⟩ := wk.yld i x y H' hx hy
      obtain ⟨qs, hq, hw⟩ := step i _ e (List.getElem?_eq_getElem hlt) ii
      have hit : Res (c.with ((v, r.d) :: c.hd)) (L.flatten ++ []) H' (itemR mS ds[i]) y [] := Res.ofItem (c := c.with ((v, r.d) :: c.hd)) rx
      obtain ⟨vs, l', s, rr, hl', go⟩ := run (c.with ((v, r.d) :: c.hd)) _ H' _ y _ qs hK hit hq
      have el : l' = [] := List.sublist_nil.mp s
      subst el
      obtain ⟨L3, S3⟩ := Sim.putAll (is := g.is) (Tm := []) (l := []) rr (by simpa using S) (fun b hb => by simpa using hb) pf
      refine go σ2 _ ⟨(v, r.d) :: c.hd, _, L3, _, S3, hw, fun env' L' σ' H'' ⟨e3, le3, i3⟩ S' => ?_, fun r v l H' e h hr => kr r v l H' e h ⟨hr.fr, hr.nd, hr.own, hr.res, let ⟨L, σ, q, z⟩ := hr.sim; ⟨L, σ, q.unhd, z⟩⟩, fun ex env' L' σ' H' cls d hx S' he => kx ex env' L' σ' H' cls d hx S'.unhd he⟩
      obtain ⟨L4, S4⟩ := S'.lower le3
      exact ⟨e3, L4, S4, i3⟩
    · have e' : i = ds.length := by omega
      subst e'
      exact   .inl ⟨wk.stop _ (by rw [rs.len]; omega), k e L σ2 H2 (last e ii) S.unhd⟩
  obtain ⟨a, xs, rfl, rs, hk⟩ := seq_run sh hd
  rcases hk with ⟨hd2, ha⟩ | ⟨hd2, ha⟩
  · refine ⟨a, rfl, .inl ⟨⟨xs, SqL.of ha⟩, go _ fun L e σ H S => ?_⟩⟩
    have := S.hd _ List.mem_cons_self
    rw [hd2] at this
    obtain ⟨a', xs', ea, ha', _, r'⟩ := this.lst_inv
    cases ea
    exact ⟨xs', walked_l ha', r'⟩
  · refine ⟨a, rfl, .inr ⟨⟨xs, SqT.of ha⟩, go _ fun L e σ H S => ?_⟩⟩
    have := S.hd _ List.mem_cons_self
    rw [hd2] at this
    obtain ⟨a', xs', ea, ha', r'⟩ := this.tup_inv
    cases ea
    exact ⟨xs', walked_t ha', r'⟩
end
def rangeOf : List R → Option (Int × Int)
  | [⟨.int j, _⟩] => some (0, j)
  | [⟨.int i, _⟩, ⟨.int j, _⟩] => some (i, j)
  | _ => none
theorem range1 {rs : List R} {lo hi : Int} (h : rangeOf rs = some (lo, hi)) (hl : rs.length = 1) : ∃ m, rs = [⟨.int hi, m⟩] ∧ lo = 0 := by
  unfold rangeOf at h
  split at h
  · cases h; exact ⟨_, rfl, rfl⟩
  · cases hl
  · cases h
theorem range2 {rs : List R} {lo hi : Int} (h : rangeOf rs = some (lo, hi)) (hl : rs.length = 2) : ∃ m m', rs = [⟨.int lo, m⟩, ⟨.int hi, m'⟩] := by
  unfold rangeOf at h
  split at h
  · cases hl
  · cases h; exact ⟨_, _, rfl⟩
  · cases h
def small (i : Int) : Prop := -(2 ^ 62) ≤ i ∧ i < 2 ^ 62
def wForR (n i : Nat) (wa : WA) (w : WS) : WS := fun env Dv => wa env (fun rs e => ∃ lo hi, rs.length = n ∧ rangeOf rs = some (lo, hi) ∧ small lo ∧ small hi ∧ ∃ (I : Nat → VEnv → Prop) (e0 : VEnv), envLe e0 e ∧ I 0 e0 ∧
  (∀ (k : Nat) e, k < (hi - lo).toNat → I k e → w (e.set i (some (.int (lo + k), mA))) { Dv with nx := fun e2 => ∃ e3, envLe e3 e2 ∧ I (k + 1) e3 }) ∧ (∀ e, I (hi - lo).toNat e → Dv.nx e)) Dv.ex
section
variable {X : Cx} {c : Cn} {W : WX} {pos p cpos ppos : Pos} {wa : WA} {w : WS} {tg : Expr} {body : List Stmt}
theorem rd_forR {i : Nat} {lo : Int} {n : Nat} {I : Nat → VEnv → Prop} {e0 e1 : VEnv} {σ : Sg} {H1 : Hp} {D : Ends} {Dv : DV} {L1 : List (List Addr)} (S1 : Sim c L1 [] e1 σ H1) (le : envLe e0 e1) (i0 : I 0 e0)
    (step : ∀ (k : Nat) e, k < n → I k e → w (e.set i (some (.int (lo + k), mA))) { Dv with nx := fun e2 => ∃ e3, envLe e3 e2 ∧ I (k + 1) e3 }) (last : ∀ e, I n e → Dv.nx e)
    (k : ∀ env' L' σ' H', Dv.nx env' → Sim c L' [] env' σ' H' → D.nx σ' H') (kr : ∀ r v l H' e, Dv.rt r e → Ret c r v l H' e → D.rt v H')
    (kx : ∀ ex env' L' σ' H' cls d, Dv.ex ex env' → Sim c L' [] env' σ' H' → ExR c H' ex cls d → W cls d σ' H') (pf : PinF c [i]) :
    ∃ Wv : Nat → Nat → Sg → Hp → Prop, (∃ m, Wv 0 m σ H1) ∧ ∀ j m σ H, Wv j m σ H → ((Itr lo n).stop j H ∧ D.nx σ H) ∨ ((Itr lo n).go j H ∧ ∃ N : Sg → Hp → Prop, (∀ σ' H', N σ' H' → ∃ m', m' < m ∧ Wv (j + 1) m' σ' H') ∧ ∀ x H', (Itr lo n).yld j H x H' → gName i x σ H' fun σ2 H2 => rdS c W w { D with nx := N, ct := N, bk := D.nx } σ2 H2) := by
  obtain ⟨L0, S0⟩ := S1.lower le
  refine ⟨fun j m σ H => m = n - j ∧ j ≤ n ∧ ∃ e L, Sim c L [] e σ H ∧ I j e, ⟨n, by simp, Nat.zero_le _, e0, L0, S0, i0⟩, ?_⟩
  rintro j m σ2 H2 ⟨rfl, hj, e, L, S, ii⟩
  by_cases hlt : j < n
  · refine .inr ⟨hlt, fun σ' H' => ∃ e L, Sim c L [] e σ' H' ∧ I (j + 1) e, fun σ' H' ⟨e, L, S, ii⟩ => ⟨n - (j + 1), by omega, rfl, hlt, e, L, S, ii⟩, fun y H' hy => ?_⟩
    obtain ⟨rfl, rfl⟩ := hy
    have hr : Res c (L.flatten ++ ([] ++ [])) H' ⟨.int (lo + j), mA⟩ (.int (lo + j)) [] := Res.flat (A := fun _ => True) (.int _) rfl
    obtain ⟨L3, S3, _⟩ := Sim.put (i := i) (Tm := []) (l := []) S hr pf
    refine ⟨_, L3, _, S3, step j e hlt ii, fun env' L' σ' H'' ⟨e3, le3, i3⟩ S' => ?_, kr, kx⟩
    obtain ⟨L4, S4⟩ := S'.lower le3
    exact ⟨e3, L4, S4, i3⟩
  · have e' : j = n := by omega
    subst e'
    exact .inl ⟨Nat.le_refl _, k e L σ2 H2 (last e ii) S⟩
theorem vs_forR1 {i : Nat} {x : Str} {a : Expr} (hp : PassesOwn (model X.prog X.w) X.A X.env X.xe) (hc : X.calm = true) (hm : X.mg "range" = none) (ha : PA X [a] (rdA c W wa)) (hb : PSs X body (rdS c W w)) (hN : X.N.Nodup) (hi : X.N[i]? = some x := by rfl) (hx : Loc X.env.scope x := by first | exact .inl rfl | exact .inr rfl) (hf : X.fn x = true ∨ X.env.scope.names.lookup x = some .local := by first | exact .inl rfl | exact .inr rfl | assumption)
    (hg : Gl X "range" := by rfl) (hs1 : starEach [a] X.env = [(false, eval a X.env)] := by rfl) (hs : ∀ x, foldedSetIterable (.Call (.Name "range" p) [a] [] cpos) X.env x = pure x := by intro _; rfl) (pf : PinF c [i] := by first | exact pinF_nil rfl | exact pinF_one rfl (by decide) | assumption) :
    PS X (.For (.Name x ppos) (.Call (.Name "range" p) [a] [] cpos) body [] pos) (rdS c W (wForR 1 i wa w)) := PS.imp (ps_for hp hc (pi_range1 hg hm ha hs1) (pg_name hN hi hx hf) hb hs) fun D σ H h => by
  obtain ⟨env, L, Dv, S, q, k, kr, kx⟩ := h
  refine rd_args S q kx fun rs vs l L1 e1 H1 ⟨lo, hi, hl, hr, s1, s2, I, e0, le, i0, step, last⟩ S1 hrs => ?_
  obtain ⟨m, rfl, rfl⟩ := range1 hr hl
  obtain ⟨v', e, r⟩ := ress1 hrs
  subst e
  have := r.read
  cases this
  refine ⟨hi, rfl, s2.1, s2.2, ?_⟩
  have e : (hi - 0).toNat = hi.toNat := by rw [Int.sub_zero]
  rw [e] at step last
  exact rd_forR (Sim.drop (Tm := []) (l := l) S1) le i0 step last k kr kx pf
theorem vs_forR2 {i : Nat} {x : Str} {a b : Expr} (hp : PassesOwn (model X.prog X.w) X.A X.env X.xe) (hc : X.calm = true) (hm : X.mg "range" = none) (ha : PA X [a, b] (rdA c W wa)) (hb : PSs X body (rdS c W w)) (hN : X.N.Nodup) (hi : X.N[i]? = some x := by rfl) (hx : Loc X.env.scope x := by first | exact .inl rfl | exact .inr rfl) (hf : X.fn x = true ∨ X.env.scope.names.lookup x = some .local := by first | exact .inl rfl | exact .inr rfl | assumption)
    (hg : Gl X "range" := by rfl) (hs1 : starEach [a, b] X.env = [(false, eval a X.env), (false, eval b X.env)] := by rfl) (hs2 : starEach [b] X.env = [(false, eval b X.env)] := by rfl) (hs : ∀ x, foldedSetIterable (.Call (.Name "range" p) [a, b] [] cpos) X.env x = pure x := by intro _; rfl) (pf : PinF c [i] := by first | exact pinF_nil rfl | exact pinF_one rfl (by decide) | assumption) :
    PS X (.For (.Name x ppos) (.Call (.Name "range" p) [a, b] [] cpos) body [] pos) (rdS c W (wForR 2 i wa w)) := PS.imp (ps_for hp hc (pi_range2 hg hm ha hs1 hs2) (pg_name hN hi hx hf) hb hs) fun D σ H h => by
  obtain ⟨env, L, Dv, S, q, k, kr, kx⟩ := h
  refine rd_args S q kx fun rs vs l L1 e1 H1 ⟨lo, hi, hl, hr, s1, s2, I, e0, le, i0, step, last⟩ S1 hrs => ?_
  obtain ⟨m, m', rfl⟩ := range2 hr hl
  obtain ⟨v', w', l1, l2, e, _, r, r'⟩ := ress2 hrs
  subst e
  have := r.read
  cases this
  have := r'.read
  cases this
  exact ⟨lo, hi, rfl, ⟨s1.1, s1.2, s2.1, s2.2⟩, rd_forR (Sim.drop (Tm := []) (l := l) S1) le i0 step last k kr kx pf⟩
end
end VL
set_option maxRecDepth 100000
set_option maxHeartbeats 4000000
namespace VL
open PySem PySem.Spec PyProof.Rows L2
def bS : Option (D × Md) → Option (D × Md)
  | some (d, .o (some 0)) => some (d, .o (some 0))
  | some (d, .o m) => if flatD d = true then some (d, .o m) else some (d, .b)
  | s => s
def bEnv (e : VEnv) : VEnv := e.map bS
def wipeE (e : VEnv) : List Nat → VEnv
  | [] => e
  | v :: vs => (wipeE e vs).set v none
section
variable {c : Cn} {L : List (List Addr)} {Tm T : List Addr} {env : VEnv} {σ : Sg} {H H1 : Hp}
theorem flatten_nils {α β : Type} (L : List α) : (L.map fun _ => ([] : List β)).flatten = [] := by
  induction L with
  | nil => rfl
  | cons _ _ ih => simpa using ih
theorem Slots.borrow (h : Slots c T H env σ L) : Slots c T H (bEnv env) σ (L.map fun _ => []) := by
  induction h with
  | nil => exact .nil
  | non _ ih => exact .non ih
  | bor r _ ih => exact .bor r ih
  | @own e d m v l σ L r _ ih =>
    have rd : RS c.K (fun _ => True) H v d := RO.share (RO.mono (fun _ _ _ _ => trivial) r) fun _ _ => trivial
    match m, r with
    | some 0, r => exact .own (.sh (RO.zero r)) ih
    | none, r =>
      show Slots c T H ((if flatD d = true then some (d, .o none) else some (d, .b)) :: bEnv e) _ _
      by_cases f : flatD d = true
      · rw [if_pos f]; exact .own (.flat (rd.flat f) f) ih
      · rw [if_neg f]; exact .bor rd ih
    | some (k + 1), r =>
      show Slots c T H ((if flatD d = true then some (d, .o (some (k + 1))) else some (d, .b)) :: bEnv e) _ _
      by_cases f : flatD d = true
      · rw [if_pos f]; exact .own (.flat (rd.flat f) f) ih
      · rw [if_neg f]; exact .bor rd ih
theorem Slots.kill2 {i : Nat} {x : Option V} (h : Slots c T H env σ L) : Slots c T H (env.set i none) (σ.set i x) (L.set i []) := by
  induction h generalizing i with
  | nil => exact .nil
  | non h ih => cases i with
    | zero => exact .non h
    | succ i => exact .non ih
  | bor r h ih => cases i with
    | zero => exact .non h
    | succ i => exact .bor r ih
  | own r h ih => cases i with
    | zero => exact .non h
    | succ i => exact .own r ih
theorem set_nil {α β : Type} (L : List α) (i : Nat) : (L.map fun _ => ([] : List β)).set i [] = L.map fun _ => [] := by
  induction L generalizing i with
  | nil => rfl
  | cons _ _ ih => cases i with
    | zero => rfl
    | succ i => simp [ih]
theorem Slots.wiped (h : Slots c T H env σ (L.map fun _ => [])) : ∀ vs : List Nat, Slots c T H (wipeE env vs) (wipe σ vs) (L.map fun _ => [])
  | [] => h
  | v :: vs => by
    have := (Slots.wiped h vs).kill2 (i := v) (x := none)
    rw [set_nil] at this
    exact this
theorem wipe_get (σ : Sg) (vs : List Nat) (i : Nat) : (wipe σ vs)[i]? = if i ∈ vs then (σ[i]?).map (fun _ => none) else σ[i]? := by
  induction vs with
  | nil => simp [wipe]
  | cons v vs ih =>
    unfold wipe
    rw [List.getElem?_set, ih, wipe_length]
    by_cases e : v = i
    · subst e
      simp only [List.mem_cons, true_or, if_true]
      by_cases h : v < σ.length
      · simp [h]
      · simp [h]
    · rw [if_neg e]
      have : (i ∈ v :: vs) ↔ i ∈ vs := by simp [Ne.symm e]
      simp only [this]
theorem Sim.block {K : List Addr} (S : Sim c L Tm env σ H1) (sm : Same H1 H) (nk : K.Nodup) (hk : ∀ b ∈ K, H1 b = none ∧ ∃ o, H b = some o) (vs : List Nat) (pf : PinF c vs) :
    Sim c (L.map fun _ => []) (L.flatten ++ (Tm ++ K)) (wipeE (bEnv env) vs) (wipe σ vs) H := by
  have S' := (Step.news S sm nk hk).sim
  refine ⟨?_, ?_, fun a ha => S'.own a ?_, S'.fr, fun p hp => (S'.hd p hp).mono fun b o a _ => AT.less (fun b hb => ?_) a, fun p hp => by rw [wipe_get, if_neg (pf p hp)]; exact S.pin p hp⟩
  · rw [flatten_nils, List.nil_append]
    exact (S'.sl.borrow).wiped vs
  · rw [flatten_nils, List.nil_append]; exact S'.nd
  · rw [flatten_nils, List.nil_append] at ha; exact ha
  · rw [flatten_nils, List.nil_append] at hb; exact hb
theorem setAll_len : ∀ (is : List Nat) (xs : List V) (σ : Sg), (setAll σ is xs).length = σ.length
  | [], _, _ => by simp [setAll]
  | i :: is, [], _ => by simp [setAll]
  | i :: is, x :: xs, σ => by simp only [setAll]; rw [setAll_len is xs]; simp
theorem setAll_get {σ : Sg} : ∀ (is : List Nat) (xs : List V) (σ : Sg) (j : Nat), j ∉ is → (setAll σ is xs)[j]? = σ[j]?
  | [], _, _, _, _ => by simp [setAll]
  | i :: is, [], _, _, _ => by simp [setAll]
  | i :: is, x :: xs, σ, j, h => by
    simp only [setAll]
    rw [setAll_get (σ := σ) is xs _ j (fun z => h (List.mem_cons_of_mem _ z)), List.getElem?_set_ne (fun z => h (by simp [z]))]
theorem wipe_setAll {σ : Sg} {is vs : List Nat} {xs : List V} (h : ∀ i ∈ is, i ∈ vs) : wipe (setAll (wipe σ vs) is xs) vs = wipe σ vs := by
  apply List.ext_getElem?
  intro j
  rw [wipe_get, wipe_get]
  by_cases hj : j ∈ vs
  · rw [if_pos hj, if_pos hj]
    have l1 : (setAll (wipe σ vs) is xs).length = σ.length := by rw [setAll_len, wipe_length]
    by_cases hl : j < σ.length
    · rw [List.getElem?_eq_getElem (by omega), List.getElem?_eq_getElem hl]; rfl
    · rw [List.getElem?_eq_none (by omega), List.getElem?_eq_none (by omega)]
  · rw [if_neg hj, if_neg hj, setAll_get (σ := σ) is xs _ j (fun z => hj (h j z)), wipe_get, if_neg hj]
end
abbrev W0 : WX := fun _ _ _ _ => False
def wYes : WT := fun env Q _ => Q true env
section
variable {X : Cx} {c : Cn} {W : WX}
theorem PTs.imp {es : List Expr} {t t' : TT} (h : PTs X es t) (q : ∀ σ H Q, t' σ H Q → t σ H Q) : PTs X es t' := ⟨fun pins s σ H Q I w => h.run pins s σ H Q I (q _ _ _ w)⟩
theorem vts_nil : PTs X [] (rdT c W wYes) := PTs.imp pts_nil fun σ H Q h => by
  obtain ⟨env, L, Tm, Qv, X, S, q, k, _⟩ := h
  exact k true L env H q (Step.refl S)
theorem vts_one {e : Expr} {w : WT} (h : PT X e (rdT c W w)) : PTs X [e] (rdT c W w) := pts_one h
end
def wTurn (wt : WT) (wl : WE) (km : Option Nat) (e : VEnv) (yes : D → Prop) (no : Prop) : Prop :=
  wt e (fun b e2 => if b = true then wl e2 (fun r' _ => kidOk km r' ∧ yes r'.d) (fun _ _ => False) else no) (fun _ _ => False)
structure Acc (c : Cn) (L : List (List Addr)) (Tm : List Addr) (H1 : Hp) (Dn : Addr) (km : Option Nat) (acc : List V) (accD : List D) (lk : List Addr) (H : Hp) : Prop where
  same : Same H1 H
  nd : (Dn :: lk).Nodup
  new : ∀ b ∈ Dn :: lk, H1 b = none ∧ ∃ o, H b = some o
  at_ : H Dn = some (.lst acc)
  kids : ROs c.K (AT c.B (L.flatten ++ (Tm ++ (Dn :: lk)))) H km acc accD lk
section
variable {c : Cn} {L : List (List Addr)} {Tm : List Addr} {env : VEnv} {σ : Sg} {H H1 : Hp} {Dn : Addr} {km : Option Nat} {acc : List V} {accD : List D} {lk : List Addr} {tt : WT} {wl : WE}
theorem Acc.start (S : Sim c L Tm env σ H1) (n : H1 Dn = none) : Acc c L Tm H1 Dn km [] [] [] (upd H1 Dn (.lst [])) :=
  ⟨same_new n, by simp, fun b hb => by simp at hb; subst hb; exact ⟨n, _, upd_same⟩, upd_same, .nil⟩
theorem Acc.sim (A : Acc c L Tm H1 Dn km acc accD lk H) (S : Sim c L Tm env σ H1) (vs : List Nat) (pf : PinF c vs) : Sim c (L.map fun _ => []) (L.flatten ++ (Tm ++ (Dn :: lk))) (wipeE (bEnv env) vs) (wipe σ vs) H := S.block A.same A.nd A.new vs pf
theorem Acc.add {H4 : Hp} {r : R} {y : V} {l : List Addr} {L' : List (List Addr)} {env' : VEnv} {σ' : Sg} (A : Acc c L Tm H1 Dn km acc accD lk H) (S : Sim c L Tm env σ H1)
    (st : Step c H H4 ((L.map fun _ => ([] : List Addr)).flatten ++ (L.flatten ++ (Tm ++ (Dn :: lk)))) (L.flatten ++ (Tm ++ (Dn :: lk))) L' l env' σ') (hr : Res c (L'.flatten ++ ((L.flatten ++ (Tm ++ (Dn :: lk))) ++ l)) H4 r y l) (hk : kidOk km r) :
    H4 Dn = some (.lst acc) ∧ ∃ lk', Acc c L Tm H1 Dn km (acc ++ [y]) (accD ++ [r.d]) lk' (upd H4 Dn (.lst (acc ++ [y]))) := by
  have hD : H4 Dn = some (.lst acc) := st.same _ _ A.at_
  refine ⟨hD, ?_⟩
  have nd4 := st.sim.nd
  rw [← List.append_assoc] at nd4
  have ndl := List.nodup_append.mp nd4
  have fresh : ∀ b ∈ l, H b = none := fun b hb => by
    rcases st.gr b (by simp [hb]) with z | z
    · exact absurd rfl (ndl.2.2 b (by rw [flatten_nils, List.nil_append] at z; exact List.mem_append_right _ z) b hb)
    · exact z
  have own4 : ∀ b ∈ l, c.B b := fun b hb => .inr (st.sim.own b (by simp [hb])).1
  have item : ∃ kk : List Addr, kk.Sublist l ∧ RO c.K (AT c.B (L.flatten ++ (Tm ++ (Dn :: (lk ++ kk))))) H4 km y r.d kk := by
    rcases hk with f | ⟨m, e, q⟩
    · exact ⟨[], List.nil_sublist _, .flat (hr.read.flat f) f⟩
    · obtain ⟨d, m'⟩ := r
      cases e
      obtain ⟨kk, ks, kq⟩ := RO.lower hr.dep q ndl.2.1 own4
      refine ⟨kk, ks, kq _ (fun b hb => ?_) fun b hb hb' => ?_⟩
      · simp only [List.mem_append, List.mem_cons] at hb ⊢
        rcases hb with z | z | z | z | z
        · exact .inr (.inl (.inl z))
        · exact .inr (.inl (.inr (.inl z)))
        · exact .inr (.inl (.inr (.inr (.inl z))))
        · exact .inr (.inl (.inr (.inr (.inr z))))
        · exact .inr (.inr (ks.subset z))
      · simp only [List.mem_append, List.mem_cons] at hb'
        have no : ∀ {P : Prop}, b ∈ L.flatten ++ (Tm ++ (Dn :: lk)) → P := fun z => absurd rfl (ndl.2.2 b (List.mem_append_right _ z) b hb)
        rcases hb' with z | z | z | z | z
        · exact no (List.mem_append_left _ z)
        · exact no (by simp [z])
        · exact no (by simp [z])
        · exact no (by simp [z])
        · exact z
  obtain ⟨kk, ks, ki⟩ := item
  have kkl : ∀ b ∈ kk, H b = none := fun b hb => fresh b (ks.subset hb)
  have ndn : (Dn :: (lk ++ kk)).Nodup := by
    rw [← List.cons_append]
    refine List.nodup_append.mpr ⟨A.nd, ndl.2.1.sublist ks, fun b hb b' hb' z => ?_⟩
    subst z
    obtain ⟨_, o, e⟩ := A.new b hb
    rw [kkl b hb'] at e; cases e
  have ndn' := List.nodup_cons.mp ndn
  have grow : ∀ b ∈ L.flatten ++ (Tm ++ (Dn :: (lk ++ kk))), b ∈ L.flatten ++ (Tm ++ (Dn :: lk)) ∨ H b = none := fun b hb => by
    simp only [List.mem_append, List.mem_cons] at hb ⊢
    rcases hb with z | z | z | z | z
    · exact .inl (.inl z)
    · exact .inl (.inr (.inl z))
    · exact .inl (.inr (.inr (.inl z)))
    · exact .inl (.inr (.inr (.inr z)))
    · exact .inr (kkl b z)
  have DT : Dn ∈ L.flatten ++ (Tm ++ (Dn :: (lk ++ kk))) := by simp
  have kp : Kp (AT c.B (L.flatten ++ (Tm ++ (Dn :: (lk ++ kk))))) H4 (upd H4 Dn (.lst (acc ++ [y]))) := Kp.write hD trivial fun z => z.2 DT
  have ne : ∀ b ∈ lk ++ kk, ∀ o, H4 b = some o → (upd H4 Dn (.lst (acc ++ [y]))) b = some o := fun b hb o q => by
    rw [upd_ne (fun z => by subst z; exact ndn'.1 hb)]; exact q
  have hn : H1 Dn = none := (A.new Dn List.mem_cons_self).1
  refine ⟨lk ++ kk, fun b o e => ?_, ndn, fun b hb => ?_, upd_same, ?_⟩
  · rw [upd_ne (ne_of_none e hn)]; exact st.same _ _ (A.same _ _ e)
  · rcases List.mem_cons.mp hb with z | z
    · subst z; exact ⟨hn, _, upd_same⟩
    · rcases List.mem_append.mp z with y' | y'
      · obtain ⟨n, o, e⟩ := A.new b (List.mem_cons_of_mem _ y')
        exact ⟨n, o, ne b z o (st.same _ _ e)⟩
      · obtain ⟨_, o, e⟩ := st.sim.own b (by simp [ks.subset y'])
        exact ⟨A.same.free (kkl b y'), o, ne b z o e⟩
  · have k1 := ROs.keepT A.kids st.same grow
    have k2 := k1.keep kp fun b hb => ne b (List.mem_append_left _ hb)
    have k3 := ki.keep kp fun b hb => ne b (List.mem_append_right _ hb)
    have := ROs.append k2 (.cons k3 .nil)
    simpa using this
theorem Acc.skip {H3 : Hp} {l : List Addr} {L' : List (List Addr)} {env' : VEnv} {σ' : Sg} (A : Acc c L Tm H1 Dn km acc accD lk H)
    (st : Step c H H3 ((L.map fun _ => ([] : List Addr)).flatten ++ (L.flatten ++ (Tm ++ (Dn :: lk)))) (L.flatten ++ (Tm ++ (Dn :: lk))) L' l env' σ') : Acc c L Tm H1 Dn km acc accD lk H3 :=
  ⟨A.same.trans st.same, A.nd, fun b hb => let ⟨n, o, e⟩ := A.new b hb; ⟨n, o, st.same _ _ e⟩, st.same _ _ A.at_, ROs.keepT A.kids st.same fun b hb => .inl hb⟩
theorem Acc.done {Qv : R → VEnv → Prop} {Q : VK} {Hs : Hp} {Ls : List (List Addr)} {la : List Addr} (A : Acc c L Tm H1 Dn km acc accD lk H) (st : Step c Hs H1 (Ls.flatten ++ Tm) Tm L la env σ) (k : Kont c σ Ls Tm Hs Qv Q) (q : Qv ⟨.list accD, .o (succM km)⟩ env) : Q (.ref Dn) H := by
  have S : Sim c L Tm env σ H1 := st.sim0
  have st2 := Step.news S A.same A.nd A.new
  refine k _ _ (Dn :: lk) L env H q (Step.then st (st2.wider fun b hb => by rw [← List.append_assoc]; exact List.mem_append_left _ hb)) ?_
  exact RO.lst (pop_succ km) A.at_ A.kids
theorem turn_run {is vs : List Nat} {rs : List R} {xs : List V} {yes : D → Prop} {no : Prop} {t : TG} {x : V} {Nx : Hp → Prop} (A : Acc c L Tm H1 Dn km acc accD lk H) (S : Sim c L Tm env σ H1) (his : ∀ i ∈ is, i ∈ vs) (pf : PinF c vs)
    (rr : Ress c ((L.map fun _ => ([] : List Addr)).flatten ++ (L.flatten ++ (Tm ++ (Dn :: lk)))) H rs xs []) (go : ∀ σ Q, Q (setAll σ is xs) H → t x σ H Q) (hz : acc.length < 1000000)
    (hw : wTurn tt wl km (putAll (wipeE (bEnv env) vs) is rs) yes no) (hy : ∀ y d lk' H', yes d → Acc c L Tm H1 Dn km (acc ++ [y]) (accD ++ [d]) lk' H' → Nx H') (hn : ∀ H', no → Acc c L Tm H1 Dn km acc accD lk H' → Nx H') :
    t x (wipe σ vs) H fun σ2 H2 => wipe σ2 vs = wipe σ vs ∧ rdT c W0 tt σ2 H2 fun b H3 =>
      if b = true then rdE c W0 wl σ2 H3 fun y H4 => ∃ acc', H4 Dn = some (.lst acc') ∧ acc'.length < sizeLine ∧ Nx (upd H4 Dn (.lst (acc' ++ [y]))) else Nx H3 := by
  refine go _ _ ⟨wipe_setAll his, ?_⟩
  have B := A.sim S vs pf
  obtain ⟨L2, S2, g2⟩ := Sim.putAllG (is := is) (Tm := L.flatten ++ (Tm ++ (Dn :: lk))) (l := []) rr (by simpa using B) (fun b hb => by simpa using hb) (pf.sub his)
  have stA : Step c H H ((L.map fun _ => ([] : List Addr)).flatten ++ (L.flatten ++ (Tm ++ (Dn :: lk)))) (L.flatten ++ (Tm ++ (Dn :: lk))) L2 [] (putAll (wipeE (bEnv env) vs) is rs) (setAll (wipe σ vs) is xs) :=
    ⟨Same.refl H, by simpa using S2, fun b hb => .inl (by simpa using g2 b (by simpa using hb))⟩
  refine ⟨_, L2, _, _, _, S2, hw, fun b L3 e3 H3 h3 st3 => ?_, fun ex cls d L' env' H' hx _ _ => hx.elim⟩
  have st13 := Step.then stA (st3.wider fun b hb => by simpa using hb)
  cases b with
  | false => exact hn H3 h3 (A.skip st13)
  | true =>
    refine ⟨e3, L3, _, _, _, st3.sim0, h3, fun r y l L4 e4 H4 ⟨hk, h4⟩ st4 hr => ?_, fun ex cls d L' env' H' hx _ _ => hx.elim⟩
    have st14 := Step.then st13 (st4.wider fun b hb => by simpa using hb)
    obtain ⟨h5, lk', A5⟩ := A.add S st14 hr hk
    exact ⟨acc, h5, line_big hz, hy y r.d lk' _ h4 A5⟩
end
end VL
set_option maxRecDepth 100000
set_option maxHeartbeats 4000000
namespace VL
open PySem PySem.Spec PyProof.Rows L2
def wLc (vs : List Nat) (g : Tg) (we : WE) (tt : WT) (wl : WE) : WE := fun env Q X => we env (fun r e => ∃ ds, seqOf r.d = some ds ∧ ds.length ≤ 1000000 ∧ ∃ (km : Option Nat) (I : Nat → List D → Prop), I 0 [] ∧
  (∀ i d acc, ds[i]? = some d → I i acc → ∃ rs, g.f (itemR r.m d) = some rs ∧ acc.length ≤ i ∧ wTurn tt wl km (putAll (wipeE (bEnv e) vs) g.is rs) (fun y => I (i + 1) (acc ++ [y])) (I (i + 1) acc)) ∧
  (∀ acc, I ds.length acc → Q ⟨.list acc, .o (succM km)⟩ e)) X
def wLcR (n : Nat) (vs : List Nat) (i : Nat) (wa : WA) (tt : WT) (wl : WE) : WE := fun env Q X => wa env (fun rs e => ∃ lo hi, rs.length = n ∧ rangeOf rs = some (lo, hi) ∧ small lo ∧ small hi ∧ hi - lo ≤ 1000000 ∧ ∃ (km : Option Nat) (I : Nat → List D → Prop), I 0 [] ∧
  (∀ (k : Nat) acc, k < (hi - lo).toNat → I k acc → acc.length ≤ k ∧ wTurn tt wl km ((wipeE (bEnv e) vs).set i (some (.int (lo + k), mA))) (fun y => I (k + 1) (acc ++ [y])) (I (k + 1) acc)) ∧
  (∀ acc, I (hi - lo).toNat acc → Q ⟨.list acc, .o (succM km)⟩ e)) X
abbrev RunTg (K : PySem.W.Frag) (g : Tg) (t : TG) : Prop := ∀ (c : Cn) (T : List Addr) (H : Hp) (r : R) (v : V) (l : List Addr) (rs : List R), c.K = K → Res c T H r v l → g.f r = some rs →
    ∃ vs l', l'.Sublist l ∧ Ress c T H rs vs l' ∧ vs.length = g.is.length ∧ ∀ σ Q, Q (setAll σ g.is vs) H → t v σ H Q
theorem run_name {K : PySem.W.Frag} {i : Nat} : RunTg K (tgN i) (gName i) := fun c T H r v l rs _ hr e => by
  cases e
  exact ⟨[v], l, List.Sublist.refl _, by simpa using Ress.cons hr .nil, rfl, fun σ Q q => q⟩
def gAll : List Nat → TGs
  | [] => gNil
  | i :: is => gCons (gName i) (gAll is)
theorem gAll_run : ∀ {is : List Nat} {vs : List V} {σ : Sg} {H : Hp} {Q : Sg → Hp → Prop}, vs.length = is.length → Q (setAll σ is vs) H → gAll is vs σ H Q
  | [], [], _, _, _, _, q => ⟨rfl, q⟩
  | [], _ :: _, _, _, _, hl, _ => by cases hl
  | _ :: _, [], _, _, _, hl, _ => by cases hl
  | i :: is, v :: vs, σ, H, Q, hl, q => ⟨v, vs, rfl, gAll_run (by simpa using hl) q⟩
theorem run_tup {K : PySem.W.Frag} {is : List Nat} : RunTg K (tgT is) (gTup K is.length (gAll is)) := fun c T H r v l rs hK hr e => by
  obtain ⟨d, m⟩ := r
  unfold tgT at e
  simp only at e
  split at e
  · rename_i ds
    split at e
    · rename_i hl
      cases e
      obtain ⟨a, xs, l', rfl, ha, s, rs⟩ := Res.items (ds := ds) (m := m) hr
      have lx : xs.length = ds.length := by rw [← rs.len, List.length_map]
      exact ⟨xs, l', s, rs, by rw [lx]; exact hl, fun σ Q q => ⟨a, xs, rfl, SqT.of ha, by rw [lx]; exact hl, gAll_run (by rw [lx]; exact hl) q⟩⟩
    · cases e
  · cases e
section
variable {X : Cx} {c : Cn} {W : WX} {we wl : WE} {tt : WT} {g : Tg} {vs : List Nat}
theorem rd_lc {K : PySem.W.Frag} {t : TG} (hK : c.K = K) (run : RunTg K g t) (his : ∀ i ∈ g.is, i ∈ vs) (pf : PinF c vs) {σ : Sg} {H : Hp} {Q : VK} (h : rdE c W (wLc vs g we tt wl) σ H Q) : tLc (iSeq K (rdE c W we)) t (rdT c W0 tt) (rdE c W0 wl) vs σ H Q := by
  obtain ⟨env, L, Tm, Qv, X, S, q, k, kx⟩ := h
  refine ⟨env, L, Tm, _, X, S, q, fun r v l L1 e1 H1 ⟨ds, hd, hlen, km, I, i0, step, last⟩ st hr => ?_, kx⟩
  have S1 : Sim c L1 Tm e1 σ H1 := st.sim0
  have rd := hr.read
  have item : ∀ {H' : Hp} {K' : List Addr} {x : V} {d : D} {xs : List V} {a : Addr} {i : Nat}, Same H1 H' → (∀ b ∈ K', H1 b = none) → v = .ref a → (H1 a = some (.lst xs) ∧ r.d = .list ds ∨ H1 a = some (.tup xs) ∧ r.d = .tuple ds) → ds[i]? = some d → xs[i]? = some x → Res c ((L1.map fun _ => ([] : List Addr)).flatten ++ (L1.flatten ++ (Tm ++ K'))) H' (itemR r.m d) x [] := by
    intro H' K' x d xs a i sm hk ev ha hdi hx
    rw [flatten_nils, List.nil_append]
    obtain ⟨dd, m⟩ := r
    have kid : ∀ {A : Addr → Prop}, RS c.K A H1 v dd → RS c.K A H1 x d := fun {A} h => by
      subst ev
      rcases ha with ⟨ha, e⟩ | ⟨ha, e⟩
      · simp only at e; subst e
        obtain ⟨a', xs', ea, ha', _, r'⟩ := h.lst_inv
        cases ea
        rw [ha] at ha'; cases ha'
        obtain ⟨x', hx', rx⟩ := r'.get hdi
        rw [hx] at hx'; cases hx'
        exact rx
      · simp only at e; subst e
        obtain ⟨a', xs', ea, ha', r'⟩ := h.tup_inv
        cases ea
        rw [ha] at ha'; cases ha'
        obtain ⟨x', hx', rx⟩ := r'.get hdi
        rw [hx] at hx'; cases hx'
        exact rx
    unfold itemR
    by_cases f : flatD d = true
    · rw [if_pos f]; exact Res.flat ((kid rd).keep (Kp.same sm)) f
    · rw [if_neg f]
      cases m with
      | b => exact ⟨(kid rd).keep (Kp.same sm), rfl⟩
      | o m =>
        have sh := Res.shared (r := ⟨dd, .o m⟩) hr rfl st.sim (fun b hb => hb)
        refine RO.sh (((kid sh).mono fun b o a e => ⟨a.1, fun z => ?_⟩).keep (Kp.same sm))
        rw [← List.append_assoc] at z
        rcases List.mem_append.mp z with z | z
        · exact a.2 z
        · rw [hk b z] at e; cases e
  have go : ∀ (J : It) (xs : List V) (a : Addr), v = .ref a → (H1 a = some (.lst xs) ∧ r.d = .list ds ∨ H1 a = some (.tup xs) ∧ r.d = .tuple ds) → (∀ H', Same H1 H' → Walked J xs H') → xs.length = ds.length →
      ∀ Dn, H1 Dn = none → ∃ Wv : Nat → Nat → Hp → Prop, (∃ m, Wv 0 m (upd H1 Dn (.lst []))) ∧ ∀ i m H, Wv i m H →
        (J.stop i H ∧ Q (.ref Dn) H) ∨ (J.go i H ∧ ∃ Nx : Hp → Prop, (∀ H', Nx H' → ∃ m', m' < m ∧ Wv (i + 1) m' H') ∧ ∀ x H', J.yld i H x H' → t x (wipe σ vs) H' fun σ2 H2 => wipe σ2 vs = wipe σ vs ∧ rdT c W0 tt σ2 H2 fun b H3 =>
          if b = true then rdE c W0 wl σ2 H3 fun y H4 => ∃ acc, H4 Dn = some (.lst acc) ∧ acc.length < sizeLine ∧ Nx (upd H4 Dn (.lst (acc ++ [y]))) else Nx H3) := by
    intro J xs a ev ha wk hl Dn nD
    refine ⟨fun i m H => m = ds.length - i ∧ i ≤ ds.length ∧ ∃ acc accD lk, Acc c L1 Tm H1 Dn km acc accD lk H ∧ I i accD, ⟨ds.length, by simp, Nat.zero_le _, [], [], [], Acc.start S1 nD, i0⟩, ?_⟩
    rintro i m H2 ⟨rfl, hi, acc, accD, lk, A, ii⟩
    have wk2 := wk H2 A.same
    by_cases hlt : i < ds.length
    · obtain ⟨x, hx⟩ : ∃ x, xs[i]? = some x := ⟨xs[i], List.getElem?_eq_getElem (by omega)⟩
      refine .inr ⟨wk2.go i x hx, fun H' => ∃ acc accD lk, Acc c L1 Tm H1 Dn km acc accD lk H' ∧ I (i + 1) accD, fun H' ⟨acc, accD, lk, A, ii⟩ => ⟨ds.length - (i + 1), by omega, rfl, hlt, acc, accD, lk, A, ii⟩, fun y H' hy => ?_⟩
      obtain ⟨rfl, rfl⟩ := wk2.yld i x y H' hx hy
      obtain ⟨rs, hq, hle, hw⟩ := step i _ accD (List.getElem?_eq_getElem hlt) ii
      have it := item (K' := Dn :: lk) A.same (fun b hb => (A.new b hb).1) ev ha (List.getElem?_eq_getElem hlt) hx
      obtain ⟨xs', l', s, rr, hl', gg⟩ := run c _ H' _ y _ rs hK it hq
      have el : l' = [] := List.sublist_nil.mp s
      subst el
      have la : acc.length = accD.length := A.kids.len
      exact turn_run A S1 his pf rr gg (by omega) hw (fun y d lk' H' hy A' => ⟨_, _, lk', A', hy⟩) fun H' hn A' => ⟨_, _, _, A', hn⟩
    · have e' : i = ds.length := by omega
      subst e'
      exact .inl ⟨wk2.stop _ (by omega), A.done st k (last accD ii)⟩
  obtain ⟨a, xs, ev, rs, hk⟩ := seq_run rd hd
  subst ev
  rcases hk with ⟨hd2, ha⟩ | ⟨hd2, ha⟩
  · exact ⟨a, rfl, .inl ⟨⟨xs, SqL.of ha⟩, go _ xs a rfl (.inl ⟨ha, hd2⟩) (fun H' sm => walked_l (sm _ _ ha)) rs.len⟩⟩
  · exact ⟨a, rfl, .inr ⟨⟨xs, SqT.of ha⟩, go _ xs a rfl (.inr ⟨ha, hd2⟩) (fun H' sm => walked_t (sm _ _ ha)) rs.len⟩⟩
theorem rd_lcR {n i : Nat} {wa : WA} {Q : VK} (his : i ∈ vs) (pf : PinF c vs) {σ : Sg} {H : Hp} {lo hi : Int} {km : Option Nat} {I : Nat → List D → Prop} {L L1 : List (List Addr)} {Tm la : List Addr} {e1 : VEnv} {H1 : Hp} {Qv : R → VEnv → Prop} (st : Step c H H1 (L.flatten ++ Tm) Tm L1 la e1 σ) (k : Kont c σ L Tm H Qv Q)
    (hsm : hi - lo ≤ 1000000) (i0 : I 0 []) (step : ∀ (k : Nat) acc, k < (hi - lo).toNat → I k acc → acc.length ≤ k ∧ wTurn tt wl km ((wipeE (bEnv e1) vs).set i (some (.int (lo + k), mA))) (fun y => I (k + 1) (acc ++ [y])) (I (k + 1) acc))
    (last : ∀ acc, I (hi - lo).toNat acc → Qv ⟨.list acc, .o (succM km)⟩ e1) : ∀ Dn, H1 Dn = none → ∃ Wv : Nat → Nat → Hp → Prop, (∃ m, Wv 0 m (upd H1 Dn (.lst []))) ∧ ∀ j m H, Wv j m H →
        ((Itr lo (hi - lo).toNat).stop j H ∧ Q (.ref Dn) H) ∨ ((Itr lo (hi - lo).toNat).go j H ∧ ∃ Nx : Hp → Prop, (∀ H', Nx H' → ∃ m', m' < m ∧ Wv (j + 1) m' H') ∧ ∀ x H', (Itr lo (hi - lo).toNat).yld j H x H' → gName i x (wipe σ vs) H' fun σ2 H2 => wipe σ2 vs = wipe σ vs ∧ rdT c W0 tt σ2 H2 fun b H3 =>
          if b = true then rdE c W0 wl σ2 H3 fun y H4 => ∃ acc, H4 Dn = some (.lst acc) ∧ acc.length < sizeLine ∧ Nx (upd H4 Dn (.lst (acc ++ [y]))) else Nx H3) := by
  have S1 : Sim c L1 Tm e1 σ H1 := st.sim0
  intro Dn nD
  refine ⟨fun j m H => m = (hi - lo).toNat - j ∧ j ≤ (hi - lo).toNat ∧ ∃ acc accD lk, Acc c L1 Tm H1 Dn km acc accD lk H ∧ I j accD, ⟨_, rfl, Nat.zero_le _, [], [], [], Acc.start S1 nD, i0⟩, ?_⟩
  rintro j m H2 ⟨rfl, hj, acc, accD, lk, A, ii⟩
  by_cases hlt : j < (hi - lo).toNat
  · refine .inr ⟨hlt, fun H' => ∃ acc accD lk, Acc c L1 Tm H1 Dn km acc accD lk H' ∧ I (j + 1) accD, fun H' ⟨acc, accD, lk, A, ii⟩ => ⟨(hi - lo).toNat - (j + 1), by omega, rfl, hlt, acc, accD, lk, A, ii⟩, fun y H' hy => ?_⟩
    obtain ⟨rfl, rfl⟩ := hy
    obtain ⟨hle, hw⟩ := step j accD hlt ii
    have rr : Ress c ((L1.map fun _ => ([] : List Addr)).flatten ++ (L1.flatten ++ (Tm ++ (Dn :: lk)))) H' [⟨.int (lo + j), mA⟩] [.int (lo + j)] [] := .cons (l1 := []) (l2 := []) (Res.flat (A := fun _ => True) (.int _) rfl) .nil
    have la : acc.length = accD.length := A.kids.len
    exact turn_run (is := [i]) A S1 (by simpa using his) pf rr (fun σ Q q => q) (by omega) hw (fun y d lk' H' hy A' => ⟨_, _, lk', A', hy⟩) fun H' hn A' => ⟨_, _, _, A', hn⟩
  · have e' : j = (hi - lo).toNat := by omega
    subst e'
    exact .inl ⟨Nat.le_refl _, A.done st k (last accD ii)⟩
end
abbrev Blk (X : Cx) (scope : Scope) (P : Cx → Prop) : Prop := ∀ (s : Shared) (H : Hp) (C : Addr) (cl : List (Str × Addr)) (fp : List Addr), P (X.blk s H scope (compEnvC scope cl C X.env) fp)
section
variable {X : Cx} {c : Cn} {W : WX} {we wl : WE} {wa : WA} {tt : WT} {tg iter elt : Expr} {ifs : List Expr} {scope : Scope} {own : List (Str × Nat)} {pos : Pos}
theorem ve_lcN {i : Nat} (hc : X.calm = true) (hN : X.N.Nodup) (own : List (Str × Nat)) (hi : PE X iter (rdE c W we)) (hg : Blk X scope fun Y => PG Y tg (gName i)) (ht : Blk X scope fun Y => PTs Y ifs (rdT c W0 tt)) (he : Blk X scope fun Y => PE Y elt (rdE c W0 wl))
    (ok : BlkOk X.N X.env.scope scope own := by first | exact blkOk_by (by decide +kernel) | exact blkOk_by (by rfl) | exact blkOk_by (by with_unfolding_all rfl)) (his : i ∈ own.map (·.2) := by decide) (hK : c.K = X.K := by rfl) (hs : ∀ x, foldedSetIterable iter X.env x = pure x := by intro _; rfl) (pf : PinF c (own.map (·.2)) := by first | exact pinF_nil rfl | exact pinF_one rfl (by decide) | assumption) :
    PE X (.ListComp elt [⟨tg, iter, ifs, 0⟩] scope pos) (rdE c W (wLc (own.map (·.2)) (tgN i) we tt wl)) :=
  PE.imp (pe_lc hc hN (pi_seq hi) ok hg ht he hs) fun σ H Q => rd_lc hK run_name (by simpa [tgN] using his) pf
theorem rd_lcR1 {i : Nat} (his : i ∈ own.map (·.2)) (pf : PinF c (own.map (·.2))) {σ : Sg} {H : Hp} {Q : VK} (h : rdE c W (wLcR 1 (own.map (·.2)) i wa tt wl) σ H Q) : tLc (iRng1 (rdA c W wa)) (gName i) (rdT c W0 tt) (rdE c W0 wl) (own.map (·.2)) σ H Q := by
  obtain ⟨env, L, Tm, Qv, X, S, q, k, kx⟩ := h
  refine ⟨env, L, Tm, _, X, S, q, fun rs vs l L1 e1 H1 ⟨lo, hi, hl, hr, s1, s2, hsm, km, I, i0, step, last⟩ st hrs => ?_, kx⟩
  obtain ⟨m, rfl, rfl⟩ := range1 hr hl
  obtain ⟨v', e, r⟩ := ress1 hrs
  subst e
  have := r.read
  cases this
  refine ⟨hi, rfl, s2.1, s2.2, ?_⟩
  have := rd_lcR (n := 1) (wa := wa) his pf st k hsm i0 step last
  have e : (hi - 0).toNat = hi.toNat := by rw [Int.sub_zero]
  rw [e] at this
  exact this
theorem ve_lcR1 {i : Nat} {a : Expr} {p cpos : Pos} (hc : X.calm = true) (hN : X.N.Nodup) (own : List (Str × Nat)) (hm : X.mg "range" = none) (ha : PA X [a] (rdA c W wa)) (hg : Blk X scope fun Y => PG Y tg (gName i)) (ht : Blk X scope fun Y => PTs Y ifs (rdT c W0 tt)) (he : Blk X scope fun Y => PE Y elt (rdE c W0 wl))
    (hgl : Gl X "range" := by rfl) (hs1 : starEach [a] X.env = [(false, eval a X.env)] := by rfl) (ok : BlkOk X.N X.env.scope scope own := by first | exact blkOk_by (by decide +kernel) | exact blkOk_by (by rfl) | exact blkOk_by (by with_unfolding_all rfl)) (his : i ∈ own.map (·.2) := by decide) (hs : ∀ x, foldedSetIterable (.Call (.Name "range" p) [a] [] cpos) X.env x = pure x := by intro _; rfl) (pf : PinF c (own.map (·.2)) := by first | exact pinF_nil rfl | exact pinF_one rfl (by decide) | assumption) :
    PE X (.ListComp elt [⟨tg, .Call (.Name "range" p) [a] [] cpos, ifs, 0⟩] scope pos) (rdE c W (wLcR 1 (own.map (·.2)) i wa tt wl)) :=
  PE.imp (pe_lc hc hN (pi_range1 hgl hm ha hs1) ok hg ht he hs) fun σ H Q => rd_lcR1 his pf
theorem rd_setPE {i : Nat} {σ : Sg} {H : Hp} {D : Ends} {t : TE} {w : WE} (ht : ∀ σ H Q, rdE c W w σ H Q → t σ H Q) (pf : PinF c [i]) (h : rdS c W (wSet i w) D σ H) : tAsg t (gName i) D σ H := by
  obtain ⟨env, L, Dv, S, q, k, kr, kx⟩ := h
  refine ht _ _ _ (rd_first S q kx fun r v l L' env' H' hq S' hr => ?_)
  obtain ⟨L2, S2, _⟩ := Sim.put (Tm := []) (i := i) (l := l) (r := r) S' hr pf
  exact k _ L2 _ H' hq S2
theorem vs_setLcN {i n : Nat} {y : Str} {py spos : Pos} (hc : X.calm = true) (hN : X.N.Nodup) (own : List (Str × Nat)) (hi : PE X iter (rdE c W we)) (hg : Blk X scope fun Y => PG Y tg (gName i)) (ht : Blk X scope fun Y => PTs Y ifs (rdT c W0 tt)) (he : Blk X scope fun Y => PE Y elt (rdE c W0 wl))
    (hy : X.N[n]? = some y := by rfl) (hyl : X.env.scope.names.lookup y = some .local := by rfl) (hsw : swapsWith (.ListComp elt [⟨tg, iter, ifs, 0⟩] scope pos) (some (.Name y py)) spos.line X.env = pure true := by exact sw_true rfl rfl rfl (by decide +kernel))
    (ok : BlkOk X.N X.env.scope scope own := by first | exact blkOk_by (by decide +kernel) | exact blkOk_by (by rfl) | exact blkOk_by (by with_unfolding_all rfl)) (his : i ∈ own.map (·.2) := by decide) (hK : c.K = X.K := by rfl) (hs : ∀ x, foldedSetIterable iter X.env x = pure x := by intro _; rfl) (pf : PinF c (own.map (·.2)) := by first | exact pinF_nil rfl | exact pinF_one rfl (by decide) | assumption) (pn : PinF c [n] := by first | exact pinF_nil rfl | exact pinF_one rfl (by decide) | assumption) :
    PS X (.Assign [.Name y py] (.ListComp elt [⟨tg, iter, ifs, 0⟩] scope pos) spos) (rdS c W (wSet n (wLc (own.map (·.2)) (tgN i) we tt wl))) :=
  PS.imp (ps_setLc hc hN hy hyl hsw (pi_seq hi) ok hg ht he hs) fun D σ H => rd_setPE (fun σ H Q => rd_lc hK run_name (by simpa [tgN] using his) pf) pn
theorem vs_setLcR1 {i n : Nat} {y : Str} {py spos : Pos} {a : Expr} {p cpos : Pos} (hc : X.calm = true) (hN : X.N.Nodup) (own : List (Str × Nat)) (hm : X.mg "range" = none) (ha : PA X [a] (rdA c W wa)) (hg : Blk X scope fun Y => PG Y tg (gName i)) (ht : Blk X scope fun Y => PTs Y ifs (rdT c W0 tt)) (he : Blk X scope fun Y => PE Y elt (rdE c W0 wl))
    (hy : X.N[n]? = some y := by rfl) (hyl : X.env.scope.names.lookup y = some .local := by rfl) (hsw : swapsWith (.ListComp elt [⟨tg, .Call (.Name "range" p) [a] [] cpos, ifs, 0⟩] scope pos) (some (.Name y py)) spos.line X.env = pure true := by exact sw_true rfl rfl rfl (by decide +kernel))
    (hgl : Gl X "range" := by rfl) (hs1 : starEach [a] X.env = [(false, eval a X.env)] := by rfl) (ok : BlkOk X.N X.env.scope scope own := by first | exact blkOk_by (by decide +kernel) | exact blkOk_by (by rfl) | exact blkOk_by (by with_unfolding_all rfl)) (his : i ∈ own.map (·.2) := by decide) (hs : ∀ x, foldedSetIterable (.Call (.Name "range" p) [a] [] cpos) X.env x = pure x := by intro _; rfl) (pf : PinF c (own.map (·.2)) := by first | exact pinF_nil rfl | exact pinF_one rfl (by decide) | assumption) (pn : PinF c [n] := by first | exact pinF_nil rfl | exact pinF_one rfl (by decide) | assumption) :
    PS X (.Assign [.Name y py] (.ListComp elt [⟨tg, .Call (.Name "range" p) [a] [] cpos, ifs, 0⟩] scope pos) spos) (rdS c W (wSet n (wLcR 1 (own.map (·.2)) i wa tt wl))) :=
  PS.imp (ps_setLc hc hN hy hyl hsw (pi_range1 hgl hm ha hs1) ok hg ht he hs) fun D σ H => rd_setPE (fun σ H Q => rd_lcR1 his pf) pn
end
end VL
set_option maxRecDepth 100000
set_option maxHeartbeats 4000000
namespace VL
open PySem PySem.Spec PyProof.Rows L2
def argS (d : D) : Option (D × Md) := some (d, if flatD d = true then mA else mS)
def startE (N : List Str) (ds : List D) : VEnv := ds.map argS ++ List.replicate (N.length - ds.length) none
abbrev cnOf (K : PySem.W.Frag) (cl : Str → Option Addr) (P0 : Addr → Prop) (H : Hp) : Cn := ⟨K, P0, H, [], cl, [], []⟩
abbrev WXE (E : XK) : WX := fun cls d _ H => E cls d H
theorem start_sim {K : PySem.W.Frag} {cl : Str → Option Addr} {P0 : Addr → Prop} {H : Hp} {vs : List V} {ds : List D} {N : List Str} (r : RSs K P0 H vs ds) : ∃ L, Sim (cnOf K cl P0 H) L [] (startE N ds) (L2.start N vs) H := by
  have tail : ∀ n : Nat, ∀ T, Slots (cnOf K cl P0 H) T H (List.replicate n none) (List.replicate n none) (List.replicate n []) := by
    intro n T
    induction n with
    | zero => exact .nil
    | succ n ih => exact .non ih
  have hl := r.len
  have rep : ∀ n : Nat, (List.replicate n ([] : List Addr)).flatten = [] := by intro n; induction n with
    | zero => rfl
    | succ n ih => simpa [List.replicate_succ] using ih
  have body : ∀ {vs : List V} {ds : List D} (n : Nat), RSs K P0 H vs ds → Slots (cnOf K cl P0 H) [] H (ds.map argS ++ List.replicate n none) (vs.map some ++ List.replicate n none) (List.replicate ds.length [] ++ List.replicate n []) := by
    intro vs ds n r
    induction vs generalizing ds with
    | nil => cases r; simpa using tail n []
    | cons v vs ih =>
      cases r with
      | @cons _ _ d ds h r =>
        have ih' := ih r
        simp only [List.map_cons, List.cons_append, List.length_cons, List.replicate_succ]
        unfold argS
        by_cases f : flatD d = true
        · rw [if_pos f]; exact .own (.flat (h.flat f) f) ih'
        · rw [if_neg f]
          exact .own (.sh (h.mono fun b o a _ => ⟨.inl a, by simp⟩)) ih'
  have fl : (List.replicate ds.length ([] : List Addr) ++ List.replicate (N.length - ds.length) []).flatten = [] := by
    rw [List.flatten_append, rep, rep]; rfl
  refine ⟨List.replicate ds.length [] ++ List.replicate (N.length - ds.length) [], ?_, by rw [fl]; simp, fun a ha => by rw [fl] at ha; simp at ha, fun b o e _ => e, fun p hp => (by cases hp), fun p hp => (by cases hp)⟩
  rw [fl]
  have := body (N.length - ds.length) r
  unfold startE L2.start
  rw [hl]
  exact this
abbrev cxV (P : Program) (w : World) (K : PySem.W.Frag) (mg : Str → Option Value) (base : Heap) (N : List Str) (x : Str) (st : Stmt) (f : Addr) (cdv : Value) (A : Around) (outer : List Env) (s : Shared) (H : Hp) (E : XK) : Cx := cxOf (L2.CX P w) P w K mg base N x (defScope st) f cdv A outer s H E
section
variable {P : Program} {w : World} {K : PySem.W.Frag} {mg : Str → Option Value} {base : Heap} {cl : Str → Option Addr}
end
structure Err (K : PySem.W.Frag) (mg : Str → Option Value) (cl : Str → Option Addr) (x : Str) (C : Addr) : Prop where
  at_ : cl x = some C
  gC : mg x = some (.ref C)
  xP : PySem.W.excIn K C [.type "ValueError", .type "Exception", .type "BaseException", .type "object"] "ValueError.__new__" = true
  kP : PySem.W.keepIn K (.ref C) = true
  bP : PySem.W.subIn K (.ref C) (.type "BaseException") = some true
  tP : PySem.W.typeIn K (.ref C) = some (.type "type")
def wRaise (x : Str) : WS := fun env Dv => Dv.ex ⟨x, none⟩ env
section
variable {X : Cx} {c : Cn} {W : WX} {pos p p2 pos2 : Pos} {x m : Str} {j : Nat} {C : Addr}
theorem vs_raise (T : Err X.K X.mg c.cl x C) (hc : X.calm = true) (tk : Takes X W) (hg : Gl X x := by rfl) (hdb : (x == ("__debug__" : Str)) = false := by decide) :
    PS X (.Raise (some (.Call (.Name x p) [.Constant (.str m) j p2] [] pos2)) none pos) (rdS c W (wRaise x)) :=
  PS.imp (ps_raise hc tk (pmk_own PySem.F.excBase_ValueError T.xP T.gC T.kP (raises_own T.bP T.tP) hg hdb)) fun D σ H h => by
    obtain ⟨env, L, Dv, S, q, k, kr, kx⟩ := h
    exact kx _ env L σ H _ _ q S ⟨C, T.at_, rfl, rfl⟩
end
def tyIs (T : String) : D → Bool
  | .none => false
  | .bool _ => T == "bool" || T == "int"
  | .int _ => T == "int"
  | .str _ => T == "str"
  | .list _ => T == "list"
  | .tuple _ => T == "tuple"
  | .dict _ => T == "dict"
def noDict : D → Prop
  | .dict _ => False
  | _ => True
def wIsi (T : String) (we : WE) : WE := fun env Q X => we env (fun r e => noDict r.d ∧ Q ⟨.bool (tyIs T r.d), mA⟩ e) X
section
variable {X : Cx} {c : Cn} {W : WX} {pos p p2 : Pos} {we : WE} {e : Expr} {T : String} {y : Str}
structure TyAsk (T : String) : Prop where
  non : kitB "NoneType" T = some (tyIs T .none)
  bl : ∀ b, kitB "bool" T = some (tyIs T (.bool b))
  int : ∀ i, kitB "int" T = some (tyIs T (.int i))
  str : ∀ s, kitB "str" T = some (tyIs T (.str s))
  lst : ∀ ds, kitB "list" T = some (tyIs T (.list ds))
  tup : ∀ ds, kitB "tuple" T = some (tyIs T (.tuple ds))
theorem ta_int : TyAsk "int" := ⟨by decide +kernel, fun b => (by decide +kernel : kitB "bool" "int" = some true), fun _ => (by decide +kernel : kitB "int" "int" = some true), fun _ => (by decide +kernel : kitB "str" "int" = some false), fun _ => (by decide +kernel : kitB "list" "int" = some false), fun _ => (by decide +kernel : kitB "tuple" "int" = some false)⟩
theorem ta_bool : TyAsk "bool" := ⟨by decide +kernel, fun b => (by decide +kernel : kitB "bool" "bool" = some true), fun _ => (by decide +kernel : kitB "int" "bool" = some false), fun _ => (by decide +kernel : kitB "str" "bool" = some false), fun _ => (by decide +kernel : kitB "list" "bool" = some false), fun _ => (by decide +kernel : kitB "tuple" "bool" = some false)⟩
theorem rs_type {A : Addr → Prop} {H : Hp} {v : V} {d : D} {K : PySem.W.Frag} (ta : TyAsk T) (h : RS K A H v d) (nd : noDict d) : ∃ t, TyX K H v t ∧ PySem.W.kitOne K t (.type T) = some (tyIs T d) := by
  cases h with
  | non => exact ⟨_, .base .non, kit_ty ta.non⟩
  | bl b => exact ⟨_, .base (.bl b), kit_ty (ta.bl b)⟩
  | int i => exact ⟨_, .base (.int i), kit_ty (ta.int i)⟩
  | str s => exact ⟨_, .base (.str s), kit_ty (ta.str s)⟩
  | lst ha _ r => exact ⟨_, .base (.lst ha), kit_ty (ta.lst _)⟩
  | tup ha r => exact ⟨_, .base (.tup ha), kit_ty (ta.tup _)⟩
  | dct _ _ _ _ => exact absurd nd (by simp [mkDict, noDict])
  | scr _ => exact absurd nd (by simp [scriptD, noDict])
  | opq _ => exact absurd nd (by simp [opD, noDict])
  | wtp _ => exact absurd nd (by simp [wtD, noDict])
  | shr _ => exact absurd nd (by simp [shD, noDict])
  | ins _ _ _ _ _ => exact absurd nd (by simp [insD, noDict])
theorem ve_isi (ta : TyAsk T) (hm : X.mg "isinstance" = none) (hmy : X.mg y = none) (hv : bootBuiltins y = some (.type T)) (he : PE X e (rdE c W we)) (hK : c.K = X.K := by rfl) (hg : Gl X "isinstance" := by rfl) (hgy : Gl X y := by rfl) (hny : y ≠ "__name__" := by decide) (hdy : (y == ("__debug__" : Str)) = false := by decide)
    (hs : starEach [e, .Name y p2] X.env = (false, eval e X.env) :: starEach [.Name y p2] X.env := by rfl) (hpl : (backTo pos (starEach [.Name y p2] X.env)).any (·.1) = false := by rfl) :
    PE X (.Call (.Name "isinstance" p) [e, .Name y p2] [] pos) (rdE c W (wIsi T we)) :=
  PE.imp (pe_callB call_isi hg hm (by decide +kernel) (pa_cons he (pa_cons (pe_bltn (v := .ty T) hgy hmy hv rfl hny hdy) pa_nil) hs) (by decide) (by decide) hs hpl) fun σ H Q h => by
    obtain ⟨env, L, Tm, Qv, X, S, q, k, kx⟩ := h
    refine ⟨env, L, Tm, _, X, S, q, fun r v l L1 e1 H1 ⟨nd, h1⟩ st hr => ?_, kx⟩
    obtain ⟨t, tx, kt⟩ := rs_type (K := c.K) ta hr.read nd
    rw [← hK]
    exact ⟨v, .ty T, t, .type T, _, rfl, .ty T, tx, kt, k _ _ [] L1 e1 H1 h1 st.drop (Res.flat (A := fun _ => True) (.bl _) rfl)⟩
end
theorem Sim.kill {c : Cn} {L : List (List Addr)} {Tm : List Addr} {env : VEnv} {σ : Sg} {H : Hp} {i : Nat} (S : Sim c L Tm env σ H) (pf : PinF c [i]) : ∃ L', Sim c L' Tm (env.set i none) (σ.set i none) H := by
  have sub : ((L.set i []).flatten ++ Tm).Sublist (L.flatten ++ Tm) := by
    refine List.Sublist.append ?_ (List.Sublist.refl _)
    have : ∀ (L : List (List Addr)) (i : Nat), (L.set i []).flatten.Sublist L.flatten := by
      intro L
      induction L with
      | nil => intro i; simp
      | cons x L ih => intro i; cases i with
        | zero => simp
        | succ i => simpa using (List.Sublist.refl x).append (ih i)
    exact this L i
  exact ⟨L.set i [], (S.sl.kill2 (x := none)).keep (Same.refl _) fun b hb => .inl (sub.subset hb), S.nd.sublist sub, fun a ha => S.own a (sub.subset ha), S.fr, fun p hp => (S.hd p hp).mono fun b o a _ => AT.less (fun b hb => sub.subset hb) a, pf.set S.pin⟩
section
variable {X : Cx} {c : Cn} {W : WX} {pos np pos' : Pos} {w : WS} {catch_ : Exn → Bool} {i : Nat} {x n : Str} {C : Value} {body suite : List Stmt} {b₀ : Stmt} {ws : Addr → Exn → WS}
end
end VL
set_option maxRecDepth 100000
set_option maxHeartbeats 4000000
namespace VL
open PySem PySem.Spec PyProof.Rows L2
theorem scriptD_inj {ns ms : List Int} (h : scriptD ns = scriptD ms) : ns = ms := by
  simp only [scriptD, PyData.dict.injEq, List.cons.injEq, Prod.mk.injEq, PyData.list.injEq, and_true, true_and] at h
  have : ∀ {ns ms : List Int}, ns.map PyData.int = ms.map PyData.int → ns = ms := by
    intro ns
    induction ns with
    | nil => intro ms h; cases ms with
      | nil => rfl
      | cons _ _ => simp at h
    | cons n ns ih => intro ms h; cases ms with
      | nil => simp at h
      | cons m ms =>
        simp at h
        rw [h.1, ih (by simpa using h.2)]
  exact this h
theorem RS.scr_inv {K : PySem.W.Frag} {A : Addr → Prop} {H : Hp} {v : V} {ns : List Int} (h : RS K A H v (scriptD ns)) : ∃ a, v = .ref a ∧ SqF K H a (ns.map V.int) := by
  generalize e : scriptD ns = d at h
  cases h with
  | scr h => rw [scriptD_inj e]; exact ⟨_, rfl, h⟩
  | dct hd _ ek _ => exact (script_inv hd ek e.symm).elim
  | opq _ => simp [opD, scriptD] at e
  | wtp _ => simp [wtD, scriptD] at e
  | shr _ => simp [shD, scriptD] at e
  | ins _ _ _ _ _ => simp [insD, scriptD] at e
  | _ => cases e
def wIxS : WO := fun ra rb Q => ∃ ns i k, ra.d = scriptD ns ∧ rb.d = .int i ∧ atI ns i = some k ∧ Q ⟨.int k, mA⟩
section
variable {X : Cx} {c : Cn} {W : WX} {pos p2 : Pos} {wa wb : WE} {a b : Expr}
theorem s_ixS : OpS c (rIx c.K) wIxS := by
  intro L Tm la lb env σ H ra rb x y Qv Q S h1 h2 ⟨ns, i, kk, e1, e2, e3, q⟩ k
  obtain ⟨d, m⟩ := ra
  obtain ⟨d2, m2⟩ := rb
  cases e1
  cases e2
  have r2 := h2.read
  cases r2
  obtain ⟨a, rfl, hq⟩ := h1.read.scr_inv
  obtain ⟨j, g1, g2⟩ := atI_tr (xs := ns.map V.int) (ys := ns) (by simp) e3
  exact .inl ⟨a, _, i, .int kk, rfl, rfl, hq.seq, g2 _ (by rw [List.getElem?_map, g1]; rfl), flat_end1 S q (.int _) rfl k⟩
theorem ve_ixS (ha : PE X a (rdE c W wa)) (hb : PE X b (rdE c W wb)) (hK : c.K = X.K := by rfl) (hs : PlainIx b := by exact fun _ _ => rfl) : PE X (.Subscript a b pos) (rdE c W (wBin wIxS wa wb)) :=
  PE.imp (pe_ix ix_seq ha hb hs) fun _ _ _ => by rw [← hK]; exact rd_bin s_ixS
end
def cutL {α : Type} (xs : List α) (lo hi : Option Int) : List α := (xs.drop (HT.sIx xs.length 0 lo)).take (HT.sIx xs.length xs.length hi - HT.sIx xs.length 0 lo)
abbrev WPt := VEnv → (Option Int → VEnv → Prop) → (Exn → VEnv → Prop) → Prop
def wNoP : WPt := fun env Q _ => Q none env
def wPt (w : WE) : WPt := fun env Q X => w env (fun r e => ∃ i, r.d = .int i ∧ Q (some i) e) X
def rdO (c : Cn) (W : WX) (w : WPt) : TO := fun σ H Q => ∃ env L Tm Qv X, Sim c L Tm env σ H ∧ w env Qv X ∧
  (∀ o L' env' H', Qv o env' → Step c H H' (L.flatten ++ Tm) Tm L' [] env' σ → Q o H') ∧ KontX c σ L Tm H X W
theorem PO.imp {X : Cx} {e : Option Expr} {t t' : TO} (h : PO X e t) (q : ∀ σ H Q, t' σ H Q → t σ H Q) : PO X e t' := ⟨fun pins s σ H Q I w => h.run pins s σ H Q I (q _ _ _ w)⟩
section
variable {X : Cx} {c : Cn} {W : WX} {pos p2 : Pos} {wa wb : WE} {a e : Expr} {lo hi : Option Expr} {wl wh : WPt}
theorem vo_none : PO X none (rdO c W wNoP) := PO.imp po_none fun σ H Q h => by
  obtain ⟨env, L, Tm, Qv, X, S, q, k, kx⟩ := h
  exact k none L env H q (Step.refl S)
theorem vo_some (h : PE X e (rdE c W wa)) : PO X (some e) (rdO c W (wPt wa)) := PO.imp (po_some h) fun σ H Q h => by
  obtain ⟨env, L, Tm, Qv, X, S, q, k, kx⟩ := h
  refine ⟨env, L, Tm, _, X, S, q, fun r v l L1 env1 H1 ⟨i, e, q⟩ st hr => ?_, kx⟩
  obtain ⟨d, m⟩ := r
  cases e
  have := hr.read
  cases this
  exact ⟨i, rfl, k (some i) L1 env1 H1 q st.drop⟩
def slR (ra : R) (lo hi : Option Int) (Q : R → Prop) : Prop := match ra.d with
  | .list ds => Q (cpR (cutL ds lo hi) (isB ra.m))
  | .str z => z.length ≤ sizeLine ∧ Q ⟨.str (cutS z lo hi), mA⟩
  | .dict [(.list [], .list ns)] => Q (cpR (cutL ns lo hi) false)
  | .tuple ds => flatAll ds = true ∧ Q ⟨.tuple (cutL ds lo hi), mA⟩
  | _ => False
def wSl (w : WE) (wl wh : WPt) : WE := fun env Q X => w env (fun r e => wl e (fun lo e1 => wh e1 (fun hi e2 => slR r lo hi fun r' => Q r' e2) X) X) X
def rSlAll (K : PySem.W.Frag) : V → Option Int → Option Int → Hp → VK → Prop := fun x lo hi H Q => rSlL K x lo hi H Q ∨ rSlS x lo hi H Q ∨ (∃ a xs, x = .ref a ∧ SqT K H a xs ∧
  (HT.sIx xs.length 0 lo = 0 ∧ HT.sIx xs.length xs.length hi = xs.length → Q (.ref a) H) ∧ (¬ (HT.sIx xs.length 0 lo = 0 ∧ HT.sIx xs.length xs.length hi = xs.length) → ∀ p, H p = none → Q (.ref p) (upd H p (.tup (cutV xs lo hi)))))
theorem RSs.cut {K : PySem.W.Frag} {A : Addr → Prop} {H : Hp} {xs : List V} {ds : List D} (h : RSs K A H xs ds) (lo hi : Option Int) : RSs K A H (cutV xs lo hi) (cutL ds lo hi) := by
  unfold cutV cutL
  rw [h.len]
  exact RSs.take _ (drop _ h)
where
  drop {K : PySem.W.Frag} {A : Addr → Prop} {H : Hp} : ∀ {xs : List V} {ds : List D} (n : Nat), RSs K A H xs ds → RSs K A H (xs.drop n) (ds.drop n)
    | _, _, 0, h => h
    | _, _, _ + 1, .nil => .nil
    | _, _, n + 1, .cons _ r => drop n r
theorem flatAll_cut {ds : List D} (lo hi : Option Int) (h : flatAll ds = true) : flatAll (cutL ds lo hi) = true := by
  unfold cutL
  have d1 : ∀ (n : Nat) (ds : List D), flatAll ds = true → flatAll (ds.drop n) = true := by
    intro n
    induction n with
    | zero => intro ds h; exact h
    | succ n ih => intro ds h; cases ds with
      | nil => exact h
      | cons d ds => simp only [flatAll, Bool.and_eq_true] at h; exact ih ds h.2
  have d2 : ∀ (n : Nat) (ds : List D), flatAll ds = true → flatAll (ds.take n) = true := by
    intro n
    induction n with
    | zero => intro ds h; simp [flatAll]
    | succ n ih => intro ds h; cases ds with
      | nil => exact h
      | cons d ds => simp only [flatAll, Bool.and_eq_true, List.take_succ_cons] at h ⊢; exact ⟨h.1, ih ds h.2⟩
  exact d2 _ _ (d1 _ _ h)
theorem rs_ints {K : PySem.W.Frag} {A : Addr → Prop} {H : Hp} : ∀ ns : List Int, RSs K A H (ns.map V.int) (ns.map PyData.int)
  | [] => .nil
  | n :: ns => .cons (.int n) (rs_ints ns)
theorem slr_end {L : List (List Addr)} {Tm l : List Addr} {env : VEnv} {σ : Sg} {H : Hp} {ra : R} {x : V} {lo hi : Option Int} {Qv : R → Prop} {Q : VK} (S : Sim c L (Tm ++ l) env σ H) (h1 : Res c (L.flatten ++ (Tm ++ l)) H ra x l) (q : slR ra lo hi Qv)
    (k : ∀ r v l' H', Qv r → Step c H H' (L.flatten ++ (Tm ++ l)) Tm L l' env σ → Res c (L.flatten ++ (Tm ++ l')) H' r v l' → Q v H') : rSlAll c.K x lo hi H Q := by
  obtain ⟨d1, m1⟩ := ra
  have r1 := h1.read
  unfold slR at q
  simp only at q r1
  split at q
  · rename_i ds
    obtain ⟨a, us, rfl, ha, _, r1'⟩ := r1.lst_inv
    refine .inl ⟨a, us, rfl, SqL.of ha, fun p np => ?_⟩
    refine cp_end S np (r1'.cut lo hi) (fun hm => ?_) q k
    obtain ⟨a', us', e1, ha', s1⟩ := Res.lstS (m := m1) h1 hm S fun b hb => hb
    cases e1
    rw [ha] at ha'; cases ha'
    exact s1.cut lo hi
  · cases r1
    exact .inr (.inl ⟨_, rfl, q.1, flat_end1 S q.2 (.str _) rfl k⟩)
  · rename_i ns
    generalize hd : PyData.dict [(.list [], .list ns)] = d at r1
    cases r1 with
    | dct h _ e _ => exact (script_inv h e hd.symm).elim
    | opq a => simp [opD] at hd
    | wtp _ => simp [wtD] at hd
    | shr _ => simp [shD] at hd
    | ins _ _ _ _ _ => simp [insD] at hd
    | @scr a ms ha =>
      have e : ns = ms.map PyData.int := by
        simp only [scriptD, PyData.dict.injEq, List.cons.injEq, Prod.mk.injEq, PyData.list.injEq, and_true, true_and] at hd
        exact hd
      subst e
      refine .inl ⟨a, _, rfl, ha.seq, fun p np => ?_⟩
      exact cp_end S np ((rs_ints ms).cut lo hi) (fun _ => (rs_ints ms).cut lo hi) q k
    | _ => cases hd
  · rename_i ds
    obtain ⟨a, us, rfl, ha, r1'⟩ := r1.tup_inv
    have fc := flatAll_cut lo hi q.1
    refine .inr (.inr ⟨a, us, rfl, SqT.of ha, fun z => ?_, fun z p np => ?_⟩)
    · have e : cutL ds lo hi = ds := by
        unfold cutL
        rw [r1'.len] at z
        rw [z.1, z.2]; simp
      have q2 := q.2
      rw [e] at q2
      exact flat_end1 S q2 r1 (by simpa [flatD] using q.1) k
    · have sm := same_new (o := .tup (cutV us lo hi)) np
      refine k _ _ [] _ q.2 (new_end S np (List.nil_sublist _)).drop ?_
      exact Res.flat (A := fun _ => True) (.tup upd_same ((r1'.cut lo hi).keep (Kp.same sm))) (by simpa [flatD] using fc)
  · exact q.elim
theorem ve_slice (ha : PE X a (rdE c W wa)) (hl : PO X lo (rdO c W wl)) (hh : PO X hi (rdO c W wh)) (hK : c.K = X.K := by rfl) : PE X (.Subscript a (.Slice lo hi none p2) pos) (rdE c W (wSl wa wl wh)) :=
  PE.imp (pe_slice (sl_list.or (sl_str.or sl_tupA)) ha hl hh) fun σ H Q h => by
    obtain ⟨env, L, Tm, Qv, X, S, q, k, kx⟩ := h
    refine ⟨env, L, Tm, _, X, S, q, fun r v l L1 env1 H1 h1 st1 hr => ?_, kx⟩
    refine ⟨env1, L1, Tm ++ l, _, X, st1.sim, h1, fun o L2 env2 H2 h2 st2 => ?_, kx.step st1⟩
    have st2' := st1.trans st2
    rw [List.append_nil] at st2'
    refine ⟨env2, L2, Tm ++ l, _, X, st2'.sim, h2, fun o2 L3 env3 H3 h3 st3 => ?_, kx.step st2'⟩
    have st3' := st2'.trans st3
    rw [List.append_nil] at st3'
    have r1 := hr.keep st2.same st2.gr
    rw [List.append_nil] at r1
    have r2 := r1.keep st3.same st3.gr
    rw [List.append_nil] at r2
    have := slr_end (Q := Q) st3'.sim r2 h3 fun r v l' H' hq st4 hr4 => k r v l' L3 env3 H' hq (Step.then st3' st4) hr4
    rw [← hK]
    exact this
end
section
variable {X : Cx} {c : Cn} {W : WX} {pos p : Pos} {wa : WA} {e e' : Expr}
theorem ve_len1 (hm : X.mg "len" = none) (ha : PA X [e] (rdA c W wa)) (hK : c.K = X.K := by rfl) (hg : Gl X "len" := by rfl) (he : starEach [e] X.env = (false, eval e X.env) :: starEach [] X.env := by rfl) (hpl : (backTo pos (starEach [] X.env)).any (·.1) = false := by rfl) : PE X (.Call (.Name "len" p) [e] [] pos) (rdE c W (wCB wLen wa)) :=
  ve_callB len_R (by rw [← hK]; exact s_len) hm PySem.boot_len ha hg (by decide) (by decide) he hpl
def wMax2 : WF := wI2 fun i j => .int (if j > i then j else i)
theorem ve_max2 (hc : X.calm = true) (hm : X.mg "max" = none) (ha : PA X [e, e'] (rdA c W wa)) (hg : Gl X "max" := by rfl) (he : starEach [e, e'] X.env = (false, eval e X.env) :: starEach [e'] X.env := by rfl) (hpl : (backTo pos (starEach [e'] X.env)).any (·.1) = false := by rfl) : PE X (.Call (.Name "max" p) [e, e'] [] pos) (rdE c W (wCB wMax2 wa)) :=
  ve_callB (call_max2 hc) (s_I2 (g := fun i j => .int (if j > i then j else i)) (fun _ _ _ _ _ => .int _) fun _ _ => rfl) hm (by decide +kernel) ha hg (by decide) (by decide) he hpl
end
end VL
set_option maxRecDepth 100000
set_option maxHeartbeats 4000000
namespace VL
open PySem PySem.Spec PyProof.Rows L2
def FnAt (K : PySem.W.Frag) (x : Str) (st : Stmt) : Prop := ∃ (f : Addr) (oc : Value) (od an : Option Addr) (osl : Array (Option Value)) (kV doc pm cdv ct : Value),
  PySem.W.nsIn K mainGlobals x = some (some (.ref f)) ∧ K.lookup f = some ⟨oc, od, .func (PySem.W.fnOf x x (defArgs st) (defBody st) (defScope st) .none kV doc pm an cdv ct), osl⟩ ∧ PySem.W.codeIn K cdv x = true ∧ PySem.W.keepIn K (.ref f) = true
def ErrAt (K : PySem.W.Frag) (x : Str) : Prop := ∃ C : Addr, PySem.W.nsIn K mainGlobals x = some (some (.ref C)) ∧
  PySem.W.excIn K C [.type "ValueError", .type "Exception", .type "BaseException", .type "object"] "ValueError.__new__" = true ∧ PySem.W.keepIn K (.ref C) = true ∧ PySem.W.subIn K (.ref C) (.type "BaseException") = some true ∧ PySem.W.typeIn K (.ref C) = some (.type "type")
def ExmAt (K : PySem.W.Frag) (x y : Str) (b : Bool) : Prop := ∃ C D : Addr, PySem.W.nsIn K mainGlobals x = some (some (.ref C)) ∧ PySem.W.nsIn K mainGlobals y = some (some (.ref D)) ∧ PySem.W.exmOne K (.ref C) (.ref D) = some b
def KitAt (K : PySem.W.Frag) (x y : Str) (b : Bool) : Prop := ∃ C D : Addr, PySem.W.nsIn K mainGlobals x = some (some (.ref C)) ∧ PySem.W.nsIn K mainGlobals y = some (some (.ref D)) ∧ PySem.W.kitOne K (.ref C) (.ref D) = some b
def NoAt (K : PySem.W.Frag) (x : Str) : Prop := PySem.W.nsIn K mainGlobals x = some none
def IntAt (K : PySem.W.Frag) (x : Str) (i : Int) : Prop := ∃ t, PySem.W.nsIn K mainGlobals x = some (some (.int i t))
def clOf (names : List Str) (mg : Str → Option Value) : Str → Option Addr := fun x => if names.contains x = true then (match mg x with | some (.ref a) => some a | _ => none) else none
def catch_ (l : List Str) : Exn → Bool := fun ex => l.contains ex.cls
section
variable {P : Program} {w : World} {K : PySem.W.Frag} {mg : Str → Option Value} {base h : Heap} {cl : Str → Option Addr} {names : List Str}
theorem NoAt.out {x : Str} (X : K.In h) (G : h.Ns mainGlobals mg) (a : NoAt K x) : mg x = none := PySem.W.mg_none_of X G a
theorem IntAt.out {x : Str} {i : Int} (X : K.In h) (G : h.Ns mainGlobals mg) (a : IntAt K x i) : ∃ t, mg x = some (.int i t) := let ⟨t, e⟩ := a; ⟨t, PySem.W.mg_of X G e⟩
theorem clOf_at {x : Str} {C : Addr} (hx : names.contains x = true) (e : mg x = some (.ref C)) : clOf names mg x = some C := by
  unfold clOf
  rw [if_pos hx, e]
theorem ErrAt.err {x : Str} (X : K.In h) (G : h.Ns mainGlobals mg) (a : ErrAt K x) (hx : names.contains x = true) : ∃ C, Err K mg (clOf names mg) x C := by
  obtain ⟨C, e, x1, x2, x3, x4⟩ := a
  have g := PySem.W.mg_of X G e
  exact ⟨C, clOf_at hx g, g, x1, x2, x3, x4⟩
theorem def_okF {x : Str} {st : Stmt} {f : Addr} {fd : FuncData} {N ps : List Str} {k : Nat} {wf : WS} {S : FSpec} (F : Fun K x x st f fd) (sc : FnScope N ps (defScope st))
    (body : ∀ (cdv : Value) (A : Around) (outer : List Env) (s : Shared) (H : Hp) (E : XK) (P0 : Addr → Prop), Room k (cxV P w K mg base N x st f cdv A outer s H E).A → PSs (cxV P w K mg base N x st f cdv A outer s H E) (defBody st) (rdS (cnOf K cl P0 H) (WXE E) wf))
    (spec : ∀ ds Qv Xv, S ds Qv Xv → ds.length = ps.length ∧ wf (startE N ds) ⟨fun _ => Qv ⟨.none, mA⟩, fun r _ => Qv r, fun ex _ => Xv ex⟩) : FnOk P w K mg base (L2.CX P w) (k + 1) f fd ps (spOf K cl S) := by
  refine F.okX sc (fun vs H Q E h => ?_) (fun cdv A outer s H vs Q E hr h => ?_)
  · obtain ⟨ds, P0, Qv, X, r, hs, _⟩ := h
    rw [r.len, (spec _ _ _ hs).1]
  · obtain ⟨ds, P0, Qv, X, r, hs, hq, hx⟩ := h
    refine ⟨_, body cdv A outer s H E P0 hr, ?_⟩
    obtain ⟨L, S0⟩ := start_sim (cl := cl) (N := N) r
    refine ⟨_, L, _, S0, (spec _ _ _ hs).2, fun env' L' σ' H' h1 S' => ?_, fun r v l H' e9 h1 rr => ?_, fun ex env' L' σ' H' cls d h1 S' he => ?_⟩
    · exact hq ⟨.none, mA⟩ .non [] H' h1 (fun b o e => S'.fr b o e (by simp)) List.nodup_nil (fun b hb => by cases hb) (Res.flat (A := fun _ => True) .non rfl)
    · refine hq r v l H' h1 (fun b o e => rr.fr b o e (by simp)) rr.nd (fun b hb => ?_) rr.res
      obtain ⟨o1, o2⟩ := rr.own b hb
      exact ⟨o1.elim id fun z => (by cases z), o2⟩
    · exact hx ex cls d H' h1 (fun b o e => S'.fr b o e (by simp)) he
theorem def_at {x : Str} {st : Stmt} {N ps : List Str} {k : Nat} {wf : WS} {S : FSpec} (X : K.In h) (G : h.Ns mainGlobals mg) (a : FnAt K x st) (sc : FnScope N ps (defScope st))
    (hb : ∀ (kV doc pm : Value) (an : Option Addr) (cdv ct : Value) (us : List Value), us.length = ps.length → bindArgs (PySem.W.fnOf x x (defArgs st) (defBody st) (defScope st) .none kV doc pm an cdv ct) ⟨us, []⟩ = pure (ps.zip us))
    (body : ∀ (f : Addr) (cdv : Value) (A : Around) (outer : List Env) (s : Shared) (H : Hp) (E : XK) (P0 : Addr → Prop), Room k (cxV P w K mg base N x st f cdv A outer s H E).A → PSs (cxV P w K mg base N x st f cdv A outer s H E) (defBody st) (rdS (cnOf K cl P0 H) (WXE E) wf))
    (spec : ∀ ds Qv Xv, S ds Qv Xv → ds.length = ps.length ∧ wf (startE N ds) ⟨fun _ => Qv ⟨.none, mA⟩, fun r _ => Qv r, fun ex _ => Xv ex⟩) : Def P w K mg base cl x ps.length S (k + 1) := by
  obtain ⟨f, oc, od, an, osl, kV, doc, pm, cdv, ct, e1, e2, e3, e4⟩ := a
  have F := fun_mk (st := st) e2 e3 e4
  exact ⟨f, _, ps, rfl, def_okF F sc (body f) spec, PySem.W.mg_of X G e1, e4, F.binds (ps := ps) hb⟩
end
def LawS : FSpec := fun ds Qv _ => ∃ ns : List Int, ds = [scriptD ns] ∧ ns.length ≤ 63 ∧ (∀ z ∈ ns, Builtin.Int.intBits z ≤ 1048576) ∧ Qv ⟨.bool true, mA⟩
theorem law_sp {K : PySem.W.Frag} {cl : Str → Option Addr} {H : Hp} {a : Addr} {ns : List Int} (hl : ns.length ≤ 63) (hb : ∀ z ∈ ns, Builtin.Int.intBits z ≤ 1048576) (hO : Only H) (hS : SqL K H a (ns.map V.int)) : spOf K cl LawS [.ref a] H (fun v _ => v = .bl true) fun _ _ _ => False := by
  have hF : SqF K H a (ns.map V.int) := by
    rcases hS with (h | ⟨o, h⟩) | h
    · rcases hO a with z | ⟨o, xs, z⟩
      · rw [z] at h; cases h
      · rw [z] at h; cases h
    · exact .inl ⟨o, h⟩
    · exact .inr h
  refine ⟨[scriptD ns], fun _ => True, fun r => r = ⟨.bool true, mA⟩, fun _ => False, .cons (.scr hF) .nil, ⟨ns, rfl, hl, hb, rfl⟩, fun r v l H' e _ _ _ hr => ?_, fun _ _ _ _ e => e.elim⟩
  subst e
  have := hr.read
  cases this
  rfl
theorem ve_gintE {X : Cx} {c : Cn} {W : WX} {pos : Pos} {x : Str} {i : Int} (hm : ∃ t, X.mg x = some (.int i t)) (hg : Gl X x := by rfl) (hd : (x == ("__debug__" : Str)) = false := by decide) : PE X (.Name x pos) (rdE c W (wC (.int i))) := let ⟨_, h⟩ := hm; ve_gint h hg hd
theorem vs_raiseE {X : Cx} {c : Cn} {W : WX} {pos p p2 pos2 : Pos} {x m : Str} {j : Nat} (T : ∃ C, Err X.K X.mg c.cl x C) (hc : X.calm = true) (tk : Takes X W) (hg : Gl X x := by rfl) (hdb : (x == ("__debug__" : Str)) = false := by decide) :
    PS X (.Raise (some (.Call (.Name x p) [.Constant (.str m) j p2] [] pos2)) none pos) (rdS c W (wRaise x)) := let ⟨_, h⟩ := T; vs_raise h hc tk hg hdb
end VL
set_option maxRecDepth 100000
set_option maxHeartbeats 4000000
namespace VL
open PySem PySem.Spec PyProof.Rows L2
def ExcAt (K : PySem.W.Frag) (x : Str) : Prop := ∃ D : Addr, PySem.W.nsIn K mainGlobals x = some (some (.ref D)) ∧
  PySem.W.findIn K (.ref D) "__getattribute__" = some (some (.builtin "BaseException.__getattribute__")) ∧ PySem.W.findIn K (.ref D) "__getattr__" = some none ∧ PySem.W.subIn K (.ref D) (.type "BaseException") = some true ∧ PySem.W.hasDictIn K D = true ∧
  PySem.W.findIn K (.ref D) "__class__" = some (some (.builtin "object.__class__")) ∧ PySem.W.specialIn K (.builtin "object.__class__") "__get__" = some (some (.builtin "getset_descriptor.__get__")) ∧ PySem.W.takesIn K (.builtin "object.__class__") = some true ∧ PySem.W.mroIn K D (.type "object") = some true
section
variable {P : Program} {w : World} {K : PySem.W.Frag} {mg : Str → Option Value} {base h : Heap} {names : List Str}
end
section
variable {X : Cx} {c : Cn} {W : WX} {pos np pos' : Pos} {w : WS} {l : List Str} {i : Nat} {x n : Str} {body suite : List Stmt} {b₀ : Stmt} {ws : Addr → Exn → WS}
end
end VL
namespace VL
open PySem PySem.Spec PyProof.Rows L2
theorem lawS_cl {K : PySem.W.Frag} {cl : Str → Option Addr} (vs : List V) (H : Hp) (Q : VK) (E : XK) (h : spOf K (fun _ => none) LawS vs H Q E) : spOf K cl LawS vs H Q E := by
  obtain ⟨ds, P0, Qv, X, r, ⟨ns, e, h1, h2, h3⟩, hq, hx⟩ := h
  exact ⟨ds, P0, Qv, fun _ => False, r, ⟨ns, e, h1, h2, h3⟩, hq, fun _ _ _ _ z => z.elim⟩
section
variable {K : PySem.W.Frag} {x y : Str}
theorem FnAt.mk {st : Stmt} {f : Addr} {oc : Value} {od an : Option Addr} {osl : Array (Option Value)} {kV doc pm cdv ct : Value}
  (h1 : PySem.W.nsIn K mainGlobals x = some (some (.ref f))) (h2 : K.lookup f = some ⟨oc, od, .func (PySem.W.fnOf x x (defArgs st) (defBody st) (defScope st) .none kV doc pm an cdv ct), osl⟩) (h3 : PySem.W.codeIn K cdv x = true) (h4 : PySem.W.keepIn K (.ref f) = true) : FnAt K x st := ⟨f, oc, od, an, osl, kV, doc, pm, cdv, ct, h1, h2, h3, h4⟩
theorem ErrAt.mk {C : Addr} (h1 : PySem.W.nsIn K mainGlobals x = some (some (.ref C)))
  (h2 : PySem.W.excIn K C [.type "ValueError", .type "Exception", .type "BaseException", .type "object"] "ValueError.__new__" = true) (h3 : PySem.W.keepIn K (.ref C) = true) (h4 : PySem.W.subIn K (.ref C) (.type "BaseException") = some true) (h5 : PySem.W.typeIn K (.ref C) = some (.type "type")) : ErrAt K x := ⟨C, h1, h2, h3, h4, h5⟩
theorem ExmAt.mk {b : Bool} {C D : Addr} (h1 : PySem.W.nsIn K mainGlobals x = some (some (.ref C))) (h2 : PySem.W.nsIn K mainGlobals y = some (some (.ref D))) (h3 : PySem.W.exmOne K (.ref C) (.ref D) = some b) : ExmAt K x y b := ⟨C, D, h1, h2, h3⟩
theorem KitAt.mk {b : Bool} {C D : Addr} (h1 : PySem.W.nsIn K mainGlobals x = some (some (.ref C))) (h2 : PySem.W.nsIn K mainGlobals y = some (some (.ref D))) (h3 : PySem.W.kitOne K (.ref C) (.ref D) = some b) : KitAt K x y b := ⟨C, D, h1, h2, h3⟩
theorem NoAt.mk (h : PySem.W.nsIn K mainGlobals x = some none) : NoAt K x := h
theorem IntAt.mk {i : Int} {t : Tok} (h : PySem.W.nsIn K mainGlobals x = some (some (.int i t))) : IntAt K x i := ⟨t, h⟩
def RefAt (K : PySem.W.Frag) (x : Str) : Prop := ∃ C : Addr, PySem.W.nsIn K mainGlobals x = some (some (.ref C))
theorem RefAt.mk {C : Addr} (h : PySem.W.nsIn K mainGlobals x = some (some (.ref C))) : RefAt K x := ⟨C, h⟩
theorem ExcAt.mk {D : Addr} (h0 : PySem.W.nsIn K mainGlobals x = some (some (.ref D)))
  (h1 : PySem.W.findIn K (.ref D) "__getattribute__" = some (some (.builtin "BaseException.__getattribute__"))) (h2 : PySem.W.findIn K (.ref D) "__getattr__" = some none) (h3 : PySem.W.subIn K (.ref D) (.type "BaseException") = some true) (h4 : PySem.W.hasDictIn K D = true)
  (h5 : PySem.W.findIn K (.ref D) "__class__" = some (some (.builtin "object.__class__"))) (h6 : PySem.W.specialIn K (.builtin "object.__class__") "__get__" = some (some (.builtin "getset_descriptor.__get__"))) (h7 : PySem.W.takesIn K (.builtin "object.__class__") = some true) (h8 : PySem.W.mroIn K D (.type "object") = some true) : ExcAt K x := ⟨D, h0, h1, h2, h3, h4, h5, h6, h7, h8⟩
end
end VL
set_option maxRecDepth 100000
set_option maxHeartbeats 4000000
namespace VL
open PySem PySem.Spec PyProof.Rows L2
theorem flatAll_ints : ∀ ns : List Int, flatAll (ns.map PyData.int) = true
  | [] => rfl
  | n :: ns => by simp [flatAll, flatD, flatAll_ints ns]
theorem outR_all {rs : List R} {d : D} : outR rs ⟨d, mA⟩ = ⟨d, mA⟩ := by
  unfold outR
  split <;> rfl
theorem wLen_scr {ns : List Int} {m : Md} {Q : R → Prop} : wLen [⟨scriptD ns, m⟩] Q = Q ⟨.int ns.length, mA⟩ := by
  apply propext
  refine ⟨fun ⟨r, e, h⟩ => ?_, fun h => ⟨_, rfl, ?_⟩⟩
  · cases e
    simpa [scriptD] using h
  · simpa [scriptD] using h
theorem envLe.rfl (e : VEnv) : envLe e e := by
  induction e with
  | nil => exact True.intro
  | cons s e ih => exact ⟨slLe.refl s, ih⟩
theorem slr_scr {ns : List Int} {m : Md} {lo hi : Option Int} {Q : R → Prop} : slR ⟨scriptD ns, m⟩ lo hi Q = Q (cpR (cutL (ns.map PyData.int) lo hi) false) := rfl
theorem cutL_map {α β : Type} (f : α → β) (xs : List α) (lo hi : Option Int) : cutL (xs.map f) lo hi = (cutL xs lo hi).map f := by
  unfold cutL
  simp [List.map_take, List.map_drop]
theorem cpR_ints {ns : List Int} {b : Bool} : cpR (ns.map PyData.int) b = ⟨.list (ns.map PyData.int), mA⟩ := by
  unfold cpR
  rw [flatAll_ints, if_pos rfl]
end VL
set_option maxRecDepth 100000
set_option maxHeartbeats 4000000
namespace VL
open PySem PySem.Spec PyProof.Rows L2
theorem atI_nat' {α : Type} {xs : List α} {i : Nat} {x : α} (h : xs[i]? = some x) : atI xs (i : Int) = some x := by
  obtain ⟨hl, e⟩ := List.getElem?_eq_some_iff.mp h
  unfold atI ixN
  simp [hl]; exact e
theorem atI_pos {α : Type} {xs : List α} {i : Int} {x : α} (h0 : 0 ≤ i) (h : xs[i.toNat]? = some x) : atI xs i = some x := by
  have := atI_nat' h
  rwa [Int.toNat_of_nonneg h0] at this
theorem kidOk_A {n : Option Nat} {d : D} : kidOk n ⟨d, mA⟩ := .inr ⟨none, rfl, by cases n <;> rfl⟩
theorem cpR_flat {ds : List D} {b : Bool} (f : flatAll ds = true) : cpR ds b = ⟨.list ds, mA⟩ := by unfold cpR; rw [if_pos f]
theorem log2_lt {i : Int} {n : Nat} (h : i.natAbs < 2 ^ (n + 1)) : i.natAbs.log2 ≤ n := by
  by_cases z : i.natAbs = 0
  · rw [z]; simp
  · have := (Nat.log2_lt z).mpr h
    omega
theorem divW {i j : Int} (h0 : 0 < j) (n : Nat) (h : j.natAbs < 2 ^ (n + 1)) (hn : n < 9000) : CDiv i j ∨ CDivW i j := .inr ⟨h0, by have := log2_lt h; omega⟩
theorem wApp_inner {e' : VEnv} {i : Nat} {r : R} {Dv : DV} (ds : List D) (m n : Option Nat) (e : e'[i]? = some (some (.list ds, .o m))) (hm : popM m = some n) (hk : kidOk n r) (hl : ds.length < 1000000) (h : Dv.nx (killB (e'.set i (some (.list (ds ++ [r.d]), .o m))))) :
    ∃ d m ds n d', OwnL e' i [] ds d m n ∧ kidOk n r ∧ ds.length < 1000000 ∧ setP d [] (.list (ds ++ [r.d])) = some d' ∧ Dv.nx (killB (e'.set i (some (d', .o m)))) :=
  ⟨_, m, ds, n, _, ⟨e, rfl, ⟨m, rfl, hm⟩⟩, hk, hl, rfl, h⟩
end VL
set_option maxRecDepth 100000
set_option maxHeartbeats 4000000
namespace VL
open PySem PySem.Spec PyProof.Rows L2
section
variable {env e : VEnv} {Dv : DV} {w u : WS} {we wa wb : WE} {wl : WA} {wo : WO} {wf : WF} {t t2 : WT} {i : Nat} {Q : R → VEnv → Prop} {X : Exn → VEnv → Prop} {QA : List R → VEnv → Prop} {QB : Bool → VEnv → Prop} {q : R → Prop} {x y : Int} {m m' : Md} {ds ds' : List D} {s s' : Str} {b b' : Bool} {d d' : D} {n : Option Nat}
theorem i_sub (h : q ⟨.int (x - y), mA⟩) : woSub ⟨.int x, m⟩ ⟨.int y, m'⟩ q := ⟨x, y, rfl, rfl, h⟩
theorem i_lt (h : q ⟨.bool (decide (x < y)), mA⟩) : woLt ⟨.int x, m⟩ ⟨.int y, m'⟩ q := ⟨x, y, rfl, rfl, h⟩
theorem i_le (h : q ⟨.bool (decide (x ≤ y)), mA⟩) : woLe ⟨.int x, m⟩ ⟨.int y, m'⟩ q := ⟨x, y, rfl, rfl, h⟩
theorem i_gt (h : q ⟨.bool (decide (y < x)), mA⟩) : woGt ⟨.int x, m⟩ ⟨.int y, m'⟩ q := ⟨x, y, rfl, rfl, h⟩
theorem i_add (h : q ⟨.int (x + y), mA⟩) : woAdd ⟨.int x, m⟩ ⟨.int y, m'⟩ q := h
theorem i_addL (hl : ds.length + ds'.length ≤ sizeLine) (h : q (cpR (ds ++ ds') (isB m || isB m'))) : woAdd ⟨.list ds, m⟩ ⟨.list ds', m'⟩ q := ⟨hl, h⟩
theorem i_mul (hc : CMul x y ∨ CMulW x y) (h : q ⟨.int (x * y), mA⟩) : woMul ⟨.int x, m⟩ ⟨.int y, m'⟩ q := ⟨hc, h⟩
theorem i_mod (hc : 0 < y) (h : q ⟨.int (x % y), mA⟩) : woMod ⟨.int x, m⟩ ⟨.int y, m'⟩ q := ⟨x, y, rfl, rfl, hc, h⟩
theorem i_fd (hc : CDiv x y ∨ CDivW x y) (h : q ⟨.int (x / y), mA⟩) : woFd ⟨.int x, m⟩ ⟨.int y, m'⟩ q := ⟨x, y, rfl, rfl, hc, h⟩
theorem i_pow (hc : CPow x y) (h : q ⟨.int (x ^ y.toNat), mA⟩) : woPow ⟨.int x, m⟩ ⟨.int y, m'⟩ q := ⟨x, y, rfl, rfl, hc, h⟩
theorem i_eqI (h : q ⟨.bool (decide (x = y)), mA⟩) : woEq ⟨.int x, m⟩ ⟨.int y, m'⟩ q := h
theorem i_neI (h : q ⟨.bool (!decide (x = y)), mA⟩) : woNe ⟨.int x, m⟩ ⟨.int y, m'⟩ q := h
theorem i_notN (h : q ⟨.bool (!isNon d), mA⟩) : woNotN ⟨d, m⟩ ⟨.none, m'⟩ q := ⟨rfl, h⟩
theorem i_lenL (h : q ⟨.int ds.length, mA⟩) : wLen [⟨.list ds, m⟩] q := ⟨_, rfl, h⟩
theorem i_lenS {ns : List Int} (h : q ⟨.int ns.length, mA⟩) : wLen [⟨scriptD ns, m⟩] q := by rw [wLen_scr]; exact h
theorem i_max2 (h : q ⟨.int (if y > x then y else x), mA⟩) : wMax2 [⟨.int x, m⟩, ⟨.int y, m'⟩] q := ⟨_, _, _, _, rfl, rfl, rfl, h⟩
theorem i_lst {rs : List R} {n : Option Nat} (hj : joinM rs = some n) (hl : rs.length ≤ 1000) (h : q ⟨.list (rs.map (·.d)), .o (succM n)⟩) : wLst rs q := by
  unfold wLst; rw [hj]; exact ⟨hl, h⟩
theorem i_tup {rs : List R} {n : Option Nat} (hj : joinM rs = some n) (hl : rs.length ≤ 1000) (h : q ⟨.tuple (rs.map (·.d)), .o n⟩) : wTup rs q := by
  unfold wTup; rw [hj]; exact ⟨hl, h⟩
end
end VL
namespace VL
open PySem PySem.Spec PyProof.Rows L2
end VL
set_option maxRecDepth 100000
set_option maxHeartbeats 4000000
namespace VL
open PySem PySem.Spec PyProof.Rows L2
section
variable {X : Cx} {c : Cn} {W : WX} {pos p p2 pos2 : Pos} {wa : WA} {we wb wc : WE} {e e' a b cc : Expr}
end
end VL
set_option maxRecDepth 100000
set_option maxHeartbeats 4000000
namespace VL
open PySem PySem.Spec PyProof.Rows L2
section
variable {K : PySem.W.Frag} {A : Addr → Prop} {H : Hp}
theorem ROs.erase : ∀ {m : Option Nat} {vs : List V} {ds : List D} {l : List Addr} (t : Nat), ROs K A H m vs ds l → ∃ l' : List Addr, l'.Sublist l ∧ ROs K A H m (vs.eraseIdx t) (ds.eraseIdx t) l'
  | _, _, _, _, _, .nil => ⟨[], List.Sublist.refl _, .nil⟩
  | _, _, _, _, 0, .cons _ r => ⟨_, List.sublist_append_right _ _, r⟩
  | _, _, _, _, t + 1, .cons h r => by
    obtain ⟨l', s, r'⟩ := ROs.erase t r
    exact ⟨_, (List.Sublist.refl _).append s, .cons h r'⟩
end
section
variable {X : Cx} {c : Cn} {W : WX} {pos px py apx apy cpx cpy : Pos} {wk : WE} {k : Expr} {x y : Str}
end
end VL
set_option maxRecDepth 100000
set_option maxHeartbeats 4000000
namespace VL
open PySem PySem.Spec PyProof.Rows L2
theorem atI_ixq {α : Type} {xs : List α} {i : Int} {x : α} (h : atI xs i = some x) : ∃ j, ixN xs.length i = some j ∧ xs[j]? = some x := by
  unfold atI at h
  cases hj : ixN xs.length i with
  | none => rw [hj] at h; cases h
  | some j => rw [hj] at h; exact ⟨j, rfl, h⟩
theorem atI_ofq {α : Type} {xs : List α} {i : Int} {j : Nat} {x : α} (hj : ixN xs.length i = some j) (h : xs[j]? = some x) : atI xs i = some x := by
  unfold atI
  rw [hj]; exact h
def tupP : D → List Int → Prop
  | _, [] => True
  | .tuple ds, i :: p => ∃ d, atI ds i = some d ∧ tupP d p
  | _, _ => False
theorem NavP.tup {K : PySem.W.Frag} {H H' : Hp} (ht : ∀ b xs, H b = some (.tup xs) → H' b = some (.tup xs)) : ∀ {p : List Int} {A : Addr → Prop} {d : D} {v w : V}, RS K A H v d → tupP d p → NavP H v p w → NavP H' v p w
  | [], _, _, _, _, _, _, n => n
  | i :: p, A, d, v, w, r, t, n => by
    match d, t, r with
    | .tuple ds, ⟨d0, a0, t0⟩, r =>
      obtain ⟨a, xs, u, rfl, ha, hu, nn⟩ := n
      obtain ⟨a', xs', ea, ha', rs⟩ := r.tup_inv
      cases ea
      have hx : xs = xs' := by
        rcases ha with ha | ha
        · rw [ha] at ha'; cases ha'
        · rw [ha] at ha'; cases ha'; rfl
      subst hx
      obtain ⟨j, hj, hj2⟩ := atI_ixq a0
      obtain ⟨u', hu', ru⟩ := rs.get hj2
      have : atI xs i = some u' := atI_ofq (by rw [rs.len]; exact hj) hu'
      rw [hu] at this; cases this
      exact ⟨a, xs, u, rfl, .inr (ht _ _ ha'), hu, NavP.tup ht ru t0 nn⟩
end VL
set_option maxRecDepth 100000
set_option maxHeartbeats 4000000
namespace VL
open PySem PySem.Spec PyProof.Rows L2
section
variable {X : Cx} {c : Cn} {W : WX} {pos px ppx apx cpx pos2 p3 : Pos} {wp : WP} {o : Expr} {tx : Str} {z : Int} {j3 : _}
end
end VL
set_option maxRecDepth 100000
set_option maxHeartbeats 4000000
namespace VL
open PySem PySem.Spec PyProof.Rows L2
section
variable {env e : VEnv} {Dv : DV} {wa wb wc we : WE} {wo wo' : WO} {i j t : Nat} {Q : R → VEnv → Prop} {X : Exn → VEnv → Prop} {q : R → Prop} {m m' : Md} {ds : List D} {n : Int} {z : Int}
end
end VL
set_option maxRecDepth 100000
set_option maxHeartbeats 4000000
namespace VL
open PySem PySem.Spec PyProof.Rows L2
def wIndex1 (wl wx : WE) : WE := fun env Q X => wl env (fun r e => ∃ ds, r.d = .list ds ∧ wx e (fun rx e' => ∃ (j : Nat) (z : D), SeqAt.shaped (.list ds) = true ∧ SeqAt.shaped rx.d = true ∧ ds[j]? = some z ∧ PyData.eqv z rx.d = true ∧ (∀ (m : Nat) (z' : D), m < j → ds[m]? = some z' → PyData.eqv z' rx.d = false) ∧ Q ⟨.int (j : Nat), mA⟩ e') X) X
section
variable {X : Cx} {c : Cn} {W : WX} {apos cpos : Pos} {wl wx : WE} {o e : Expr} {k : Nat}
theorem ve_index1 (hr : Room k X.A) (ho : PE X o (rdE c W wl)) (he : PE X e (rdE c W wx)) (hK : c.K = X.K := by rfl)
    (hb : PE X o (rdE c W wl) → PE X e (rdE c W wx) → MtR X "list.index" (rIndexD X.K) → PE X (.Call (.Attribute o "index" apos) [e] [] cpos) (tBM X.K "list" (rIndexD X.K) (rdE c W wl) (tCons (rdE c W wx) tNil)) := by exact fun ho he hm => pe_bm PySem.F.plainAttrs_list PySem.F.slot_list_index PySem.F.type_list_index hm ho (pa_cons he pa_nil)) :
    PE X (.Call (.Attribute o "index" apos) [e] [] cpos) (rdE c W (wIndex1 wl wx)) := PE.imp (hb ho he (mt_indexD (by have := hr.un; omega))) fun σ H Q h => by
  obtain ⟨env, L, Tm, Qv, X, S, q, k, kx⟩ := h
  refine ⟨env, L, Tm, _, X, S, q, fun r v l L1 env1 H1 ⟨ds, ed, h1⟩ st1 r1 => ?_, kx⟩
  obtain ⟨d, m⟩ := r
  cases ed
  obtain ⟨a, us, rfl, ha, _, _⟩ := r1.read.lst_inv
  refine ⟨.inl ⟨rfl, _, .inl (.inl ha)⟩, env1, L1, Tm ++ l, _, X, st1.sim, h1, fun rx y lb L2 env2 H2 ⟨j, z, sl, sd, hz, hzj, hno, h2⟩ st2 r2 => ?_, kx.step st1⟩
  have r1' := (r1.keep st2.same st2.gr).read
  rw [← hK]
  exact ⟨a, y, rx.d, ds, j, z, rfl, rfl, r1'.dp (SeqAt.canLay_of_shaped sl), r2.read.dp (SeqAt.canLay_of_shaped sd), sl, sd, hz, hzj, hno, k ⟨.int (j : Nat), mA⟩ _ [] L2 env2 H2 h2 (st1.trans st2).drop (Res.flat (A := fun _ => True) (.int _) rfl)⟩
end
def woIn : WO := fun ra rb Q => ∃ ds, rb.d = .list ds ∧ SeqAt.shaped ra.d = true ∧ SeqAt.shaped (.list ds) = true ∧ Q ⟨.bool (ds.any fun z => PyData.eqv z ra.d), mA⟩
def woNotIn : WO := fun ra rb Q => ∃ ds, rb.d = .list ds ∧ SeqAt.shaped ra.d = true ∧ SeqAt.shaped (.list ds) = true ∧ Q ⟨.bool (!ds.any fun z => PyData.eqv z ra.d), mA⟩
section
variable {X : Cx} {c : Cn} {k : Nat}
theorem s_in : OpS c (rInD c.K) woIn := by
  intro L Tm la lb env σ H ra rb x y Qv Q S h1 h2 ⟨ds, e, s1, s2, q⟩ k
  obtain ⟨d, m⟩ := rb
  cases e
  exact ⟨ra.d, ds, h1.read.dp (SeqAt.canLay_of_shaped s1), h2.read.dp (SeqAt.canLay_of_shaped s2), s1, s2, flat_end1 S q (.bl _) rfl k⟩
theorem s_notIn : OpS c (rNotInD c.K) woNotIn := by
  intro L Tm la lb env σ H ra rb x y Qv Q S h1 h2 ⟨ds, e, s1, s2, q⟩ k
  obtain ⟨d, m⟩ := rb
  cases e
  exact ⟨ra.d, ds, h1.read.dp (SeqAt.canLay_of_shaped s1), h2.read.dp (SeqAt.canLay_of_shaped s2), s1, s2, flat_end1 S q (.bl _) rfl k⟩
theorem c_in (hr : Room k X.A) (hK : c.K = X.K := by rfl) : CmpOk X c .In woIn := ⟨_, op_inD (by have := hr.un; omega), by rw [← hK]; exact s_in⟩
theorem c_notIn (hr : Room k X.A) (hK : c.K = X.K := by rfl) : CmpOk X c .NotIn woNotIn := ⟨_, op_notInD (by have := hr.un; omega), by rw [← hK]; exact s_notIn⟩
end
end VL
set_option maxRecDepth 100000
set_option maxHeartbeats 4000000
namespace VL
open PySem PySem.Spec PyProof.Rows L2
def wInt : WF := fun rs Q => ∃ r, rs = [r] ∧ match r.d with
  | .int i => Q ⟨.int i, mA⟩
  | .bool b => Q ⟨.int (if b then 1 else 0), mA⟩
  | _ => False
def wRev (we : WE) : WE := fun env Q X => we env (fun r e => ∃ ds, r.d = .list ds ∧ Q (cpR ds.reverse (isB r.m)) e) X
section
variable {X : Cx} {c : Cn} {W : WX} {pos p p1 p2 p3 : Pos} {wa : WA} {we : WE} {e : Expr} {k : Nat}
theorem s_int : CallS c (fun xs H Q => (∃ i, xs = [.int i] ∧ Q (.int i) H) ∨ ∃ k, xs = [.bl k] ∧ Q (.int (if k then 1 else 0)) H) wInt := by
  intro L Tm l env σ H rs vs Qv Q S h ⟨r, e, q⟩ k
  subst e
  obtain ⟨v, rfl, hr⟩ := ress1 h
  obtain ⟨d, m⟩ := r
  have r1 := hr.read
  simp only at q r1
  split at q
  · cases r1
    exact .inl ⟨_, rfl, flat_end1 S q (.int _) rfl k⟩
  · cases r1
    exact .inr ⟨_, rfl, flat_end1 S q (.int _) rfl k⟩
  · exact q.elim
theorem ve_int1 (hm : X.mg "int" = none) (ha : PA X [e] (rdA c W wa)) (hg : Gl X "int" := by rfl) (he : starEach [e] X.env = (false, eval e X.env) :: starEach [] X.env := by rfl) (hpl : (backTo pos (starEach [] X.env)).any (·.1) = false := by rfl) : PE X (.Call (.Name "int" p) [e] [] pos) (rdE c W (wCB wInt wa)) :=
  ve_callTy call_int1 s_int hm (by decide +kernel) ha hg (by decide) (by decide) he hpl
theorem ve_rev (he : PE X e (rdE c W we)) (hK : c.K = X.K := by rfl) : PE X (.Subscript e (.Slice none none (some (.UnaryOp .USub (.Constant (.int 1) k p1) p2)) p3) pos) (rdE c W (wRev we)) :=
  PE.imp (pe_revL he) fun σ H Q h => by
    obtain ⟨env, L, Tm, Qv, X, S, q, kk, kx⟩ := h
    refine ⟨env, L, Tm, _, X, S, q, fun r v l L1 env1 H1 ⟨ds, ed, q1⟩ st hr => ?_, kx⟩
    obtain ⟨d, m⟩ := r
    cases ed
    obtain ⟨a, us, rfl, ha, _, r1'⟩ := hr.read.lst_inv
    refine ⟨a, us, rfl, SqL.of ha, fun p np => cp_end (ds := ds.reverse) (b := isB m) (Qv := fun r => Qv r env1) st.sim np r1'.rev (fun hm => ?_) q1 fun r v l' H' q2 st2 hr2 => kk r v l' L1 env1 H' q2 (Step.then st st2) hr2⟩
    obtain ⟨a', us', e1, ha', s1⟩ := Res.lstS (m := m) hr hm st.sim fun b hb => hb
    cases e1
    rw [ha] at ha'; cases ha'
    exact s1.rev
end
section
variable {q : R → Prop} {m : Md} {ns : List Int} {ds : List D} {Q : R → VEnv → Prop} {env : VEnv} {X : Exn → VEnv → Prop} {we : WE}
theorem i_intB {b : Bool} (h : q ⟨.int (if b then 1 else 0), mA⟩) : wInt [⟨.bool b, m⟩] q := ⟨_, rfl, h⟩
end
end VL
set_option maxRecDepth 100000
set_option maxHeartbeats 4000000
namespace VL
open PySem PySem.Spec PyProof.Rows L2
section
variable {X : Cx} {c : Cn} {W : WX} {pos apos cpos : Pos} {wp : WP} {we : WE} {o e : Expr}
theorem ROs.dropLast {K : PySem.W.Frag} {A : Addr → Prop} {H : Hp} {m : Option Nat} {vs : List V} {ds : List D} {l : List Addr} (h : ROs K A H m vs ds l) : ∃ l' : List Addr, l'.Sublist l ∧ ROs K A H m vs.dropLast ds.dropLast l' := by
  induction vs generalizing ds l with
  | nil => cases h; exact ⟨[], List.Sublist.refl _, .nil⟩
  | cons v vs ih =>
    cases h with
    | cons h r =>
      rename_i d ds l1 l2
      have r0 := r
      cases r with
      | nil => exact ⟨[], List.nil_sublist _, .nil⟩
      | cons h2 r =>
        obtain ⟨l', s, r'⟩ := ih r0
        exact ⟨_, (List.Sublist.refl l1).append s, .cons h r'⟩
end
section
variable {X : Cx} {c : Cn} {W : WX} {pos px py apx apy cpx cpy : Pos} {wk : WE} {k : Expr} {x y : Str}
end
def wFor_enumerate (g : Tg) (wa : WA) (w : WS) : WS := fun env Dv => wa env (fun rs e => ∃ r ds, rs = [r] ∧ r.d = .list ds ∧ isB r.m = false ∧ ∃ (I : Nat → VEnv → Prop) (e0 : VEnv), envLe e0 e ∧ I 0 e0 ∧
  (∀ i d e, ds[i]? = some d → I i e → ∃ rs, g.f ⟨.tuple [.int (i : Nat), d], mS⟩ = some rs ∧ w (putAll e g.is rs) { Dv with nx := fun e2 => ∃ e3, envLe e3 e2 ∧ I (i + 1) e3 }) ∧ (∀ e, I ds.length e → Dv.nx e)) Dv.ex
section
variable {X : Cx} {c : Cn} {W : WX} {pos p cpos tpos : Pos} {g : Tg} {wa : WA} {w : WS} {elts : List Expr} {kk : Nat} {a : Expr} {body : List Stmt}
theorem vs_for_enumerate (hp : PassesOwn (model X.prog X.w) X.A X.env X.xe) (hc : X.calm = true) (hm : X.mg "enumerate" = none) (ha : PA X [a] (rdA c W wa)) (hg : TgOk X (.Tuple elts kk tpos) g) (hb : ∀ hd, PSs X body (rdS (c.with hd) W w)) (hK : c.K = X.K := by rfl)
    (hge : Gl X "enumerate" := by rfl) (hs1 : starEach [a] X.env = [(false, eval a X.env)] := by rfl) (hs : ∀ x, foldedSetIterable (.Call (.Name "enumerate" p) [a] [] cpos) X.env x = pure x := by intro _; rfl) (pf : PinF c g.is := by first | exact pinF_nil rfl | exact pinF_one rfl (by decide) | assumption) :
    PS X (.For (.Tuple elts kk tpos) (.Call (.Name "enumerate" p) [a] [] cpos) body [] pos) (rdS c W (wFor_enumerate g wa w)) := by
  obtain ⟨t, hpg, run⟩ := hg.ok
  refine PS.imp (ps_for (tb := fun D σ H => ∃ hd, rdS (c.with hd) W w D σ H) hp hc (pi_enum hge hm ha hs1) hpg ⟨fun pins s σ H D I hh => hh.elim fun hd z => (hb hd).run pins s σ H D I z⟩ hs) fun D σ H h => ?_
  obtain ⟨env, L, Dv, S, q, k, kr, kx⟩ := h
  refine rd_args S q kx fun rs vs l L1 e1 H1 ⟨r, ds, ers, hd, hmb, I, e0, le, i0, step, last⟩ S1 hrs => ?_
  subst ers
  obtain ⟨v, evs, hr⟩ := ress1 hrs
  subst evs
  have sh := hr.share0 hmb S1
  have S2 : Sim c L1 [] e1 σ H1 := Sim.drop (Tm := []) (l := l) S1
  obtain ⟨L0, S0⟩ := (S2.addhd sh).lower le
  rw [hd] at sh S0
  obtain ⟨a0, xs0, rfl, ha0, _, _⟩ := sh.lst_inv
  rw [← hK]
  refine ⟨a0, xs0, rfl, SqL.of ha0, ?_⟩
  refine ⟨fun i m σ H => m = ds.length - i ∧ i ≤ ds.length ∧ ∃ e L, Sim (c.with ((.ref a0, .list ds) :: c.hd)) L [] e σ H ∧ I i e, ⟨ds.length, by simp, Nat.zero_le _, e0, L0, S0, i0⟩, ?_⟩
  rintro i m σ2 H2 ⟨rfl, hi, e, L, S, ii⟩
  have hh := S.hd _ List.mem_cons_self
  obtain ⟨a', xs, ea, ha', _, rs⟩ := hh.lst_inv
  cases ea
  by_cases hlt : i < ds.length
  · obtain ⟨x, hx, rx⟩ := rs.get (List.getElem?_eq_getElem hlt)
    refine .inr ⟨⟨xs, x, SqL.of ha', hx⟩, fun σ' H' => ∃ e L, Sim (c.with ((.ref a0, .list ds) :: c.hd)) L [] e σ' H' ∧ I (i + 1) e, fun σ' H' ⟨e, L, S, ii⟩ => ⟨ds.length - (i + 1), by omega, rfl, hlt, e, L, S, ii⟩, fun y H' hy => ?_⟩
    obtain ⟨T, x', rfl, nT, rfl, hxx⟩ := hy
    have ex : x' = x := Option.some.inj ((hxx xs (SqL.of ha')).symm.trans hx)
    subst ex
    obtain ⟨qs, hq, hw⟩ := step i _ e (List.getElem?_eq_getElem hlt) ii
    have st := Step.new (o := .tup [.int (i : Nat), x']) S nT
    have S3 : Sim (c.with ((.ref a0, .list ds) :: c.hd)) L [] e σ2 (upd H2 T (.tup [.int (i : Nat), x'])) := st.drop.sim0
    have hsm : Same H2 (upd H2 T (.tup [.int (i : Nat), x'])) := same_new nT
    have hit : Res (c.with ((.ref a0, .list ds) :: c.hd)) (L.flatten ++ []) (upd H2 T (.tup [.int (i : Nat), x'])) ⟨.tuple [.int (i : Nat), ds[i]], mS⟩ (.ref T) [] :=
      RO.sh (.tup upd_same (.cons (.int _) (.cons (rx.keep (Kp.same hsm)) .nil)))
    obtain ⟨vs, l', s, rr, hl', go⟩ := run (c.with ((.ref a0, .list ds) :: c.hd)) _ _ _ _ _ qs hK hit hq
    have el : l' = [] := List.sublist_nil.mp s
    subst el
    obtain ⟨L3, S4⟩ := Sim.putAll (is := g.is) (Tm := []) (l := []) rr (by simpa using S3) (fun b hb => by simpa using hb) pf
    refine go σ2 _ ⟨(.ref a0, .list ds) :: c.hd, _, L3, _, S4, hw, fun env' L' σ' H'' ⟨e3, le3, i3⟩ S' => ?_, fun r v l H' e h hr => kr r v l H' e h ⟨hr.fr, hr.nd, hr.own, hr.res, let ⟨L, σ, q, z⟩ := hr.sim; ⟨L, σ, q.unhd, z⟩⟩, fun ex env' L' σ' H' cls d hx S' he => kx ex env' L' σ' H' cls d hx S'.unhd he⟩
    obtain ⟨L4, S5⟩ := S'.lower le3
    exact ⟨e3, L4, S5, i3⟩
  · have e' : i = ds.length := by omega
    subst e'
    exact .inl ⟨⟨xs, SqL.of ha', by rw [rs.len]; exact Nat.le_refl _⟩, k e L σ2 H2 (last e ii) S.unhd⟩
end
end VL
set_option maxRecDepth 100000
set_option maxHeartbeats 4000000
namespace VL
open PySem PySem.Spec PyProof.Rows L2
section
variable {κ α : Type} [DecidableEq κ]
def putKK (kvs : List (κ × α)) (k : κ) (v : α) : List (κ × α) :=
  if (kvs.any fun kv => decide (kv.1 = k)) = true then kvs.map (fun kv => if kv.1 = k then (kv.1, v) else kv) else kvs ++ [(k, v)]
end
def dctI (kvs : List (Int × D)) : D := mkDict false (kvs.map fun p => (.int p.1, p.2))
def dctT (kvs : List (List Int × D)) : D := mkDict true (kvs.map fun p => (.tuple (p.1.map .int), p.2))
theorem flat_dI (kvs : List (Int × D)) : flatD (dctI kvs) = false := flat_dict
theorem flat_dT (kvs : List (List Int × D)) : flatD (dctT kvs) = false := flat_dict
def flatKV {κ : Type} (kvs : List (κ × D)) : Prop := ∀ p ∈ kvs, flatD p.2 = true
section
variable {K : PySem.W.Frag} {A A' : Addr → Prop} {H H' : Hp}
inductive PrI (K : PySem.W.Frag) (A : Addr → Prop) (H : Hp) : List (Key × V) → List (Int × D) → Prop
  | nil : PrI K A H [] []
  | cons {i : Int} {v : V} {d : D} {r : List (Key × V)} {s : List (Int × D)} : RS K A H v d → PrI K A H r s → PrI K A H ((.inl i, v) :: r) ((i, d) :: s)
inductive PrT (K : PySem.W.Frag) (A : Addr → Prop) (H : Hp) : List (List Key × V) → List (List Int × D) → Prop
  | nil : PrT K A H [] []
  | cons {i : List Int} {v : V} {d : D} {r : List (List Key × V)} {s : List (List Int × D)} : RS K A H v d → PrT K A H r s → PrT K A H ((i.map .inl, v) :: r) ((i, d) :: s)
theorem kD_int {k : Key} {i : Int} (h : kD k = .int i) : k = .inl i := by
  cases k with
  | inl j => cases h; rfl
  | inr x => cases h
theorem kDs_int : ∀ {k : List Key} {i : List Int}, k.map kD = i.map PyData.int → k = i.map .inl
  | [], [], _ => rfl
  | [], _ :: _, h => by cases h
  | _ :: _, [], h => by cases h
  | k :: ks, i :: is, h => by
    simp only [List.map_cons, List.cons.injEq] at h
    rw [kD_int h.1, kDs_int h.2]; rfl
theorem PrI.of : ∀ {k' : List (Key × V)} {kvs : List (Int × D)}, (k'.map fun p => kD p.1) = (kvs.map fun p => PyData.int p.1) → RSs K A H (k'.map (·.2)) (kvs.map (·.2)) → PrI K A H k' kvs
  | [], [], _, _ => .nil
  | [], _ :: _, h, _ => by cases h
  | _ :: _, [], h, _ => by cases h
  | (k, v) :: r, (i, d) :: s, h, hv => by
    simp only [List.map_cons, List.cons.injEq] at h
    cases hv with
    | cons h1 h2 =>
      rw [kD_int h.1]
      exact .cons h1 (PrI.of h.2 h2)
theorem PrT.of : ∀ {k' : List (List Key × V)} {kvs : List (List Int × D)}, (k'.map fun p => PyData.tuple (p.1.map kD)) = (kvs.map fun p => PyData.tuple (p.1.map PyData.int)) → RSs K A H (k'.map (·.2)) (kvs.map (·.2)) → PrT K A H k' kvs
  | [], [], _, _ => .nil
  | [], _ :: _, h, _ => by cases h
  | _ :: _, [], h, _ => by cases h
  | (k, v) :: r, (i, d) :: s, h, hv => by
    simp only [List.map_cons, List.cons.injEq, PyData.tuple.injEq] at h
    cases hv with
    | cons h1 h2 =>
      have := kDs_int h.1
      rw [this]
      exact .cons h1 (PrT.of h.2 h2)
theorem inls_inj : ∀ {a b : List Int}, a.map (Sum.inl : Int → Key) = b.map Sum.inl → a = b
  | [], [], _ => rfl
  | [], _ :: _, h => by cases h
  | _ :: _, [], h => by cases h
  | a :: as, b :: bs, h => by
    simp only [List.map_cons, List.cons.injEq, Sum.inl.injEq] at h
    rw [h.1, inls_inj h.2]
theorem PrI.any {k' : List (Key × V)} {kvs : List (Int × D)} (h : PrI K A H k' kvs) (i : Int) : (k'.any fun kv => decide (kv.1 = .inl i)) = kvs.any fun kv => decide (kv.1 = i) := by
  induction h with
  | nil => rfl
  | @cons j v d r s h _ ih =>
    rw [List.any_cons, List.any_cons, ih]
    congr 1
    by_cases e : j = i
    · simp [e]
    · have : ¬ (Sum.inl j : Key) = .inl i := fun z => e (Sum.inl.inj z)
      simp [e]
theorem PrT.any {k' : List (List Key × V)} {kvs : List (List Int × D)} (h : PrT K A H k' kvs) (i : List Int) : (k'.any fun kv => decide (kv.1 = i.map .inl)) = kvs.any fun kv => decide (kv.1 = i) := by
  induction h with
  | nil => rfl
  | @cons j v d r s h _ ih =>
    rw [List.any_cons, List.any_cons, ih]
    congr 1
    by_cases e : j = i
    · simp [e]
    · have : ¬ j.map (Sum.inl : Int → Key) = i.map .inl := fun z => e (inls_inj z)
      simp [e, this]
theorem PrI.mapp {k' : List (Key × V)} {kvs : List (Int × D)} (h : PrI K A H k' kvs) (i : Int) {v : V} {d : D} (hv : RS K A H v d) : PrI K A H (k'.map fun kv => if kv.1 = .inl i then (kv.1, v) else kv) (kvs.map fun kv => if kv.1 = i then (kv.1, d) else kv) := by
  induction h with
  | nil => exact .nil
  | @cons j v0 d0 r s h _ ih =>
    rw [List.map_cons, List.map_cons]
    by_cases e : j = i
    · rw [if_pos (show (Sum.inl j : Key) = .inl i by rw [e]), if_pos e]
      exact .cons hv ih
    · rw [if_neg (show ¬ (Sum.inl j : Key) = .inl i from fun z => e (Sum.inl.inj z)), if_neg e]
      exact .cons h ih
theorem PrT.mapp {k' : List (List Key × V)} {kvs : List (List Int × D)} (h : PrT K A H k' kvs) (i : List Int) {v : V} {d : D} (hv : RS K A H v d) : PrT K A H (k'.map fun kv => if kv.1 = i.map .inl then (kv.1, v) else kv) (kvs.map fun kv => if kv.1 = i then (kv.1, d) else kv) := by
  induction h with
  | nil => exact .nil
  | @cons j v0 d0 r s h _ ih =>
    rw [List.map_cons, List.map_cons]
    by_cases e : j = i
    · rw [if_pos (show j.map (Sum.inl : Int → Key) = i.map .inl by rw [e]), if_pos e]
      exact .cons hv ih
    · rw [if_neg (show ¬ j.map (Sum.inl : Int → Key) = i.map .inl from fun z => e (inls_inj z)), if_neg e]
      exact .cons h ih
theorem PrI.snoc {k' : List (Key × V)} {kvs : List (Int × D)} (h : PrI K A H k' kvs) (i : Int) {v : V} {d : D} (hv : RS K A H v d) : PrI K A H (k' ++ [(.inl i, v)]) (kvs ++ [(i, d)]) := by
  induction h with
  | nil => exact .cons hv .nil
  | cons h _ ih => exact .cons h ih
theorem PrT.snoc {k' : List (List Key × V)} {kvs : List (List Int × D)} (h : PrT K A H k' kvs) (i : List Int) {v : V} {d : D} (hv : RS K A H v d) : PrT K A H (k' ++ [(i.map .inl, v)]) (kvs ++ [(i, d)]) := by
  induction h with
  | nil => exact .cons hv .nil
  | cons h _ ih => exact .cons h ih
theorem PrI.put {k' : List (Key × V)} {kvs : List (Int × D)} (h : PrI K A H k' kvs) (i : Int) {v : V} {d : D} (hv : RS K A H v d) : PrI K A H (putK k' (.inl i) v) (putKK kvs i d) := by
  unfold putK putKK
  rw [h.any i]
  split
  · exact h.mapp i hv
  · exact h.snoc i hv
theorem PrT.put {k' : List (List Key × V)} {kvs : List (List Int × D)} (h : PrT K A H k' kvs) (i : List Int) {v : V} {d : D} (hv : RS K A H v d) : PrT K A H (putK k' (i.map .inl) v) (putKK kvs i d) := by
  unfold putK putKK
  rw [h.any i]
  split
  · exact h.mapp i hv
  · exact h.snoc i hv
theorem PrI.len {k' : List (Key × V)} {kvs : List (Int × D)} (h : PrI K A H k' kvs) : k'.length = kvs.length := by
  induction h with
  | nil => rfl
  | cons h _ ih => simp [ih]
theorem PrT.len {k' : List (List Key × V)} {kvs : List (List Int × D)} (h : PrT K A H k' kvs) : k'.length = kvs.length := by
  induction h with
  | nil => rfl
  | cons h _ ih => simp [ih]
theorem PrI.keep {k' : List (Key × V)} {kvs : List (Int × D)} (h : PrI K A H k' kvs) (f : flatKV kvs) (k : Kp (fun _ => False) H H') : PrI K A' H' k' kvs := by
  induction h with
  | nil => exact .nil
  | @cons j v d r s h _ ih =>
    have fd : flatD d = true := f (j, d) List.mem_cons_self
    exact .cons (((h.flat (A' := fun _ => False) fd).keep k).flat fd) (ih fun p hp => f p (List.mem_cons_of_mem _ hp))
theorem PrT.keep {k' : List (List Key × V)} {kvs : List (List Int × D)} (h : PrT K A H k' kvs) (f : flatKV kvs) (k : Kp (fun _ => False) H H') : PrT K A' H' k' kvs := by
  induction h with
  | nil => exact .nil
  | @cons j v d r s h _ ih =>
    have fd : flatD d = true := f (j, d) List.mem_cons_self
    exact .cons (((h.flat (A' := fun _ => False) fd).keep k).flat fd) (ih fun p hp => f p (List.mem_cons_of_mem _ hp))
end
section
variable {X : Cx} {c : Cn} {W : WX} {pos tpos : Pos} {wd wk we : WE} {o i e : Expr} {k : Nat}
end
end VL
set_option maxRecDepth 100000
set_option maxHeartbeats 4000000
namespace VL
open PySem PySem.Spec PyProof.Rows L2
def seedF (ns : List Int) : Int := ns.foldl (fun s c => (s * 48271 + c % 1000003 + 1) % 2147483647) 5
def cellF (ns : List Int) (p : Int) : Int := if p < ns.length then (ns[p.toNat]?).getD 0 else (seedF (cutL ns none (some 63)) + 7919 * p) % 1000003
def mixF (c k : Int) : Int := (((c % 2147483629 + 1013 * k + 7919) ^ 3 % 2147483647) * 40699 + 3793 * k * k + 11) % 2147483399 / 101
def rowSt (ns : List Int) (p c : Int) (sz : List Int) : Nat → Int × List Int
  | 0 => (c, [])
  | k + 1 => if c < 10 ^ 18 then ((rowSt ns p c sz k).1, (rowSt ns p c sz k).2 ++ [mixF c k % (sz[k]?).getD 1])
    else if 0 < (rowSt ns p c sz k).1 then ((rowSt ns p c sz k).1 / (sz[k]?).getD 1, (rowSt ns p c sz k).2 ++ [(rowSt ns p c sz k).1 % (sz[k]?).getD 1])
    else ((rowSt ns p c sz k).1, (rowSt ns p c sz k).2 ++ [mixF (cellF ns ((p + 1 + k) % 63)) k % (sz[k]?).getD 1])
def rowF (ns : List Int) (p : Int) (sz : List Int) : List Int := (rowSt ns p (cellF ns p) sz sz.length).2
def RowIn : List Int → List Int → Prop
  | [], [] => True
  | s :: r, x :: xs => (0 ≤ x ∧ x < s) ∧ RowIn r xs
  | _, _ => False
theorem RowIn.of : ∀ {sz xs : List Int}, xs.length = sz.length → (∀ (i : Nat) s x, sz[i]? = some s → xs[i]? = some x → 0 ≤ x ∧ x < s) → RowIn sz xs
  | [], [], _, _ => True.intro
  | [], _ :: _, h, _ => by cases h
  | _ :: _, [], h, _ => by cases h
  | s :: sz, x :: xs, h, q => ⟨q 0 s x rfl rfl, RowIn.of (by simpa using h) fun i s x h1 h2 => q (i + 1) s x (by simpa using h1) (by simpa using h2)⟩
def sp_law_cell : FSpec := fun ds Q _ => ∃ ns p, ds = [scriptD ns, .int p] ∧ 0 ≤ p ∧ p < 1000 ∧ ns.length ≤ 63 ∧ Q ⟨.int (cellF ns p), mA⟩
def sp_law_mix : FSpec := fun ds Q _ => ∃ c k, ds = [.int c, .int k] ∧ 0 ≤ k ∧ k < 10000 ∧ Q ⟨.int (mixF c k), mA⟩
def sp_law_row : FSpec := fun ds Q _ => ∃ (ns : List Int) (p : Int) (sz : List Int), ds = [scriptD ns, .int p, .list (sz.map .int)] ∧ 0 ≤ p ∧ p < 1000 ∧ ns.length ≤ 63 ∧ sz.length ≤ 500 ∧ (∀ s ∈ sz, 0 < s ∧ s < 2 ^ 5000) ∧ Q ⟨.list ((rowF ns p sz).map .int), mA⟩
end VL
set_option maxRecDepth 100000
set_option maxHeartbeats 4000000
namespace VL
open PySem PySem.Spec PyProof.Rows L2
def Shape (n : Nat) (t : List (List Int)) : Prop := t.length = n ∧ ∀ r ∈ t, r.length = n ∧ ∀ x ∈ r, 0 ≤ x ∧ x < n
def ent (t : List (List Int)) (a b : Int) : Int := ((t[a.toNat]?).getD [])[b.toNat]?.getD 0
def cellG (w n f a b : Int) : Int :=
  if w = 1 then (2 * b - a) % n else if w = 2 then (f * a + (1 - f) * b) % n
  else if w = 3 ∧ n > 2 ∧ a < 2 ∧ b = n - 1 then 1 - a
  else if w = 6 ∧ a < n - 1 ∧ b = n - 1 then (a + 1) % (n - 1)
  else if w = 4 ∧ a < n / 2 ∧ b < n / 2 then (2 * b - a) % (n / 2)
  else if w = 4 ∧ a ≥ n / 2 ∧ b ≥ n / 2 then n / 2 + (2 * b - a - n / 2) % (n - n / 2)
  else a
theorem cellG_range {w n f a b : Int} (hn : 1 ≤ n) (h0 : 0 ≤ a) (h1 : a < n) : 0 ≤ cellG w n f a b ∧ cellG w n f a b < n := by
  have md : ∀ x k : Int, 0 < k → 0 ≤ x % k ∧ x % k < k := fun x k h => ⟨Int.emod_nonneg _ (by omega), Int.emod_lt_of_pos _ h⟩
  unfold cellG
  split
  · exact md _ _ (by omega)
  split
  · exact md _ _ (by omega)
  split
  · omega
  split
  · rename_i h
    have := md (a + 1) (n - 1) (by omega)
    omega
  split
  · rename_i h
    have := md (2 * b - a) (n / 2) (by omega)
    omega
  split
  · rename_i h
    have := md (2 * b - a - n / 2) (n - n / 2) (by omega)
    omega
  · omega
def tabT (g : Int → Int → Int) (n : Nat) : List (List Int) := (List.range n).map fun a : Nat => (List.range n).map fun b : Nat => g (a : Nat) (b : Nat)
def madeT (w : Int) (n : Nat) (f : Int) : List (List Int) := if w = 5 ∧ n = 4 then [[0, 3, 1, 2], [2, 1, 3, 0], [3, 0, 2, 1], [1, 2, 0, 3]] else tabT (cellG w n f) n
theorem tabT_shape {g : Int → Int → Int} {n : Nat} (h : ∀ a b : Nat, a < n → b < n → 0 ≤ g a b ∧ g a b < n) : Shape n (tabT g n) := by
  refine ⟨by simp [tabT], fun r hr => ?_⟩
  obtain ⟨a, ha, rfl⟩ := List.mem_map.mp hr
  refine ⟨by simp, fun x hx => ?_⟩
  obtain ⟨b, hb, rfl⟩ := List.mem_map.mp hx
  exact h a b (by simpa using ha) (by simpa using hb)
theorem madeT_shape {w f : Int} {n : Nat} (hn : 1 ≤ n) : Shape n (madeT w n f) := by
  unfold madeT
  split
  · rename_i h
    obtain ⟨_, rfl⟩ := h
    unfold Shape
    decide
  · exact tabT_shape fun a b ha hb => cellG_range (by omega) (by omega) (by omega)
def rgI (n : Nat) : List Int := (List.range n).map fun i : Nat => (i : Int)
def Relaid (n : Nat) (t : List (List Int)) (s : List Int) (r : List (List Int)) : Prop := Shape n r ∧ ∀ a b : Nat, a < n → b < n → ent r ((s[a]?).getD 0) ((s[b]?).getD 0) = (s[(ent t a b).toNat]?).getD 0
def Made (n : Nat) (t : List (List Int)) : Prop := ∃ w f : Int, 0 ≤ w ∧ w < 7 ∧ 1 ≤ f ∧ f ≤ 1000 ∧ Int.gcd f n = 1 ∧ t = madeT w n f
def IsTab (n : Nat) (t : List (List Int)) : Prop := Made n t ∨ ∃ t0 s, Made n t0 ∧ s.Perm (rgI n) ∧ Relaid n t0 s t
theorem Made.shape {n : Nat} {t : List (List Int)} (hn : 1 ≤ n) (h : Made n t) : Shape n t := by
  obtain ⟨w, f, _, _, _, _, _, rfl⟩ := h
  exact madeT_shape hn
theorem IsTab.shape {n : Nat} {t : List (List Int)} (hn : 1 ≤ n) (h : IsTab n t) : Shape n t := by
  rcases h with h | ⟨t0, s, _, _, h⟩
  · exact h.shape hn
  · exact h.1
def sp_law_is_whole : FSpec := fun ds Q _ => ∃ n, ds = [.int n] ∧ Q ⟨.bool true, mA⟩
end VL
set_option maxRecDepth 100000
set_option maxHeartbeats 4000000
namespace VL
open PySem PySem.Spec PyProof.Rows L2
def atR (r : List Int) (a : Int) : Int := (r[a.toNat]?).getD 0
theorem ent_rg {t : List (List Int)} {n : Nat} {a b : Int} (h : Shape n t) (a0 : 0 ≤ a) (a1 : a < n) (b0 : 0 ≤ b) (b1 : b < n) : 0 ≤ ent t a b ∧ ent t a b < n := by
  have hl : a.toNat < t.length := by rw [h.1]; omega
  obtain ⟨q1, q2⟩ := h.2 _ (List.getElem_mem hl)
  have hb : b.toNat < (t[a.toNat]).length := by rw [q1]; omega
  have e : ent t a b = (t[a.toNat])[b.toNat] := by
    unfold ent
    rw [List.getElem?_eq_getElem hl]
    show ((t[a.toNat])[b.toNat]?).getD 0 = _
    rw [List.getElem?_eq_getElem hb]; rfl
  rw [e]
  exact q2 _ (List.getElem_mem hb)
section
variable {env e : VEnv} {Dv : DV} {q : R → Prop} {m m' : Md} {ds : List D} {t : List (List Int)} {r : List Int} {n : Nat} {a b A B v : Int} {i k : Nat} {wi : WE} {X : Exn → VEnv → Prop} {Q : Nat → List Int → VEnv → Prop}
end
section
variable {t : List (List Int)} {r : List Int} {m m' : Md} {q : R → Prop}
end
section
variable {wa : WE} {w : WS} {Dv : DV} {t : List (List Int)} {r : List Int} {m : Md} {i : Nat} {e : VEnv}
end
end VL
set_option maxRecDepth 100000
set_option maxHeartbeats 4000000
namespace VL
open PySem PySem.Spec PyProof.Rows L2
section
variable {env e : VEnv} {Dv : DV} {q : R → Prop} {m m' : Md} {ds : List D} {t : List (List Int)} {r : List Int} {s : List (Int × Int)} {n : Nat} {a b A B v : Int} {i j k : Nat} {wi we wd wk wa wl : WE} {w : WS} {X : Exn → VEnv → Prop} {Q : R → VEnv → Prop}
end
end VL
set_option maxRecDepth 100000
set_option maxHeartbeats 4000000
namespace VL
open PySem PySem.Spec PyProof.Rows L2
def KitTAt (K : PySem.W.Frag) (x : Str) (y : String) (b : Bool) : Prop := ∃ C : Addr, PySem.W.nsIn K mainGlobals x = some (some (.ref C)) ∧ PySem.W.kitOne K (.ref C) (.type y) = some b
theorem KitTAt.mk {K : PySem.W.Frag} {x : Str} {y : String} {b : Bool} {C : Addr} (h1 : PySem.W.nsIn K mainGlobals x = some (some (.ref C))) (h2 : PySem.W.kitOne K (.ref C) (.type y) = some b) : KitTAt K x y b := ⟨C, h1, h2⟩
section
variable {P : Program} {w : World} {K : PySem.W.Frag} {mg : Str → Option Value} {base h : Heap} {names : List Str}
end
section
variable {X : Cx} {c : Cn} {W : WX} {pos : Pos}
end
end VL
set_option maxRecDepth 100000
set_option maxHeartbeats 4000000
namespace VL
open PySem PySem.Spec PyProof.Rows L2
section
variable {X : Cx} {c : Cn} {W : WX} {pos p p2 pos2 : Pos} {wa wb : WE} {a b : Expr}
end
end VL
set_option maxRecDepth 100000
set_option maxHeartbeats 4000000
namespace VL
open PySem PySem.Spec PyProof.Rows L2
inductive Out (α : Type) where
  | ok (a : α) | exn (x : Exn) | stuck
namespace Out
variable {α β γ : Type}
def bind (m : Out α) (k : α → Out β) : Out β := match m with | .ok a => k a | .exn x => .exn x | .stuck => .stuck
def map (f : α → β) (m : Out α) : Out β := m.bind fun a => .ok (f a)
@[simp] theorem bind_ok (a : α) (k : α → Out β) : (Out.ok a).bind k = k a := Eq.trans rfl rfl
@[simp] theorem bind_exn (x : Exn) (k : α → Out β) : (Out.exn x).bind k = .exn x := Eq.trans rfl rfl
@[simp] theorem bind_stuck (k : α → Out β) : (Out.stuck : Out α).bind k = .stuck := Eq.trans rfl rfl
@[simp] theorem bind_assoc (m : Out α) (k : α → Out β) (l : β → Out γ) : (m.bind k).bind l = m.bind fun a => (k a).bind l := by cases m <;> rfl
@[simp] theorem map_ok (a : α) (f : α → β) : (Out.ok a).map f = .ok (f a) := Eq.trans rfl rfl
@[simp] theorem bind_id (m : Out α) : (m.bind fun a => .ok a) = m := by cases m <;> rfl
end Out
def lift {α : Type} : Option α → Out α | some a => .ok a | none => .stuck
@[simp] theorem lift_some {α : Type} (a : α) : lift (some a) = .ok a := Eq.trans rfl rfl
@[simp] theorem lift_none {α : Type} : lift (none : Option α) = .stuck := Eq.trans rfl rfl
def noX {α : Type} : Out α → Out α | .exn _ => .stuck | m => m
@[simp] theorem noX_ok {α : Type} (a : α) : noX (.ok a) = .ok a := Eq.trans rfl rfl
def Sat {α : Type} (m : Out α) (Q : α → Prop) (X : Exn → Prop) : Prop := match m with | .ok a => Q a | .exn x => X x | .stuck => False
section
variable {α β : Type} {m : Out α} {k : α → Out β} {Q Q' : α → Prop} {R : β → Prop} {X X' : Exn → Prop}
@[simp] theorem sat_ok {a : α} : Sat (.ok a) Q X ↔ Q a := ⟨fun h => h, fun h => h⟩
@[simp] theorem sat_exn {x : Exn} : Sat (.exn x : Out α) Q X ↔ X x := ⟨fun h => h, fun h => h⟩
@[simp] theorem sat_stuck : Sat (.stuck : Out α) Q X ↔ False := ⟨fun h => h, fun h => h⟩
theorem sat_bind : Sat (m.bind k) R X ↔ Sat m (fun a => Sat (k a) R X) X := by cases m <;> exact Iff.rfl
theorem Sat.mono (h : Sat m Q X) (hq : ∀ a, Q a → Q' a) (hx : ∀ x, X x → X' x) : Sat m Q' X' := by
  cases m with
  | ok a => exact hq _ h
  | exn x => exact hx _ h
  | stuck => exact h
theorem Sat.imp (h : Sat m Q X) (hq : ∀ a, Q a → Q' a) : Sat m Q' X := h.mono hq fun _ h => h
theorem sat_lift {α : Type} {o : Option α} {Q : α → Prop} {X : Exn → Prop} : Sat (lift o) Q X ↔ ∃ a, o = some a ∧ Q a := by cases o <;> simp
theorem sat_noX : Sat (noX m) Q X ↔ Sat m Q fun _ => False := by cases m <;> exact Iff.rfl
theorem Sat.eq (h : Sat m (fun a => a = v) fun _ => False) : m = .ok v := by
  cases m with
  | ok a => exact congrArg _ h
  | exn x => exact h.elim
  | stuck => exact h.elim
end
inductive Fl (ρ σ : Type) where
  | ret (r : ρ) | nxt (s : σ)
def flowT {ρ σ : Type} (k : σ → Out ρ) : Fl ρ σ → Out ρ | .ret r => .ok r | .nxt s => k s
def flowF {ρ σ τ : Type} (k : σ → Out (Fl ρ τ)) : Fl ρ σ → Out (Fl ρ τ) | .ret r => .ok (.ret r) | .nxt s => k s
@[simp] theorem flowT_ret {ρ σ : Type} (k : σ → Out ρ) (r : ρ) : flowT k (.ret r) = .ok r := Eq.trans rfl rfl
@[simp] theorem flowT_nxt {ρ σ : Type} (k : σ → Out ρ) (s : σ) : flowT k (.nxt s) = k s := Eq.trans rfl rfl
@[simp] theorem flowF_ret {ρ σ τ : Type} (k : σ → Out (Fl ρ τ)) (r : ρ) : flowF k (.ret r) = .ok (.ret r) := Eq.trans rfl rfl
@[simp] theorem flowF_nxt {ρ σ τ : Type} (k : σ → Out (Fl ρ τ)) (s : σ) : flowF k (.nxt s) = k s := Eq.trans rfl rfl
section
variable {α β σ ρ : Type}
def forO (f : σ → α → Out σ) : σ → List α → Out σ
  | s, [] => .ok s
  | s, x :: xs => (f s x).bind fun s' => forO f s' xs
def forF (f : σ → α → Out (Fl ρ σ)) : σ → List α → Out (Fl ρ σ)
  | s, [] => .ok (.nxt s)
  | s, x :: xs => (f s x).bind (flowF fun s' => forF f s' xs)
def mapO (f : α → Out β) : List α → Out (List β)
  | [] => .ok []
  | x :: xs => (f x).bind fun y => (mapO f xs).bind fun ys => .ok (y :: ys)
def fmapO (p : α → Out Bool) (f : α → Out β) : List α → Out (List β)
  | [] => .ok []
  | x :: xs => (p x).bind fun b => if b = true then (f x).bind fun y => (fmapO p f xs).bind fun ys => .ok (y :: ys) else fmapO p f xs
def whileO (c : σ → Out Bool) (f : σ → Out σ) : Nat → σ → Out σ
  | 0, _ => .stuck
  | n + 1, s => (c s).bind fun b => if b = true then (f s).bind fun s' => whileO c f n s' else .ok s
def whileF (c : σ → Out Bool) (f : σ → Out (Fl ρ σ)) : Nat → σ → Out (Fl ρ σ)
  | 0, _ => .stuck
  | n + 1, s => (c s).bind fun b => if b = true then (f s).bind (flowF fun s' => whileF c f n s') else .ok (.nxt s)
end
@[irreducible] def fuel : Nat := 1000000000
abbrev Enc (α : Type) := α → D
def eI : Enc Int := PyData.int
def eB : Enc Bool := PyData.bool
def eS : Enc Str := PyData.str
def eN : Enc Unit := fun _ => PyData.none
def eScr : Enc (List Int) := scriptD
section
variable {α β γ δ ε ζ : Type}
def eL (e : Enc α) : Enc (List α) := fun xs => .list (xs.map e)
def eTL (e : Enc α) : Enc (List α) := fun xs => .tuple (xs.map e)
def e2 (a : Enc α) (b : Enc β) : Enc (α × β) := fun p => .tuple [a p.1, b p.2]
def e3 (a : Enc α) (b : Enc β) (c : Enc γ) : Enc (α × β × γ) := fun p => .tuple [a p.1, b p.2.1, c p.2.2]
def e4 (a : Enc α) (b : Enc β) (c : Enc γ) (d : Enc δ) : Enc (α × β × γ × δ) := fun p => .tuple [a p.1, b p.2.1, c p.2.2.1, d p.2.2.2]
def e5 (a : Enc α) (b : Enc β) (c : Enc γ) (d : Enc δ) (e : Enc ε) : Enc (α × β × γ × δ × ε) := fun p => .tuple [a p.1, b p.2.1, c p.2.2.1, d p.2.2.2.1, e p.2.2.2.2]
def e6 (a : Enc α) (b : Enc β) (c : Enc γ) (d : Enc δ) (e : Enc ε) (f : Enc ζ) : Enc (α × β × γ × δ × ε × ζ) := fun p => .tuple [a p.1, b p.2.1, c p.2.2.1, d p.2.2.2.1, e p.2.2.2.2.1, f p.2.2.2.2.2]
def eO (e : Enc α) : Enc (Option α) | none => .none | some a => e a
def eU (a : Enc α) (b : Enc β) : Enc (α ⊕ β) | .inl x => a x | .inr y => b y
def eK (e : Enc α) : Enc (List (Int × α)) := fun kvs => dctI (kvs.map fun p => (p.1, e p.2))
def eKT (e : Enc α) : Enc (List (List Int × α)) := fun kvs => dctT (kvs.map fun p => (p.1, e p.2))
end
class Fl_ {α : Type} (e : Enc α) : Prop where
  fl : ∀ a, flatD (e a) = true
class Nf {α : Type} (e : Enc α) : Prop where
  nf : ∀ a, flatD (e a) = false
section
variable {α β γ δ ε ζ : Type} {a : Enc α} {b : Enc β} {c : Enc γ} {d : Enc δ} {e : Enc ε} {f : Enc ζ}
instance : Fl_ eI := ⟨fun _ => rfl⟩
instance : Fl_ eB := ⟨fun _ => rfl⟩
instance : Fl_ eS := ⟨fun _ => rfl⟩
instance : Fl_ eN := ⟨fun _ => rfl⟩
instance : Nf eScr := ⟨fun _ => flat_script⟩
instance : Nf (eL a) := ⟨fun _ => rfl⟩
instance : Nf (eK a) := ⟨fun _ => flat_dI _⟩
instance : Nf (eKT a) := ⟨fun _ => flat_dT _⟩
theorem flatAll_map [h : Fl_ a] (xs : List α) : flatAll (xs.map a) = true := by
  induction xs with
  | nil => rfl
  | cons x xs ih => simp [flatAll, h.fl, ih]
instance [Fl_ a] : Fl_ (eTL a) := ⟨fun xs => by simpa [eTL, flatD] using flatAll_map xs⟩
instance [h : Fl_ a] : Fl_ (eO a) := ⟨fun | none => rfl | some x => h.fl x⟩
instance [h : Fl_ a] [g : Fl_ b] : Fl_ (eU a b) := ⟨fun | .inl x => h.fl x | .inr x => g.fl x⟩
instance [ha : Fl_ a] [hb : Fl_ b] : Fl_ (e2 a b) := ⟨fun p => by simp [e2, flatD, flatAll, ha.fl, hb.fl]⟩
instance [ha : Fl_ a] [hb : Fl_ b] [hc : Fl_ c] : Fl_ (e3 a b c) := ⟨fun p => by simp [e3, flatD, flatAll, ha.fl, hb.fl, hc.fl]⟩
instance [ha : Fl_ a] [hb : Fl_ b] [hc : Fl_ c] [hd : Fl_ d] : Fl_ (e4 a b c d) := ⟨fun p => by simp [e4, flatD, flatAll, ha.fl, hb.fl, hc.fl, hd.fl]⟩
instance [ha : Fl_ a] [hb : Fl_ b] [hc : Fl_ c] [hd : Fl_ d] [he : Fl_ e] : Fl_ (e5 a b c d e) := ⟨fun p => by simp [e5, flatD, flatAll, ha.fl, hb.fl, hc.fl, hd.fl, he.fl]⟩
instance [ha : Fl_ a] [hb : Fl_ b] [hc : Fl_ c] [hd : Fl_ d] [he : Fl_ e] [hf : Fl_ f] : Fl_ (e6 a b c d e f) := ⟨fun p => by simp [e6, flatD, flatAll, ha.fl, hb.fl, hc.fl, hd.fl, he.fl, hf.fl]⟩
instance nf2a [h : Nf a] : Nf (e2 a b) := ⟨fun p => by simp [e2, flatD, flatAll, h.nf]⟩
instance nf2b [h : Nf b] : Nf (e2 a b) := ⟨fun p => by simp [e2, flatD, flatAll, h.nf]⟩
instance nf3a [h : Nf a] : Nf (e3 a b c) := ⟨fun p => by simp [e3, flatD, flatAll, h.nf]⟩
instance nf3b [h : Nf b] : Nf (e3 a b c) := ⟨fun p => by simp [e3, flatD, flatAll, h.nf]⟩
instance nf3c [h : Nf c] : Nf (e3 a b c) := ⟨fun p => by simp [e3, flatD, flatAll, h.nf]⟩
instance nf4d [h : Nf d] : Nf (e4 a b c d) := ⟨fun p => by simp [e4, flatD, flatAll, h.nf]⟩
instance nf4a [h : Nf a] : Nf (e4 a b c d) := ⟨fun p => by simp [e4, flatD, flatAll, h.nf]⟩
instance nf5e [h : Nf e] : Nf (e5 a b c d e) := ⟨fun p => by simp [e5, flatD, flatAll, h.nf]⟩
instance nf5a [h : Nf a] : Nf (e5 a b c d e) := ⟨fun p => by simp [e5, flatD, flatAll, h.nf]⟩
end
section
variable {α β σ ρ τ : Type}
abbrev EG := VEnv → Prop
def RE (G : EG) (w : WE) (env env' : VEnv) (md : Md) (e : Enc α) (m : Out α) : Prop :=
  ∀ (Q : R → VEnv → Prop) (X : Exn → VEnv → Prop) (Xe : Exn → Prop), (∀ x v, G v → Xe x → X x v) → Sat m (fun a => Q ⟨e a, md⟩ env') Xe → w env Q X
def RT (G : EG) (w : WT) (env : VEnv) (m : Out Bool) : Prop :=
  ∀ (Q : Bool → VEnv → Prop) (X : Exn → VEnv → Prop) (Xe : Exn → Prop), (∀ x v, G v → Xe x → X x v) → Sat m (fun a => Q a env) Xe → w env Q X
def RA (G : EG) (w : WA) (env env' : VEnv) (f : τ → List R) (m : Out τ) : Prop :=
  ∀ (Q : List R → VEnv → Prop) (X : Exn → VEnv → Prop) (Xe : Exn → Prop), (∀ x v, G v → Xe x → X x v) → Sat m (fun a => Q (f a) env') Xe → w env Q X
def RB (G : EG) (w : WS) (env : VEnv) (m : Out β) (K : β → DV → Prop) : Prop :=
  ∀ (D : DV) (Xe : Exn → Prop), (∀ x v, G v → Xe x → D.ex x v) → Sat m (fun b => K b D) Xe → w env D
def KN (s : σ → VEnv) : σ → DV → Prop := fun V D => ∀ e, envLe (s V) e → D.nx e
def KT (e : Enc ρ) (md : Md) : ρ → DV → Prop := fun r D => ∀ v, D.rt ⟨e r, md⟩ v
def KF (e : Enc ρ) (md : Md) (s : σ → VEnv) : Fl ρ σ → DV → Prop
  | .ret r, D => ∀ v, D.rt ⟨e r, md⟩ v
  | .nxt V, D => ∀ e, envLe (s V) e → D.nx e
def KP : Unit → DV → Prop := fun _ D => (∀ v, D.rt ⟨.none, mA⟩ v) ∧ ∀ e, D.nx e
def wCut (w : WS) : WS := fun env D => ∃ J : VEnv → Prop, w env { D with nx := fun e => ∃ e', envLe e' e ∧ J e' } ∧ ∀ e, J e → D.nx e
theorem rdS_cut {c : Cn} {W : WX} {w : WS} : ∀ D σ H, rdS c W (wCut w) D σ H → rdS c W w D σ H := fun D σ H h => by
  obtain ⟨env, L, Dv, S, ⟨J, hw, hJ⟩, hn, hr, hx⟩ := h
  refine ⟨env, L, _, S, hw, fun env' L' σ' H' q S' => ?_, hr, hx⟩
  obtain ⟨e', le, j⟩ := q
  obtain ⟨L0, S0⟩ := S'.lower le
  exact hn e' L0 σ' H' (hJ _ j) S0
theorem vs_cut {X : Cx} {c : Cn} {W : WX} {w : WS} {st : Stmt} (h : PS X st (rdS c W w)) : PS X st (rdS c W (wCut w)) := PS.imp h rdS_cut
end
end VL
set_option maxRecDepth 100000
set_option maxHeartbeats 4000000
namespace VL
open PySem PySem.Spec PyProof.Rows L2
section
variable {α β γ δ σ ρ τ : Type} {G : EG} {env env1 env2 env3 : VEnv} {md m1 m2 m3 : Md} {a : Enc α} {b : Enc β} {c : Enc γ} {d : Enc δ} {wa wb wc we : WE} {wl wl' : WA} {wt wu : WT} {A : Out α} {B : Out β} {C : Out γ} {x : α} {y : β} {z : γ} {wo wo' : WO}
theorem re_c (v : D) (e : Enc α) (x : α) (h : e x = v := by rfl) : RE G (wC v) env env mA e (.ok x) := fun Q X Xe _ hs => by
  subst h; exact hs
theorem re_vF (i : Nat) (e : Enc α) (x : α) {m : Md} [f : Fl_ e] (h : env[i]? = some (some (e x, m)) := by rfl) : RE G (wVar i) env env mA e (.ok x) := fun Q X Xe _ hs => by
  refine ⟨_, _, h, ?_⟩
  unfold readR
  rw [if_pos (f.fl x)]; exact hs
theorem re_vS (i : Nat) (e : Enc α) (x : α) [f : Nf e] (h : env[i]? = some (some (e x, mS)) := by rfl) : RE G (wVar i) env env mS e (.ok x) := fun Q X Xe _ hs => by
  refine ⟨_, _, h, ?_⟩
  unfold readR
  rw [f.nf x]; exact hs
theorem re_vA (i : Nat) (e : Enc α) (x : α) [f : Nf e] (h : env[i]? = some (some (e x, mA)) := by rfl) : RE G (wVar i) env env .b e (.ok x) := fun Q X Xe _ hs => by
  refine ⟨_, _, h, ?_⟩
  unfold readR
  rw [f.nf x]; exact hs
theorem re_mF (i : Nat) (e : Enc α) (x : α) {m : Md} [f : Fl_ e] (h : env[i]? = some (some (e x, m)) := by rfl) : RE G (wMv i) env env mA e (.ok x) := fun Q X Xe _ hs => by
  refine ⟨_, _, h, ?_⟩
  rw [if_pos (f.fl x)]; exact hs
theorem re_mO (i : Nat) (e : Enc α) (x : α) {n : Option Nat} [f : Nf e] (h : env[i]? = some (some (e x, .o n)) := by rfl) : RE G (wMv i) env (env.set i none) (.o n) e (.ok x) := fun Q X Xe _ hs => by
  refine ⟨_, _, h, ?_⟩
  rw [f.nf x]; exact hs
def OpP (wo : WO) (a : Enc α) (m1 : Md) (b : Enc β) (m2 : Md) (op : α → β → γ) (c : Enc γ) (md : Md) : Prop := ∀ x y Q, Q ⟨c (op x y), md⟩ → wo ⟨a x, m1⟩ ⟨b y, m2⟩ Q
def OpO (wo : WO) (a : Enc α) (m1 : Md) (b : Enc β) (m2 : Md) (op : α → β → Option γ) (c : Enc γ) (md : Md) : Prop := ∀ x y z Q, op x y = some z → Q ⟨c z, md⟩ → wo ⟨a x, m1⟩ ⟨b y, m2⟩ Q
theorem re_2P {op : α → β → γ} (ho : OpP wo a m1 b m2 op c md) (ha : RE G wa env env1 m1 a (.ok x)) (hb : RE G wb env1 env2 m2 b (.ok y)) : RE G (wBin wo wa wb) env env2 md c (.ok (op x y)) := fun Q X Xe hX hs =>
  ha _ _ Xe hX (hb _ _ Xe hX (ho x y _ hs))
theorem re_2 {op : α → β → Out γ} (ho : ∀ x y Q Xe, Sat (op x y) (fun z => Q ⟨c z, md⟩) Xe → wo ⟨a x, m1⟩ ⟨b y, m2⟩ Q) (ha : RE G wa env env1 m1 a A) (hb : RE G wb env1 env2 m2 b B) : RE G (wBin wo wa wb) env env2 md c (A.bind fun x => B.bind fun y => op x y) := fun Q X Xe hX hs =>
  ha _ _ Xe hX ((sat_bind.mp hs).imp fun x hs => hb _ _ Xe hX ((sat_bind.mp hs).imp fun y hs => ho x y _ _ hs))
theorem re_2Q {op : α → β → Option γ} (ho : OpO wo a m1 b m2 op c md) (ha : RE G wa env env1 m1 a (.ok x)) (hb : RE G wb env1 env2 m2 b (.ok y)) : RE G (wBin wo wa wb) env env2 md c (lift (op x y)) := fun Q X Xe hX hs =>
  ha _ _ Xe hX (hb _ _ Xe hX (let ⟨_, hz, hs⟩ := sat_lift.mp hs; ho x y _ _ hz hs))
theorem opP_out {op : α → β → γ} (ho : OpP wo a m1 b m2 op c md) : ∀ x y Q Xe, Sat (.ok (op x y)) (fun z => Q ⟨c z, md⟩) Xe → wo ⟨a x, m1⟩ ⟨b y, m2⟩ Q := fun x y Q _ h => ho x y Q h
theorem opO_out {op : α → β → Option γ} (ho : OpO wo a m1 b m2 op c md) : ∀ x y Q Xe, Sat (lift (op x y)) (fun z => Q ⟨c z, md⟩) Xe → wo ⟨a x, m1⟩ ⟨b y, m2⟩ Q := fun x y Q _ h => let ⟨_, hz, hs⟩ := sat_lift.mp h; ho x y _ Q hz hs
theorem re_eq {m m' : Out α} (h : RE G we env env1 md a m) (e : m = m' := by rfl) : RE G we env env1 md a m' := e ▸ h
theorem xo_add : OpP woAdd eI m1 eI m2 (fun x y => x + y) eI mA := fun x y Q h => i_add h
theorem xo_sub : OpP woSub eI m1 eI m2 (fun x y => x - y) eI mA := fun x y Q h => i_sub h
theorem xo_lt : OpP woLt eI m1 eI m2 (fun x y => decide (x < y)) eB mA := fun x y Q h => i_lt h
theorem xo_le : OpP woLe eI m1 eI m2 (fun x y => decide (x ≤ y)) eB mA := fun x y Q h => i_le h
theorem xo_gt : OpP woGt eI m1 eI m2 (fun x y => decide (x > y)) eB mA := fun x y Q h => i_gt h
theorem xo_eqI : OpP woEq eI m1 eI m2 (fun x y => decide (x = y)) eB mA := fun x y Q h => i_eqI h
theorem xo_neI : OpP woNe eI m1 eI m2 (fun x y => !decide (x = y)) eB mA := fun x y Q h => i_neI h
open Classical in
@[irreducible] noncomputable def mulO (x y : Int) : Option Int := if CMul x y ∨ CMulW x y then some (x * y) else none
open Classical in
@[irreducible] noncomputable def fdO (x y : Int) : Option Int := if CDiv x y ∨ CDivW x y then some (x / y) else none
@[irreducible] def modO (x y : Int) : Option Int := if 0 < y then some (x % y) else none
@[irreducible] def powO (x y : Int) : Option Int := if 0 ≤ y ∧ y ≤ 1000000 ∧ x.natAbs < 2 ^ 64 then some (x ^ y.toNat) else none
theorem xo_mul : OpO woMul eI m1 eI m2 mulO eI mA := fun x y z Q h q => by
  unfold mulO at h; split at h
  · cases h; exact i_mul (by assumption) q
  · cases h
theorem xo_fd : OpO woFd eI m1 eI m2 fdO eI mA := fun x y z Q h q => by
  unfold fdO at h; split at h
  · cases h; exact i_fd (by assumption) q
  · cases h
theorem xo_mod : OpO woMod eI m1 eI m2 modO eI mA := fun x y z Q h q => by
  unfold modO at h; split at h
  · cases h; exact i_mod (by assumption) q
  · cases h
theorem xo_pow : OpO woPow eI m1 eI m2 powO eI mA := fun x y z Q h q => by
  unfold powO at h; split at h
  · cases h; exact i_pow (by assumption) q
  · cases h
theorem re_mulL {y : Int} (k : Int) (ha : RE G wa env env1 m1 eI (.ok k)) (hb : RE G wb env1 env2 m2 eI (.ok y)) (h : -(2 ^ 64) < k ∧ k < 2 ^ 64 := by decide) : RE G (wBin woMul wa wb) env env2 mA eI (.ok (k * y)) := fun Q X Xe hX hs =>
  ha _ _ Xe hX (hb _ _ Xe hX (sat_ok.mpr (i_mul (.inl (.inl h)) hs)))
theorem re_mulR {x : Int} (k : Int) (ha : RE G wa env env1 m1 eI (.ok x)) (hb : RE G wb env1 env2 m2 eI (.ok k)) (h : -(2 ^ 64) < k ∧ k < 2 ^ 64 := by decide) : RE G (wBin woMul wa wb) env env2 mA eI (.ok (x * k)) := fun Q X Xe hX hs =>
  ha _ _ Xe hX (hb _ _ Xe hX (sat_ok.mpr (i_mul (.inl (.inr h)) hs)))
theorem re_modC {x : Int} (k : Int) (ha : RE G wa env env1 m1 eI (.ok x)) (hb : RE G wb env1 env2 m2 eI (.ok k)) (h : 0 < k := by decide) : RE G (wBin woMod wa wb) env env2 mA eI (.ok (x % k)) := fun Q X Xe hX hs =>
  ha _ _ Xe hX (hb _ _ Xe hX (sat_ok.mpr (i_mod h hs)))
theorem re_fdC {x : Int} (k : Int) (ha : RE G wa env env1 m1 eI (.ok x)) (hb : RE G wb env1 env2 m2 eI (.ok k)) (h : 0 < k ∧ k < 1073741824 := by decide) : RE G (wBin woFd wa wb) env env2 mA eI (.ok (x / k)) := fun Q X Xe hX hs =>
  ha _ _ Xe hX (hb _ _ Xe hX (sat_ok.mpr (i_fd (.inl h) hs)))
theorem re_powC (j k : Int) (ha : RE G wa env env1 m1 eI (.ok j)) (hb : RE G wb env1 env2 m2 eI (.ok k)) (h : CPow j k := by exact ⟨by decide, by decide, by decide⟩) : RE G (wBin woPow wa wb) env env2 mA eI (.ok (j ^ k.toNat)) := fun Q X Xe hX hs =>
  ha _ _ Xe hX (hb _ _ Xe hX (sat_ok.mpr (i_pow h hs)))
theorem re_neg {x : Int} (ha : RE G wa env env1 m1 eI (.ok x)) : RE G (wNeg wa) env env1 mA eI (.ok (-x)) := fun Q X Xe hX hs => ha _ _ Xe hX ⟨x, rfl, hs⟩
theorem re_negO {A : Out Int} (ha : RE G wa env env1 m1 eI A) : RE G (wNeg wa) env env1 mA eI (A.bind fun x => .ok (-x)) := fun Q X Xe hX hs => ha _ _ Xe hX ((sat_bind.mp hs).imp fun x h => ⟨x, rfl, h⟩)
theorem flat_L [f : Fl_ a] (xs : List α) : flatAll (xs.map a) = true := flatAll_map xs
@[irreducible] def catO (xs ys : List α) : Option (List α) := if xs.length + ys.length ≤ 1000000 then some (xs ++ ys) else none
theorem sizeL : 1000000 ≤ sizeLine := by rw [sizeLine_eq]; decide
theorem xo_catF [f : Fl_ a] : OpO woAdd (eL a) m1 (eL a) m2 catO (eL a) mA := fun x y z Q h q => by
  unfold catO at h; split at h
  · cases h
    refine i_addL (by rw [List.length_map, List.length_map]; exact Nat.le_trans (by assumption) sizeL) ?_
    rw [← List.map_append, cpR_flat (flat_L _)]; exact q
  · cases h
@[irreducible] def repO (xs : List α) (k : Int) : Option (List α) := if -(2 ^ 63) ≤ k ∧ k < 2 ^ 63 ∧ xs.length * k.toNat ≤ 1000000 then some (List.replicate k.toNat xs).flatten else none
theorem xo_rep [f : Fl_ a] : OpO woMul (eL a) m1 eI m2 repO (eL a) mA := fun x y z Q h q => by
  unfold repO at h; split at h
  · rename_i h'
    cases h
    refine ⟨h'.1, h'.2.1, by rw [List.length_map]; exact Nat.le_trans h'.2.2 sizeL, ?_⟩
    have e : (List.replicate y.toNat (x.map a)).flatten = ((List.replicate y.toNat x).flatten).map a := by
      rw [List.map_flatten, List.map_replicate]
    show Q (cpR (List.replicate y.toNat (x.map a)).flatten _)
    rw [e, cpR_flat (flat_L _)]
    exact q
  · cases h
theorem atI_map {α β : Type} {f : α → β} {xs : List α} {i : Int} {y : α} (h : atI xs i = some y) : atI (xs.map f) i = some (f y) := by
  obtain ⟨j, h1, h2⟩ := atI_ixq h
  exact atI_ofq (by rw [List.length_map]; exact h1) (by rw [List.getElem?_map, h2]; rfl)
theorem ix_end {ds : List D} {m m' : Md} {i : Int} {y : D} {q : R → Prop} (ha : atI ds i = some y) (h : q (subL m y)) : wIx ⟨.list ds, m⟩ ⟨.int i, m'⟩ q := ⟨i, rfl, y, ha, h⟩
theorem xo_ixF [f : Fl_ a] : OpO wIx (eL a) m1 eI m2 (fun xs i => atI xs i) a mA := fun x y z Q h q => ix_end (atI_map h) (by unfold subL; rw [if_pos (f.fl z)]; exact q)
theorem xo_ixN [f : Nf a] : OpO wIx (eL a) m1 eI m2 (fun xs i => atI xs i) a (kidM m1) := fun x y z Q h q => ix_end (atI_map h) (by unfold subL; rw [f.nf z]; exact q)
theorem xo_ixS {m1 m2 : Md} : OpO wIxS eScr m1 eI m2 (fun xs i => atI xs i) eI mA := fun x y z Q h q => ⟨x, y, z, rfl, rfl, h, q⟩
theorem re_tF {e : Enc α} {p : β} (i : Int) (v : α) [f : Fl_ e] (hb : RE G wb env env1 m1 b (.ok p)) (hi : RE G wc env1 env2 m2 eI (.ok i)) (h : ∃ ds, b p = .tuple ds ∧ atI ds i = some (e v) := by exact ⟨_, rfl, rfl⟩) : RE G (wBin wIx wb wc) env env2 mA e (.ok v) := fun Q X Xe hX hs =>
  hb _ _ Xe hX (hi _ _ Xe hX (by
    obtain ⟨ds, h1, h2⟩ := h
    refine ⟨i, rfl, ?_⟩
    simp only [h1]
    exact ⟨e v, h2, by unfold subT; rw [if_pos (f.fl v)]; exact hs⟩))
theorem re_tN {e : Enc α} {p : β} (i : Int) (v : α) [f : Nf e] (hb : RE G wb env env1 m1 b (.ok p)) (hi : RE G wc env1 env2 m2 eI (.ok i)) (h : ∃ ds, b p = .tuple ds ∧ atI ds i = some (e v) := by exact ⟨_, rfl, rfl⟩) : RE G (wBin wIx wb wc) env env2 m1 e (.ok v) := fun Q X Xe hX hs =>
  hb _ _ Xe hX (hi _ _ Xe hX (by
    obtain ⟨ds, h1, h2⟩ := h
    refine ⟨i, rfl, ?_⟩
    simp only [h1]
    exact ⟨e v, h2, by unfold subT; rw [f.nf v]; exact hs⟩))
theorem re_tFO {e : Enc α} {g : β → α} {B : Out β} (i : Int) [f : Fl_ e] (hb : RE G wb env env1 m1 b B) (hi : RE G wc env1 env2 m2 eI (.ok i)) (h : ∀ p, ∃ ds, b p = .tuple ds ∧ atI ds i = some (e (g p)) := by exact fun _ => ⟨_, rfl, rfl⟩) : RE G (wBin wIx wb wc) env env2 mA e (B.bind fun p => .ok (g p)) := fun Q X Xe hX hs =>
  hb _ _ Xe hX ((sat_bind.mp hs).imp fun p hs => re_tF (b := b) (G := G) (env := env1) (env1 := env1) (wb := fun env Q _ => Q ⟨b p, m1⟩ env) i (g p) (fun Q X Xe hX h => h) hi (h p) Q X Xe hX hs)
theorem re_tNO {e : Enc α} {g : β → α} {B : Out β} (i : Int) [f : Nf e] (hb : RE G wb env env1 m1 b B) (hi : RE G wc env1 env2 m2 eI (.ok i)) (h : ∀ p, ∃ ds, b p = .tuple ds ∧ atI ds i = some (e (g p)) := by exact fun _ => ⟨_, rfl, rfl⟩) : RE G (wBin wIx wb wc) env env2 m1 e (B.bind fun p => .ok (g p)) := fun Q X Xe hX hs =>
  hb _ _ Xe hX ((sat_bind.mp hs).imp fun p hs => re_tN (b := b) (G := G) (env := env1) (env1 := env1) (wb := fun env Q _ => Q ⟨b p, m1⟩ env) i (g p) (fun Q X Xe hX h => h) hi (h p) Q X Xe hX hs)
theorem ra_nil : RA G wNil env env (fun _ : Unit => []) (.ok ()) := fun Q X Xe _ h => h
theorem ra_cons {f : τ → List R} {M : Out τ} (ha : RE G wa env env1 m1 a A) (hl : RA G wl env1 env2 f M) : RA G (wCons wa wl) env env2 (fun t : α × τ => ⟨a t.1, m1⟩ :: f t.2) (A.bind fun x => M.bind fun t => .ok (x, t)) := fun Q X Xe hX hs =>
  ha _ _ Xe hX ((sat_bind.mp hs).imp fun x hs => hl _ _ Xe hX ((sat_bind.mp hs).imp fun t hs => hs))
theorem ra_consP {f : τ → List R} {t : τ} (ha : RE G wa env env1 m1 a (.ok x)) (hl : RA G wl env1 env2 f (.ok t)) : RA G (wCons wa wl) env env2 (fun t : α × τ => ⟨a t.1, m1⟩ :: f t.2) (.ok (x, t)) := fun Q X Xe hX hs =>
  ha _ _ Xe hX (hl _ _ Xe hX hs)
theorem re_lstP {f : τ → List R} {t : τ} {n : Option Nat} (xs : List α) (hl : RA G wl env env1 f (.ok t)) (hj : joinM (f t) = some n := by rfl) (hn : (f t).length ≤ 1000 := by exact Nat.le_of_ble_eq_true rfl) (he : PyData.list ((f t).map (·.d)) = eL a xs := by rfl) : RE G (wCB wLst wl) env env1 (.o (succM n)) (eL a) (.ok xs) := fun Q X Xe hX hs =>
  hl _ _ Xe hX (sat_ok.mpr (i_lst hj hn (by rw [he]; exact hs)))
theorem re_lst {f : τ → List R} {M : Out τ} {n : Option Nat} (g : τ → List α) (hl : RA G wl env env1 f M) (hj : ∀ t, joinM (f t) = some n := by exact fun _ => rfl) (hn : ∀ t, (f t).length ≤ 1000 := by exact fun _ => Nat.le_of_ble_eq_true rfl) (he : ∀ t, PyData.list ((f t).map (·.d)) = eL a (g t) := by exact fun _ => rfl) : RE G (wCB wLst wl) env env1 (.o (succM n)) (eL a) (M.bind fun t => .ok (g t)) := fun Q X Xe hX hs =>
  hl _ _ Xe hX ((sat_bind.mp hs).imp fun t hs => i_lst (hj t) (hn t) (by rw [he t]; exact hs))
theorem re_tupP {f : τ → List R} {t : τ} {n : Option Nat} (v : α) (hl : RA G wl env env1 f (.ok t)) (hj : joinM (f t) = some n := by rfl) (hn : (f t).length ≤ 1000 := by exact Nat.le_of_ble_eq_true rfl) (he : PyData.tuple ((f t).map (·.d)) = a v := by rfl) : RE G (wCB wTup wl) env env1 (.o n) a (.ok v) := fun Q X Xe hX hs =>
  hl _ _ Xe hX (sat_ok.mpr (i_tup hj hn (by rw [he]; exact hs)))
theorem re_tup {f : τ → List R} {M : Out τ} {n : Option Nat} (g : τ → α) (hl : RA G wl env env1 f M) (hj : ∀ t, joinM (f t) = some n := by exact fun _ => rfl) (hn : ∀ t, (f t).length ≤ 1000 := by exact fun _ => Nat.le_of_ble_eq_true rfl) (he : ∀ t, PyData.tuple ((f t).map (·.d)) = a (g t) := by exact fun _ => rfl) : RE G (wCB wTup wl) env env1 (.o n) a (M.bind fun t => .ok (g t)) := fun Q X Xe hX hs =>
  hl _ _ Xe hX ((sat_bind.mp hs).imp fun t hs => i_tup (hj t) (hn t) (by rw [he t]; exact hs))
theorem joinM_flat {rs : List R} (h : flatAll (rs.map (·.d)) = true) : joinM rs = some none := by
  induction rs with
  | nil => rfl
  | cons r rs ih =>
    simp only [List.map_cons, flatAll, Bool.and_eq_true] at h
    unfold joinM
    rw [if_pos h.1]; exact ih h.2
theorem flat_of_tup {v : α} {ds : List D} [f : Fl_ a] (h : PyData.tuple ds = a v) : flatAll ds = true := by
  have := f.fl v
  rw [← h] at this
  simpa [flatD] using this
theorem re_tupFP {f : τ → List R} {t : τ} (v : α) [fl : Fl_ a] (hl : RA G wl env env1 f (.ok t)) (hn : (f t).length ≤ 1000 := by exact Nat.le_of_ble_eq_true rfl) (he : PyData.tuple ((f t).map (·.d)) = a v := by rfl) : RE G (wCB wTup wl) env env1 mA a (.ok v) := re_tupP v hl (joinM_flat (flat_of_tup he)) hn he
theorem re_tupF {f : τ → List R} {M : Out τ} (g : τ → α) [fl : Fl_ a] (hl : RA G wl env env1 f M) (hn : ∀ t, (f t).length ≤ 1000 := by exact fun _ => Nat.le_of_ble_eq_true rfl) (he : ∀ t, PyData.tuple ((f t).map (·.d)) = a (g t) := by exact fun _ => rfl) : RE G (wCB wTup wl) env env1 mA a (M.bind fun t => .ok (g t)) := re_tup g hl (fun t => joinM_flat (flat_of_tup (he t))) hn he
theorem flat_of_lst {v : List α} {ds : List D} [f : Fl_ a] (h : PyData.list ds = eL a v) : flatAll ds = true := by
  cases h; exact flat_L v
theorem re_lstFP {f : τ → List R} {t : τ} (xs : List α) [fl : Fl_ a] (hl : RA G wl env env1 f (.ok t)) (hn : (f t).length ≤ 1000 := by exact Nat.le_of_ble_eq_true rfl) (he : PyData.list ((f t).map (·.d)) = eL a xs := by rfl) : RE G (wCB wLst wl) env env1 mA (eL a) (.ok xs) := re_lstP xs hl (joinM_flat (flat_of_lst he)) hn he
theorem re_lstF {f : τ → List R} {M : Out τ} (g : τ → List α) [fl : Fl_ a] (hl : RA G wl env env1 f M) (hn : ∀ t, (f t).length ≤ 1000 := by exact fun _ => Nat.le_of_ble_eq_true rfl) (he : ∀ t, PyData.list ((f t).map (·.d)) = eL a (g t) := by exact fun _ => rfl) : RE G (wCB wLst wl) env env1 mA (eL a) (M.bind fun t => .ok (g t)) := re_lst g hl (fun t => joinM_flat (flat_of_lst (he t))) hn he
theorem outR_A {rs : List R} {d : D} : outR rs ⟨d, mA⟩ = ⟨d, mA⟩ := outR_all
theorem re_callP {S : FSpec} {f : τ → List R} {t : τ} {M : Out β} (hl : RA G wl env env1 f (.ok t)) (hS : ∀ Q X, Sat M (fun r => Q ⟨b r, mA⟩) X → S ((f t).map (·.d)) Q X) (hg : G env1 := by trivial) : RE G (wCall S wl) env env1 mA b M := fun Q X Xe hX hs =>
  hl _ _ Xe hX (hS _ _ (hs.mono (fun r h => by rw [outR_A]; exact h) fun x h => hX x _ hg h))
theorem re_call {S : FSpec} {f : τ → List R} {T : Out τ} {M : τ → Out β} (hl : RA G wl env env1 f T) (hS : ∀ t Q X, Sat (M t) (fun r => Q ⟨b r, mA⟩) X → S ((f t).map (·.d)) Q X) (hg : G env1 := by trivial) : RE G (wCall S wl) env env1 mA b (T.bind M) := fun Q X Xe hX hs =>
  hl _ _ Xe hX ((sat_bind.mp hs).imp fun t hs => hS t _ _ (hs.mono (fun r h => by rw [outR_A]; exact h) fun x h => hX x _ hg h))
theorem re_callPS {S : FSpec} {f : τ → List R} {t : τ} {M : Out β} (hl : RA G wl env env1 f (.ok t)) (hS : ∀ Q X, Sat M (fun r => Q ⟨b r, mS⟩) X → S ((f t).map (·.d)) Q X) (hb : (f t).any (fun r => isB r.m) = false := by rfl) (hg : G env1 := by trivial) : RE G (wCall S wl) env env1 mS b M := fun Q X Xe hX hs =>
  hl _ _ Xe hX (hS _ _ (hs.mono (fun r h => by unfold outR; rw [hb]; exact h) fun x h => hX x _ hg h))
theorem re_cbP {wf : WF} {f : τ → List R} {t : τ} (v : β) (hl : RA G wl env env1 f (.ok t)) (hw : ∀ Q, Q ⟨b v, md⟩ → wf (f t) Q) : RE G (wCB wf wl) env env1 md b (.ok v) := fun Q X Xe hX hs => hl _ _ Xe hX (hw _ hs)
theorem re_cb {wf : WF} {f : τ → List R} {T : Out τ} {M : τ → Out β} (hl : RA G wl env env1 f T) (hw : ∀ t Q Xe, Sat (M t) (fun v => Q ⟨b v, md⟩) Xe → wf (f t) Q) : RE G (wCB wf wl) env env1 md b (T.bind M) := fun Q X Xe hX hs => hl _ _ Xe hX ((sat_bind.mp hs).imp fun t hs => hw t _ _ hs)
theorem len_L {m : Md} (xs : List α) : ∀ Q : R → Prop, Q ⟨eI (xs.length : Int), mA⟩ → wLen [⟨eL a xs, m⟩] Q := fun Q q => i_lenL (by rw [List.length_map]; exact q)
theorem len_Scr {m : Md} (xs : List Int) : ∀ Q : R → Prop, Q ⟨eI (xs.length : Int), mA⟩ → wLen [⟨eScr xs, m⟩] Q := fun Q q => i_lenS q
def maxF (x y : Int) : Int := if y > x then y else x
theorem bi_max {m m' : Md} (x y : Int) : ∀ Q : R → Prop, Q ⟨eI (maxF x y), mA⟩ → wMax2 [⟨eI x, m⟩, ⟨eI y, m'⟩] Q := fun Q q => i_max2 q
theorem bi_intB {m : Md} (x : Bool) : ∀ Q : R → Prop, Q ⟨eI (if x = true then 1 else 0), mA⟩ → wInt [⟨eB x, m⟩] Q := fun Q q => i_intB q
end
end VL
set_option maxRecDepth 100000
set_option maxHeartbeats 4000000
namespace VL
open PySem PySem.Spec PyProof.Rows L2
class EqE {α : Type} [DecidableEq α] (e : Enc α) (n : outParam Nat) : Prop where
  lay : ∀ a, PyData.canLay0 (e a) = true
  dep : ∀ a, PyData.depth (e a) ≤ n
  eqv : ∀ a b, PyData.eqv (e a) (e b) = decide (a = b)
section
variable {α β γ δ ε : Type} [DecidableEq α] [DecidableEq β] [DecidableEq γ] [DecidableEq δ] [DecidableEq ε] {a : Enc α} {b : Enc β} {c : Enc γ} {d : Enc δ} {e : Enc ε} {n m k j l : Nat}
instance : EqE eI 0 := ⟨fun _ => rfl, fun _ => Nat.le_refl _, fun a b => by
  by_cases h : a = b
  · subst h; simp [eI, PyData.eqv]
  · simp [eI, PyData.eqv, h]⟩
instance : EqE eB 0 := ⟨fun _ => rfl, fun _ => Nat.le_refl _, fun a b => by cases a <;> cases b <;> rfl⟩
theorem eqvAll_map [h : EqE a n] : ∀ xs ys : List α, PyData.eqvAll (xs.map a) (ys.map a) = decide (xs = ys)
  | [], [] => rfl
  | [], y :: ys => by simp [PyData.eqvAll]
  | x :: xs, [] => by simp [PyData.eqvAll]
  | x :: xs, y :: ys => by
    have ih := eqvAll_map xs ys
    simp only [List.map_cons, PyData.eqvAll, h.eqv, ih]
    by_cases h1 : x = y <;> by_cases h2 : xs = ys <;> simp [h1, h2]
theorem layAll_map [h : EqE a n] : ∀ xs : List α, PyData.canLayAll0 (xs.map a) = true
  | [] => rfl
  | x :: xs => by simp [PyData.canLayAll0, h.lay, layAll_map xs]
theorem depAll_map [h : EqE a n] : ∀ xs : List α, PyData.depthAll (xs.map a) ≤ n
  | [] => by simp [PyData.depthAll]
  | x :: xs => by
    have := depAll_map xs
    have := h.dep x
    simp only [List.map_cons, PyData.depthAll]
    omega
instance [h : EqE a n] : EqE (eL a) (n + 1) := ⟨fun xs => by simpa [eL, PyData.canLay0] using layAll_map xs, fun xs => by have := depAll_map (a := a) xs; simp only [eL, PyData.depth]; omega, fun xs ys => by simpa [eL, PyData.eqv] using eqvAll_map xs ys⟩
instance [h : EqE a n] : EqE (eTL a) (n + 1) := ⟨fun xs => by simpa [eTL, PyData.canLay0] using layAll_map xs, fun xs => by have := depAll_map (a := a) xs; simp only [eTL, PyData.depth]; omega, fun xs ys => by simpa [eTL, PyData.eqv] using eqvAll_map xs ys⟩
instance [h : EqE a n] [g : EqE b m] : EqE (e2 a b) (max n m + 1) := ⟨fun p => by simp [e2, PyData.canLay0, PyData.canLayAll0, h.lay, g.lay], fun p => by
  have := h.dep p.1; have := g.dep p.2
  simp only [e2, PyData.depth, PyData.depthAll]; omega, fun p q => by
  obtain ⟨p1, p2⟩ := p; obtain ⟨q1, q2⟩ := q
  simp only [e2, PyData.eqv, PyData.eqvAll, h.eqv, g.eqv, Prod.mk.injEq, Bool.and_true, Bool.decide_and]⟩
instance [h : EqE a n] [g : EqE b m] [i : EqE c k] : EqE (e3 a b c) (max n (max m k) + 1) := ⟨fun p => by simp [e3, PyData.canLay0, PyData.canLayAll0, h.lay, g.lay, i.lay], fun p => by
  have := h.dep p.1; have := g.dep p.2.1; have := i.dep p.2.2
  simp only [e3, PyData.depth, PyData.depthAll]; omega, fun p q => by
  obtain ⟨p1, p2, p3⟩ := p; obtain ⟨q1, q2, q3⟩ := q
  simp only [e3, PyData.eqv, PyData.eqvAll, h.eqv, g.eqv, i.eqv, Prod.mk.injEq, Bool.and_true, Bool.decide_and]⟩
instance [h : EqE a n] [g : EqE b m] [i : EqE c k] [u : EqE d j] : EqE (e4 a b c d) (max n (max m (max k j)) + 1) := ⟨fun p => by simp [e4, PyData.canLay0, PyData.canLayAll0, h.lay, g.lay, i.lay, u.lay], fun p => by
  have := h.dep p.1; have := g.dep p.2.1; have := i.dep p.2.2.1; have := u.dep p.2.2.2
  simp only [e4, PyData.depth, PyData.depthAll]; omega, fun p q => by
  obtain ⟨p1, p2, p3, p4⟩ := p; obtain ⟨q1, q2, q3, q4⟩ := q
  simp only [e4, PyData.eqv, PyData.eqvAll, h.eqv, g.eqv, i.eqv, u.eqv, Prod.mk.injEq, Bool.and_true, Bool.decide_and]⟩
instance [h : EqE a n] [g : EqE b m] [i : EqE c k] [u : EqE d j] [v : EqE e l] : EqE (e5 a b c d e) (max n (max m (max k (max j l))) + 1) := ⟨fun p => by simp [e5, PyData.canLay0, PyData.canLayAll0, h.lay, g.lay, i.lay, u.lay, v.lay], fun p => by
  have := h.dep p.1; have := g.dep p.2.1; have := i.dep p.2.2.1; have := u.dep p.2.2.2.1; have := v.dep p.2.2.2.2
  simp only [e5, PyData.depth, PyData.depthAll]; omega, fun p q => by
  obtain ⟨p1, p2, p3, p4, p5⟩ := p; obtain ⟨q1, q2, q3, q4, q5⟩ := q
  simp only [e5, PyData.eqv, PyData.eqvAll, h.eqv, g.eqv, i.eqv, u.eqv, v.eqv, Prod.mk.injEq, Bool.and_true, Bool.decide_and]⟩
theorem EqE.shaped [h : EqE a n] (hn : n ≤ 64) (x : α) : SeqAt.shaped (a x) = true := by
  unfold SeqAt.shaped
  rw [Bool.and_eq_true]
  exact ⟨h.lay x, decide_eq_true (Nat.le_trans (h.dep x) hn)⟩
variable {m1 m2 : Md}
theorem any_eq [h : EqE a n] (x : α) (xs : List α) : ((xs.map a).any fun z => PyData.eqv z (a x)) = decide (x ∈ xs) := by
  induction xs with
  | nil => rfl
  | cons y ys ih =>
    rw [List.map_cons, List.any_cons, ih, h.eqv]
    by_cases e : y = x
    · subst e; simp
    · have : ¬ x = y := fun z => e z.symm
      simp [e, this]
theorem xo_in [h : EqE a n] (hn : n + 1 ≤ 64 := by decide) : OpP woIn a m1 (eL a) m2 (fun x xs => decide (x ∈ xs)) eB mA := fun x xs Q q =>
  ⟨_, rfl, EqE.shaped (by omega) x, EqE.shaped (a := eL a) hn xs, by rw [any_eq]; exact q⟩
theorem xo_notIn [h : EqE a n] (hn : n + 1 ≤ 64 := by decide) : OpP woNotIn a m1 (eL a) m2 (fun x xs => !decide (x ∈ xs)) eB mA := fun x xs Q q =>
  ⟨_, rfl, EqE.shaped (by omega) x, EqE.shaped (a := eL a) hn xs, by rw [any_eq]; exact q⟩
@[irreducible] def idxO (xs : List α) (x : α) : Option Int := if x ∈ xs then some ((xs.idxOf x : Nat) : Int) else none
theorem idx_min' {x : α} : ∀ {r : List α} {k : Nat} {y : α}, k < r.idxOf x → r[k]? = some y → y ≠ x
  | [], _, _, _, h => by simp at h
  | b :: r, k, y, hk, hy => by
    rw [List.idxOf_cons] at hk
    by_cases e : b = x
    · rw [e] at hk; simp at hk
    · have eb : (b == x) = false := by simpa using e
      rw [eb] at hk
      simp only [cond_false] at hk
      cases k with
      | zero => simp at hy; rw [← hy]; exact e
      | succ k => exact idx_min' (r := r) (k := k) (by omega) (by simpa using hy)
end
section
variable {α β γ δ σ ρ τ : Type} {G : EG} {env env1 env2 env3 : VEnv} {md m1 m2 m3 : Md} {a : Enc α} {b : Enc β} {c : Enc γ} {d : Enc δ} {wa wb wc we : WE} {wl wl' : WA} {wt wu : WT} {A : Out α} {B : Out β} {C : Out γ} {x : α} {y : β} {z : γ} {wo wo' : WO}
theorem re_idx [DecidableEq α] {n : Nat} [h : EqE a n] {B : Out (List α)} (hl : RE G wb env env1 m1 (eL a) B) (hx : RE G wa env1 env2 m2 a A) (hn : n + 1 ≤ 64 := by decide) : RE G (wIndex1 wb wa) env env2 mA eI (B.bind fun xs => A.bind fun x => lift (idxO xs x)) := fun Q X Xe hX hs =>
  hl _ _ Xe hX ((sat_bind.mp hs).imp fun xs hs => ⟨_, rfl, hx _ _ Xe hX ((sat_bind.mp hs).imp fun x hs => by
    obtain ⟨v, hv, hs⟩ := sat_lift.mp hs
    unfold idxO at hv
    split at hv
    · rename_i hm
      cases hv
      have h1 : xs.idxOf x < xs.length := List.idxOf_lt_length_of_mem hm
      have h2 : xs[xs.idxOf x] = x := List.getElem_idxOf h1
      refine ⟨xs.idxOf x, a x, EqE.shaped (a := eL a) hn xs, EqE.shaped (a := a) (by omega) x, by rw [List.getElem?_map, List.getElem?_eq_getElem h1, h2]; rfl, by rw [h.eqv]; simp, fun k z' hk hz => ?_, hs⟩
      rw [List.getElem?_map] at hz
      obtain ⟨y, hy, rfl⟩ := Option.map_eq_some_iff.mp hz
      rw [h.eqv]
      simpa using idx_min' hk hy
    · cases hv)⟩)
theorem rt_val {A : Out Bool} (ha : RE G wa env env m1 eB A) : RT G (wTest wa) env A := fun Q X Xe hX hs => ha _ _ Xe hX (hs.imp fun b q => ⟨b, rfl, q⟩)
theorem rt_and {A B : Out Bool} (h1 : RT G wt env A) (h2 : RT G wu env B) : RT G (wAnd wt wu) env (A.bind fun p => if p = true then B else .ok false) := fun Q X Xe hX hs => h1 _ _ Xe hX ((sat_bind.mp hs).imp fun p hs => by
  cases p
  · exact hs
  · exact h2 _ _ Xe hX hs)
theorem rt_orP {p q : Bool} (h1 : RT G wt env (.ok p)) (h2 : RT G wu env (.ok q)) : RT G (wOr wt wu) env (.ok (p || q)) := fun Q X Xe hX hs => h1 _ _ Xe hX (by
  cases p
  · exact h2 _ _ Xe hX hs
  · exact hs)
theorem rt_not {A : Out Bool} (h1 : RT G wt env A) : RT G (wNot wt) env (A.bind fun p => .ok (!p)) := fun Q X Xe hX hs => h1 _ _ Xe hX ((sat_bind.mp hs).imp fun p hs => hs)
theorem rt_eq {m m' : Out Bool} (h : RT G wt env m) (e : m = m' := by rfl) : RT G wt env m' := e ▸ h
theorem re_notP {p : Bool} (h1 : RE G wa env env1 mA eB (.ok p)) : RE G (wNotV wa) env env1 mA eB (.ok (!p)) := fun Q X Xe hX hs => h1 _ _ Xe hX ⟨p, rfl, hs⟩
theorem re_andTc {B : Out Bool} (h1 : RE G wa env env mA eB (.ok true)) (h2 : RE G wb env env mA eB B) : RE G (wAndV wa wb) env env mA eB B := fun Q X Xe hX hs => h1 _ _ Xe hX ⟨true, rfl, h2 _ _ Xe hX hs⟩
theorem re_isi {T : String} (v : Bool) (ha : RE G wa env env1 m1 a (.ok x)) (h : noDict (a x) ∧ tyIs T (a x) = v := by exact ⟨True.intro, rfl⟩) : RE G (wIsi T wa) env env1 mA eB (.ok v) := fun Q X Xe hX hs =>
  ha _ _ Xe hX (by
    obtain ⟨h1, h2⟩ := h
    exact ⟨h1, by show Q ⟨.bool (tyIs T (a x)), mA⟩ env1; rw [h2]; exact hs⟩)
def RO_ (G : EG) (w : WPt) (env : VEnv) (m : Out (Option Int)) : Prop := ∀ (Q : Option Int → VEnv → Prop) (X : Exn → VEnv → Prop) (Xe : Exn → Prop), (∀ x v, G v → Xe x → X x v) → Sat m (fun o => Q o env) Xe → w env Q X
theorem ro_no : RO_ G wNoP env (.ok none) := fun Q X Xe _ hs => hs
theorem ro_ptP {i : Int} (h : RE G we env env m1 eI (.ok i)) : RO_ G (wPt we) env (.ok (some i)) := fun Q X Xe hX hs => h _ _ Xe hX ⟨i, rfl, hs⟩
theorem ro_pt {I : Out Int} (h : RE G we env env m1 eI I) : RO_ G (wPt we) env (I.bind fun i => .ok (some i)) := fun Q X Xe hX hs => h _ _ Xe hX ((sat_bind.mp hs).imp fun i hs => ⟨i, rfl, hs⟩)
theorem re_slF [f : Fl_ a] {wl wh : WPt} {xs : List α} {lo hi : Option Int} (ha : RE G wa env env m1 (eL a) (.ok xs)) (hl : RO_ G wl env (.ok lo)) (hh : RO_ G wh env (.ok hi)) : RE G (wSl wa wl wh) env env mA (eL a) (.ok (cutL xs lo hi)) := fun Q X Xe hX hs =>
  ha _ _ Xe hX (hl _ _ Xe hX (hh _ _ Xe hX (by
    show Q (cpR (cutL (xs.map a) lo hi) _) env
    rw [cutL_map, cpR_flat (flat_L _)]; exact hs)))
theorem re_slScr {wl wh : WPt} {xs : List Int} {lo hi : Option Int} (ha : RE G wa env env m1 eScr (.ok xs)) (hl : RO_ G wl env (.ok lo)) (hh : RO_ G wh env (.ok hi)) : RE G (wSl wa wl wh) env env mA (eL eI) (.ok (cutL xs lo hi)) := fun Q X Xe hX hs =>
  ha _ _ Xe hX (hl _ _ Xe hX (hh _ _ Xe hX (by
    refine sat_ok.mpr ?_
    show slR ⟨scriptD xs, m1⟩ _ _ _
    rw [slr_scr, cutL_map, cpR_ints]; exact hs)))
def wWk (k : Nat) (w : WE) : WE := fun env Q X => w env (fun r e => (∃ m, r.m = .o m ∧ leM (some (k + 1)) m = true) ∧ Q ⟨r.d, .o (some (k + 1))⟩ e) X
theorem ve_wk {X : Cx} {c : Cn} {W : WX} {w : WE} {e : Expr} (k : Nat) (h : PE X e (rdE c W w)) : PE X e (rdE c W (wWk k w)) := PE.imp h fun σ H Q hh => by
  obtain ⟨env, L, Tm, Qv, X, S, q, kk, kx⟩ := hh
  refine ⟨env, L, Tm, _, X, S, q, fun r v l L' env' H' hq st hr => ?_, kx⟩
  obtain ⟨⟨m, hm, le⟩, hq⟩ := hq
  obtain ⟨d, m'⟩ := r
  cases hm
  have nd := st.sim.nd
  obtain ⟨nl, hb, _⟩ := st.sim.tmp
  obtain ⟨l', hs, q'⟩ := RO.weak (T := L'.flatten ++ (Tm ++ l)) le (by simp) hr.dep nl hb
  refine kk _ v l' L' env' H' hq (st.sub hs) ?_
  exact q' (L'.flatten ++ (Tm ++ l')) (mem_less fun b hb => hs.subset hb) fun b hb hb' => by
    by_cases z : b ∈ l'
    · exact z
    · exfalso
      have := (st.sim.tmp).2.2 b hb
      apply this
      rcases List.mem_append.mp hb' with y | y
      · exact List.mem_append_left _ y
      · rcases List.mem_append.mp y with y | y
        · exact List.mem_append_right _ y
        · exact absurd y z
theorem cpR_wk (xs : List D) (bb : Bool) (hb : bb = false) : ∃ m, (cpR xs bb).m = .o m ∧ leM (some 1) m = true := by
  subst hb
  unfold cpR
  split
  · exact ⟨none, rfl, rfl⟩
  · exact ⟨some 1, rfl, rfl⟩
theorem cpR_d (xs : List D) (bb : Bool) : (cpR xs bb).d = .list xs := rfl
theorem re_slN {wl wh : WPt} {xs : List α} {lo hi : Option Int} (ha : RE G wa env env m1 (eL a) (.ok xs)) (hl : RO_ G wl env (.ok lo)) (hh : RO_ G wh env (.ok hi)) (hb : isB m1 = false := by rfl) : RE G (wWk 0 (wSl wa wl wh)) env env (.o (some 1)) (eL a) (.ok (cutL xs lo hi)) := fun Q X Xe hX hs =>
  ha _ _ Xe hX (hl _ _ Xe hX (hh _ _ Xe hX (by
    show (fun r e => _) (cpR (cutL (xs.map a) lo hi) (isB m1)) env
    exact ⟨cpR_wk _ _ hb, by rw [cpR_d, cutL_map]; exact hs⟩)))
theorem re_catN {Xs Ys : Out (List α)} (ha : RE G wa env env1 m1 (eL a) Xs) (hb : RE G wb env1 env2 m2 (eL a) Ys) (h : (isB m1 || isB m2) = false := by rfl) : RE G (wWk 0 (wBin woAdd wa wb)) env env2 (.o (some 1)) (eL a) (Xs.bind fun xs => Ys.bind fun ys => lift (catO xs ys)) := fun Q X Xe hX hs =>
  ha _ _ Xe hX ((sat_bind.mp hs).imp fun xs hs => hb _ _ Xe hX ((sat_bind.mp hs).imp fun ys hs => by
    obtain ⟨v, hv, hs⟩ := sat_lift.mp hs
    unfold catO at hv
    split at hv
    · rename_i hl
      cases hv
      refine i_addL (by rw [List.length_map, List.length_map]; exact Nat.le_trans hl sizeL) ?_
      exact ⟨cpR_wk _ _ h, by rw [cpR_d, ← List.map_append]; exact hs⟩
    · cases hv))
theorem re_revF [f : Fl_ a] {Xs : Out (List α)} (ha : RE G wa env env1 m1 (eL a) Xs) : RE G (wRev wa) env env1 mA (eL a) (Xs.bind fun xs => .ok xs.reverse) := fun Q X Xe hX hs =>
  ha _ _ Xe hX ((sat_bind.mp hs).imp fun xs hs => ⟨_, rfl, by rw [← List.map_reverse, cpR_flat (flat_L _)]; exact hs⟩)
@[irreducible] def mapL (f : α → Out β) (xs : List α) : Out (List β) := if xs.length ≤ 1000000 then mapO f xs else .stuck
@[irreducible] def fmapL (p : α → Out Bool) (f : α → Out β) (xs : List α) : Out (List β) := if xs.length ≤ 1000000 then fmapO p f xs else .stuck
def rg (lo hi : Int) : List Int := (List.range (hi - lo).toNat).map fun k : Nat => lo + (k : Int)
@[irreducible] def rgO (lo hi : Int) : Option (List Int) := if -(2 ^ 62) ≤ lo ∧ lo < 2 ^ 62 ∧ -(2 ^ 62) ≤ hi ∧ hi < 2 ^ 62 then some (rg lo hi) else none
def KidE (c : Enc γ) (md : Md) (km : Option Nat) : Prop := ∀ z, kidOk km ⟨c z, md⟩
theorem kid_F {km : Option Nat} [f : Fl_ c] : KidE c md km := fun z => .inl (f.fl z)
theorem kid_A : KidE c mA none := fun _ => kidOk_A
theorem kid_o {n : Option Nat} : KidE c (.o n) n := fun _ => .inr ⟨n, rfl, leM_refl n⟩
theorem lc_turns {tt : WT} {wl : WE} {km : Option Nat} {ent : α → VEnv} {P : α → Out Bool} {F : α → Out γ} {Xe : Exn → Prop}
    (hp : ∀ x, RT (fun _ => True) tt (ent x) (P x)) (hf : ∀ x, ∃ e', RE (fun _ => True) wl (ent x) e' md c (F x)) (hk : KidE c md km) {Q : List γ → Prop} :
    ∀ (xs : List α), Sat (fmapO (fun x => noX (P x)) (fun x => noX (F x)) xs) Q Xe → ∃ J : Nat → List D → Prop, J 0 [] ∧
      (∀ k x acc, xs[k]? = some x → J k acc → acc.length ≤ k ∧ wTurn tt wl km (ent x) (fun y => J (k + 1) (acc ++ [y])) (J (k + 1) acc)) ∧ ∀ acc, J xs.length acc → ∃ zs : List γ, acc = zs.map c ∧ Q zs := by
  intro xs hs
  refine ⟨fun k acc => ∃ zs : List γ, acc = zs.map c ∧ zs.length ≤ k ∧ Sat (fmapO (fun x => noX (P x)) (fun x => noX (F x)) (xs.drop k)) (fun r => Q (zs ++ r)) Xe, ⟨[], rfl, Nat.le_refl _, by simpa using hs⟩, fun k x acc hx hJ => ?_, fun acc hJ => ?_⟩
  · obtain ⟨zs, rfl, hl, hs⟩ := hJ
    refine ⟨by simpa using hl, ?_⟩
    have hd : xs.drop k = x :: xs.drop (k + 1) := by
      have := (List.getElem?_eq_some_iff.mp hx)
      obtain ⟨h1, h2⟩ := this
      rw [← h2]; exact List.drop_eq_getElem_cons h1
    rw [hd] at hs
    unfold fmapO at hs
    have hs := sat_noX.mp (sat_bind.mp hs)
    unfold wTurn
    refine hp x _ _ (fun _ => False) (fun _ _ _ h => h.elim) (hs.imp fun b hs => ?_)
    cases b
    · exact ⟨zs, rfl, by omega, hs⟩
    · rw [if_pos rfl]
      rw [if_pos rfl] at hs
      obtain ⟨e', hf⟩ := hf x
      refine hf _ _ (fun _ => False) (fun _ _ _ h => h.elim) ((sat_noX.mp (sat_bind.mp hs)).imp fun y hs => ⟨hk y, zs ++ [y], by simp, by simp; omega, ?_⟩)
      refine (sat_bind.mp hs).imp fun r hs => ?_
      rw [List.append_assoc]; exact hs
  · obtain ⟨zs, rfl, _, hs⟩ := hJ
    rw [List.drop_length] at hs
    exact ⟨zs, rfl, by simpa [fmapO] using hs⟩
theorem fmapO_true {f : α → Out β} (xs : List α) : fmapO (fun _ => .ok true) f xs = mapO f xs := by
  induction xs with
  | nil => rfl
  | cons x xs ih => simp [fmapO, mapO, ih]
theorem re_lc {g : Tg} {vs : List Nat} {tt : WT} {wl : WE} {km : Option Nat} {ent : α → VEnv} {P : α → Out Bool} {F : α → Out γ} {Xs : Out (List α)}
    (hi : RE G wa env env1 m1 (eL a) Xs) (hg : ∀ x, ∃ rs, g.f (itemR m1 (a x)) = some rs ∧ VL.putAll (wipeE (bEnv env1) vs) g.is rs = ent x)
    (hp : ∀ x, RT (fun _ => True) tt (ent x) (P x)) (hf : ∀ x, ∃ e', RE (fun _ => True) wl (ent x) e' md c (F x)) (hk : KidE c md km) :
    RE G (wLc vs g wa tt wl) env env1 (.o (succM km)) (eL c) (Xs.bind (fmapL (fun x => noX (P x)) (fun x => noX (F x)))) := fun Q X Xe hX hs =>
  hi _ _ Xe hX ((sat_bind.mp hs).imp fun xs hs => by
    unfold fmapL at hs
    split at hs
    · rename_i hl
      obtain ⟨J, j0, js, je⟩ := lc_turns hp hf hk xs hs
      refine ⟨xs.map a, rfl, by rw [List.length_map]; exact hl, km, J, j0, fun k d acc hd hJ => ?_, fun acc hJ => ?_⟩
      · rw [List.getElem?_map] at hd
        obtain ⟨x, hx, rfl⟩ := Option.map_eq_some_iff.mp hd
        obtain ⟨rs, h1, h2⟩ := hg x
        obtain ⟨h3, h4⟩ := js k x acc hx hJ
        exact ⟨rs, h1, h3, by rw [h2]; exact h4⟩
      · rw [List.length_map] at hJ
        obtain ⟨zs, rfl, q⟩ := je acc hJ
        exact q
    · exact hs.elim)
theorem re_lc1 {g : Tg} {vs : List Nat} {wl : WE} {km : Option Nat} {ent : α → VEnv} {F : α → Out γ} {Xs : Out (List α)}
    (hi : RE G wa env env1 m1 (eL a) Xs) (hg : ∀ x, ∃ rs, g.f (itemR m1 (a x)) = some rs ∧ VL.putAll (wipeE (bEnv env1) vs) g.is rs = ent x)
    (hf : ∀ x, ∃ e', RE (fun _ => True) wl (ent x) e' md c (F x)) (hk : KidE c md km) :
    RE G (wLc vs g wa wYes wl) env env1 (.o (succM km)) (eL c) (Xs.bind (mapL fun x => noX (F x))) :=
  re_eq (re_lc (P := fun _ => .ok true) hi hg (fun x Q X Xe _ h => h) hf hk) (by
    congr; funext xs; unfold fmapL mapL; split
    · exact fmapO_true xs
    · rfl)
theorem re_lcR {n i : Nat} {wl : WA} {vs : List Nat} {tt : WT} {we : WE} {km : Option Nat} {ent : Int → VEnv} {P : Int → Out Bool} {F : Int → Out γ} {f : τ → List R} {T : Out τ} {gl gh : τ → Int}
    (hi : RA G wl env env1 f T) (hr : ∀ t, (f t).length = n ∧ rangeOf (f t) = some (gl t, gh t)) (hg : ∀ x, (wipeE (bEnv env1) vs).set i (some (.int x, mA)) = ent x)
    (hp : ∀ x, RT (fun _ => True) tt (ent x) (P x)) (hf : ∀ x, ∃ e', RE (fun _ => True) we (ent x) e' md c (F x)) (hk : KidE c md km) :
    RE G (wLcR n vs i wl tt we) env env1 (.o (succM km)) (eL c) (T.bind fun t => (lift (rgO (gl t) (gh t))).bind (fmapL (fun x => noX (P x)) (fun x => noX (F x)))) := fun Q X Xe hX hs =>
  hi _ _ Xe hX ((sat_bind.mp hs).imp fun t hs => by
    obtain ⟨xs, hx, hs⟩ := sat_lift.mp (sat_bind.mp hs)
    unfold rgO at hx
    split at hx
    · rename_i hb
      cases hx
      unfold fmapL at hs
      have hlen : (rg (gl t) (gh t)).length = (gh t - gl t).toNat := by unfold rg; rw [List.length_map, List.length_range]
      split at hs
      · rename_i hl
        rw [hlen] at hl
        obtain ⟨J, j0, js, je⟩ := lc_turns hp hf hk _ hs
        refine ⟨gl t, gh t, (hr t).1, (hr t).2, ⟨hb.1, hb.2.1⟩, ⟨hb.2.2.1, hb.2.2.2⟩, by omega, km, J, j0, fun k acc hk hJ => ?_, fun acc hJ => ?_⟩
        · have hx : (rg (gl t) (gh t))[k]? = some (gl t + (k : Int)) := by
            unfold rg
            rw [List.getElem?_map, List.getElem?_range hk]; rfl
          rw [hg]
          exact js k _ acc hx hJ
        · rw [← hlen] at hJ
          obtain ⟨zs, rfl, q⟩ := je acc hJ
          exact q
      · exact hs.elim
    · cases hx)
theorem re_lcR1 {n i : Nat} {wl : WA} {vs : List Nat} {we : WE} {km : Option Nat} {ent : Int → VEnv} {F : Int → Out γ} {f : τ → List R} {T : Out τ} {gl gh : τ → Int}
    (hi : RA G wl env env1 f T) (hr : ∀ t, (f t).length = n ∧ rangeOf (f t) = some (gl t, gh t)) (hg : ∀ x, (wipeE (bEnv env1) vs).set i (some (.int x, mA)) = ent x)
    (hf : ∀ x, ∃ e', RE (fun _ => True) we (ent x) e' md c (F x)) (hk : KidE c md km) :
    RE G (wLcR n vs i wl wYes we) env env1 (.o (succM km)) (eL c) (T.bind fun t => (lift (rgO (gl t) (gh t))).bind (mapL fun x => noX (F x))) :=
  re_eq (re_lcR (P := fun _ => .ok true) hi hr hg (fun x Q X Xe _ h => h) hf hk) (by
    congr; funext t; congr; funext xs; unfold fmapL mapL; split
    · exact fmapO_true xs
    · rfl)
end
end VL
set_option maxRecDepth 100000
set_option maxHeartbeats 4000000
namespace VL
open PySem PySem.Spec PyProof.Rows L2
def wPre (w : WS) : WS := fun env D => ∃ e0, envLe e0 env ∧ w e0 D
theorem rdS_pre {c : Cn} {W : WX} {w : WS} : ∀ D σ H, rdS c W (wPre w) D σ H → rdS c W w D σ H := fun D σ H h => by
  obtain ⟨env, L, Dv, S, ⟨e0, le, hw⟩, k⟩ := h
  obtain ⟨L0, S0⟩ := S.lower le
  exact ⟨e0, L0, Dv, S0, hw, k⟩
theorem vs_pre {X : Cx} {c : Cn} {W : WX} {w : WS} {st : Stmt} (h : PS X st (rdS c W w)) : PS X st (rdS c W (wPre w)) := PS.imp h rdS_pre
section
variable {α β γ δ σ σ' ρ τ : Type} {G : EG} {env env1 env2 env3 : VEnv} {md m1 m2 m3 : Md} {a : Enc α} {b : Enc β} {c : Enc γ} {d : Enc δ} {e : Enc ρ} {wa wb wc we wi : WE} {wl wl' : WA} {wt wu : WT} {A : Out α} {B : Out β} {C : Out γ} {x : α} {y : β} {z : γ} {w u v : WS} {K KA KB : β → DV → Prop} {M MA MB : Out β} {s : σ → VEnv} {I J : Out Int}
def KR (e : Enc ρ) (md : Md) : Fl ρ σ → DV → Prop
  | .ret r, D => ∀ v, D.rt ⟨e r, md⟩ v
  | .nxt _, _ => True
theorem rb_next {V : σ} (h : envLe (s V) env) : RB G wNext env (.ok V) (KN s) := fun D Xe _ hs => hs env h
theorem rb_nextF {V : σ} (h : envLe (s V) env) : RB G wNext env (.ok (.nxt V)) (KF e md s) := fun D Xe _ hs => hs env h
theorem rb_nextP : RB G wNext env (.ok ()) KP := fun D Xe _ hs => hs.2 env
theorem rb_retP (r : ρ) (h : RE G we env env1 md a (.ok x)) (hb : isB md = false := by rfl) (he : a x = e r := by rfl) : RB G (wSeq (wRet we) u) env (.ok r) (KT e md) := fun D Xe hX hs =>
  h _ _ Xe hX ⟨hb, by rw [he]; exact hs _⟩
theorem rb_retR (g : α → ρ) (h : RE G we env env1 md a A) (hb : isB md = false := by rfl) (he : ∀ x, a x = e (g x) := by exact fun _ => rfl) : RB G (wSeq (wRet we) u) env (A.bind fun x => .ok (.ret (g x) : Fl ρ σ)) (KR e md) := fun D Xe hX hs =>
  h _ _ Xe hX ((sat_bind.mp hs).imp fun x hs => ⟨hb, by rw [he]; exact hs _⟩)
theorem rb_raise {x : Str} (hg : G env := by trivial) : RB G (wSeq (wRaise x) u) env (.exn ⟨x, none⟩) K := fun D Xe hX hs => hX _ _ hg hs
theorem rs_seqN {m : Out σ} {k : σ → Out β} (h1 : RB G w env m (KN s)) (h2 : ∀ V, RB G u (s V) (k V) K) : RB G (wSeq (wCut w) u) env (m.bind k) K := fun D Xe hX hs => by
  refine ⟨fun e => ∃ V, e = s V ∧ Sat (k V) (fun b => K b D) Xe, ?_, ?_⟩
  · refine h1 _ Xe hX ((sat_bind.mp hs).imp fun V hs e le => ⟨s V, le, V, rfl, hs⟩)
  · rintro _ ⟨V, rfl, hs⟩
    exact h2 V D Xe hX hs
theorem rs_seqT {m : Out (Fl ρ σ)} {k : σ → Out ρ} (h1 : RB G w env m (KF e md s)) (h2 : ∀ V, RB G u (s V) (k V) (KT e md)) : RB G (wSeq (wCut w) u) env (m.bind (flowT k)) (KT e md) := fun D Xe hX hs => by
  refine ⟨fun e' => ∃ V, e' = s V ∧ Sat (k V) (fun b => KT e md b D) Xe, ?_, ?_⟩
  · refine h1 _ Xe hX ((sat_bind.mp hs).imp fun V hs => ?_)
    cases V with
    | ret r => exact hs
    | nxt V => exact fun e le => ⟨s V, le, V, rfl, hs⟩
  · rintro _ ⟨V, rfl, hs⟩
    exact h2 V D Xe hX hs
theorem rs_pre (e0 : VEnv) (le : envLe e0 env) (h : RB G (wSeq w u) e0 M K) : RB G (wSeq (wPre w) u) env M K := fun D Xe hX hs => ⟨e0, le, h D Xe hX hs⟩
theorem rb_if {T : Out Bool} (ht : RT G wt env T) (h1 : RB G w env MA K) (h2 : RB G v env MB K) : RB G (wIf wt w v) env (T.bind fun p => if p = true then MA else MB) K := fun D Xe hX hs =>
  ht _ _ Xe hX ((sat_bind.mp hs).imp fun p hs => by
    cases p
    · exact h2 D Xe hX hs
    · exact h1 D Xe hX hs)
theorem kt_kt : ∀ b D n, KT e md b D → KT e md b { D with nx := n } := fun _ _ _ h => h
theorem kf_kr : ∀ b D n, KF e md s b D → KR e md b { D with nx := n } := fun b _ _ h => by
  cases b with
  | ret r => exact h
  | nxt V => exact True.intro
theorem kp_kt : ∀ b D n, KP b D → KT eN mA b { D with nx := n } := fun _ _ _ h => h.1
theorem rs_ifR {T : Out Bool} (hK : ∀ b D n, K b D → KA b { D with nx := n }) (ht : RT G wt env T) (h1 : RB G w env MA KA) (h2 : RB G u env MB K) : RB G (wSeq (wIf wt w wNext) u) env (T.bind fun p => if p = true then MA else MB) K := fun D Xe hX hs =>
  ht _ _ Xe hX ((sat_bind.mp hs).imp fun p hs => by
    cases p
    · exact h2 D Xe hX hs
    · exact h1 { D with nx := fun e => u e D } Xe hX (hs.imp fun b h => hK b D _ h))
theorem rs_set {i : Nat} {k : α → Out β} (he : RE G we env env1 md a A) (s : α → VEnv) (h2 : ∀ x, RB G u (s x) (k x) K) (hs : ∀ x, env1.set i (some (a x, md)) = s x := by exact fun _ => rfl) : RB G (wSeq (wSet i we) u) env (A.bind k) K := fun D Xe hX h =>
  he _ _ Xe hX ((sat_bind.mp h).imp fun x h => by
    have := h2 x D Xe hX h
    rw [← hs x] at this
    exact this)
theorem rs_asg {g : Tg} {k : α → Out β} (he : RE G we env env1 md a A) (s : α → VEnv) (h2 : ∀ x, RB G u (s x) (k x) K) (hs : ∀ x, ∃ rs, g.f ⟨a x, md⟩ = some rs ∧ VL.putAll env1 g.is rs = s x := by exact fun _ => ⟨_, rfl, rfl⟩) : RB G (wSeq (wAsg g we) u) env (A.bind k) K := fun D Xe hX h =>
  he _ _ Xe hX ((sat_bind.mp h).imp fun x h => by
    obtain ⟨rs, h1, e1⟩ := hs x
    refine ⟨rs, h1, ?_⟩
    have := h2 x D Xe hX h
    rw [← e1] at this
    exact this)
theorem rs_par {is : List Nat} {f : τ → List R} {T : Out τ} {k : τ → Out β} (he : RA G wl env env1 f T) (s : τ → VEnv) (h2 : ∀ x, RB G u (s x) (k x) K) (hs : ∀ x, (f x).length = is.length ∧ VL.putAll env1 is (f x) = s x := by exact fun _ => ⟨rfl, rfl⟩) : RB G (wSeq (wPar is wl) u) env (T.bind k) K := fun D Xe hX h =>
  he _ _ Xe hX ((sat_bind.mp h).imp fun x h => by
    obtain ⟨h1, e1⟩ := hs x
    refine ⟨h1, ?_⟩
    have := h2 x D Xe hX h
    rw [← e1] at this
    exact this)
theorem rs_expr {k : α → Out β} (he : RE G we env env1 md a A) (h2 : ∀ x, RB G u env1 (k x) K) : RB G (wSeq (wExpr we) u) env (A.bind k) K := fun D Xe hX h =>
  he _ _ Xe hX ((sat_bind.mp h).imp fun x h => h2 x D Xe hX h)
@[irreducible] def appO (xs : List α) (v : α) : Option (List α) := if xs.length < 1000000 then some (xs ++ [v]) else none
@[irreducible] def setO (xs : List α) (i : Int) (v : α) : Option (List α) := (ixN xs.length i).map fun j => xs.set j v
theorem rs_app {i : Nat} {m n : Option Nat} {xs : List α} {k : List α → Out β} (he : RE G we env env1 m1 a A) (s : List α → VEnv) (h2 : ∀ ys, RB G u (s ys) (k ys) K)
    (h0 : isL env i [] := by exact ⟨_, _, _, rfl, rfl⟩) (hi : env1[i]? = some (some (eL a xs, .o m)) := by rfl) (hm : popM m = some n := by rfl) (hk : KidE a m1 n := by first | exact kid_F | exact kid_A | exact kid_o) (hs : ∀ ys, killB (env1.set i (some (eL a ys, .o m))) = s ys := by exact fun _ => rfl) :
    RB G (wSeq (wApp (wPVar i) we) u) env (A.bind fun v => (lift (appO xs v)).bind k) K := fun D Xe hX h =>
  ⟨let ⟨d, m, _, h, _⟩ := h0; ⟨_, h⟩, h0, he _ _ Xe hX ((sat_bind.mp h).imp fun v h => by
    obtain ⟨ys, hy, h⟩ := sat_lift.mp (sat_bind.mp h)
    unfold appO at hy
    split at hy
    · rename_i hl
      cases hy
      refine wApp_inner _ m n hi hm (hk v) (by rw [List.length_map]; exact hl) ?_
      have := h2 _ D Xe hX h
      rw [← hs] at this
      simpa [eL] using this
    · cases hy)⟩
theorem setO_at {xs ys : List α} {i : Int} {v : α} (h : setO xs i v = some ys) : ∃ j, ixN xs.length i = some j ∧ ys = xs.set j v := by
  unfold setO at h
  obtain ⟨j, h1, h2⟩ := Option.map_eq_some_iff.mp h
  exact ⟨j, h1, h2.symm⟩
theorem rs_put {i : Nat} {m n : Option Nat} {xs : List α} {k : List α → Out β} (he : RE G we env env1 m1 a A) (hw : RE G wi env1 env1 m3 eI I) (s : List α → VEnv) (h2 : ∀ ys, RB G u (s ys) (k ys) K)
    (hi : env1[i]? = some (some (eL a xs, .o m)) := by rfl) (hm : popM m = some n := by rfl) (hk : KidE a m1 n := by first | exact kid_F | exact kid_A | exact kid_o) (hs : ∀ ys, killB (env1.set i (some (eL a ys, .o m))) = s ys := by exact fun _ => rfl) :
    RB G (wSeq (wPut (wPVar i) wi we) u) env (A.bind fun v => I.bind fun j => (lift (setO xs j v)).bind k) K := fun D Xe hX h =>
  he _ _ Xe hX ((sat_bind.mp h).imp fun v h => ⟨⟨_, hi⟩, hw _ _ Xe hX ((sat_bind.mp h).imp fun j h => by
    obtain ⟨ys, hy, h⟩ := sat_lift.mp (sat_bind.mp h)
    obtain ⟨t, ht, rfl⟩ := setO_at hy
    refine ⟨_, m, xs.map a, n, j, t, eL a (xs.set t v), rfl, ⟨hi, rfl, m, rfl, hm⟩, hk v, by rw [List.length_map]; exact ht, ?_, ?_⟩
    · show some (PyData.list ((xs.map a).set t (a v))) = _
      simp [eL, List.map_set]
    · have := h2 _ D Xe hX h
      rw [← hs] at this
      exact this)⟩)
theorem drop_cons {xs : List α} {k : Nat} {x : α} (h : xs[k]? = some x) : xs.drop k = x :: xs.drop (k + 1) := by
  obtain ⟨h1, h2⟩ := List.getElem?_eq_some_iff.mp h
  rw [← h2]; exact List.drop_eq_getElem_cons h1
theorem rb_for {g : Tg} {Xs : Out (List α)} {F : σ → α → Out σ} (st : σ) (hi : RE G we env env1 m1 (eL a) Xs) (h0 : envLe (s st) env1) (ent : σ → α → VEnv)
    (hb : ∀ st x, RB G w (ent st x) (F st x) (KN s)) (hg : ∀ st x, ∃ rs, g.f (itemR mS (a x)) = some rs ∧ VL.putAll (s st) g.is rs = ent st x := by exact fun _ _ => ⟨_, rfl, rfl⟩) (hm : isB m1 = false := by rfl) :
    RB G (wFor g we w) env (Xs.bind fun xs => forO F st xs) (KN s) := fun D Xe hX hs =>
  hi _ _ Xe hX ((sat_bind.mp hs).imp fun xs hs => by
    refine ⟨xs.map a, rfl, hm, fun k e => ∃ V, e = s V ∧ Sat (forO F V (xs.drop k)) (fun b => KN s b D) Xe, s st, h0, ⟨st, rfl, hs⟩, fun k d e hd hJ => ?_, fun e hJ => ?_⟩
    · obtain ⟨V, rfl, hs⟩ := hJ
      rw [List.getElem?_map] at hd
      obtain ⟨x, hx, rfl⟩ := Option.map_eq_some_iff.mp hd
      obtain ⟨rs, h1, h2⟩ := hg V x
      refine ⟨rs, h1, ?_⟩
      rw [h2]
      rw [drop_cons hx] at hs
      exact hb V x { D with nx := fun e2 => _ } Xe hX ((sat_bind.mp hs).imp fun V' hs e le => ⟨s V', le, V', rfl, hs⟩)
    · obtain ⟨V, rfl, hs⟩ := hJ
      rw [List.length_map, List.drop_length] at hs
      exact hs _ (envLe.refl _))
theorem rg_get {lo hi : Int} {k : Nat} (hk : k < (hi - lo).toNat) : (rg lo hi)[k]? = some (lo + (k : Int)) := by
  unfold rg
  rw [List.getElem?_map, List.getElem?_range hk]; rfl
theorem rg_len (lo hi : Int) : (rg lo hi).length = (hi - lo).toNat := by unfold rg; rw [List.length_map, List.length_range]
theorem rb_forR {n i : Nat} {f : τ → List R} {T : Out τ} {gl gh : τ → Int} {F : σ → Int → Out σ} (st : σ) (hi : RA G wl env env1 f T) (hr : ∀ t, (f t).length = n ∧ rangeOf (f t) = some (gl t, gh t)) (h0 : envLe (s st) env1) (ent : σ → Int → VEnv)
    (hb : ∀ st x, RB G w (ent st x) (F st x) (KN s)) (hg : ∀ st x, (s st).set i (some (.int x, mA)) = ent st x := by exact fun _ _ => rfl) :
    RB G (wForR n i wl w) env (T.bind fun t => (lift (rgO (gl t) (gh t))).bind fun xs => forO F st xs) (KN s) := fun D Xe hX hs =>
  hi _ _ Xe hX ((sat_bind.mp hs).imp fun t hs => by
    obtain ⟨xs, hx, hs⟩ := sat_lift.mp (sat_bind.mp hs)
    unfold rgO at hx
    split at hx
    · rename_i hbd
      cases hx
      refine ⟨gl t, gh t, (hr t).1, (hr t).2, ⟨hbd.1, hbd.2.1⟩, ⟨hbd.2.2.1, hbd.2.2.2⟩, fun k e => ∃ V, e = s V ∧ Sat (forO F V ((rg (gl t) (gh t)).drop k)) (fun b => KN s b D) Xe, s st, h0, ⟨st, rfl, hs⟩, fun k e hk hJ => ?_, fun e hJ => ?_⟩
      · obtain ⟨V, rfl, hs⟩ := hJ
        rw [hg]
        rw [drop_cons (rg_get hk)] at hs
        exact hb V _ { D with nx := fun e2 => _ } Xe hX ((sat_bind.mp hs).imp fun V' hs e le => ⟨s V', le, V', rfl, hs⟩)
      · obtain ⟨V, rfl, hs⟩ := hJ
        rw [← rg_len, List.drop_length] at hs
        exact hs _ (envLe.refl _)
    · cases hx)
theorem rb_forRF {n i : Nat} {f : τ → List R} {T : Out τ} {gl gh : τ → Int} {F : σ → Int → Out (Fl ρ σ)} (st : σ) (hi : RA G wl env env1 f T) (hr : ∀ t, (f t).length = n ∧ rangeOf (f t) = some (gl t, gh t)) (h0 : envLe (s st) env1) (ent : σ → Int → VEnv)
    (hb : ∀ st x, RB G w (ent st x) (F st x) (KF e md s)) (hg : ∀ st x, (s st).set i (some (.int x, mA)) = ent st x := by exact fun _ _ => rfl) :
    RB G (wForR n i wl w) env (T.bind fun t => (lift (rgO (gl t) (gh t))).bind fun xs => forF F st xs) (KF e md s) := fun D Xe hX hs =>
  hi _ _ Xe hX ((sat_bind.mp hs).imp fun t hs => by
    obtain ⟨xs, hx, hs⟩ := sat_lift.mp (sat_bind.mp hs)
    unfold rgO at hx
    split at hx
    · rename_i hbd
      cases hx
      refine ⟨gl t, gh t, (hr t).1, (hr t).2, ⟨hbd.1, hbd.2.1⟩, ⟨hbd.2.2.1, hbd.2.2.2⟩, fun k e' => ∃ V, e' = s V ∧ Sat (forF F V ((rg (gl t) (gh t)).drop k)) (fun b => KF e md s b D) Xe, s st, h0, ⟨st, rfl, hs⟩, fun k e' hk hJ => ?_, fun e' hJ => ?_⟩
      · obtain ⟨V, rfl, hs⟩ := hJ
        rw [hg]
        rw [drop_cons (rg_get hk)] at hs
        refine hb V _ { D with nx := fun e2 => _ } Xe hX ((sat_bind.mp hs).imp fun V' hs => ?_)
        cases V' with
        | ret r => exact hs
        | nxt V' => exact fun e le => ⟨s V', le, V', rfl, hs⟩
      · obtain ⟨V, rfl, hs⟩ := hJ
        rw [← rg_len, List.drop_length] at hs
        exact hs _ (envLe.refl _)
    · cases hx)
theorem rb_forE {g : Tg} {wl : WA} {Xs : Out (List α)} {F : σ → Int × α → Out σ} (st : σ) (hi : RE G we env env1 m1 (eL a) Xs) (h0 : envLe (s st) env1) (ent : σ → Int × α → VEnv)
    (hb : ∀ st x, RB G w (ent st x) (F st x) (KN s)) (hg : ∀ st x, ∃ rs, g.f ⟨.tuple [.int x.1, a x.2], mS⟩ = some rs ∧ VL.putAll (s st) g.is rs = ent st x := by exact fun _ _ => ⟨_, rfl, rfl⟩) (hm : isB m1 = false := by rfl) :
    RB G (wFor_enumerate g (wCons we wNil) w) env (Xs.bind fun xs => forO F st (xs.zipIdx.map fun p => ((p.2 : Int), p.1))) (KN s) := fun D Xe hX hs =>
  hi _ _ Xe hX ((sat_bind.mp hs).imp fun xs hs => by
    refine ⟨_, xs.map a, rfl, rfl, hm, fun k e => ∃ V, e = s V ∧ Sat (forO F V ((xs.zipIdx.map fun p => ((p.2 : Int), p.1)).drop k)) (fun b => KN s b D) Xe, s st, h0, ⟨st, rfl, by rw [List.drop_zero]; exact hs⟩, fun k d e hd hJ => ?_, fun e hJ => ?_⟩
    · obtain ⟨V, rfl, hs⟩ := hJ
      rw [List.getElem?_map] at hd
      obtain ⟨x, hx, rfl⟩ := Option.map_eq_some_iff.mp hd
      obtain ⟨rs, h1, h2⟩ := hg V ((k : Int), x)
      refine ⟨rs, h1, ?_⟩
      rw [h2]
      have hz : (xs.zipIdx.map fun p => ((p.2 : Int), p.1))[k]? = some ((k : Int), x) := by
        rw [List.getElem?_map, List.getElem?_zipIdx, hx]; simp
      rw [drop_cons hz] at hs
      exact hb V _ { D with nx := fun e2 => _ } Xe hX ((sat_bind.mp hs).imp fun V' hs e le => ⟨s V', le, V', rfl, hs⟩)
    · obtain ⟨V, rfl, hs⟩ := hJ
      have hl : (xs.map a).length = (xs.zipIdx.map fun p => ((p.2 : Int), p.1)).length := by simp
      rw [hl, List.drop_length] at hs
      exact hs _ (envLe.refl _))
theorem rb_while {P : σ → Out Bool} {F : σ → Out σ} (st : σ) (h0 : envLe (s st) env) (ht : ∀ st, RT G wt (s st) (P st)) (hb : ∀ st, RB G w (s st) (F st) (KN s)) :
    RB G (wWhile wt w) env (whileO P F fuel st) (KN s) := fun D Xe hX hs => by
  refine ⟨fun e m => ∃ V, e = s V ∧ Sat (whileO P F m V) (fun b => KN s b D) Xe, s st, fuel, h0, ⟨st, rfl, hs⟩, ?_⟩
  rintro e m ⟨V, rfl, hs⟩
  cases m with
  | zero => exact hs.elim
  | succ m =>
    refine ht V _ _ Xe hX ((sat_bind.mp hs).imp fun p hs => ?_)
    cases p
    · exact hs _ (envLe.refl _)
    · exact hb V { D with nx := fun e2 => _ } Xe hX ((sat_bind.mp hs).imp fun V' hs e le => ⟨s V', m, le, ⟨V', rfl, hs⟩, Nat.lt_succ_self m⟩)
theorem rb_whileF {P : σ → Out Bool} {F : σ → Out (Fl ρ σ)} (st : σ) (h0 : envLe (s st) env) (ht : ∀ st, RT G wt (s st) (P st)) (hb : ∀ st, RB G w (s st) (F st) (KF e md s)) :
    RB G (wWhile wt w) env (whileF P F fuel st) (KF e md s) := fun D Xe hX hs => by
  refine ⟨fun e' m => ∃ V, e' = s V ∧ Sat (whileF P F m V) (fun b => KF e md s b D) Xe, s st, fuel, h0, ⟨st, rfl, hs⟩, ?_⟩
  rintro e' m ⟨V, rfl, hs⟩
  cases m with
  | zero => exact hs.elim
  | succ m =>
    refine ht V _ _ Xe hX ((sat_bind.mp hs).imp fun p hs => ?_)
    cases p
    · exact hs _ (envLe.refl _)
    · refine hb V { D with nx := fun e2 => _ } Xe hX ((sat_bind.mp hs).imp fun V' hs => ?_)
      cases V' with
      | ret r => exact hs
      | nxt V' => exact fun e le => ⟨s V', m, le, ⟨V', rfl, hs⟩, Nat.lt_succ_self m⟩
theorem envLe.len : ∀ {e e' : VEnv}, envLe e e' → e.length = e'.length
  | [], [], _ => _root_.rfl
  | _ :: _, _ :: _, h => by simp [envLe.len h.2]
  | [], _ :: _, h => h.elim
  | _ :: _, [], h => h.elim
end
theorem of_KT {ρ : Type} {w : WS} {env : VEnv} {m : Out ρ} {e : Enc ρ} {md : Md} {Qv : R → Prop} {Xv : Exn → Prop} (h : RB (fun _ => True) w env m (KT e md)) (hs : Sat m (fun r => Qv ⟨e r, md⟩) Xv) : w env ⟨fun _ => Qv ⟨.none, mA⟩, fun r _ => Qv r, fun ex _ => Xv ex⟩ :=
  h _ Xv (fun _ _ _ h => h) (hs.imp fun _ q _ => q)
theorem of_KP {w : WS} {env : VEnv} {m : Out Unit} {Qv : R → Prop} {Xv : Exn → Prop} (h : RB (fun _ => True) w env m KP) (hs : Sat m (fun _ => Qv ⟨.none, mA⟩) Xv) : w env ⟨fun _ => Qv ⟨.none, mA⟩, fun r _ => Qv r, fun ex _ => Xv ex⟩ :=
  h _ Xv (fun _ _ _ h => h) (hs.imp fun _ q => ⟨fun _ => q, fun _ => q⟩)
end VL
set_option maxRecDepth 100000
set_option maxHeartbeats 4000000
namespace VL
open PySem PySem.Spec PyProof.Rows L2
theorem el_nil : envLe [] [] := True.intro
theorem el_c {s s' : Option (D × Md)} {e e' : VEnv} (h : slLe s s') (g : envLe e e') : envLe (s :: e) (s' :: e') := ⟨h, g⟩
theorem sl_n {s : Option (D × Md)} : slLe none s := True.intro
theorem sl_o {d : D} {m m' : Option Nat} (h : leM m m' = true := by rfl) : slLe (some (d, .o m)) (some (d, .o m')) := ⟨rfl, h⟩
theorem argS_F {α : Type} {e : Enc α} [f : Fl_ e] (x : α) : argS (e x) = some (e x, mA) := by unfold argS; rw [if_pos (f.fl x)]
theorem argS_N {α : Type} {e : Enc α} [f : Nf e] (x : α) : argS (e x) = some (e x, mS) := by unfold argS; rw [f.nf x]; rfl
section
variable {α β γ δ σ σ' ρ τ : Type} {G : EG} {env env1 env2 env3 : VEnv} {md m1 m2 m3 : Md} {a : Enc α} {b : Enc β} {e : Enc ρ} {wa wb wc we wi : WE} {wl wl' : WA} {wt wu : WT} {A : Out α} {w u v : WS} {K KA KB : β → DV → Prop} {M MA MB : Out β} {s : σ → VEnv}
theorem kx : ∀ b D n, K b D → (fun (_ : β) (_ : DV) => True) b { D with nx := n } := fun _ _ _ _ => True.intro
theorem re_mulLO {B : Out Int} (k : Int) (ha : RE G wa env env1 m1 eI (.ok k)) (hb : RE G wb env1 env2 m2 eI B) (h : -(2 ^ 64) < k ∧ k < 2 ^ 64 := by decide) : RE G (wBin woMul wa wb) env env2 mA eI (B.bind fun y => .ok (k * y)) := fun Q X Xe hX hs =>
  ha _ _ Xe hX (hb _ _ Xe hX ((sat_bind.mp hs).imp fun y hs => i_mul (.inl (.inl h)) hs))
theorem re_modCO {A : Out Int} (k : Int) (ha : RE G wa env env1 m1 eI A) (hb : RE G wb env1 env2 m2 eI (.ok k)) (h : 0 < k := by decide) : RE G (wBin woMod wa wb) env env2 mA eI (A.bind fun x => .ok (x % k)) := fun Q X Xe hX hs =>
  ha _ _ Xe hX ((sat_bind.mp hs).imp fun x hs => hb _ _ Xe hX (sat_ok.mpr (i_mod h hs)))
def wWs (w : WE) : WE := fun env Q X => w env (fun r e => (∃ m, r.m = .o m) ∧ Q ⟨r.d, mS⟩ e) X
theorem ve_ws {X : Cx} {c : Cn} {W : WX} {w : WE} {e : Expr} (h : PE X e (rdE c W w)) : PE X e (rdE c W (wWs w)) := PE.imp h fun σ H Q hh => by
  obtain ⟨env, L, Tm, Qv, X, S, q, kk, kx⟩ := hh
  refine ⟨env, L, Tm, _, X, S, q, fun r v l L' env' H' hq st hr => ?_, kx⟩
  obtain ⟨⟨m, hm⟩, hq⟩ := hq
  obtain ⟨d, m'⟩ := r
  cases hm
  refine kk _ v [] L' env' H' hq st.drop ?_
  have := Res.shared hr rfl st.sim fun b hb => hb
  rw [List.append_nil]
  exact .sh this
theorem re_ws {m : Option Nat} (h : RE G we env env1 (.o m) a A) : RE G (wWs we) env env1 mS a A := fun Q X Xe hX hs => h _ _ Xe hX (hs.imp fun x q => ⟨⟨m, rfl⟩, q⟩)
theorem rb_retI (h : RE G we env env1 md a A) (hb : isB md = false := by rfl) : RB G (wSeq (wRet we) u) env A (KT a md) := fun D Xe hX hs =>
  h _ _ Xe hX (hs.imp fun x hs => ⟨hb, hs _⟩)
theorem rb_retP' {x : α} (r : ρ) (h : RE G we env env1 md a (.ok x)) (hb : isB md = false := by rfl) (he : a x = e r := by rfl) : RB G (wSeq (wRet we) u) env (.ok r) (KT e md) := rb_retP r h hb he
theorem rb_retRP {x : α} (r : ρ) (h : RE G we env env1 md a (.ok x)) (hb : isB md = false := by rfl) (he : a x = e r := by rfl) : RB G (wSeq (wRet we) u) env (.ok (.ret r : Fl ρ σ)) (KR e md) := fun D Xe hX hs =>
  h _ _ Xe hX ⟨hb, by rw [he]; exact hs _⟩
theorem rb_ifP {p : Bool} (ht : RT G wt env (.ok p)) (h1 : RB G w env MA K) (h2 : RB G v env MB K) : RB G (wIf wt w v) env (if p = true then MA else MB) K := rb_if ht h1 h2
theorem rs_ifRP {p : Bool} (hK : ∀ b D n, K b D → KA b { D with nx := n }) (ht : RT G wt env (.ok p)) (h1 : RB G w env MA KA) (h2 : RB G u env MB K) : RB G (wSeq (wIf wt w wNext) u) env (if p = true then MA else MB) K := rs_ifR hK ht h1 h2
theorem rb_forP {g : Tg} {xs : List α} {F : σ → α → Out σ} (st : σ) (hi : RE G we env env1 m1 (eL a) (.ok xs)) (h0 : envLe (s st) env1) (ent : σ → α → VEnv)
    (hb : ∀ st x, RB G w (ent st x) (F st x) (KN s)) (hg : ∀ st x, ∃ rs, g.f (itemR mS (a x)) = some rs ∧ VL.putAll (s st) g.is rs = ent st x := by exact fun _ _ => ⟨_, rfl, rfl⟩) (hm : isB m1 = false := by rfl) :
    RB G (wFor g we w) env (forO F st xs) (KN s) := rb_for st hi h0 ent hb hg hm
theorem rb_forRP {n i : Nat} {f : τ → List R} {t : τ} (lo hi' : Int) {F : σ → Int → Out σ} (st : σ) (hi : RA G wl env env1 f (.ok t)) (hr : (f t).length = n ∧ rangeOf (f t) = some (lo, hi')) (h0 : envLe (s st) env1) (ent : σ → Int → VEnv)
    (hb : ∀ st x, RB G w (ent st x) (F st x) (KN s)) (hg : ∀ st x, (s st).set i (some (.int x, mA)) = ent st x := by exact fun _ _ => rfl) :
    RB G (wForR n i wl w) env ((lift (rgO lo hi')).bind fun xs => forO F st xs) (KN s) :=
  rb_forR (f := fun _ : Unit => f t) (T := .ok ()) (gl := fun _ => lo) (gh := fun _ => hi') st (fun Q X Xe hX h => hi Q X Xe hX h) (fun _ => hr) h0 ent hb hg
theorem rb_forRFP {n i : Nat} {f : τ → List R} {t : τ} (lo hi' : Int) {F : σ → Int → Out (Fl ρ σ)} (st : σ) (hi : RA G wl env env1 f (.ok t)) (hr : (f t).length = n ∧ rangeOf (f t) = some (lo, hi')) (h0 : envLe (s st) env1) (ent : σ → Int → VEnv)
    (hb : ∀ st x, RB G w (ent st x) (F st x) (KF e md s)) (hg : ∀ st x, (s st).set i (some (.int x, mA)) = ent st x := by exact fun _ _ => rfl) :
    RB G (wForR n i wl w) env ((lift (rgO lo hi')).bind fun xs => forF F st xs) (KF e md s) :=
  rb_forRF (f := fun _ : Unit => f t) (T := .ok ()) (gl := fun _ => lo) (gh := fun _ => hi') st (fun Q X Xe hX h => hi Q X Xe hX h) (fun _ => hr) h0 ent hb hg
def enumF (xs : List α) : List (Int × α) := xs.zipIdx.map fun p => ((p.2 : Int), p.1)
theorem rb_forEP {g : Tg} {xs : List α} {F : σ → Int × α → Out σ} (st : σ) (hi : RE G we env env1 m1 (eL a) (.ok xs)) (h0 : envLe (s st) env1) (ent : σ → Int × α → VEnv)
    (hb : ∀ st x, RB G w (ent st x) (F st x) (KN s)) (hg : ∀ st x, ∃ rs, g.f ⟨.tuple [.int x.1, a x.2], mS⟩ = some rs ∧ VL.putAll (s st) g.is rs = ent st x := by exact fun _ _ => ⟨_, rfl, rfl⟩) (hm : isB m1 = false := by rfl) :
    RB G (wFor_enumerate g (wCons we wNil) w) env (forO F st (enumF xs)) (KN s) := rb_forE (wl := wNil) st hi h0 ent hb hg hm
theorem rb_forEFP {g : Tg} {xs : List α} {F : σ → Int × α → Out (Fl ρ σ)} (st : σ) (hi : RE G we env env1 m1 (eL a) (.ok xs)) (h0 : envLe (s st) env1) (ent : σ → Int × α → VEnv)
    (hb : ∀ st x, RB G w (ent st x) (F st x) (KF e md s)) (hg : ∀ st x, ∃ rs, g.f ⟨.tuple [.int x.1, a x.2], mS⟩ = some rs ∧ VL.putAll (s st) g.is rs = ent st x := by exact fun _ _ => ⟨_, rfl, rfl⟩) (hm : isB m1 = false := by rfl) :
    RB G (wFor_enumerate g (wCons we wNil) w) env (forF F st (enumF xs)) (KF e md s) := fun D Xe hX hs =>
  hi _ _ Xe hX (sat_ok.mpr (by
    refine ⟨_, xs.map a, rfl, rfl, hm, fun k e' => ∃ V, e' = s V ∧ Sat (forF F V ((enumF xs).drop k)) (fun b => KF e md s b D) Xe, s st, h0, ⟨st, rfl, by rw [List.drop_zero]; exact hs⟩, fun k d e' hd hJ => ?_, fun e' hJ => ?_⟩
    · obtain ⟨V, rfl, hs⟩ := hJ
      rw [List.getElem?_map] at hd
      obtain ⟨x, hx, rfl⟩ := Option.map_eq_some_iff.mp hd
      obtain ⟨rs, h1, h2⟩ := hg V ((k : Int), x)
      refine ⟨rs, h1, ?_⟩
      rw [h2]
      have hz : (enumF xs)[k]? = some ((k : Int), x) := by
        unfold enumF
        rw [List.getElem?_map, List.getElem?_zipIdx, hx]; simp
      rw [drop_cons hz] at hs
      refine hb V _ { D with nx := fun e2 => _ } Xe hX ((sat_bind.mp hs).imp fun V' hs => ?_)
      cases V' with
      | ret r => exact hs
      | nxt V' => exact fun e le => ⟨s V', le, V', rfl, hs⟩
    · obtain ⟨V, rfl, hs⟩ := hJ
      have hl : (xs.map a).length = (enumF xs).length := by simp [enumF]
      rw [hl, List.drop_length] at hs
      exact hs _ (envLe.refl _)))
theorem re_lcP {γ : Type} {c : Enc γ} {g : Tg} {vs : List Nat} {tt : WT} {wl : WE} (km : Option Nat) (md : Md) {ent : α → VEnv} {P : α → Out Bool} {F : α → Out γ} {xs : List α}
    (hi : RE G wa env env1 m1 (eL a) (.ok xs)) (hg : ∀ x, ∃ rs, g.f (itemR m1 (a x)) = some rs ∧ VL.putAll (wipeE (bEnv env1) vs) g.is rs = ent x)
    (hp : ∀ x, RT (fun _ => True) tt (ent x) (P x)) (hf : ∀ x, ∃ e', RE (fun _ => True) wl (ent x) e' md c (F x)) (hk : KidE c md km) :
    RE G (wLc vs g wa tt wl) env env1 (.o (succM km)) (eL c) (fmapL (fun x => noX (P x)) (fun x => noX (F x)) xs) := re_lc hi hg hp hf hk
theorem re_lc1M {γ : Type} {c : Enc γ} {g : Tg} {vs : List Nat} {wl : WE} (km : Option Nat) (md : Md) {ent : α → VEnv} {F : α → Out γ} {Xs : Out (List α)}
    (hi : RE G wa env env1 m1 (eL a) Xs) (hg : ∀ x, ∃ rs, g.f (itemR m1 (a x)) = some rs ∧ VL.putAll (wipeE (bEnv env1) vs) g.is rs = ent x)
    (hf : ∀ x, ∃ e', RE (fun _ => True) wl (ent x) e' md c (F x)) (hk : KidE c md km) :
    RE G (wLc vs g wa wYes wl) env env1 (.o (succM km)) (eL c) (Xs.bind (mapL fun x => noX (F x))) := re_lc1 hi hg hf hk
theorem re_lcRP {γ : Type} {c : Enc γ} {n i : Nat} {wl : WA} {vs : List Nat} {tt : WT} {we : WE} (km : Option Nat) (md : Md) (lo hi' : Int) {ent : Int → VEnv} {P : Int → Out Bool} {F : Int → Out γ} {f : τ → List R} {t : τ}
    (hi : RA G wl env env1 f (.ok t)) (hr : (f t).length = n ∧ rangeOf (f t) = some (lo, hi')) (hg : ∀ x, (wipeE (bEnv env1) vs).set i (some (.int x, mA)) = ent x)
    (hp : ∀ x, RT (fun _ => True) tt (ent x) (P x)) (hf : ∀ x, ∃ e', RE (fun _ => True) we (ent x) e' md c (F x)) (hk : KidE c md km) :
    RE G (wLcR n vs i wl tt we) env env1 (.o (succM km)) (eL c) ((lift (rgO lo hi')).bind (fmapL (fun x => noX (P x)) (fun x => noX (F x)))) :=
  re_lcR (f := fun _ : Unit => f t) (T := .ok ()) (gl := fun _ => lo) (gh := fun _ => hi') (fun Q X Xe hX h => hi Q X Xe hX h) (fun _ => hr) hg hp hf hk
theorem re_lcR1P {γ : Type} {c : Enc γ} {n i : Nat} {wl : WA} {vs : List Nat} {we : WE} (km : Option Nat) (md : Md) (lo hi' : Int) {ent : Int → VEnv} {F : Int → Out γ} {f : τ → List R} {t : τ}
    (hi : RA G wl env env1 f (.ok t)) (hr : (f t).length = n ∧ rangeOf (f t) = some (lo, hi')) (hg : ∀ x, (wipeE (bEnv env1) vs).set i (some (.int x, mA)) = ent x)
    (hf : ∀ x, ∃ e', RE (fun _ => True) we (ent x) e' md c (F x)) (hk : KidE c md km) :
    RE G (wLcR n vs i wl wYes we) env env1 (.o (succM km)) (eL c) ((lift (rgO lo hi')).bind (mapL fun x => noX (F x))) :=
  re_lcR1 (f := fun _ : Unit => f t) (T := .ok ()) (gl := fun _ => lo) (gh := fun _ => hi') (fun Q X Xe hX h => hi Q X Xe hX h) (fun _ => hr) hg hf hk
end
section
variable {α β σ ρ : Type} {X : Exn → Prop}
theorem sat_forO {f : σ → α → Out σ} {xs : List α} {s0 : σ} {Q : σ → Prop} (Inv : Nat → σ → Prop) (h0 : Inv 0 s0) (step : ∀ k s x, xs[k]? = some x → Inv k s → Sat (f s x) (Inv (k + 1)) X) (last : ∀ s, Inv xs.length s → Q s) : Sat (forO f s0 xs) Q X := by
  induction xs generalizing s0 Inv with
  | nil => exact last _ h0
  | cons x xs ih =>
    unfold forO
    refine sat_bind.mpr ((step 0 s0 x rfl h0).imp fun s h => ?_)
    exact ih (fun k => Inv (k + 1)) h (fun k s y hy hi => step (k + 1) s y (by simpa using hy) hi) fun s h => last s h
theorem sat_forF {f : σ → α → Out (Fl ρ σ)} {xs : List α} {s0 : σ} {Q : Fl ρ σ → Prop} (Inv : Nat → σ → Prop) (h0 : Inv 0 s0) (step : ∀ k s x, xs[k]? = some x → Inv k s → Sat (f s x) (fun | .ret r => Q (.ret r) | .nxt s => Inv (k + 1) s) X) (last : ∀ s, Inv xs.length s → Q (.nxt s)) : Sat (forF f s0 xs) Q X := by
  induction xs generalizing s0 Inv with
  | nil => exact last _ h0
  | cons x xs ih =>
    unfold forF
    refine sat_bind.mpr ((step 0 s0 x rfl h0).imp fun s h => ?_)
    cases s with
    | ret r => exact h
    | nxt s => exact ih (fun k => Inv (k + 1)) h (fun k s y hy hi => step (k + 1) s y (by simpa using hy) hi) fun s h => last s h
theorem sat_whileO {c : σ → Out Bool} {f : σ → Out σ} {Q : σ → Prop} (Inv : σ → Prop) (μ : σ → Nat) : ∀ {n : Nat} {s0 : σ}, μ s0 < n → Inv s0 → (∀ s, Inv s → Sat (c s) (fun b => if b = true then Sat (f s) (fun s' => Inv s' ∧ μ s' < μ s) X else Q s) X) → Sat (whileO c f n s0) Q X
  | 0, _, h, _, _ => absurd h (Nat.not_lt_zero _)
  | n + 1, s0, h, hi, step => by
    unfold whileO
    refine sat_bind.mpr ((step s0 hi).imp fun b hb => ?_)
    cases b
    · exact hb
    · rw [if_pos rfl] at hb ⊢
      exact sat_bind.mpr (hb.imp fun s' ⟨h1, h2⟩ => sat_whileO Inv μ (by omega) h1 step)
theorem sat_whileF {c : σ → Out Bool} {f : σ → Out (Fl ρ σ)} {Q : Fl ρ σ → Prop} (Inv : σ → Prop) (μ : σ → Nat) : ∀ {n : Nat} {s0 : σ}, μ s0 < n → Inv s0 → (∀ s, Inv s → Sat (c s) (fun b => if b = true then Sat (f s) (fun | .ret r => Q (.ret r) | .nxt s' => Inv s' ∧ μ s' < μ s) X else Q (.nxt s)) X) → Sat (whileF c f n s0) Q X
  | 0, _, h, _, _ => absurd h (Nat.not_lt_zero _)
  | n + 1, s0, h, hi, step => by
    unfold whileF
    refine sat_bind.mpr ((step s0 hi).imp fun b hb => ?_)
    cases b
    · exact hb
    · rw [if_pos rfl] at hb ⊢
      refine sat_bind.mpr (hb.imp fun s' h => ?_)
      cases s' with
      | ret r => exact h
      | nxt s' => exact sat_whileF Inv μ (by omega) h.1 step
theorem forO_ok {f : σ → α → Out σ} {g : σ → α → σ} {xs : List α} (s0 : σ) (h : ∀ s, ∀ x ∈ xs, f s x = .ok (g s x)) : forO f s0 xs = .ok (xs.foldl g s0) := by
  induction xs generalizing s0 with
  | nil => rfl
  | cons x xs ih =>
    unfold forO
    rw [h s0 x List.mem_cons_self]
    exact ih _ fun s y hy => h s y (List.mem_cons_of_mem _ hy)
theorem mapO_ok {f : α → Out β} {g : α → β} {xs : List α} (h : ∀ x ∈ xs, f x = .ok (g x)) : mapO f xs = .ok (xs.map g) := by
  induction xs with
  | nil => rfl
  | cons x xs ih =>
    unfold mapO
    rw [h x List.mem_cons_self, ih fun y hy => h y (List.mem_cons_of_mem _ hy)]; rfl
theorem mapL_ok {f : α → Out β} {g : α → β} {xs : List α} (hl : xs.length ≤ 1000000) (h : ∀ x ∈ xs, f x = .ok (g x)) : mapL f xs = .ok (xs.map g) := by
  unfold mapL; rw [if_pos hl]; exact mapO_ok h
theorem fmapO_ok {p : α → Out Bool} {f : α → Out β} {q : α → Bool} {g : α → β} {xs : List α} (hp : ∀ x ∈ xs, p x = .ok (q x)) (h : ∀ x ∈ xs, q x = true → f x = .ok (g x)) : fmapO p f xs = .ok ((xs.filter q).map g) := by
  induction xs with
  | nil => rfl
  | cons x xs ih =>
    unfold fmapO
    rw [hp x List.mem_cons_self, ih (fun y hy => hp y (List.mem_cons_of_mem _ hy)) fun y hy => h y (List.mem_cons_of_mem _ hy)]
    by_cases e : q x = true
    · simp [e, h x List.mem_cons_self e]
    · simp [e]
theorem fmapL_ok {p : α → Out Bool} {f : α → Out β} {q : α → Bool} {g : α → β} {xs : List α} (hl : xs.length ≤ 1000000) (hp : ∀ x ∈ xs, p x = .ok (q x)) (h : ∀ x ∈ xs, q x = true → f x = .ok (g x)) : fmapL p f xs = .ok ((xs.filter q).map g) := by
  unfold fmapL; rw [if_pos hl]; exact fmapO_ok hp h
theorem fmapL_pure {q : α → Bool} {g : α → β} {xs : List α} (hl : xs.length ≤ 1000000) : fmapL (fun x => .ok (q x)) (fun x => .ok (g x)) xs = .ok ((xs.filter q).map g) := fmapL_ok hl (fun _ _ => rfl) fun _ _ _ => rfl
theorem appO_ok {xs : List α} {v : α} (h : xs.length < 1000000) : appO xs v = some (xs ++ [v]) := by unfold appO; exact if_pos h
theorem catO_ok {xs ys : List α} (h : xs.length + ys.length ≤ 1000000) : catO xs ys = some (xs ++ ys) := by unfold catO; exact if_pos h
theorem rgO_ok {lo hi : Int} (h : -(2 ^ 62) ≤ lo ∧ lo < 2 ^ 62 ∧ -(2 ^ 62) ≤ hi ∧ hi < 2 ^ 62) : rgO lo hi = some (rg lo hi) := by unfold rgO; exact if_pos h
theorem modO_ok {x y : Int} (h : 0 < y) : modO x y = some (x % y) := by unfold modO; exact if_pos h
theorem mulO_ok {x y : Int} (h : CMul x y ∨ CMulW x y) : mulO x y = some (x * y) := by unfold mulO; exact if_pos h
theorem fdO_ok {x y : Int} (h : CDiv x y ∨ CDivW x y) : fdO x y = some (x / y) := by unfold fdO; exact if_pos h
theorem powO_ok {x y : Int} (h : 0 ≤ y ∧ y ≤ 1000000 ∧ x.natAbs < 2 ^ 64) : powO x y = some (x ^ y.toNat) := by unfold powO; exact if_pos h
theorem repO_ok {xs : List α} {k : Int} (h0 : -(2 ^ 63) ≤ k) (h1 : k < 2 ^ 63) (h : xs.length * k.toNat ≤ 1000000) : repO xs k = some (List.replicate k.toNat xs).flatten := by unfold repO; exact if_pos ⟨h0, h1, h⟩
theorem rep1_ok {x : α} {k : Int} (h0 : 0 ≤ k) (h1 : k ≤ 1000000) : repO [x] k = some (List.replicate k.toNat x) := by
  rw [repO_ok (by omega) (by omega) (by simp; omega)]
  simp
theorem atI_nat {xs : List α} {k : Nat} {x : α} (h : xs[k]? = some x) : atI xs (k : Int) = some x := atI_nat' h
theorem atI_get {xs : List α} {i : Int} (h0 : 0 ≤ i) (h1 : i < xs.length) : atI xs i = some (xs[i.toNat]'(by omega)) := atI_pos h0 (List.getElem?_eq_getElem (by omega))
theorem ixN_nn {n : Nat} {i : Int} (h0 : 0 ≤ i) (h1 : i < n) : ixN n i = some i.toNat := by
  unfold ixN
  rw [if_pos h0, if_pos (by omega)]
theorem setO_ok {xs : List α} {i : Int} {v : α} (h0 : 0 ≤ i) (h1 : i < xs.length) : setO xs i v = some (xs.set i.toNat v) := by
  unfold setO; rw [ixN_nn h0 h1]; rfl
theorem rg_nat (n : Nat) : rg 0 (n : Int) = (List.range n).map fun k : Nat => (k : Int) := by
  unfold rg; simp
theorem mem_rg {lo hi x : Int} : x ∈ rg lo hi ↔ lo ≤ x ∧ x < hi := by
  unfold rg
  rw [List.mem_map]
  constructor
  · rintro ⟨k, hk, rfl⟩
    rw [List.mem_range] at hk
    omega
  · intro h
    exact ⟨(x - lo).toNat, by rw [List.mem_range]; omega, by omega⟩
end
end VL
set_option maxRecDepth 100000
set_option maxHeartbeats 4000000
namespace VL
open PySem PySem.Spec PyProof.Rows L2
section
variable {X : Cx} {c : Cn} {W : WX} {pos px ppx apx cpx pos2 p3 : Pos} {wp : WP} {o : Expr} {tx : Str} {z : Int} {j3 : _}
end
section
variable {α β γ δ σ ρ τ : Type} {G : EG} {env env1 env2 env3 : VEnv} {md m1 m2 m3 : Md} {a : Enc σ} {b : Enc β} {c : Enc γ} {wi we : WE} {wp : WP} {w u v : WS} {K : δ → DV → Prop}
end
section
variable {α β γ σ ρ τ : Type} {G : EG} {env env1 : VEnv} {md m1 m2 : Md} {a : Enc α} {b : Enc β} {we : WE} {A : Out α}
theorem re_someP {x : Option α} (h : RE G we env env1 md (eO a) (.ok x)) : RE G we env env1 md a (lift x) := fun Q X Xe hX hs =>
  h _ _ Xe hX (sat_ok.mpr (by
    obtain ⟨y, rfl, hy⟩ := sat_lift.mp hs
    exact hy))
theorem isNon_O (h : ∀ x, isNon (a x) = false) (x : Option α) : isNon (eO a x) = x.isNone := by
  cases x with
  | none => rfl
  | some x => exact h x
theorem xo_notNO (h : ∀ x, isNon (a x) = false) : OpP woNotN (eO a) m1 eN m2 (fun x _ => !x.isNone) eB mA := fun x y Q q => i_notN (by rw [isNon_O h]; exact q)
end
end VL
set_option maxRecDepth 100000
set_option maxHeartbeats 4000000
namespace VL
open PySem PySem.Spec PyProof.Rows L2
section
variable {prog : Program} {w : World} {A : Around} {E : Value → Shared → Prop} {s : Shared}
end
section
variable {X : Cx} {pos : Pos}
end
section
variable {α β γ δ σ ρ τ : Type} {G : EG} {env env1 env2 env3 : VEnv} {md m1 m2 m3 : Md} {a : Enc α} {we : WE} {w u v : WS} {K : δ → DV → Prop} {A : Out (List α)}
end
end VL
set_option maxRecDepth 100000
set_option maxHeartbeats 4000000
namespace VL
open PySem PySem.Spec PyProof.Rows L2
section
variable {α β γ : Type} [DecidableEq α] {a : Enc α} {n : Nat} {m1 m2 : Md}
end
end VL
set_option maxRecDepth 100000
set_option maxHeartbeats 4000000
namespace VL
open PySem PySem.Spec PyProof.Rows L2
open PySem.W (HoldAll maxOf minOf max_tuple_datum min_tuple_datum Datum DatumOrd)
def max3I (i j k : Int) : Int := if (if j > i then j else i) < k then k else (if j > i then j else i)
section
variable {X : Cx} {c : Cn} {W : WX} {pos p p2 p3 : Pos} {wa : WA} {e e' e2 : Expr} {we : WE}
end
section
variable {α β γ σ ρ τ : Type} {G : EG} {env env1 env2 env3 : VEnv} {md m1 m2 m3 : Md} {a : Enc α} {b : Enc β} {wa wb we : WE}
variable [DecidableEq α] {n : Nat}
end
end VL
set_option maxRecDepth 100000
set_option maxHeartbeats 4000000
namespace VL
open PySem PySem.Spec PyProof.Rows L2
section
variable {α β γ σ ρ τ : Type} {G : EG} {env env1 env2 env3 : VEnv} {md m1 m2 m3 : Md} {a : Enc α} {b : Enc β} {wl : WA} {we : WE}
end
end VL
set_option maxRecDepth 100000
set_option maxHeartbeats 4000000
namespace VL
open PySem PySem.Spec PyProof.Rows L2
theorem IntsAre.at {us : List Value} {ns : List Int} (h : IntsAre us ns) : ∀ j (h1 : j < us.length), ∃ t, us[j] = .int (ns.getD j 0) t := by
  induction h with
  | nil => intro j h1; simp at h1
  | cons a t h ih =>
    intro j h1
    cases j with
    | zero => exact ⟨t, rfl⟩
    | succ j => simpa using ih j (by simpa using h1)
section
variable {α β : Type} {a : Enc α} {b : Enc β} {m1 m2 : Md}
end
section
variable {β : Type} {G : EG} {w u : WS} {env : VEnv} {m : Out β} {K : β → DV → Prop}
end
end VL
set_option maxRecDepth 100000
set_option maxHeartbeats 4000000
namespace VL
open PySem PySem.Spec PyProof.Rows L2
abbrev FSpecM := List D → (R → D → Prop) → (Exn → Prop) → Prop
def Fr (l : List Addr) (H H' : Hp) : Prop := ∀ b o, H b = some o → b ∉ l → H' b = some o
abbrev cnM (K : PySem.W.Frag) (cl : Str → Option Addr) (P0 : Addr → Prop) (H : Hp) (l : List Addr) (j : Nat) (v : V) : Cn := ⟨K, P0, H, l, cl, [], [(j, v)]⟩
def spOfM (K : PySem.W.Frag) (cl : Str → Option Addr) (j : Nat) (S : FSpecM) : Sp := fun vs H Q E => ∃ ds P0 l v d Qv X, vs.length = ds.length ∧ vs[j]? = some v ∧ ds[j]? = some d ∧ RO K (fun _ => False) H none v d l ∧ l.Nodup ∧
  (∀ (i : Nat) w e, i ≠ j → vs[i]? = some w → ds[i]? = some e → RS K (fun b => P0 b ∧ b ∉ l) H w e) ∧ S ds Qv X ∧
  (∀ r w lr d' l' H', Qv r d' → Fr l H H' → (l' ++ lr).Nodup → (∀ b ∈ l' ++ lr, (H b = none ∨ b ∈ l) ∧ ∃ o, H' b = some o) → RO K (fun _ => False) H' none v d' l' → Res (cnM K cl P0 H l j v) (l' ++ lr) H' r w lr → Q w H') ∧
  (∀ ex cls dd H', X ex → Fr l H H' → ExR (cnM K cl P0 H l j v) H' ex cls dd → E cls dd H')
structure DefM (P : Program) (w : World) (K : PySem.W.Frag) (mg : Str → Option Value) (base : Heap) (cl : Str → Option Addr) (x : Str) (n j : Nat) (S : FSpecM) (k : Nat) : Prop where
  ex : ∃ (f : Addr) (fd : FuncData) (ps : List Str), ps.length = n ∧ FnOk P w K mg base (L2.CX P w) k f fd ps (spOfM K cl j S) ∧ mg x = some (.ref f) ∧ PySem.W.keepIn K (.ref f) = true ∧ Binds K fd ps []
def startEM (N : List Str) (ds : List D) (j : Nat) : VEnv := (startE N ds).set j (some ((ds[j]?).getD .none, mA))
section
variable {c : Cn} {T : List Addr} {H : Hp}
def SlotOk (c : Cn) (T : List Addr) (H : Hp) : Option (D × Md) → Option V → List Addr → Prop
  | none, _, l => l = []
  | some (d, .b), x, l => ∃ v, x = some v ∧ RS c.K (fun _ => True) H v d ∧ l = []
  | some (d, .o m), x, l => ∃ v, x = some v ∧ RO c.K (AT c.B T) H m v d l
theorem slots_of : ∀ {env : VEnv} {σ : Sg} {L : List (List Addr)}, env.length = σ.length → env.length = L.length → (∀ (i : Nat) s x l, env[i]? = some s → σ[i]? = some x → L[i]? = some l → SlotOk c T H s x l) → Slots c T H env σ L
  | [], [], [], _, _, _ => .nil
  | [], _ :: _, _, h, _, _ => by cases h
  | [], [], _ :: _, _, h, _ => by cases h
  | _ :: _, [], _, h, _, _ => by cases h
  | _ :: _, _ :: _, [], _, h, _ => by cases h
  | s :: env, x :: σ, l :: L, h1, h2, h => by
    have ih := slots_of (env := env) (σ := σ) (L := L) (by simpa using h1) (by simpa using h2) fun i s x l a b d => h (i + 1) s x l (by simpa using a) (by simpa using b) (by simpa using d)
    have h0 := h 0 s x l rfl rfl rfl
    match s, h0 with
    | none, h0 => cases h0; exact .non ih
    | some (d, .b), ⟨v, e, r, e2⟩ => subst e; subst e2; exact .bor r ih
    | some (d, .o m), ⟨v, e, r⟩ => subst e; exact .own r ih
theorem flat_set1 {n j : Nat} {l : List Addr} (h : j < n) : ((List.replicate n ([] : List Addr)).set j l).flatten = l := by
  induction n generalizing j with
  | zero => omega
  | succ n ih =>
    cases j with
    | zero =>
      rw [List.replicate_succ, List.set_cons_zero, List.flatten_cons]
      have : ∀ n : Nat, (List.replicate n ([] : List Addr)).flatten = [] := by
        intro n
        induction n with
        | zero => rfl
        | succ n ih => rw [List.replicate_succ, List.flatten_cons, ih]; rfl
      rw [this, List.append_nil]
    | succ j => rw [List.replicate_succ, List.set_cons_succ, List.flatten_cons, ih (by omega)]; rfl
end
theorem start_simM {K : PySem.W.Frag} {cl : Str → Option Addr} {P0 : Addr → Prop} {H : Hp} {l : List Addr} {v : V} {d : D} {vs : List V} {ds : List D} {N : List Str} {j : Nat} (hl : vs.length = ds.length) (hN : ds.length ≤ N.length) (hv : vs[j]? = some v) (hd : ds[j]? = some d) (r : RO K (fun _ => False) H none v d l) (nd : l.Nodup)
    (rs : ∀ (i : Nat) w e, i ≠ j → vs[i]? = some w → ds[i]? = some e → RS K (fun b => P0 b ∧ b ∉ l) H w e) : ∃ L, Sim (cnM K cl P0 H l j v) L [] (startEM N ds j) (L2.start N vs) H := by
  have hj : j < ds.length := (List.getElem?_eq_some_iff.mp hd).1
  have el : (startE N ds).length = N.length := by unfold startE; rw [List.length_append, List.length_map, List.length_replicate]; omega
  have es : (L2.start N vs).length = N.length := by unfold L2.start; rw [List.length_append, List.length_map, List.length_replicate]; omega
  have fl := flat_set1 (l := l) (show j < N.length by omega)
  refine ⟨(List.replicate N.length []).set j l, ?_, by rw [fl, List.append_nil]; exact nd, fun a ha => ?_, fun b o e _ => e, (fun p hp => by cases hp), fun p hp => ?_⟩
  · rw [fl, List.append_nil]
    refine slots_of (by unfold startEM; rw [List.length_set, el, es]) (by unfold startEM; rw [List.length_set, List.length_set, el, List.length_replicate]) fun i s x li h1 h2 h3 => ?_
    unfold startEM at h1
    by_cases e : i = j
    · subst e
      rw [List.getElem?_set_self (by omega), hd, Option.some.injEq] at h1
      rw [List.getElem?_set_self (by rw [List.length_replicate]; omega), Option.some.injEq] at h3
      have h4 : (L2.start N vs)[i]? = some (some v) := by
        unfold L2.start
        rw [List.getElem?_append_left (by rw [List.length_map]; omega), List.getElem?_map, hv]; rfl
      rw [h4, Option.some.injEq] at h2
      subst h1; subst h2; subst h3
      exact ⟨v, rfl, RO.all rfl r⟩
    · rw [List.getElem?_set_ne (fun z => e z.symm)] at h1
      rw [List.getElem?_set_ne (fun z => e z.symm), List.getElem?_replicate] at h3
      have e3 : li = [] := by
        split at h3
        · cases h3; rfl
        · cases h3
      subst e3
      unfold startE at h1
      by_cases hi : i < ds.length
      · rw [List.getElem?_append_left (by rw [List.length_map]; exact hi), List.getElem?_map, List.getElem?_eq_getElem hi] at h1
        have h4 : (L2.start N vs)[i]? = some (some (vs[i]'(by omega))) := by
          unfold L2.start
          rw [List.getElem?_append_left (by rw [List.length_map]; omega), List.getElem?_map, List.getElem?_eq_getElem (by omega)]; rfl
        rw [h4, Option.some.injEq] at h2
        have q := rs i _ _ e (List.getElem?_eq_getElem (by omega)) (List.getElem?_eq_getElem hi)
        simp only [Option.map_some, Option.some.injEq] at h1
        subst h1; subst h2
        unfold argS
        by_cases f : flatD ds[i] = true
        · rw [if_pos f]; exact ⟨_, rfl, .flat (q.flat f) f⟩
        · rw [if_neg f]; exact ⟨_, rfl, .sh (q.mono fun b o a _ => ⟨.inl a.1, a.2⟩)⟩
      · rw [List.getElem?_append_right (by rw [List.length_map]; omega), List.getElem?_replicate] at h1
        split at h1
        · cases h1; rfl
        · cases h1
  · rw [fl, List.append_nil] at ha
    obtain ⟨o, e, _⟩ := RO.there r a ha
    exact ⟨.inr ha, o, e⟩
  · have hp : p ∈ [(j, v)] := hp
    rw [List.mem_singleton.mp hp]
    show (L2.start N vs)[j]? = _
    unfold L2.start
    rw [List.getElem?_append_left (by rw [List.length_map]; omega), List.getElem?_map, hv]; rfl
section
variable {P : Program} {w : World} {K : PySem.W.Frag} {mg : Str → Option Value} {base : Heap} {cl : Str → Option Addr} {h : Heap}
theorem def_okM {x : Str} {st : Stmt} {f : Addr} {fd : FuncData} {N ps : List Str} {k j : Nat} {wf : WS} {S : FSpecM} (F : Fun K x x st f fd) (sc : FnScope N ps (defScope st)) (hN : ps.length ≤ N.length)
    (body : ∀ (cdv : Value) (A : Around) (outer : List Env) (s : Shared) (H : Hp) (E : XK) (P0 : Addr → Prop) (l : List Addr) (v : V), Room k (cxV P w K mg base N x st f cdv A outer s H E).A → PSs (cxV P w K mg base N x st f cdv A outer s H E) (defBody st) (rdS (cnM K cl P0 H l j v) (WXE E) wf))
    (spec : ∀ ds Qv Xv, S ds Qv Xv → ds.length = ps.length ∧ wf (startEM N ds j) ⟨fun e => ∃ d, e[j]? = some (some (d, mA)) ∧ Qv ⟨.none, mA⟩ d, fun r e => ∃ d, e[j]? = some (some (d, mA)) ∧ Qv r d, fun ex _ => Xv ex⟩) : FnOk P w K mg base (L2.CX P w) (k + 1) f fd ps (spOfM K cl j S) := by
  refine F.okX sc (fun vs H Q E h => ?_) (fun cdv A outer s H vs Q E hr h => ?_)
  · obtain ⟨ds, P0, l, v, d, Qv, X, hl, _, _, _, _, _, hs, _⟩ := h
    rw [hl, (spec _ _ _ hs).1]
  · obtain ⟨ds, P0, l, v, d, Qv, X, hl, hv, hd, r, nd, rs, hs, hq, hx⟩ := h
    refine ⟨_, body cdv A outer s H E P0 l v hr, ?_⟩
    obtain ⟨L, S0⟩ := start_simM (cl := cl) (N := N) hl (by rw [(spec _ _ _ hs).1]; exact hN) hv hd r nd rs
    have fin : ∀ {L' : List (List Addr)} {Tm : List Addr} {env' : VEnv} {σ' : Sg} {H' : Hp} {d' : D}, Sim (cnM K cl P0 H l j v) L' Tm env' σ' H' → env'[j]? = some (some (d', mA)) → ∃ l', L'[j]? = some l' ∧ RO K (fun _ => False) H' none v d' l' := fun S' e => by
      obtain ⟨v', l', h1, h2, h3⟩ := S'.sl.get e
      have h4 := S'.pin (j, v) (List.mem_singleton.mpr rfl)
      rw [h1] at h4
      cases h4
      exact ⟨l', h2, RO.all rfl h3.dep⟩
    refine ⟨_, L, _, S0, (spec _ _ _ hs).2, fun env' L' σ' H' ⟨d', e1, h1⟩ S' => ?_, fun r v' lr H' e9 ⟨d', e1, h1⟩ rr => ?_, fun ex env' L' σ' H' cls d h1 S' he => ?_⟩
    · obtain ⟨l', g1, g2⟩ := fin S' e1
      have sub : ∀ b ∈ l', b ∈ L'.flatten := fun b hb => mem_flatten_of g1 hb
      refine hq ⟨.none, mA⟩ .non [] d' l' H' h1 (fun b o e n => S'.fr b o e n) ?_ (fun b hb => ?_) g2 (Res.flat (A := fun _ => True) .non rfl)
      · rw [List.append_nil]
        have := (List.nodup_append.mp S'.nd).1
        exact (List.sublist_flatten_of_mem (List.mem_of_getElem? g1)).nodup this
      · rw [List.append_nil] at hb
        exact S'.own b (List.mem_append_left _ (sub b hb))
    · obtain ⟨L', σ', S', hr'⟩ := rr.sim
      obtain ⟨l', g1, g2⟩ := fin S' e1
      have sub : ∀ b ∈ l', b ∈ L'.flatten := fun b hb => mem_flatten_of g1 hb
      refine hq r v' lr d' l' H' h1 (fun b o e n => rr.fr b o e n) ?_ (fun b hb => ?_) g2 (hr'.keep (Same.refl _) fun b hb => .inl ?_)
      · exact ((List.sublist_flatten_of_mem (List.mem_of_getElem? g1)).append (List.Sublist.refl _)).nodup S'.nd
      · exact S'.own b ((List.mem_append.mp hb).elim (fun z => List.mem_append_left _ (sub b z)) fun z => List.mem_append_right _ z)
      · exact (List.mem_append.mp hb).elim (fun z => List.mem_append_left _ (sub b z)) fun z => List.mem_append_right _ z
    · exact hx ex cls d H' h1 (fun b o e n => S'.fr b o e n) he
theorem def_atM {x : Str} {st : Stmt} {N ps : List Str} {k j : Nat} {wf : WS} {S : FSpecM} (X : K.In h) (G : h.Ns mainGlobals mg) (a : FnAt K x st) (sc : FnScope N ps (defScope st)) (hN : ps.length ≤ N.length)
    (hb : ∀ (kV doc pm : Value) (an : Option Addr) (cdv ct : Value) (us : List Value), us.length = ps.length → bindArgs (PySem.W.fnOf x x (defArgs st) (defBody st) (defScope st) .none kV doc pm an cdv ct) ⟨us, []⟩ = pure (ps.zip us))
    (body : ∀ (f : Addr) (cdv : Value) (A : Around) (outer : List Env) (s : Shared) (H : Hp) (E : XK) (P0 : Addr → Prop) (l : List Addr) (v : V), Room k (cxV P w K mg base N x st f cdv A outer s H E).A → PSs (cxV P w K mg base N x st f cdv A outer s H E) (defBody st) (rdS (cnM K cl P0 H l j v) (WXE E) wf))
    (spec : ∀ ds Qv Xv, S ds Qv Xv → ds.length = ps.length ∧ wf (startEM N ds j) ⟨fun e => ∃ d, e[j]? = some (some (d, mA)) ∧ Qv ⟨.none, mA⟩ d, fun r e => ∃ d, e[j]? = some (some (d, mA)) ∧ Qv r d, fun ex _ => Xv ex⟩) : DefM P w K mg base cl x ps.length j S (k + 1) := by
  obtain ⟨f, oc, od, an, osl, kV, doc, pm, cdv, ct, e1, e2, e3, e4⟩ := a
  have F := fun_mk (st := st) e2 e3 e4
  exact ⟨f, _, ps, rfl, def_okM F sc hN (body f) spec, PySem.W.mg_of X G e1, e4, F.binds (ps := ps) hb⟩
end
def rdAM (c : Cn) (W : WX) (j i : Nat) (w : WA) : TA := fun σ H Q => ∃ env L Tm Qv X, Sim c L Tm env σ H ∧ w env Qv X ∧
  (∀ rs vs l L' env' H', Qv rs env' → (∃ v, vs[j]? = some v ∧ σ[i]? = some (some v)) → Step c H H' (L.flatten ++ Tm) Tm L' l env' σ → Ress c (L'.flatten ++ (Tm ++ l)) H' rs vs l → Q vs H') ∧ KontX c σ L Tm H X W
section
variable {X : Cx} {c : Cn} {W : WX} {pos : Pos} {w : WE} {wa : WA} {e : Expr} {es : List Expr}
theorem vam_here (i : Nat) {x : Str} (hr : PA X es (rdA c W wa)) (hN : X.N[i]? = some x := by rfl) (hv : Vis X.env.scope x := by first | exact Or.inl rfl | exact Or.inr (Or.inl rfl) | exact Or.inr (Or.inr rfl)) (hd : (x == ("__debug__" : Str)) = false := by decide)
    (hcd : (x == ("__classdict__" : Str)) = false := by decide) (hs : starEach (.Name x pos :: es) X.env = (false, eval (.Name x pos) X.env) :: starEach es X.env := by rfl) : PA X (.Name x pos :: es) (rdAM c W 0 i (wCons (wMv i) wa)) := PA.imp (pa_cons (pe_var hN hv hd hcd) hr hs) fun σ H Q h => by
  obtain ⟨env, L, Tm, Qv, X, S, ⟨d, m, e, q⟩, k, kx⟩ := h
  obtain ⟨v, l, hv0, hl, r⟩ := S.sl.get e
  refine ⟨v, hv0, ?_⟩
  by_cases f : flatD d = true
  · rw [if_pos f] at q
    exact ⟨env, L, Tm, _, X, S, q, fun rs vs lb L2 env2 H2 h2 st2 r2 => k (_ :: rs) (v :: vs) lb L2 env2 H2 h2 ⟨v, rfl, hv0⟩ st2 (.cons (l1 := []) ((Res.flat r.read f).keep st2.same st2.gr) r2), kx⟩
  · rw [if_neg f] at q
    cases m with
    | b => exact ⟨env, L, Tm, _, X, S, q, fun rs vs lb L2 env2 H2 h2 st2 r2 => k (_ :: rs) (v :: vs) lb L2 env2 H2 h2 ⟨v, rfl, hv0⟩ st2 (.cons (l1 := []) (⟨r.read.keep (Kp.same st2.same), rfl⟩) r2), kx⟩
    | o m =>
      have st := S.move hl
      have r1 : Res c ((L.set i []).flatten ++ (Tm ++ l)) H ⟨d, .o m⟩ v l := Res.keep r (Same.refl H) fun b hb => st.gr b hb
      refine ⟨env.set i none, L.set i [], Tm ++ l, _, X, st.sim, q, fun rs vs lb L2 env2 H2 h2 st2 r2 => ?_, kx.step st⟩
      have e := r1.keep st2.same st2.gr
      rw [List.append_assoc] at e r2
      exact k (_ :: rs) (v :: vs) (l ++ lb) L2 env2 H2 h2 ⟨v, rfl, hv0⟩ (st.trans st2) (.cons e r2)
theorem vam_cons {j i : Nat} (he : PE X e (rdE c W w)) (hr : PA X es (rdAM c W j i wa)) (hs : starEach (e :: es) X.env = (false, eval e X.env) :: starEach es X.env := by rfl) : PA X (e :: es) (rdAM c W (j + 1) i (wCons w wa)) := PA.imp (pa_cons he hr hs) fun σ H Q h => by
  obtain ⟨env, L, Tm, Qv, X, S, q, k, kx⟩ := h
  refine ⟨env, L, Tm, _, X, S, q, fun r x la L1 env1 H1 h1 st1 r1 => ?_, kx⟩
  refine ⟨env1, L1, Tm ++ la, _, X, st1.sim, h1, fun rs vs lb L2 env2 H2 h2 ⟨v, v1, v2⟩ st2 r2 => ?_, kx.step st1⟩
  have e := r1.keep st2.same st2.gr
  rw [List.append_assoc] at e r2
  exact k (r :: rs) (x :: vs) (la ++ lb) L2 env2 H2 h2 ⟨v, by simpa using v1, v2⟩ (st1.trans st2) (.cons e r2)
end
theorem Ress.pick {c : Cn} {T l : List Addr} {H : Hp} {rs : List R} {vs : List V} (h : Ress c T H rs vs l) {j : Nat} {d : D} (e : rs[j]? = some ⟨d, mA⟩) : ∃ v lj lo, vs[j]? = some v ∧ RO c.K (AT c.B T) H none v d lj ∧ l.Perm (lo ++ lj) ∧
    ∀ (k : Nat) r w, k ≠ j → rs[k]? = some r → vs[k]? = some w → ∃ lk, (∀ b ∈ lk, b ∈ lo) ∧ Res c T H r w lk := by
  induction h generalizing j with
  | nil => simp at e
  | @cons r rs v vs l1 l2 hr hrs ih =>
    cases j with
    | zero =>
      simp at e; subst e
      refine ⟨v, l1, l2, rfl, hr.dep, List.perm_append_comm, fun k r w hk e1 e2 => ?_⟩
      obtain ⟨k, rfl⟩ : ∃ k', k = k' + 1 := ⟨k - 1, by omega⟩
      rw [List.getElem?_cons_succ] at e1 e2
      exact rest hrs e1 e2
    | succ j =>
      obtain ⟨v', lj, lo, g1, g2, g3, g4⟩ := ih (j := j) (by simpa using e)
      refine ⟨v', lj, l1 ++ lo, by simpa using g1, g2, by rw [List.append_assoc]; exact g3.append_left l1, fun k r' w hk e1 e2 => ?_⟩
      cases k with
      | zero =>
        simp at e1 e2; subst e1; subst e2
        exact ⟨l1, fun b hb => List.mem_append_left _ hb, hr⟩
      | succ k =>
        obtain ⟨lk, s, q⟩ := g4 k r' w (by omega) (by simpa using e1) (by simpa using e2)
        exact ⟨lk, fun b hb => List.mem_append_right _ (s b hb), q⟩
where
  rest {c : Cn} {T l : List Addr} {H : Hp} {rs : List R} {vs : List V} (h : Ress c T H rs vs l) {k : Nat} {r : R} {w : V} (e1 : rs[k]? = some r) (e2 : vs[k]? = some w) : ∃ lk, (∀ b ∈ lk, b ∈ l) ∧ Res c T H r w lk := by
    induction h generalizing k with
    | nil => simp at e1
    | @cons r0 rs v0 vs l1 l2 hr _ ih =>
      cases k with
      | zero => simp at e1 e2; subst e1; subst e2; exact ⟨l1, fun b hb => List.mem_append_left _ hb, hr⟩
      | succ k =>
        obtain ⟨lk, s, q⟩ := ih (by simpa using e1) (by simpa using e2)
        exact ⟨lk, fun b hb => List.mem_append_right _ (s b hb), q⟩
section
variable {c : Cn} {L : List (List Addr)} {Tm l lj l' lr : List Addr} {env : VEnv} {σ : Sg} {H H' : Hp} {i : Nat} {v : V} {d' : D}
theorem Fr.kp {A : Addr → Prop} (f : Fr lj H H') (m : ∀ b ∈ lj, ∃ o, H b = some o ∧ mutO o) (a : ∀ b, A b → b ∉ lj) : Kp A H H' :=
  ⟨fun b o x e => f b o e (a b x), fun b xs e => f b _ e fun z => by obtain ⟨o, e2, q⟩ := m b z; rw [e] at e2; cases e2; exact q, fun b o u e => f b _ e fun z => by obtain ⟨o, e2, q⟩ := m b z; rw [e] at e2; cases e2; exact q⟩
theorem Sim.changed (S : Sim c L (Tm ++ lj) env σ H) (m : ∀ b ∈ lj, ∃ o, H b = some o ∧ mutO o) (hi : env[i]? = some none) (hv : σ[i]? = some (some v)) (f : Fr lj H H') (nd : (l' ++ lr).Nodup) (new : ∀ b ∈ l' ++ lr, (H b = none ∨ b ∈ lj) ∧ ∃ o, H' b = some o)
    (r : RO c.K (fun _ => False) H' none v d' l') : ∃ L', L'.flatten.Perm (L.flatten ++ l') ∧ Sim c L' (Tm ++ lr) (killB (env.set i (some (d', mA)))) σ H' := by
  obtain ⟨len1, len2⟩ := S.sl.len
  have hil : i < L.length := by rw [← len2]; exact (List.getElem?_eq_some_iff.mp hi).1
  have hLi : L[i]? = some [] := by
    have : ∀ {T : List Addr} {env : VEnv} {σ : Sg} {L : List (List Addr)} {i : Nat}, Slots c T H env σ L → env[i]? = some none → L[i]? = some [] := by
      intro T env σ L i h
      induction h generalizing i with
      | nil => intro e; simp at e
      | non _ ih => intro e; cases i with
        | zero => rfl
        | succ i => simpa using ih (by simpa using e)
      | bor _ _ ih => intro e; cases i with
        | zero => simp at e
        | succ i => simpa using ih (by simpa using e)
      | own _ _ ih => intro e; cases i with
        | zero => simp at e
        | succ i => simpa using ih (by simpa using e)
    exact this S.sl hi
  have p1 : (L.set i l').flatten.Perm (L.flatten ++ l') := by
    have a := flatten_put (l := l') hLi
    have b : (L.set i []).flatten = L.flatten := by
      have : L.set i [] = L := List.ext_getElem? fun k => by
        rw [List.getElem?_set]
        split
        · rename_i e; subst e; first | exact hLi.symm | (rw [if_pos hil, hLi])
        · rfl
      rw [this]
    rw [b] at a
    exact a
  have apartL : ∀ b ∈ L.flatten ++ Tm, b ∉ lj := fun b hb z => by
    have n := S.nd
    rw [← List.append_assoc] at n
    exact (List.nodup_append.mp n).2.2 b hb b z rfl
  have here : ∀ b ∈ L.flatten ++ Tm, ∃ o, H b = some o := fun b hb => (S.own b (by rw [← List.append_assoc]; exact List.mem_append_left _ hb)).2
  have apartN : ∀ b ∈ L.flatten ++ Tm, b ∉ l' ++ lr := fun b hb z => by
    obtain ⟨q, _⟩ := new b z
    obtain ⟨o, e⟩ := here b hb
    rcases q with q | q
    · rw [e] at q; cases q
    · exact apartL b hb q
  have memT : ∀ b ∈ (L.set i l').flatten ++ (Tm ++ lr), b ∈ L.flatten ++ Tm ∨ b ∈ l' ++ lr := fun b hb => by
    rcases List.mem_append.mp hb with z | z
    · rcases List.mem_append.mp (p1.mem_iff.mp z) with z | z
      · exact .inl (List.mem_append_left _ z)
      · exact .inr (List.mem_append_left _ z)
    · rcases List.mem_append.mp z with z | z
      · exact .inl (List.mem_append_right _ z)
      · exact .inr (List.mem_append_right _ z)
  have at' : ∀ b o, AT c.B (L.flatten ++ (Tm ++ lj)) b → H b = some o → AT c.B ((L.set i l').flatten ++ (Tm ++ lr)) b := fun b o a e => ⟨a.1, fun z => by
    rcases memT b z with z | z
    · exact a.2 (by rw [← List.append_assoc]; exact List.mem_append_left _ z)
    · rcases (new b z).1 with q | q
      · rw [e] at q; cases q
      · exact a.2 (List.mem_append_right _ (List.mem_append_right _ q))⟩
  have cS : ∀ {v : V} {d : D}, RS c.K (AT c.B (L.flatten ++ (Tm ++ lj))) H v d → RS c.K (AT c.B ((L.set i l').flatten ++ (Tm ++ lr))) H' v d := fun q =>
    ((q.mono (A' := fun b => AT c.B (L.flatten ++ (Tm ++ lj)) b ∧ ∃ o, H b = some o) fun b o a e => ⟨a, o, e⟩).keep (f.kp m fun b a z => a.1.2 (List.mem_append_right _ (List.mem_append_right _ z)))).mono fun b _ a _ => let ⟨a1, o, e⟩ := a; at' b o a1 e
  have cO : ∀ {m0 : Option Nat} {v : V} {d : D} {lk : List Addr}, RO c.K (AT c.B (L.flatten ++ (Tm ++ lj))) H m0 v d lk → (∀ b ∈ lk, b ∉ lj) → RO c.K (AT c.B ((L.set i l').flatten ++ (Tm ++ lr))) H' m0 v d lk := fun q hk =>
    RO.mono (fun b _ a _ => let ⟨a1, o, e⟩ := a; at' b o a1 e) (RO.keep (f.kp m fun b a z => a.1.2 (List.mem_append_right _ (List.mem_append_right _ z))) (RO.mono (A' := fun b => AT c.B (L.flatten ++ (Tm ++ lj)) b ∧ ∃ o, H b = some o) (fun b o a e => ⟨a, o, e⟩) q) fun b hb o e => f b o e (hk b hb))
  refine ⟨L.set i l', p1, S.sl.change hv hLi (fun k lk d m v hk e r => ?_) (RO.all rfl r), ?_, fun b hb => ?_, fun b u e n => ?_, fun p hp => ?_, S.pin⟩
  · exact cO r fun b hb => apartL b (List.mem_append_left _ (mem_flatten_of e hb))
  · have n1 : (L.flatten ++ Tm).Nodup := by
      have n := S.nd
      rw [← List.append_assoc] at n
      exact (List.nodup_append.mp n).1
    have pp : ((L.set i l').flatten ++ (Tm ++ lr)).Perm ((L.flatten ++ Tm) ++ (l' ++ lr)) := by
      refine (p1.append_right _).trans ?_
      rw [List.append_assoc, List.append_assoc]
      refine List.Perm.append_left _ ?_
      rw [← List.append_assoc, ← List.append_assoc]
      exact List.perm_append_comm.append_right _
    exact pp.nodup_iff.mpr (List.nodup_append.mpr ⟨n1, nd, fun b hb b' hb' z => by subst z; exact apartN b hb hb'⟩)
  · rcases memT b hb with z | z
    · obtain ⟨o1, o, e⟩ := S.own b (by rw [← List.append_assoc]; exact List.mem_append_left _ z)
      exact ⟨o1, o, f b o e (apartL b z)⟩
    · obtain ⟨q, o⟩ := new b z
      refine ⟨?_, o⟩
      rcases q with q | q
      · exact (S.nowhere q).1
      · exact (S.own b (List.mem_append_right _ (List.mem_append_right _ q))).1
  · have h1 := S.fr b u e n
    refine f b u h1 fun z => ?_
    rcases (S.own b (List.mem_append_right _ (List.mem_append_right _ z))).1 with q | q
    · rw [q] at e; cases e
    · exact n q
  · exact cS (S.hd p hp)
end
def rdX (c : Cn) (W : WX) (w : WE) : TE := fun σ H Q => ∃ env L Qv X, Sim c L [] env σ H ∧ w env Qv X ∧
  (∀ r v l L' env' H', Qv r env' → Sim c L' l env' σ H' → Res c (L'.flatten ++ l) H' r v l → Q v H') ∧
  (∀ ex env' L' H' cls d, X ex env' → Sim c L' [] env' σ H' → ExR c H' ex cls d → W cls d σ H')
def wCM (S : FSpecM) (j i : Nat) (wa : WA) : WE := fun env Q X => wa env (fun rs e => ∃ d, rs[j]? = some ⟨d, mA⟩ ∧ flatD d = false ∧ e[i]? = some none ∧ (rs.any fun r => isB r.m) = false ∧
  S (rs.map (·.d)) (fun r d' => Q r (killB (e.set i (some (d', mA))))) (fun _ => False)) X
section
variable {X : Cx} {c : Cn} {W : WX} {pos p : Pos} {wa : WA} {we : WE} {e : Expr} {es : List Expr} {x : Str} {n k j : Nat} {S : FSpecM}
theorem rd_callM {i : Nat} {σ : Sg} {H : Hp} {Q : VK} {K : PySem.W.Frag} {cl : Str → Option Addr} (hK : c.K = K) (hcl : c.cl = cl) (h : rdX c W (wCM S j i wa) σ H Q) : tCallS (spOfM K cl j S) (L2.WE W) (rdAM c W j i wa) σ H Q := by
  subst hK; subst hcl
  obtain ⟨env, L, Qv, X, S0, q, k, kx⟩ := h
  refine ⟨env, L, [], _, X, S0, q, fun rs vs l L1 e1 H1 ⟨d, hj, fd, hi, hb, hS⟩ ⟨v, hv, hs⟩ st1 r1 => ?_, fun ex cls d L' env' H' hx st he => kx ex env' L' H' cls d hx st.sim0 he⟩
  obtain ⟨v', lj, lo, g1, g2, g3, g4⟩ := r1.pick hj
  rw [hv] at g1
  cases g1
  have S1 : Sim c L1 (lo ++ lj) e1 σ H1 := by
    have := (st1.perm (l' := lo ++ lj) g3.symm).sim
    rwa [List.nil_append] at this
  have lmem : ∀ b, b ∈ lo ++ lj ↔ b ∈ l := fun b => g3.symm.mem_iff
  have nd := S1.nd
  have nd2 := (List.nodup_append.mp nd).2.1
  have mu : ∀ b ∈ lj, ∃ o, H1 b = some o ∧ mutO o := RO.there g2
  have S2 : Sim c L1 ([] ++ lj) e1 σ H1 := S1.less (by rw [List.nil_append]; exact List.sublist_append_right lo lj)
  refine ⟨rs.map (·.d), AT c.B L1.flatten, lj, v, d, fun r d' => Qv r (killB (e1.set i (some (d', mA)))), fun _ => False, ?_, hv, by rw [List.getElem?_map, hj]; rfl, RO.all rfl g2, (List.nodup_append.mp nd2).2.1, fun m w e hm e1' e2' => ?_, hS, fun r w lr d' l' H' hq fr nd' new ro hr => ?_, fun ex cls dd H' hx fr he => hx.elim⟩
  · rw [List.length_map, r1.len]
  · rw [List.getElem?_map] at e2'
    obtain ⟨r, er, rfl⟩ := Option.map_eq_some_iff.mp e2'
    obtain ⟨lk, sk, hk⟩ := g4 m r w hm er e1'
    obtain ⟨dr, mr⟩ := r
    have hbr : isB mr = false := by
      rw [List.any_eq_false] at hb
      simpa using hb _ (List.mem_of_getElem? er)
    cases mr with
    | b => cases hbr
    | o mr =>
      refine RO.share (RO.mono (fun b o a _ => ?_) hk.dep) fun b hb' => ?_
      · refine ⟨⟨a.1, fun z => a.2 (List.mem_append_left _ z)⟩, fun z => a.2 (List.mem_append_right _ ?_)⟩
        rw [List.nil_append]; exact (lmem b).mp (List.mem_append_right _ z)
      · have hin : b ∈ lo ++ lj := List.mem_append_left _ (sk b hb')
        refine ⟨⟨.inr (S1.own b (List.mem_append_right _ hin)).1, fun z => (List.nodup_append.mp nd).2.2 b z b hin rfl⟩, fun z => (List.nodup_append.mp nd2).2.2 b (sk b hb') b z rfl⟩
  · obtain ⟨L2, pm, S3⟩ := S2.changed mu hi hs fr nd' new ro
    rw [List.nil_append] at S3
    refine k r w lr L2 _ H' hq S3 ?_
    obtain ⟨dr, mr⟩ := r
    cases mr with
    | b => exact hr
    | o mr =>
      have hr2 : RO c.K (AT (cnM c.K c.cl (AT c.B L1.flatten) H1 lj j v).B (l' ++ lr)) H' mr w dr lr := hr
      refine RO.mono (fun b o a e => ?_) hr2
      obtain ⟨a1, a2⟩ := a
      have fin : ∀ {y : Addr}, y ∉ L1.flatten → y ∉ l' ++ lr → y ∉ L2.flatten ++ lr := fun h1 h2 z => by
        rcases List.mem_append.mp z with z | z
        · rcases List.mem_append.mp (pm.mem_iff.mp z) with z | z
          · exact h1 z
          · exact h2 (List.mem_append_left _ z)
        · exact h2 (List.mem_append_right _ z)
      rcases a1 with a1 | a1 | a1
      · exact ⟨a1.1, fin a1.2 a2⟩
      · obtain ⟨o1, o2⟩ := S1.nowhere a1
        exact ⟨.inr o1, fin (fun z => o2 (List.mem_append_left _ z)) a2⟩
      · have hin : b ∈ L1.flatten ++ (lo ++ lj) := List.mem_append_right _ (List.mem_append_right _ a1)
        exact ⟨.inr (S1.own b hin).1, fin (fun z => (List.nodup_append.mp nd).2.2 b z b (List.mem_append_right _ a1) rfl) a2⟩
theorem ve_callM {i : Nat} (hd : DefM X.prog X.w X.K X.mg X.base c.cl x n j S k) (hr : Room k X.A) (tk : Takes X W) (ha : PA X (e :: es) (rdAM c W j i wa)) (hK : c.K = X.K := by rfl) (hg : Gl X x := by rfl)
    (hdb : (x == ("__debug__" : Str)) = false := by decide) (he : starEach (e :: es) X.env = (false, eval e X.env) :: starEach es X.env := by rfl) (hpl : (backTo pos (starEach es X.env)).any (·.1) = false := by rfl) :
    PE X (.Call (.Name x p) (e :: es) [] pos) (rdX c W (wCM S j i wa)) := by
  obtain ⟨f, fd, ps, hl, F, hm, hk, hb⟩ := hd.ex
  exact PE.imp (pe_callS F hr hg hm hk hb (fun σ => passAt tk σ) ha hdb he hpl) fun σ H Q => rd_callM hK rfl
end
section
variable {X : Cx} {c : Cn} {W : WX} {pos : Pos} {we : WE} {wt : WT} {w u : WS} {e : Expr} {a b : List Stmt}
end
section
variable {α β σ ρ τ ι : Type} {G : EG} {env env1 : VEnv} {md : Md} {a : Enc α} {e : Enc ρ} {b : Enc β} {we : WE} {wl : WA} {u w v : WS} {wt : WT} {γ : Type} {M : Out γ} {K KA : γ → DV → Prop} {s : τ → VEnv}
def RX (G : EG) (w : WE) (env : VEnv) (md : Md) (e : Enc ρ) (s : τ → VEnv) (m : Out (ρ × τ)) : Prop :=
  ∀ (Q : R → VEnv → Prop) (X : Exn → VEnv → Prop) (Xe : Exn → Prop), (∀ x v, G v → Xe x → X x v) → Sat m (fun p => Q ⟨e p.1, md⟩ (s p.2)) Xe → w env Q X
theorem rx_call {S : FSpecM} {j i : Nat} {et : Enc τ} {f : ι → List R} {T : Out ι} {F : ι → Out (ρ × τ)} (hi : RA G wl env env1 f T) (hS : ∀ (x : ι) (Q : R → D → Prop) (X : Exn → Prop), Sat (F x) (fun p => Q ⟨e p.1, md⟩ (et p.2)) X → S ((f x).map (·.d)) Q X)
    (hj : ∀ x, ∃ y, (f x)[j]? = some ⟨et y, mA⟩) (nf : ∀ y, flatD (et y) = false) (h0 : env1[i]? = some none := by rfl) (hb : ∀ x, ((f x).any fun r => isB r.m) = false := by exact fun _ => rfl) (hs : ∀ y, killB (env1.set i (some (et y, mA))) = s y := by exact fun _ => rfl) :
    RX G (wCM S j i wl) env md e s (T.bind fun x => noX (F x)) := fun Q X Xe hX hh => hi _ _ Xe hX ((sat_bind.mp hh).imp fun x hx => by
  obtain ⟨y, hy⟩ := hj x
  refine ⟨_, hy, nf y, h0, hb x, hS x _ _ ?_⟩
  cases hF : F x with
  | ok t => rw [hF] at hx; show Q _ (killB _); rw [hs]; exact hx
  | exn ex => rw [hF] at hx; exact hx.elim
  | stuck => rw [hF] at hx; exact hx)
end
theorem envLe.get : ∀ {e e' : VEnv} {j : Nat} {d : D}, envLe e e' → e[j]? = some (some (d, mA)) → e'[j]? = some (some (d, mA))
  | [], _, _, _, _, h => by simp at h
  | _ :: _, [], _, _, h, _ => h.elim
  | s :: e, s' :: e', 0, d, h, g => by
    simp at g; subst g
    have h := h.1
    match s', h with
    | none, h => exact h.elim
    | some (d', .b), h => exact h.elim
    | some (d', .o m), h =>
      obtain ⟨rfl, h⟩ := h
      cases m with
      | none => rfl
      | some k => cases h
  | s :: e, s' :: e', j + 1, d, h, g => by simpa using envLe.get (j := j) h.2 (by simpa using g)
end VL
set_option maxRecDepth 100000
set_option maxHeartbeats 4000000
namespace XD
open PySem PySem.Spec PyProof.Rows L2 VL
@[irreducible] noncomputable def F_law_cell (script_ : (List Int)) (place_ : Int) : Out Int :=
  (if (decide (place_ < (script_.length : Int))) = true then (lift (atI script_ place_)) else ((Out.ok (5)).bind fun (seed_ : Int) => ((forO (fun (V3 : Int) (cell_here_ : Int) => ((Out.ok (((((V3 * 48271) + (cell_here_ % 1000003)) + 1) % 2147483647))).bind fun (seed_ : Int) => (Out.ok seed_))) seed_ (cutL script_ none (some (63)))).bind fun (V3 : Int) => (Out.ok ((V3 + (7919 * place_)) % 1000003)))))
def sp_law_cell : FSpec := fun ds Q X => ∃ (script_ : (List Int)) (place_ : Int), ds = [eScr script_, eI place_] ∧ Sat (F_law_cell script_ place_) (fun r => Q ⟨eI r, mA⟩) X
@[irreducible] noncomputable def F_law_mix (cell_here_ : Int) (k_ : Int) : Out Int :=
  (((lift (powO (((cell_here_ % 2147483629) + (1013 * k_)) + 7919) 3)).bind fun t1 => .ok (t1 % 2147483647)).bind fun (one_ : Int) => (((((Out.ok ((one_ * 40699))).bind fun t1 => (lift (mulO (3793 * k_) k_)).bind fun t2 => .ok ((t1 + t2))).bind fun t1 => (Out.ok (11)).bind fun t2 => .ok ((t1 + t2))).bind fun t1 => .ok (t1 % 2147483399)).bind fun (two_ : Int) => (Out.ok (two_ / 101))))
def sp_law_mix : FSpec := fun ds Q X => ∃ (cell_here_ : Int) (k_ : Int), ds = [eI cell_here_, eI k_] ∧ Sat (F_law_mix cell_here_ k_) (fun r => Q ⟨eI r, mA⟩) X
@[irreducible] noncomputable def F_law_row (script_ : (List Int)) (place_ : Int) (sizes_ : (List Int)) : Out (List Int) :=
  ((F_law_cell script_ place_).bind fun (cell_here_ : Int) => ((Out.ok (cell_here_)).bind fun (left_ : Int) => ((Out.ok (([] : (List Int)))).bind fun (some_ : (List Int)) => (((lift (rgO 0 (sizes_.length : Int))).bind fun xs => forO (fun (V18 : (List Int) × Int) (k_ : Int) => ((if (decide (cell_here_ < (10 ^ ((18 : Int).toNat) : Int))) = true then (((F_law_mix cell_here_ k_).bind fun t1 => (lift (atI sizes_ k_)).bind fun t2 => lift (modO t1 t2)).bind fun v => (lift (appO V18.1 v)).bind fun some_ => (Out.ok (some_, V18.2))) else ((if (decide (V18.2 > 0)) = true then (((Out.ok (V18.2)).bind fun t1 => (lift (atI sizes_ k_)).bind fun t2 => lift (modO t1 t2)).bind fun v => (lift (appO V18.1 v)).bind fun some_ => (((Out.ok (V18.2)).bind fun t1 => (lift (atI sizes_ k_)).bind fun t2 => lift (fdO t1 t2)).bind fun (left_ : Int) => (Out.ok (some_, left_)))) else ((F_law_cell script_ (((place_ + 1) + k_) % 63)).bind fun (other_ : Int) => (((F_law_mix other_ k_).bind fun t1 => (lift (atI sizes_ k_)).bind fun t2 => lift (modO t1 t2)).bind fun v => (lift (appO V18.1 v)).bind fun some_ => (Out.ok (some_, V18.2))))).bind fun (V24 : (List Int) × Int) => (Out.ok (V24.1, V24.2)))).bind fun (V23 : (List Int) × Int) => (Out.ok (V23.1, V23.2)))) (some_, left_) xs).bind fun (V18 : (List Int) × Int) => (Out.ok V18.1)))))
def sp_law_row : FSpec := fun ds Q X => ∃ (script_ : (List Int)) (place_ : Int) (sizes_ : (List Int)), ds = [eScr script_, eI place_, (eL eI) sizes_] ∧ Sat (F_law_row script_ place_ sizes_) (fun r => Q ⟨(eL eI) r, mA⟩) X
@[irreducible] noncomputable def F_law_is_whole (one_ : Int) : Out Bool :=
  (Out.ok (!(false)))
def sp_law_is_whole : FSpec := fun ds Q X => ∃ (one_ : Int), ds = [eI one_] ∧ Sat (F_law_is_whole one_) (fun r => Q ⟨eB r, mA⟩) X
end XD
set_option maxRecDepth 100000
set_option maxHeartbeats 4000000
namespace XA
open PySem PySem.Spec PyProof.Rows L2 VL
@[irreducible] noncomputable def F_walk_arcs (walk_ : (List Int)) (count_ : Int) : Out ((List Int) × Int) :=
  (((lift (rgO 0 (walk_.length : Int))).bind (fmapL (fun place_ : Int => noX ((lift (atI walk_ place_)).bind fun t1 => (Out.ok (0)).bind fun t2 => .ok (decide (t1 < t2)))) (fun place_ : Int => noX (Out.ok (place_))))).bind fun (unders_ : (List Int)) => (if (decide ((unders_.length : Int) = 0)) = true then (((lift (repO ([count_]) (maxF 1 (walk_.length : Int)))).bind fun x => (Out.ok ((count_ + 1), ())).bind fun t => .ok (x, t)).bind fun (t : (List Int) × Int × Unit) => .ok (t.1, t.2.1)) else ((Out.ok (([] : (List Int)))).bind fun (found_ : (List Int)) => ((Out.ok (count_)).bind fun (now_ : Int) => (((lift (rgO 0 (walk_.length : Int))).bind fun xs => forO (fun (V261 : (List Int) × Int) (place_ : Int) => ((Out.ok (V261.2)).bind fun v => (lift (appO V261.1 v)).bind fun found_ => ((((lift (atI walk_ place_)).bind fun t1 => (Out.ok (0)).bind fun t2 => .ok (decide (t1 < t2))).bind fun p => if p = true then ((Out.ok ((V261.2 + 1))).bind fun (now_ : Int) => (Out.ok now_)) else (Out.ok V261.2)).bind fun (V263 : Int) => (Out.ok (found_, V263))))) (found_, now_) xs).bind fun (V261 : (List Int) × Int) => ((Out.ok (V261.2)).bind fun (last_ : Int) => (((lift (rgO 0 (walk_.length : Int))).bind fun xs => forO (fun (V264 : (List Int)) (place_ : Int) => ((((lift (atI V264 place_)).bind fun t1 => (Out.ok (last_)).bind fun t2 => .ok (decide (t1 = t2))).bind fun p => if p = true then ((Out.ok (count_)).bind fun v => (Out.ok (place_)).bind fun j => (lift (setO V264 j v)).bind fun found_ => (Out.ok found_)) else (Out.ok V264)).bind fun (V266 : (List Int)) => (Out.ok V266))) V261.1 xs).bind fun (V264 : (List Int)) => (Out.ok (V264, last_)))))))))
def sp_walk_arcs : FSpec := fun ds Q X => ∃ (walk_ : (List Int)) (count_ : Int), ds = [(eL eI) walk_, eI count_] ∧ Sat (F_walk_arcs walk_ count_) (fun r => Q ⟨(e2 (eL eI) eI) r, mA⟩) X
@[irreducible] noncomputable def F_arcs (drawing_ : ((List (List Int)) × (List (Int × Int)))) : Out (List (List Int)) :=
  ((Out.ok (([] : (List (List Int))))).bind fun (told_ : (List (List Int))) => ((Out.ok (0)).bind fun (count_ : Int) => ((forO (fun (V272 : Int × (List (List Int))) (walk_ : (List Int)) => ((F_walk_arcs walk_ V272.1).bind fun (p274 : ((List Int) × Int)) => ((Out.ok (p274.1)).bind fun v => (lift (appO V272.2 v)).bind fun told_ => (Out.ok (p274.2, told_))))) (count_, told_) drawing_.1).bind fun (V272 : Int × (List (List Int))) => (Out.ok V272.2))))
def sp_arcs : FSpec := fun ds Q X => ∃ (drawing_ : ((List (List Int)) × (List (Int × Int)))), ds = [(e2 (eL (eL eI)) (eL (e2 eI eI))) drawing_] ∧ Sat (F_arcs drawing_) (fun r => Q ⟨(eL (eL eI)) r, mA⟩) X
@[irreducible] noncomputable def F_spot (drawing_ : ((List (List Int)) × (List (Int × Int)))) (passage_ : Int) : Out (Int × Int) :=
  ((forF (fun (V281 : Unit) (x282 : (Int × (List Int))) => (if (decide (passage_ ∈ x282.2)) = true then ((((Out.ok (x282.1)).bind fun x => ((lift (idxO x282.2 passage_)).bind fun x => (Out.ok ()).bind fun t => .ok (x, t)).bind fun t => .ok (x, t)).bind fun (t : Int × Int × Unit) => .ok (t.1, t.2.1)).bind fun x => .ok (Fl.ret x)) else (Out.ok (Fl.nxt ())))) () (enumF drawing_.1)).bind (flowT fun (V281 : Unit) => (Out.exn ⟨"NoCrossing", none⟩)))
def sp_spot : FSpec := fun ds Q X => ∃ (drawing_ : ((List (List Int)) × (List (Int × Int)))) (passage_ : Int), ds = [(e2 (eL (eL eI)) (eL (e2 eI eI))) drawing_, eI passage_] ∧ Sat (F_spot drawing_ passage_) (fun r => Q ⟨(e2 eI eI) r, mA⟩) X
@[irreducible] noncomputable def F_meets (drawing_ : ((List (List Int)) × (List (Int × Int)))) : Out (List (Int × Int × Int × Int × Int)) :=
  ((F_arcs drawing_).bind fun (numbers_ : (List (List Int))) => ((Out.ok (([] : (List (Int × Int × Int × Int × Int))))).bind fun (told_ : (List (Int × Int × Int × Int × Int))) => ((forO (fun (V297 : (List (Int × Int × Int × Int × Int))) (x298 : (Int × Int)) => ((F_spot drawing_ x298.1).bind fun (p303 : (Int × Int)) => (((lift (atI numbers_ p303.1)).bind fun t1 => (Out.ok (p303.2)).bind fun t2 => lift (atI t1 t2)).bind fun (above_ : Int) => ((F_spot drawing_ (-(x298.1))).bind fun (p304 : (Int × Int)) => ((lift (atI numbers_ p304.1)).bind fun (ways_ : (List Int)) => ((((Out.ok (x298.1)).bind fun x => ((Out.ok (x298.2)).bind fun x => ((Out.ok (above_)).bind fun x => ((lift (atI ways_ p304.2)).bind fun x => (((Out.ok (ways_)).bind fun t1 => (lift (modO (p304.2 + 1) (ways_.length : Int))).bind fun t2 => lift (atI t1 t2)).bind fun x => (Out.ok ()).bind fun t => .ok (x, t)).bind fun t => .ok (x, t)).bind fun t => .ok (x, t)).bind fun t => .ok (x, t)).bind fun t => .ok (x, t)).bind fun (t : Int × Int × Int × Int × Int × Unit) => .ok (t.1, t.2.1, t.2.2.1, t.2.2.2.1, t.2.2.2.2.1)).bind fun v => (lift (appO V297 v)).bind fun told_ => (Out.ok told_))))))) told_ drawing_.2).bind fun (V297 : (List (Int × Int × Int × Int × Int))) => (Out.ok V297))))
def sp_meets : FSpec := fun ds Q X => ∃ (drawing_ : ((List (List Int)) × (List (Int × Int)))), ds = [(e2 (eL (eL eI)) (eL (e2 eI eI))) drawing_] ∧ Sat (F_meets drawing_) (fun r => Q ⟨(eL (e5 eI eI eI eI eI)) r, mA⟩) X
end XA
set_option maxRecDepth 100000
set_option maxHeartbeats 4000000
namespace XC
open PySem PySem.Spec PyProof.Rows L2 VL
@[irreducible] noncomputable def F_arc_count (drawing_ : ((List (List Int)) × (List (Int × Int)))) : Out Int :=
  ((Out.ok (0)).bind fun (count_ : Int) => ((forO (fun (V313 : Int) (walk_ : (List Int)) => ((((fmapL (fun passage_ : Int => noX (Out.ok (decide (passage_ < 0)))) (fun passage_ : Int => noX (Out.ok (passage_))) walk_).bind fun x => (Out.ok ()).bind fun t => .ok (x, t)).bind fun (t : (List Int) × Unit) => .ok ((t.1.length : Int))).bind fun (unders_ : Int) => ((Out.ok ((V313 + maxF 1 unders_))).bind fun (count_ : Int) => (Out.ok count_)))) count_ drawing_.1).bind fun (V313 : Int) => (Out.ok V313)))
def sp_arc_count : FSpec := fun ds Q X => ∃ (drawing_ : ((List (List Int)) × (List (Int × Int)))), ds = [(e2 (eL (eL eI)) (eL (e2 eI eI))) drawing_] ∧ Sat (F_arc_count drawing_) (fun r => Q ⟨eI r, mA⟩) X
end XC
set_option maxRecDepth 100000
set_option maxHeartbeats 4000000
namespace XS
open PySem PySem.Spec PyProof.Rows L2 VL
end XS
set_option maxRecDepth 100000
set_option maxHeartbeats 4000000
namespace XT
open PySem PySem.Spec PyProof.Rows L2 VL
end XT
set_option maxRecDepth 100000
set_option maxHeartbeats 4000000
namespace XF
open PySem PySem.Spec PyProof.Rows L2 VL
end XF
set_option maxRecDepth 100000
set_option maxHeartbeats 4000000
namespace VL
open PySem PySem.Spec PyProof.Rows L2
inductive At where
  | i (n : Int) | b (v : Bool) | s (x : Str)
deriving DecidableEq
def eA : Enc At | .i n => .int n | .b v => .bool v | .s x => .str x
instance : Fl_ eA := ⟨fun | .i _ => rfl | .b _ => rfl | .s _ => rfl⟩
def asI : At → Option Int | .i n => some n | _ => none
def asB : At → Option Bool | .b n => some n | _ => none
def asS : At → Option Str | .s n => some n | _ => none
@[simp] theorem asI_i (n : Int) : asI (.i n) = some n := Eq.trans rfl rfl
@[simp] theorem asB_b (n : Bool) : asB (.b n) = some n := Eq.trans rfl rfl
@[simp] theorem asS_s (n : Str) : asS (.s n) = some n := Eq.trans rfl rfl
def asP : List At → Option (Int × Int) | [.i a, .i b] => some (a, b) | _ => none
@[simp] theorem asP_i (a b : Int) : asP [.i a, .i b] = some (a, b) := Eq.trans rfl rfl
section
variable {α β : Type} {G : EG} {env env1 : VEnv} {md : Md} {a : Enc α} {b : Enc β} {we : WE}
variable {m1 m2 : Md}
end
section
variable {X : Cx} {c : Cn}
end
section
variable {α β : Type} [DecidableEq α] {a : Enc α} {b : Enc β} {m1 m2 : Md}
end
section
variable {X : Cx} {c : Cn} {W : WX} {pos : Pos} {wa wb : WE} {a b : Expr}
end
section
variable {α : Type} {a : Enc α} {m1 m2 : Md}
end
section
variable {α δ : Type} {G : EG} {env env1 : VEnv} {md : Md} {a : Enc α} {we : WE} {u : WS} {K : δ → DV → Prop} {A : Out (List α)}
end
section
variable {X : Cx} {c : Cn} {W : WX} {pos p : Pos} {wa : WA} {e : Expr}
end
section
variable {α : Type} {a : Enc α} {m : Md}
end
end VL
set_option maxRecDepth 100000
set_option maxHeartbeats 4000000
namespace VL
open PySem PySem.Spec PyProof.Rows L2
section
variable {X : Cx} {c : Cn} {W : WX} {pos p p2 apos cpos : Pos} {wa : WA} {e o : Expr} {we wk : WE}
end
section
variable {X : Cx}
end
end VL
set_option maxRecDepth 100000
set_option maxHeartbeats 4000000
namespace VL
open PySem PySem.Spec PyProof.Rows L2
section
variable {X : Cx} {c : Cn} {W : WX} {pos p apos cpos px : Pos} {o i : Expr} {wd wk : WE} {x : Str} {k : Nat}
def dropKK {α : Type} (kvs : List (Int × α)) (k : Int) : List (Int × α) := kvs.filter fun p => decide (p.1 ≠ k)
theorem PrI.drop {K : PySem.W.Frag} {A : Addr → Prop} {H : Hp} {k' : List (Key × V)} {kvs : List (Int × D)} (h : PrI K A H k' kvs) (i : Int) : PrI K A H (dropK k' (.inl i)) (dropKK kvs i) := by
  induction h with
  | nil => exact .nil
  | @cons j v d r s hv _ ih =>
    unfold dropK dropKK at ih ⊢
    rw [List.filter_cons, List.filter_cons]
    by_cases e : j = i
    · rw [if_neg (by simp [e]), if_neg (by simp [e])]; exact ih
    · rw [if_pos (by simpa using e), if_pos (by simpa using e)]; exact .cons hv ih
end
section
variable {α β γ : Type} {G : EG} {env env1 : VEnv} {md m1 : Md} {a : Enc α} {wd wk we : WE} {u : WS} {K : β → DV → Prop}
end
end VL
set_option maxRecDepth 100000
set_option maxHeartbeats 4000000
namespace VL
open PySem PySem.Spec PyProof.Rows L2
section
variable {prog : Program} {w : World} {A : Around} {E : Value → Shared → Prop} {s : Shared}
end
section
variable {X : Cx} {pos p2 px tpos p3 : Pos} {o value hi : Expr} {tv to th : TE}
end
section
variable {X : Cx} {c : Cn} {W : WX} {pos p2 px tpos : Pos} {hi e : Expr} {we : WE} {x : Str}
end
section
variable {α β : Type} {G : EG} {env env1 : VEnv} {a : Enc α} {we : WE} {u : WS} {K : β → DV → Prop}
end
end VL
set_option maxRecDepth 100000
set_option maxHeartbeats 4000000
namespace VL
open PySem PySem.Spec PyProof.Rows L2
section
variable {P : Program} {w : World} {K : PySem.W.Frag} {mg : Str → Option Value} {base : Heap} {cl : Str → Option Addr} {h : Heap}
end
section
variable {c : Cn} {L : List (List Addr)} {Tm l lj lr : List Addr} {env : VEnv} {σ : Sg} {H H' : Hp}
end
section
variable {X : Cx} {c : Cn} {W : WX} {pos p : Pos} {wa : WA} {we : WE} {e : Expr} {es : List Expr} {x : Str} {n k j : Nat} {S : FSpec}
end
section
variable {β ρ τ ι : Type} {G : EG} {env env1 : VEnv} {md : Md} {b : Enc β} {wl : WA}
end
end VL
set_option maxRecDepth 100000
set_option maxHeartbeats 4000000
namespace VL
open PySem PySem.Spec PyProof.Rows L2
section
variable {X : Cx} {c : Cn} {W : WX} {pos px px2 ppx dpx tpos pos2 : Pos} {wp : WP} {o : Expr} {tx dx : Str} {b : Bool} {j3 : _} {kr : Nat}
end
section
variable {α σ δ : Type} {G : EG} {env env1 : VEnv} {a : Enc σ} {wp : WP} {u : WS} {K : δ → DV → Prop}
end
end VL
set_option maxRecDepth 100000
set_option maxHeartbeats 4000000
namespace VL
open PySem PySem.Spec PyProof.Rows L2
section
variable {prog : Program} {w : World} {A : Around} {E : Value → Shared → Prop} {s : Shared}
end
section
variable {X : Cx} {c : Cn} {W : WX} {pos p p1 p2 p3 : Pos} {e : Expr} {te : TE} {we : WE} {wa : WA} {k : Nat}
end
section
variable {α β : Type} {G : EG} {env env1 : VEnv} {md m : Md} {a : Enc α} {b : Enc β} {we : WE}
end
section
variable {α : Type} {e : Enc α} {m : Md} {x : α} {rs : List R} {n : Option (Option Nat)}
end
end VL
set_option maxRecDepth 100000
set_option maxHeartbeats 4000000
namespace VL
open PySem PySem.Spec PyProof.Rows L2
def wFor_zip (g : Tg) (wa : WA) (w : WS) : WS := fun env Dv => wa env (fun rs e => ∃ r r' ds es, rs = [r, r'] ∧ r.d = .list ds ∧ r'.d = .list es ∧ isB r.m = false ∧ isB r'.m = false ∧ ∃ (I : Nat → VEnv → Prop) (e0 : VEnv), envLe e0 e ∧ I 0 e0 ∧
  (∀ i d d' e, ds[i]? = some d → es[i]? = some d' → I i e → ∃ rs, g.f ⟨.tuple [d, d'], mS⟩ = some rs ∧ w (putAll e g.is rs) { Dv with nx := fun e2 => ∃ e3, envLe e3 e2 ∧ I (i + 1) e3 }) ∧ (∀ e, I (min ds.length es.length) e → Dv.nx e)) Dv.ex
section
variable {X : Cx} {c : Cn} {W : WX} {pos p cpos tpos : Pos} {g : Tg} {wa : WA} {w : WS} {elts : List Expr} {kk : Nat} {a b : Expr} {body : List Stmt}
theorem vs_for_zip (hp : PassesOwn (model X.prog X.w) X.A X.env X.xe) (hc : X.calm = true) (hm : X.mg "zip" = none) (ha : PA X [a, b] (rdA c W wa)) (hg : TgOk X (.Tuple elts kk tpos) g) (hb : ∀ hd, PSs X body (rdS (c.with hd) W w)) (hK : c.K = X.K := by rfl)
    (hge : Gl X "zip" := by rfl) (hs1 : starEach [a, b] X.env = (false, eval a X.env) :: starEach [b] X.env := by rfl) (hpl : (backTo cpos (starEach [b] X.env)).any (·.1) = false := by rfl) (hs : ∀ x, foldedSetIterable (.Call (.Name "zip" p) [a, b] [] cpos) X.env x = pure x := by intro _; rfl) (pf : PinF c g.is := by first | exact pinF_nil rfl | exact pinF_one rfl (by decide) | assumption) :
    PS X (.For (.Tuple elts kk tpos) (.Call (.Name "zip" p) [a, b] [] cpos) body [] pos) (rdS c W (wFor_zip g wa w)) := by
  obtain ⟨t, hpg, run⟩ := hg.ok
  refine PS.imp (ps_for (tb := fun D σ H => ∃ hd, rdS (c.with hd) W w D σ H) hp hc (pi_zip hge hm ha hs1 hpl) hpg ⟨fun pins s σ H D I hh => hh.elim fun hd z => (hb hd).run pins s σ H D I z⟩ hs) fun D σ H h => ?_
  obtain ⟨env, L, Dv, S, q, k, kr, kx⟩ := h
  refine rd_args S q kx fun rs vs l L1 e1 H1 ⟨r, r', ds, es, ers, hd, hd', hmb, hmb', I, e0, le, i0, step, last⟩ S1 hrs => ?_
  subst ers
  obtain ⟨v, v', l1, l2, evs, el, hr, hrs'⟩ := ress2 hrs
  subst evs; subst el
  have S1' : Sim c L1 ([] ++ (l1 ++ l2)) e1 σ H1 := by rw [List.nil_append]; exact S1
  have sh : RS c.K (AT c.B (L1.flatten ++ [])) H1 v r.d := by
    obtain ⟨d, m⟩ := r
    cases m with
    | b => cases hmb
    | o m => exact Res.shared (Tm := []) (la := l1 ++ l2) (m := m) (by rw [List.nil_append]; exact hr) rfl S1' fun b hb => List.mem_append_left _ hb
  have sh' : RS c.K (AT c.B (L1.flatten ++ [])) H1 v' r'.d := by
    obtain ⟨d, m⟩ := r'
    cases m with
    | b => cases hmb'
    | o m => exact Res.shared (Tm := []) (la := l1 ++ l2) (m := m) (by rw [List.nil_append]; exact hrs') rfl S1' fun b hb => List.mem_append_right _ hb
  have S2 : Sim c L1 [] e1 σ H1 := Sim.drop (Tm := []) (l := l1 ++ l2) S1
  have S2' := S2.addhd sh'
  have sh2 : RS (c.with ((v', r'.d) :: c.hd)).K (AT (c.with ((v', r'.d) :: c.hd)).B (L1.flatten ++ [])) H1 v r.d := sh
  obtain ⟨L0, S0⟩ := (S2'.addhd sh2).lower le
  rw [hd] at sh S0
  rw [hd'] at sh' S0
  obtain ⟨a0, xs0, rfl, ha0, _, _⟩ := sh.lst_inv
  obtain ⟨b0, ys0, rfl, hb0, _, _⟩ := sh'.lst_inv
  rw [← hK]
  refine ⟨a0, b0, xs0, ys0, rfl, SqL.of ha0, SqL.of hb0, ?_⟩
  let H9 : List (V × PyData) := (.ref a0, .list ds) :: (.ref b0, .list es) :: c.hd
  have S0 : Sim (c.with H9) L0 [] e0 σ H1 := S0
  have un2 : ∀ {L : List (List Addr)} {Tm : List Addr} {e : VEnv} {σ : Sg} {H : Hp}, Sim (c.with H9) L Tm e σ H → Sim c L Tm e σ H := fun S => (Sim.unhd (c := c.with ((.ref b0, .list es) :: c.hd)) S).unhd
  refine ⟨fun i m σ H => m = min ds.length es.length - i ∧ i ≤ min ds.length es.length ∧ ∃ e L, Sim (c.with H9) L [] e σ H ∧ I i e, ⟨min ds.length es.length, by simp, Nat.zero_le _, e0, L0, S0, i0⟩, ?_⟩
  rintro i m σ2 H2 ⟨rfl, hi, e, L, S, ii⟩
  have hh := S.hd _ (show ((.ref a0, .list ds) : V × PyData) ∈ H9 from List.mem_cons_self)
  have hh' := S.hd _ (show ((.ref b0, .list es) : V × PyData) ∈ H9 from List.mem_cons_of_mem _ List.mem_cons_self)
  obtain ⟨a', xs, ea, ha', _, rs⟩ := hh.lst_inv
  cases ea
  obtain ⟨b', ys, eb, hb', _, rs'⟩ := hh'.lst_inv
  cases eb
  by_cases hlt : i < min ds.length es.length
  · obtain ⟨x, hx, rx⟩ := rs.get (List.getElem?_eq_getElem (show i < ds.length by omega))
    obtain ⟨y, hy, ry⟩ := rs'.get (List.getElem?_eq_getElem (show i < es.length by omega))
    refine .inr ⟨⟨xs, ys, x, y, SqL.of ha', SqL.of hb', hx, hy⟩, fun σ' H' => ∃ e L, Sim (c.with H9) L [] e σ' H' ∧ I (i + 1) e, fun σ' H' ⟨e, L, S, ii⟩ => ⟨min ds.length es.length - (i + 1), by omega, rfl, hlt, e, L, S, ii⟩, fun z H' hz => ?_⟩
    obtain ⟨T, x', y', rfl, nT, rfl, hxx, hyy⟩ := hz
    have ex : x' = x := Option.some.inj ((hxx xs (SqL.of ha')).symm.trans hx)
    have ey : y' = y := Option.some.inj ((hyy ys (SqL.of hb')).symm.trans hy)
    subst ex; subst ey
    obtain ⟨qs, hq, hw⟩ := step i _ _ e (List.getElem?_eq_getElem (show i < ds.length by omega)) (List.getElem?_eq_getElem (show i < es.length by omega)) ii
    have st := Step.new (o := .tup [x', y']) S nT
    have S3 : Sim (c.with H9) L [] e σ2 (upd H2 T (.tup [x', y'])) := st.drop.sim0
    have hsm : Same H2 (upd H2 T (.tup [x', y'])) := same_new nT
    have hit : Res (c.with H9) (L.flatten ++ []) (upd H2 T (.tup [x', y'])) ⟨.tuple [ds[i]'(by omega), es[i]'(by omega)], mS⟩ (.ref T) [] :=
      RO.sh (.tup upd_same (.cons (rx.keep (Kp.same hsm)) (.cons (ry.keep (Kp.same hsm)) .nil)))
    obtain ⟨vs, l', s, rr, hl', go⟩ := run (c.with H9) _ _ _ _ _ qs hK hit hq
    have el : l' = [] := List.sublist_nil.mp s
    subst el
    obtain ⟨L3, S4⟩ := Sim.putAll (is := g.is) (Tm := []) (l := []) rr (by simpa using S3) (fun b hb => by simpa using hb) pf
    refine go σ2 _ ⟨H9, _, L3, _, S4, hw, fun env' L' σ' H'' ⟨e3, le3, i3⟩ S' => ?_, fun r v l H' e h hr => kr r v l H' e h ⟨hr.fr, hr.nd, hr.own, hr.res, let ⟨L, σ, q, z⟩ := hr.sim; ⟨L, σ, un2 q, z⟩⟩, fun ex env' L' σ' H' cls d hx S' he => kx ex env' L' σ' H' cls d hx (un2 S') he⟩
    obtain ⟨L4, S5⟩ := S'.lower le3
    exact ⟨e3, L4, S5, i3⟩
  · have e' : i = min ds.length es.length := by omega
    subst e'
    exact .inl ⟨⟨xs, ys, SqL.of ha', SqL.of hb', by rw [rs.len, rs'.len]; omega⟩, k e L σ2 H2 (last e ii) (un2 S)⟩
end
section
variable {α β σ ρ : Type} {G : EG} {env env1 env2 : VEnv} {m1 m2 md : Md} {a : Enc α} {b : Enc β} {e : Enc ρ} {wa wb : WE} {w : WS} {s : σ → VEnv}
theorem rb_forZP {g : Tg} {xs : List α} {ys : List β} {F : σ → α × β → Out σ} (st : σ) (hi : RE G wa env env1 m1 (eL a) (.ok xs)) (hj : RE G wb env1 env2 m2 (eL b) (.ok ys)) (h0 : envLe (s st) env2) (ent : σ → α × β → VEnv)
    (hb : ∀ st x, RB G w (ent st x) (F st x) (KN s)) (hg : ∀ st x, ∃ rs, g.f ⟨.tuple [a x.1, b x.2], mS⟩ = some rs ∧ VL.putAll (s st) g.is rs = ent st x := by exact fun _ _ => ⟨_, rfl, rfl⟩) (hm : isB m1 = false := by rfl) (hm' : isB m2 = false := by rfl) :
    RB G (wFor_zip g (wCons wa (wCons wb wNil)) w) env (forO F st (xs.zip ys)) (KN s) := fun D Xe hX hs =>
  hi _ _ Xe hX (sat_ok.mpr (hj _ _ Xe hX (sat_ok.mpr (by
    refine ⟨_, _, xs.map a, ys.map b, rfl, rfl, rfl, hm, hm', fun k e' => ∃ V, e' = s V ∧ Sat (forO F V ((xs.zip ys).drop k)) (fun b => (KN s) b D) Xe, s st, h0, ⟨st, rfl, by rw [List.drop_zero]; exact hs⟩, fun k d d' e' hd hd' hJ => ?_, fun e' hJ => ?_⟩
    · obtain ⟨V, rfl, hs⟩ := hJ
      rw [List.getElem?_map] at hd hd'
      obtain ⟨x, hx, rfl⟩ := Option.map_eq_some_iff.mp hd
      obtain ⟨y, hy, rfl⟩ := Option.map_eq_some_iff.mp hd'
      obtain ⟨rs, h1, h2⟩ := hg V (x, y)
      refine ⟨rs, h1, ?_⟩
      rw [h2]
      have hz : (xs.zip ys)[k]? = some (x, y) := List.getElem?_zip_eq_some.mpr ⟨hx, hy⟩
      rw [drop_cons hz] at hs
      exact hb V _ { D with nx := fun e2 => _ } Xe hX ((sat_bind.mp hs).imp fun V' hs => fun e le => ⟨s V', le, V', rfl, hs⟩)
    · obtain ⟨V, rfl, hs⟩ := hJ
      have hl : min (xs.map a).length (ys.map b).length = (xs.zip ys).length := by simp
      rw [hl, List.drop_length] at hs
      exact hs _ (envLe.refl _)))))
end
end VL
set_option maxRecDepth 100000
set_option maxHeartbeats 4000000
namespace VL
open PySem PySem.Spec PyProof.Rows L2
section
variable {X : Cx} {c : Cn} {W : WX} {pos apos cpos px : Pos} {wa wb wk wv : WE} {wo : WO} {r2 : R2} {a b e f : Expr} {x : Str}
end
section
variable {α β γ δ σ ρ τ : Type} {G : EG} {env env1 : VEnv} {md m1 m2 : Md} {a : Enc α} {b : Enc β} {e : Enc ρ} {we wk wv wb : WE} {wo : WO} {s : τ → VEnv}
variable {mm1 mm2 : Md}
end
end VL
set_option maxRecDepth 100000
set_option maxHeartbeats 4000000
namespace VL
open PySem PySem.Spec PyProof.Rows L2
section
variable {α β ρ σ τ ι γ : Type} {G : EG} {env env1 : VEnv} {md m1 : Md} {a : Enc α} {e : Enc ρ} {we : WE} {wl : WA} {u w v : WS} {wt : WT} {A : Out α} {s : τ → VEnv} {K : γ → DV → Prop}
def KTM (e : Enc ρ) (md : Md) (s : τ → VEnv) : ρ × τ → DV → Prop := fun p D => ∀ v, envLe (s p.2) v → D.rt ⟨e p.1, md⟩ v
theorem rb_retMP {x : α} (V : τ) (r : ρ) (h : RE G we env env1 md a (.ok x)) (le : envLe (s V) env1) (hb : isB md = false := by rfl) (he : a x = e r := by rfl) : RB G (wSeq (wRet we) u) env (.ok (r, V)) (KTM e md s) := fun D Xe hX hs =>
  h _ _ Xe hX ⟨hb, by rw [he]; exact hs _ le⟩
theorem of_KTM {w : WS} {env : VEnv} {m : Out (ρ × τ)} {s : τ → VEnv} {et : Enc τ} {j : Nat} {Qv : R → D → Prop} {Xv : Exn → Prop} (h : RB (fun _ => True) w env m (KTM e md s)) (hs : Sat m (fun p => Qv ⟨e p.1, md⟩ (et p.2)) Xv) (hj : ∀ t, (s t)[j]? = some (some (et t, mA)) := by exact fun _ => rfl) :
    w env ⟨fun e => ∃ d, e[j]? = some (some (d, mA)) ∧ Qv ⟨.none, mA⟩ d, fun r e => ∃ d, e[j]? = some (some (d, mA)) ∧ Qv r d, fun ex _ => Xv ex⟩ :=
  h _ Xv (fun _ _ _ h => h) (hs.imp fun p q e le => ⟨et p.2, le.get (hj p.2), q⟩)
end
end VL
set_option maxRecDepth 100000
set_option maxHeartbeats 4000000
namespace VL
open PySem PySem.Spec PyProof.Rows L2
section
variable {X : Cx} {c : Cn} {W : WX} {pos p px pc : Pos} {wa : WA} {e : Expr} {x : Str}
end
section
variable {α β : Type} {G : EG} {env : VEnv} {md m1 m2 : Md} {a : Enc α} {b : Enc β} {wa wb we : WE}
end
end VL
set_option maxRecDepth 100000
set_option maxHeartbeats 4000000
namespace VL
open PySem PySem.Spec PyProof.Rows L2
open PySem.W (dataLe dataLt AllAlike Sortable EachIs alike alikeAll)
section
variable {X : Cx} {c : Cn} {W : WX} {pos p : Pos} {wa : WA} {e : Expr} {β : Type} {fv : β → V} {fd : β → D}
end
section
variable {X : Cx} {c : Cn} {W : WX} {pos p : Pos} {wa : WA} {e : Expr}
end
class OrdE {α : Type} (e : Enc α) (lt : outParam (α → α → Bool)) : Prop where
  lt : ∀ a b, dataLt (e a) (e b) = lt a b
  al : ∀ a b, alike (e a) (e b) = true
  nn : ∀ a, e a ≠ .none ∧ ∀ xs, e a ≠ .tuple xs
def lexB {α : Type} [DecidableEq α] (lt : α → α → Bool) : List α → List α → Bool
  | [], [] => false
  | [], _ :: _ => true
  | _ :: _, [] => false
  | x :: xs, y :: ys => if x = y then lexB lt xs ys else lt x y
def ltI (a b : Int) : Bool := decide (a < b)
instance : OrdE eI ltI := ⟨fun a b => PySem.W.dataLt_int a b, fun _ _ => by simp [eI, alike], fun _ => ⟨by simp [eI], by simp [eI]⟩⟩
section
variable {α : Type} [DecidableEq α] {a : Enc α} {lt : α → α → Bool} {n : Nat}
theorem alike_map [o : OrdE a lt] : ∀ xs ys : List α, alikeAll (xs.map a) (ys.map a) = true
  | [], _ => by simp [alikeAll]
  | _ :: _, [] => by simp [alikeAll]
  | x :: xs, y :: ys => by simp [alikeAll, o.al, alike_map xs ys]
theorem dataLt_map [o : OrdE a lt] [h : EqE a n] : ∀ xs ys : List α, dataLt (.list (xs.map a)) (.list (ys.map a)) = lexB lt xs ys
  | [], [] => by rw [PySem.W.dataLt_list]; rfl
  | [], y :: ys => by
    have := PySem.W.dataLt_list [] ((y :: ys).map a)
    rw [List.map_nil, this]
    have e : (PyData.list []) = (PyData.list (([] : List Int).map .int)) := rfl
    have d := PySem.W.dataLt_ints [] [0]
    simp only [lexB]
    rw [List.map_cons]
    have := PySem.W.toks_all_cons (a y) (ys.map a)
    rw [this]
    simp only [PySem.W.keyToksAll]
    rfl
  | x :: xs, [] => by
    rw [List.map_nil, PySem.W.dataLt_list, List.map_cons, PySem.W.toks_all_cons]
    simp only [PySem.W.keyToksAll, lexB]
    rfl
  | x :: xs, y :: ys => by
    have ih := dataLt_map xs ys
    rw [PySem.W.dataLt_list] at ih ⊢
    rw [List.map_cons, List.map_cons, PySem.W.dataLt_cons (o.al x y), h.eqv, o.lt, ih]
    simp only [lexB, decide_eq_true_eq]
instance [o : OrdE a lt] [h : EqE a n] : OrdE (eL a) (lexB lt) := ⟨fun xs ys => dataLt_map xs ys, fun xs ys => by
  have := alike_map (a := a) xs ys
  simpa [eL, alike] using this, fun _ => ⟨by simp [eL], by simp [eL]⟩⟩
end
end VL
set_option maxRecDepth 100000
set_option maxHeartbeats 4000000
namespace VL
open PySem PySem.Spec PyProof.Rows L2
section
variable {X : Cx} {c : Cn} {W : WX} {pos p p2 q px apos cpos : Pos} {e : Expr} {te : TE} {we : WE} {x : Str}
end
section
variable {α β γ : Type} {G : EG} {env env1 : VEnv} {md : Md} {a : Enc α} {we : WE} {u : WS} {M : Out γ} {K : γ → DV → Prop}
end
end VL
set_option maxRecDepth 100000
set_option maxHeartbeats 4000000
namespace VL
open PySem PySem.Spec PyProof.Rows L2
section
variable {α β γ : Type} {G : EG} {env env1 env2 : VEnv} {m1 m2 md : Md} {a : Enc α} {b : Enc β} {c : Enc γ} {wa wb : WE}
theorem re_slNM {wl wh : WPt} {Xs : Out (List α)} {lo hi : Out (Option Int)} (ha : RE G wa env env m1 (eL a) Xs) (hl : RO_ G wl env lo) (hh : RO_ G wh env hi) (hb : isB m1 = false := by rfl) : RE G (wWk 0 (wSl wa wl wh)) env env (.o (some 1)) (eL a) (Xs.bind fun xs => lo.bind fun lo => hi.bind fun hi => .ok (cutL xs lo hi)) := fun Q X Xe hX hs =>
  ha _ _ Xe hX ((sat_bind.mp hs).imp fun xs hs => hl _ _ Xe hX ((sat_bind.mp hs).imp fun lo hs => hh _ _ Xe hX ((sat_bind.mp hs).imp fun hi hs => by
    show (fun r e => _) (cpR (cutL (xs.map a) lo hi) (isB m1)) env
    exact ⟨cpR_wk _ _ hb, by rw [cpR_d, cutL_map]; exact hs⟩)))
end
def wLcZ (vs : List Nat) (g : Tg) (wa : WA) (tt : WT) (wl : WE) : WE := fun env Q X => wa env (fun rs e => ∃ r r' ds es, rs = [r, r'] ∧ r.d = .list ds ∧ r'.d = .list es ∧ isB r.m = false ∧ isB r'.m = false ∧ min ds.length es.length ≤ 1000000 ∧ ∃ (km : Option Nat) (I : Nat → List D → Prop), I 0 [] ∧
  (∀ i d d' acc, ds[i]? = some d → es[i]? = some d' → I i acc → ∃ rs, g.f ⟨.tuple [d, d'], mS⟩ = some rs ∧ acc.length ≤ i ∧ wTurn tt wl km (putAll (wipeE (bEnv e) vs) g.is rs) (fun y => I (i + 1) (acc ++ [y])) (I (i + 1) acc)) ∧
  (∀ acc, I (min ds.length es.length) acc → Q ⟨.list acc, .o (succM km)⟩ e)) X
section
variable {c : Cn} {L : List (List Addr)} {Tm : List Addr} {H H1 H3 : Hp} {Dn : Addr} {km : Option Nat} {acc : List V} {accD : List D} {lk : List Addr}
theorem Acc.grow (A : Acc c L Tm H1 Dn km acc accD lk H) (sm : Same H H3) : Acc c L Tm H1 Dn km acc accD lk H3 :=
  ⟨A.same.trans sm, A.nd, fun b hb => let ⟨n, o, e⟩ := A.new b hb; ⟨n, o, sm _ _ e⟩, sm _ _ A.at_, ROs.keepT A.kids sm fun b hb => .inl hb⟩
end
section
variable {X : Cx} {c : Cn} {W : WX} {we wl : WE} {wa : WA} {tt : WT} {g : Tg} {vs : List Nat}
theorem rd_lcZ {K : PySem.W.Frag} {t : TG} (hK : c.K = K) (run : RunTg K g t) (his : ∀ i ∈ g.is, i ∈ vs) (pf : PinF c vs) {σ : Sg} {H : Hp} {Q : VK} (h : rdE c W (wLcZ vs g wa tt wl) σ H Q) : tLc (iZip K (rdA c W wa)) t (rdT c W0 tt) (rdE c W0 wl) vs σ H Q := by
  obtain ⟨env, L, Tm, Qv, X, S, q, k, kx⟩ := h
  refine ⟨env, L, Tm, _, X, S, q, fun rs us l L1 e1 H1 ⟨r, r', ds, es, ers, hd, hd', hmb, hmb', hlen, km, I, i0, step, last⟩ st hrs => ?_, kx⟩
  have S1 : Sim c L1 Tm e1 σ H1 := st.sim0
  subst ers
  obtain ⟨v, v', l1, l2, evs, el, hr, hrs'⟩ := ress2 hrs
  subst evs; subst el
  have sh : RS c.K (AT c.B (L1.flatten ++ Tm)) H1 v r.d := by
    obtain ⟨d, m⟩ := r
    cases m with
    | b => cases hmb
    | o m => exact Res.shared (la := l1 ++ l2) (m := m) hr rfl st.sim fun b hb => List.mem_append_left _ hb
  have sh' : RS c.K (AT c.B (L1.flatten ++ Tm)) H1 v' r'.d := by
    obtain ⟨d, m⟩ := r'
    cases m with
    | b => cases hmb'
    | o m => exact Res.shared (la := l1 ++ l2) (m := m) hrs' rfl st.sim fun b hb => List.mem_append_right _ hb
  rw [hd] at sh
  rw [hd'] at sh'
  obtain ⟨a0, xs, rfl, ha0, _, rx0⟩ := sh.lst_inv
  obtain ⟨b0, ys, rfl, hb0, _, ry0⟩ := sh'.lst_inv
  have up : ∀ {H' : Hp} {K' : List Addr} {x : V} {d : D}, Same H1 H' → (∀ b ∈ K', H1 b = none) → RS c.K (AT c.B (L1.flatten ++ Tm)) H1 x d → RS c.K (AT c.B ((L1.map fun _ => ([] : List Addr)).flatten ++ (L1.flatten ++ (Tm ++ K')))) H' x d := fun sm hk h =>
    (h.mono fun b o a e => ⟨a.1, fun z => by
      rw [flatten_nils, List.nil_append, ← List.append_assoc] at z
      rcases List.mem_append.mp z with z | z
      · exact a.2 z
      · rw [hk b z] at e; cases e⟩).keep (Kp.same sm)
  refine ⟨a0, b0, xs, ys, rfl, by rw [← hK]; exact SqL.of ha0, by rw [← hK]; exact SqL.of hb0, ?_⟩
  intro Dn nD
  refine ⟨fun i m H => m = min ds.length es.length - i ∧ i ≤ min ds.length es.length ∧ ∃ acc accD lk, Acc c L1 Tm H1 Dn km acc accD lk H ∧ I i accD, ⟨min ds.length es.length, by simp, Nat.zero_le _, [], [], [], Acc.start S1 nD, i0⟩, ?_⟩
  rintro i m H2 ⟨rfl, hi, acc, accD, lk, A, ii⟩
  have ha2 := A.same _ _ ha0
  have hb2 := A.same _ _ hb0
  by_cases hlt : i < min ds.length es.length
  · obtain ⟨x, hx, rx⟩ := rx0.get (List.getElem?_eq_getElem (show i < ds.length by omega))
    obtain ⟨y, hy, ry⟩ := ry0.get (List.getElem?_eq_getElem (show i < es.length by omega))
    refine .inr ⟨⟨xs, ys, x, y, by rw [← hK]; exact SqL.of ha2, by rw [← hK]; exact SqL.of hb2, hx, hy⟩, fun H' => ∃ acc accD lk, Acc c L1 Tm H1 Dn km acc accD lk H' ∧ I (i + 1) accD, fun H' ⟨acc, accD, lk, A, ii⟩ => ⟨min ds.length es.length - (i + 1), by omega, rfl, hlt, acc, accD, lk, A, ii⟩, fun z H' hz => ?_⟩
    obtain ⟨T, x', y', rfl, nT, rfl, hxx, hyy⟩ := hz
    have ex : x' = x := Option.some.inj ((hxx xs (by rw [← hK]; exact SqL.of ha2)).symm.trans hx)
    have ey : y' = y := Option.some.inj ((hyy ys (by rw [← hK]; exact SqL.of hb2)).symm.trans hy)
    subst ex; subst ey
    obtain ⟨qs, hq, hle, hw⟩ := step i _ _ accD (List.getElem?_eq_getElem (show i < ds.length by omega)) (List.getElem?_eq_getElem (show i < es.length by omega)) ii
    have hsm : Same H2 (upd H2 T (.tup [x', y'])) := same_new nT
    have A' := A.grow hsm
    have it : Res c ((L1.map fun _ => ([] : List Addr)).flatten ++ (L1.flatten ++ (Tm ++ (Dn :: lk)))) (upd H2 T (.tup [x', y'])) ⟨.tuple [ds[i]'(by omega), es[i]'(by omega)], mS⟩ (.ref T) [] :=
      RO.sh (.tup upd_same (.cons (up A'.same (fun b hb => (A.new b hb).1) rx) (.cons (up A'.same (fun b hb => (A.new b hb).1) ry) .nil)))
    obtain ⟨ws, l', s, rr, hl', gg⟩ := run c _ _ _ _ _ qs hK it hq
    have el : l' = [] := List.sublist_nil.mp s
    subst el
    have la : acc.length = accD.length := A.kids.len
    exact turn_run A' S1 his pf rr gg (by omega) hw (fun y d lk' H' hy A' => ⟨_, _, lk', A', hy⟩) fun H' hn A' => ⟨_, _, _, A', hn⟩
  · have e' : i = min ds.length es.length := by omega
    subst e'
    exact .inl ⟨⟨xs, ys, by rw [← hK]; exact SqL.of ha2, by rw [← hK]; exact SqL.of hb2, by rw [rx0.len, ry0.len]; omega⟩, A.done st k (last accD ii)⟩
end
section
variable {X : Cx} {c : Cn} {W : WX} {wl : WE} {wa : WA} {tt : WT} {a b elt : Expr} {elts : List Expr} {kk : Nat} {tpos : Pos} {ifs : List Expr} {scope : Scope} {pos p cpos : Pos}
theorem ve_lcZ {is : List Nat} (hc : X.calm = true) (hN : X.N.Nodup) (own : List (Str × Nat)) (hm : X.mg "zip" = none) (ha : PA X [a, b] (rdA c W wa)) (hg : Blk X scope fun Y => PG Y (.Tuple elts kk tpos) (gTup X.K is.length (gAll is))) (ht : Blk X scope fun Y => PTs Y ifs (rdT c W0 tt)) (he : Blk X scope fun Y => PE Y elt (rdE c W0 wl))
    (hgl : Gl X "zip" := by rfl) (hs1 : starEach [a, b] X.env = (false, eval a X.env) :: starEach [b] X.env := by rfl) (hpl : (backTo cpos (starEach [b] X.env)).any (·.1) = false := by rfl)
    (ok : BlkOk X.N X.env.scope scope own := by first | exact blkOk_by (by decide +kernel) | exact blkOk_by (by rfl) | exact blkOk_by (by with_unfolding_all rfl)) (his : ∀ i ∈ is, i ∈ own.map (·.2) := by decide) (hK : c.K = X.K := by rfl) (hs : ∀ x, foldedSetIterable (.Call (.Name "zip" p) [a, b] [] cpos) X.env x = pure x := by intro _; rfl) (pf : PinF c (own.map (·.2)) := by first | exact pinF_nil rfl | exact pinF_one rfl (by decide) | assumption) :
    PE X (.ListComp elt [⟨.Tuple elts kk tpos, .Call (.Name "zip" p) [a, b] [] cpos, ifs, 0⟩] scope pos) (rdE c W (wLcZ (own.map (·.2)) (tgT is) wa tt wl)) :=
  PE.imp (pe_lc hc hN (pi_zip hgl hm ha hs1 hpl) ok hg ht he hs) fun σ H Q => rd_lcZ hK run_tup his pf
theorem vs_setLcZ {is : List Nat} {n : Nat} {y : Str} {py spos : Pos} (hc : X.calm = true) (hN : X.N.Nodup) (own : List (Str × Nat)) (hm : X.mg "zip" = none) (ha : PA X [a, b] (rdA c W wa)) (hg : Blk X scope fun Y => PG Y (.Tuple elts kk tpos) (gTup X.K is.length (gAll is))) (ht : Blk X scope fun Y => PTs Y ifs (rdT c W0 tt)) (he : Blk X scope fun Y => PE Y elt (rdE c W0 wl))
    (hy : X.N[n]? = some y := by rfl) (hyl : X.env.scope.names.lookup y = some .local := by rfl) (hsw : swapsWith (.ListComp elt [⟨.Tuple elts kk tpos, .Call (.Name "zip" p) [a, b] [] cpos, ifs, 0⟩] scope pos) (some (.Name y py)) spos.line X.env = pure true := by exact sw_true rfl rfl rfl (by decide +kernel))
    (hgl : Gl X "zip" := by rfl) (hs1 : starEach [a, b] X.env = (false, eval a X.env) :: starEach [b] X.env := by rfl) (hpl : (backTo cpos (starEach [b] X.env)).any (·.1) = false := by rfl)
    (ok : BlkOk X.N X.env.scope scope own := by first | exact blkOk_by (by decide +kernel) | exact blkOk_by (by rfl) | exact blkOk_by (by with_unfolding_all rfl)) (his : ∀ i ∈ is, i ∈ own.map (·.2) := by decide) (hK : c.K = X.K := by rfl) (hs : ∀ x, foldedSetIterable (.Call (.Name "zip" p) [a, b] [] cpos) X.env x = pure x := by intro _; rfl) (pf : PinF c (own.map (·.2)) := by first | exact pinF_nil rfl | exact pinF_one rfl (by decide) | assumption) (pn : PinF c [n] := by first | exact pinF_nil rfl | exact pinF_one rfl (by decide) | assumption) :
    PS X (.Assign [.Name y py] (.ListComp elt [⟨.Tuple elts kk tpos, .Call (.Name "zip" p) [a, b] [] cpos, ifs, 0⟩] scope pos) spos) (rdS c W (wSet n (wLcZ (own.map (·.2)) (tgT is) wa tt wl))) :=
  PS.imp (ps_setLc hc hN hy hyl hsw (pi_zip hgl hm ha hs1 hpl) ok hg ht he hs) fun D σ H => rd_setPE (fun σ H Q => rd_lcZ hK run_tup his pf) pn
end
section
variable {α β γ : Type} {G : EG} {env env1 env2 : VEnv} {m1 m2 : Md} {a : Enc α} {b : Enc β} {c : Enc γ} {wa wb : WE}
theorem re_lcZM {g : Tg} {vs : List Nat} {tt : WT} {wl : WE} (km : Option Nat) (md : Md) {ent : α × β → VEnv} {P : α × β → Out Bool} {F : α × β → Out γ} {Xs : Out (List α)} {Ys : Out (List β)}
    (hi : RE G wa env env1 m1 (eL a) Xs) (hj : RE G wb env1 env2 m2 (eL b) Ys) (hg : ∀ x, ∃ rs, g.f ⟨.tuple [a x.1, b x.2], mS⟩ = some rs ∧ VL.putAll (wipeE (bEnv env2) vs) g.is rs = ent x)
    (hp : ∀ x, RT (fun _ => True) tt (ent x) (P x)) (hf : ∀ x, ∃ e', RE (fun _ => True) wl (ent x) e' md c (F x)) (hk : KidE c md km) (hm : isB m1 = false := by rfl) (hm' : isB m2 = false := by rfl) :
    RE G (wLcZ vs g (wCons wa (wCons wb wNil)) tt wl) env env2 (.o (succM km)) (eL c) (Xs.bind fun xs => Ys.bind fun ys => fmapL (fun x => noX (P x)) (fun x => noX (F x)) (xs.zip ys)) := fun Q X Xe hX hs =>
  hi _ _ Xe hX ((sat_bind.mp hs).imp fun xs hs => hj _ _ Xe hX ((sat_bind.mp hs).imp fun ys hs => by
    unfold fmapL at hs
    split at hs
    · rename_i hl
      obtain ⟨J, j0, js, je⟩ := lc_turns hp hf hk (xs.zip ys) hs
      have hz : min (xs.map a).length (ys.map b).length = (xs.zip ys).length := by simp
      refine ⟨_, _, xs.map a, ys.map b, rfl, rfl, rfl, hm, hm', by rw [hz]; exact hl, km, J, j0, fun k d d' acc hd hd' hJ => ?_, fun acc hJ => ?_⟩
      · rw [List.getElem?_map] at hd hd'
        obtain ⟨x, hx, rfl⟩ := Option.map_eq_some_iff.mp hd
        obtain ⟨y, hy, rfl⟩ := Option.map_eq_some_iff.mp hd'
        obtain ⟨rs, h1, h2⟩ := hg (x, y)
        obtain ⟨h3, h4⟩ := js k (x, y) acc (List.getElem?_zip_eq_some.mpr ⟨hx, hy⟩) hJ
        exact ⟨rs, h1, h3, by rw [h2]; exact h4⟩
      · rw [hz] at hJ
        obtain ⟨zs, rfl, q⟩ := je acc hJ
        exact q
    · exact hs.elim))
theorem re_lcZ1M {g : Tg} {vs : List Nat} {wl : WE} (km : Option Nat) (md : Md) {ent : α × β → VEnv} {F : α × β → Out γ} {Xs : Out (List α)} {Ys : Out (List β)}
    (hi : RE G wa env env1 m1 (eL a) Xs) (hj : RE G wb env1 env2 m2 (eL b) Ys) (hg : ∀ x, ∃ rs, g.f ⟨.tuple [a x.1, b x.2], mS⟩ = some rs ∧ VL.putAll (wipeE (bEnv env2) vs) g.is rs = ent x)
    (hf : ∀ x, ∃ e', RE (fun _ => True) wl (ent x) e' md c (F x)) (hk : KidE c md km) (hm : isB m1 = false := by rfl) (hm' : isB m2 = false := by rfl) :
    RE G (wLcZ vs g (wCons wa (wCons wb wNil)) wYes wl) env env2 (.o (succM km)) (eL c) (Xs.bind fun xs => Ys.bind fun ys => mapL (fun x => noX (F x)) (xs.zip ys)) :=
  re_eq (re_lcZM km md (P := fun _ => .ok true) hi hj hg (fun x Q X Xe _ h => h) hf hk hm hm') (by
    congr; funext xs; congr; funext ys; unfold fmapL mapL; split
    · exact fmapO_true _
    · rfl)
theorem re_lcZ1P {g : Tg} {vs : List Nat} {wl : WE} (km : Option Nat) (md : Md) {ent : α × β → VEnv} {F : α × β → Out γ} {xs : List α} {ys : List β}
    (hi : RE G wa env env1 m1 (eL a) (.ok xs)) (hj : RE G wb env1 env2 m2 (eL b) (.ok ys)) (hg : ∀ x, ∃ rs, g.f ⟨.tuple [a x.1, b x.2], mS⟩ = some rs ∧ VL.putAll (wipeE (bEnv env2) vs) g.is rs = ent x)
    (hf : ∀ x, ∃ e', RE (fun _ => True) wl (ent x) e' md c (F x)) (hk : KidE c md km) (hm : isB m1 = false := by rfl) (hm' : isB m2 = false := by rfl) :
    RE G (wLcZ vs g (wCons wa (wCons wb wNil)) wYes wl) env env2 (.o (succM km)) (eL c) (mapL (fun x => noX (F x)) (xs.zip ys)) := re_lcZ1M km md hi hj hg hf hk hm hm'
end
end VL
set_option maxRecDepth 100000
set_option maxHeartbeats 4000000
namespace VL
open PySem PySem.Spec PyProof.Rows L2
theorem kid_le {γ : Type} {c : Enc γ} {m n : Option Nat} (h : leM n m = true := by rfl) : KidE c (.o m) n := fun _ => .inr ⟨m, rfl, h⟩
section
variable {X : Cx} {c : Cn} {W : WX} {pos px ppx apx cpx pos2 p3 : Pos} {wp : WP} {o : Expr} {tx : Str}
end
section
variable {α β γ δ σ ρ τ : Type} {G : EG} {env env1 env2 env3 : VEnv} {md m1 m2 m3 : Md} {a : Enc σ} {b : Enc β} {c : Enc γ} {wi we : WE} {wp : WP} {w u v : WS} {K : δ → DV → Prop}
end
end VL
set_option maxRecDepth 100000
set_option maxHeartbeats 4000000
namespace XR
open PySem PySem.Spec PyProof.Rows L2 VL
@[irreducible] noncomputable def F_law_next_prime (number_ : Int) : Out Int :=
  ((whileO (fun (V243 : Int) => (((((lift (rgO 2 317)).bind (fmapL (fun step_ : Int => noX ((lift (mulO step_ step_)).bind fun t1 => (Out.ok (V243)).bind fun t2 => .ok (decide (t1 ≤ t2)))) (fun step_ : Int => noX ((lift (modO V243 step_)).bind fun t1 => (Out.ok (0)).bind fun t2 => .ok (decide (t1 > t2)))))).bind fun x => (Out.ok ()).bind fun t => .ok (x, t)).bind fun (t : (List Bool) × Unit) => .ok (t.1.all id)).bind fun t1 => .ok (!t1))) (fun (V243 : Int) => ((Out.ok ((V243 + 1))).bind fun (number_ : Int) => (Out.ok number_))) fuel number_).bind fun (V243 : Int) => (Out.ok V243))
@[irreducible] noncomputable def F_law_prime (some_ : (List Int)) : Out (Int × Int) :=
  ((Out.ok ([2, 3, 5, 7, 11, 13, 23, 97, 65537, 99991])).bind fun (primes_ : (List Int)) => ((((Out.ok (primes_)).bind fun t1 => (((((((Out.ok (2)).bind fun t1 => (lift (atI some_ 1)).bind fun t2 => .ok ((t1 + t2))).bind fun x => (Out.ok ()).bind fun t => .ok (x, t)).bind (fun (t : Int × Unit) => F_law_next_prime t.1)).bind fun x => (Out.ok ()).bind fun t => .ok (x, t)).bind fun (t : Int × Unit) => .ok [t.1]).bind fun t1 => (Out.ok (4)).bind fun t2 => lift (repO t1 t2)).bind fun t2 => lift (catO t1 t2)).bind fun t1 => (lift (atI some_ 0)).bind fun t2 => lift (atI t1 t2)).bind fun (prime_here_ : Int) => (((Out.ok (1)).bind fun t1 => ((lift (atI some_ 1)).bind fun t1 => (Out.ok (maxF 1 (prime_here_ - 1))).bind fun t2 => lift (modO t1 t2)).bind fun t2 => .ok ((t1 + t2))).bind fun (factor_ : Int) => (((Out.ok (prime_here_)).bind fun x => (((Out.ok (factor_)).bind fun t1 => ((Out.ok (prime_here_)).bind fun t1 => ((Out.ok ([0, 0, -(3), 1, (10 ^ ((50 : Int).toNat) : Int)])).bind fun t1 => (lift (atI some_ 2)).bind fun t2 => lift (atI t1 t2)).bind fun t2 => lift (mulO t1 t2)).bind fun t2 => .ok ((t1 + t2))).bind fun x => (Out.ok ()).bind fun t => .ok (x, t)).bind fun t => .ok (x, t)).bind fun (t : Int × Int × Unit) => .ok (t.1, t.2.1)))))
def sp_law_prime : FSpec := fun ds Q X => ∃ (some_ : (List Int)), ds = [(eL eI) some_] ∧ Sat (F_law_prime some_) (fun r => Q ⟨(e2 eI eI) r, mA⟩) X
@[irreducible] noncomputable def F_is_prime (number_ : Int) : Out Bool :=
  (if (decide (number_ < 2) || decide (number_ > 100000)) = true then (Out.ok false) else ((Out.ok (2)).bind fun (step_ : Int) => ((whileF (fun (V258 : Int) => ((lift (mulO V258 V258)).bind fun t1 => (Out.ok (number_)).bind fun t2 => .ok (decide (t1 ≤ t2)))) (fun (V258 : Int) => (((lift (modO number_ V258)).bind fun t1 => (Out.ok (0)).bind fun t2 => .ok (decide (t1 = t2))).bind fun p => if p = true then (Out.ok (Fl.ret false)) else ((Out.ok ((V258 + 1))).bind fun (step_ : Int) => (Out.ok (Fl.nxt step_))))) fuel step_).bind (flowT fun (V258 : Int) => (Out.ok true)))))
def sp_is_prime : FSpec := fun ds Q X => ∃ (number_ : Int), ds = [eI number_] ∧ Sat (F_is_prime number_) (fun r => Q ⟨eB r, mA⟩) X
@[irreducible] noncomputable def F_asked_prime (prime_ : Int) (factor_ : Int) : Out Unit :=
  (((F_is_prime prime_).bind fun t1 => .ok (!t1)).bind fun p => if p = true then (Out.exn ⟨"NoPrime", none⟩) else (((lift (modO factor_ prime_)).bind fun t1 => (Out.ok (0)).bind fun t2 => .ok (decide (t1 = t2))).bind fun p => if p = true then (Out.exn ⟨"NoUnit", none⟩) else (Out.ok ())))
def sp_asked_prime : FSpec := fun ds Q X => ∃ (prime_ : Int) (factor_ : Int), ds = [eI prime_, eI factor_] ∧ Sat (F_asked_prime prime_ factor_) (fun r => Q ⟨eN r, mA⟩) X
@[irreducible] noncomputable def F_equations (drawing_ : ((List (List Int)) × (List (Int × Int)))) (prime_ : Int) (factor_ : Int) : Out (List (List Int)) :=
  ((F_asked_prime prime_ factor_).bind fun _ => ((Out.ok (([] : (List (List Int))))).bind fun (told_ : (List (List Int))) => (((XA.F_meets drawing_).bind fun xs => forO (fun (V343 : (List (List Int))) (x344 : (Int × Int × Int × Int × Int)) => ((if (decide (x344.2.1 < 0)) = true then ((Out.ok (x344.2.2.2.2, (x344.2.2.2.1, ()))).bind fun (p352 : Int × Int × Unit) => (Out.ok (p352.1, p352.2.1))) else (Out.ok (x344.2.2.2.1, x344.2.2.2.2))).bind fun (V351 : Int × Int) => (((Out.ok ([0])).bind fun t1 => (XC.F_arc_count drawing_).bind fun t2 => lift (repO t1 t2)).bind fun (row_ : (List Int)) => ((forO (fun (V353 : (List Int)) (x354 : (Int × Int)) => ((((lift (atI V353 x354.1)).bind fun t1 => (Out.ok (x354.2)).bind fun t2 => .ok ((t1 + t2))).bind fun t1 => (Out.ok (prime_)).bind fun t2 => lift (modO t1 t2)).bind fun v => (Out.ok (x354.1)).bind fun j => (lift (setO V353 j v)).bind fun row_ => (Out.ok row_))) row_ ([(V351.1, factor_), (x344.2.2.1, (1 - factor_)), (V351.2, -(1))])).bind fun (V353 : (List Int)) => ((Out.ok (V353)).bind fun v => (lift (appO V343 v)).bind fun told_ => (Out.ok told_)))))) told_ xs).bind fun (V343 : (List (List Int))) => (Out.ok V343))))
def sp_equations : FSpec := fun ds Q X => ∃ (drawing_ : ((List (List Int)) × (List (Int × Int)))) (prime_ : Int) (factor_ : Int), ds = [(e2 (eL (eL eI)) (eL (e2 eI eI))) drawing_, eI prime_, eI factor_] ∧ Sat (F_equations drawing_ prime_ factor_) (fun r => Q ⟨(eL (eL eI)) r, mA⟩) X
end XR
set_option maxRecDepth 100000
set_option maxHeartbeats 4000000
namespace XR2
open PySem PySem.Spec PyProof.Rows L2 VL
@[irreducible] noncomputable def F_first_row (rows_ : (List (List Int))) (start_ : Int) (arc_ : Int) : Out (Option Int) :=
  (((lift (rgO start_ (rows_.length : Int))).bind fun xs => forF (fun (V371 : Unit) (at_ : Int) => ((((lift (atI rows_ at_)).bind fun t1 => (Out.ok (arc_)).bind fun t2 => lift (atI t1 t2)).bind fun t1 => (Out.ok (0)).bind fun t2 => .ok (!decide (t1 = t2))).bind fun p => if p = true then (Out.ok (Fl.ret (some (at_)))) else (Out.ok (Fl.nxt ())))) () xs).bind (flowT fun (V371 : Unit) => (Out.ok none)))
def sp_first_row : FSpec := fun ds Q X => ∃ (rows_ : (List (List Int))) (start_ : Int) (arc_ : Int), ds = [(eL (eL eI)) rows_, eI start_, eI arc_] ∧ Sat (F_first_row rows_ start_ arc_) (fun r => Q ⟨(eO eI) r, mA⟩) X
@[irreducible] noncomputable def F_way_back (number_ : Int) (prime_ : Int) : Out Int :=
  (((Out.ok (prime_)).bind fun x => ((lift (modO number_ prime_)).bind fun x => (Out.ok ()).bind fun t => .ok (x, t)).bind fun t => .ok (x, t)).bind fun (p386 : Int × Int × Unit) => ((Out.ok ((0, 1))).bind fun (p387 : (Int × Int)) => ((whileO (fun (V388 : Int × Int × Int × Int) => (Out.ok (decide (V388.2.1 > 0)))) (fun (V388 : Int × Int × Int × Int) => ((lift (fdO V388.1 V388.2.1)).bind fun (whole_ : Int) => (((Out.ok (V388.2.1)).bind fun x => (((Out.ok (V388.1)).bind fun t1 => (lift (mulO whole_ V388.2.1)).bind fun t2 => .ok ((t1 - t2))).bind fun x => (Out.ok ()).bind fun t => .ok (x, t)).bind fun t => .ok (x, t)).bind fun (p391 : Int × Int × Unit) => (((Out.ok (V388.2.2.2)).bind fun x => (((Out.ok (V388.2.2.1)).bind fun t1 => (lift (mulO whole_ V388.2.2.2)).bind fun t2 => .ok ((t1 - t2))).bind fun x => (Out.ok ()).bind fun t => .ok (x, t)).bind fun t => .ok (x, t)).bind fun (p392 : Int × Int × Unit) => (Out.ok (p391.1, p391.2.1, p392.1, p392.2.1)))))) fuel (p386.1, p386.2.1, p387.1, p387.2)).bind fun (V388 : Int × Int × Int × Int) => (lift (modO V388.2.2.1 prime_)))))
def sp_way_back : FSpec := fun ds Q X => ∃ (number_ : Int) (prime_ : Int), ds = [eI number_, eI prime_] ∧ Sat (F_way_back number_ prime_) (fun r => Q ⟨eI r, mA⟩) X
@[irreducible] noncomputable def F_made_less (row_ : (List Int)) (by_ : Int) (other_ : (List Int)) (prime_ : Int) : Out (List Int) :=
  (mapL (fun p397 : (Int × Int) => noX (((Out.ok (p397.1)).bind fun t1 => (lift (mulO by_ p397.2)).bind fun t2 => .ok ((t1 - t2))).bind fun t1 => (Out.ok (prime_)).bind fun t2 => lift (modO t1 t2))) (List.zip row_ other_))
def sp_made_less : FSpec := fun ds Q X => ∃ (row_ : (List Int)) (by_ : Int) (other_ : (List Int)) (prime_ : Int), ds = [(eL eI) row_, eI by_, (eL eI) other_, eI prime_] ∧ Sat (F_made_less row_ by_ other_ prime_) (fun r => Q ⟨(eL eI) r, mA⟩) X
@[irreducible] noncomputable def F_cleared (rows_ : (List (List Int))) (at_ : Int) (arc_ : Int) (prime_ : Int) : Out (List (List Int)) :=
  (((((lift (atI rows_ at_)).bind fun t1 => (Out.ok (arc_)).bind fun t2 => lift (atI t1 t2)).bind fun x => (Out.ok (prime_, ())).bind fun t => .ok (x, t)).bind (fun (t : Int × Int × Unit) => F_way_back t.1 t.2.1)).bind fun (number_ : Int) => (((lift (atI rows_ at_)).bind (mapL (fun one_ : Int => noX ((lift (mulO number_ one_)).bind fun t1 => (Out.ok (prime_)).bind fun t2 => lift (modO t1 t2))))).bind fun (lead_ : (List Int)) => ((Out.ok (([] : (List (List Int))))).bind fun (told_ : (List (List Int))) => ((forO (fun (V411 : (List (List Int))) (x412 : (Int × (List Int))) => ((if (decide (x412.1 = at_)) = true then ((Out.ok (lead_)).bind fun v => (lift (appO V411 v)).bind fun told_ => (Out.ok told_)) else ((((Out.ok (x412.2)).bind fun x => ((lift (atI x412.2 arc_)).bind fun x => (Out.ok (lead_, (prime_, ()))).bind fun t => .ok (x, t)).bind fun t => .ok (x, t)).bind (fun (t : (List Int) × Int × (List Int) × Int × Unit) => F_made_less t.1 t.2.1 t.2.2.1 t.2.2.2.1)).bind fun v => (lift (appO V411 v)).bind fun told_ => (Out.ok told_))).bind fun (V415 : (List (List Int))) => (Out.ok V415))) told_ (enumF rows_)).bind fun (V411 : (List (List Int))) => (Out.ok V411)))))
def sp_cleared : FSpec := fun ds Q X => ∃ (rows_ : (List (List Int))) (at_ : Int) (arc_ : Int) (prime_ : Int), ds = [(eL (eL eI)) rows_, eI at_, eI arc_, eI prime_] ∧ Sat (F_cleared rows_ at_ arc_ prime_) (fun r => Q ⟨(eL (eL eI)) r, mS⟩) X
@[irreducible] noncomputable def F_reduced (rows_ : (List (List Int))) (count_ : Int) (prime_ : Int) : Out ((List (List Int)) × (List Int)) :=
  ((Out.ok (([] : (List Int)))).bind fun (tied_ : (List Int)) => (((lift (rgO 0 count_)).bind fun xs => forO (fun (V424 : (List (List Int)) × (List Int)) (arc_ : Int) => ((F_first_row V424.1 (V424.2.length : Int) arc_).bind fun (at_ : (Option Int)) => ((if (!at_.isNone) = true then (((((Out.ok (cutL V424.1 none (some ((V424.2.length : Int))))).bind fun t1 => ((((Out.ok (V424.1)).bind fun t1 => (lift at_).bind fun t2 => lift (atI t1 t2)).bind fun x => (Out.ok ()).bind fun t => .ok (x, t)).bind fun (t : (List Int) × Unit) => .ok [t.1]).bind fun t2 => lift (catO t1 t2)).bind fun t1 => ((Out.ok (V424.1)).bind fun xs => (Out.ok ((some ((V424.2.length : Int))) : Option Int)).bind fun lo => ((lift at_).bind fun i => .ok (some i)).bind fun hi => .ok (cutL xs lo hi)).bind fun t2 => lift (catO t1 t2)).bind fun t1 => ((Out.ok (V424.1)).bind fun xs => (((lift at_).bind fun t1 => (Out.ok (1)).bind fun t2 => .ok ((t1 + t2))).bind fun i => .ok (some i)).bind fun lo => (Out.ok (none : Option Int)).bind fun hi => .ok (cutL xs lo hi)).bind fun t2 => lift (catO t1 t2)).bind fun (rows_ : (List (List Int))) => ((F_cleared rows_ (V424.2.length : Int) arc_ prime_).bind fun (rows_ : (List (List Int))) => ((Out.ok (arc_)).bind fun v => (lift (appO V424.2 v)).bind fun tied_ => (Out.ok (rows_, tied_))))) else (Out.ok (V424.1, V424.2))).bind fun (V426 : (List (List Int)) × (List Int)) => (Out.ok (V426.1, V426.2))))) (rows_, tied_) xs).bind fun (V424 : (List (List Int)) × (List Int)) => (Out.ok (V424.1, V424.2))))
def sp_reduced : FSpec := fun ds Q X => ∃ (rows_ : (List (List Int))) (count_ : Int) (prime_ : Int), ds = [(eL (eL eI)) rows_, eI count_, eI prime_] ∧ Sat (F_reduced rows_ count_ prime_) (fun r => Q ⟨(e2 (eL (eL eI)) (eL eI)) r, mS⟩) X
@[irreducible] noncomputable def F_solved (drawing_ : ((List (List Int)) × (List (Int × Int)))) (prime_ : Int) (factor_ : Int) : Out ((List Int) × (List (List Int)) × (List (Int × (List Int)))) :=
  ((XC.F_arc_count drawing_).bind fun (count_ : Int) => ((XR.F_equations drawing_ prime_ factor_).bind fun (rows_ : (List (List Int))) => ((Out.ok ((rows_.length : Int))).bind fun (many_ : Int) => (((lift (rgO 0 many_)).bind fun xs => forO (fun (V453 : (List (List Int))) (at_ : Int) => (((lift (atI V453 at_)).bind fun t1 => ((lift (rgO 0 many_)).bind (mapL (fun place_ : Int => noX (Out.ok ((if (decide (place_ = at_)) = true then 1 else 0)))))).bind fun t2 => lift (catO t1 t2)).bind fun v => (Out.ok (at_)).bind fun j => (lift (setO V453 j v)).bind fun rows_ => (Out.ok rows_))) rows_ xs).bind fun (V453 : (List (List Int))) => ((F_reduced V453 count_ prime_).bind fun (p455 : ((List (List Int)) × (List Int))) => (((lift (rgO 0 count_)).bind (fmapL (fun arc_ : Int => noX (Out.ok (!decide (arc_ ∈ p455.2)))) (fun arc_ : Int => noX (Out.ok (arc_))))).bind fun (frees_ : (List Int)) => ((Out.ok (([] : (List (List Int))))).bind fun (basis_ : (List (List Int))) => ((forO (fun (V456 : (List (List Int))) (free_ : Int) => ((lift (repO ([0]) count_)).bind fun (colours_ : (List Int)) => ((Out.ok (1)).bind fun v => (Out.ok (free_)).bind fun j => (lift (setO colours_ j v)).bind fun colours_ => ((forO (fun (V459 : (List Int)) (x460 : ((List Int) × Int)) => ((((lift (atI x460.1 free_)).bind fun t1 => .ok (-t1)).bind fun t1 => (Out.ok (prime_)).bind fun t2 => lift (modO t1 t2)).bind fun v => (Out.ok (x460.2)).bind fun j => (lift (setO V459 j v)).bind fun colours_ => (Out.ok colours_))) colours_ (List.zip p455.1 p455.2)).bind fun (V459 : (List Int)) => ((Out.ok (V459)).bind fun v => (lift (appO V456 v)).bind fun basis_ => (Out.ok basis_)))))) basis_ frees_).bind fun (V456 : (List (List Int))) => ((mapL (fun p461 : ((List Int) × Int) => noX (Out.ok ((p461.2, cutL p461.1 (some (count_)) none)))) (List.zip p455.1 p455.2)).bind fun (ties_ : (List (Int × (List Int)))) => (Out.ok (frees_, V456, ties_)))))))))))
def sp_solved : FSpec := fun ds Q X => ∃ (drawing_ : ((List (List Int)) × (List (Int × Int)))) (prime_ : Int) (factor_ : Int), ds = [(e2 (eL (eL eI)) (eL (e2 eI eI))) drawing_, eI prime_, eI factor_] ∧ Sat (F_solved drawing_ prime_ factor_) (fun r => Q ⟨(e3 (eL eI) (eL (eL eI)) (eL (e2 eI (eL eI)))) r, mS⟩) X
@[irreducible] noncomputable def F_straight_many (drawing_ : ((List (List Int)) × (List (Int × Int)))) (prime_ : Int) (factor_ : Int) : Out Int :=
  ((Out.ok (1)).bind fun (number_ : Int) => ((((F_solved drawing_ prime_ factor_).bind fun p => .ok (p.1)).bind fun xs => forO (fun (V464 : Int) (free_ : Int) => ((lift (mulO V464 prime_)).bind fun (number_ : Int) => (Out.ok number_))) number_ xs).bind fun (V464 : Int) => (Out.ok V464)))
def sp_straight_many : FSpec := fun ds Q X => ∃ (drawing_ : ((List (List Int)) × (List (Int × Int)))) (prime_ : Int) (factor_ : Int), ds = [(e2 (eL (eL eI)) (eL (e2 eI eI))) drawing_, eI prime_, eI factor_] ∧ Sat (F_straight_many drawing_ prime_ factor_) (fun r => Q ⟨eI r, mA⟩) X
end XR2
set_option maxRecDepth 100000
set_option maxHeartbeats 4000000
namespace VL
open PySem PySem.Spec PyProof.Rows L2
def Cn.pinW (c : Cn) (i : Nat) (v : V) : Cn := { c with pin := (i, v) :: c.pin }
def wForV (g : Tg) (i : Nat) (w : WS) : WS := fun env Dv => ∃ ds m, env[i]? = some (some (.list ds, m)) ∧ ∃ (I : Nat → VEnv → Prop) (e0 : VEnv), envLe e0 env ∧ I 0 e0 ∧ (∀ k e, I k e → ∃ m, e[i]? = some (some (.list ds, m))) ∧
  (∀ k d e, ds[k]? = some d → I k e → ∃ rs, g.f (itemR .b d) = some rs ∧ w (putAll e g.is rs) { Dv with nx := fun e2 => ∃ e3, envLe e3 e2 ∧ I (k + 1) e3 }) ∧ (∀ e, I ds.length e → Dv.nx e)
section
variable {X : Cx} {c : Cn} {W : WX} {pos px : Pos} {g : Tg} {w : WS} {tg : Expr} {x : Str} {body : List Stmt}
theorem Sim.pinned {i : Nat} {v : V} {L : List (List Addr)} {Tm : List Addr} {e : VEnv} {σ : Sg} {H : Hp} (S : Sim c L Tm e σ H) (h : σ[i]? = some (some v)) : Sim (c.pinW i v) L Tm e σ H :=
  ⟨up S.sl, S.nd, S.own, S.fr, S.hd, fun p hp => by
    rcases List.mem_cons.mp hp with z | z
    · subst z; exact h
    · exact S.pin p z⟩
where
  up {c : Cn} {i : Nat} {v : V} {T : List Addr} {H : Hp} {e : VEnv} {σ : Sg} {L : List (List Addr)} (h : Slots c T H e σ L) : Slots (c.pinW i v) T H e σ L := by
    induction h with
    | nil => exact .nil
    | non _ ih => exact .non ih
    | bor r _ ih => exact .bor r ih
    | own r _ ih => exact .own r ih
theorem Sim.unpin {i : Nat} {v : V} {L : List (List Addr)} {Tm : List Addr} {e : VEnv} {σ : Sg} {H : Hp} (S : Sim (c.pinW i v) L Tm e σ H) : Sim c L Tm e σ H :=
  ⟨un S.sl, S.nd, S.own, S.fr, S.hd, fun p hp => S.pin p (List.mem_cons_of_mem _ hp)⟩
where
  un {c : Cn} {i : Nat} {v : V} {T : List Addr} {H : Hp} {e : VEnv} {σ : Sg} {L : List (List Addr)} (h : Slots (c.pinW i v) T H e σ L) : Slots c T H e σ L := by
    induction h with
    | nil => exact .nil
    | non _ ih => exact .non ih
    | bor r _ ih => exact .bor r ih
    | own r _ ih => exact .own r ih
theorem item_b {T : List Addr} {H : Hp} {A : Addr → Prop} {v : V} {d : D} (h : RS c.K A H v d) : Res c T H (itemR .b d) v [] := by
  unfold itemR
  by_cases f : flatD d = true
  · rw [if_pos f]; exact Res.flat h f
  · rw [if_neg f]; exact ⟨h.mono fun _ _ _ _ => trivial, rfl⟩
theorem vs_forV (i : Nat) (hp : PassesOwn (model X.prog X.w) X.A X.env X.xe) (hc : X.calm = true) (hg : TgOk X tg g) (hb : ∀ v, PSs X body (rdS (c.pinW i v) W w)) (hK : c.K = X.K := by rfl)
    (hv : PE X (.Name x px) (tVar i) := by exact pe_var (by rfl) (by first | exact Or.inl rfl | exact Or.inr (Or.inl rfl) | exact Or.inr (Or.inr rfl)) (by decide) (by decide))
    (hs : ∀ y, foldedSetIterable (.Name x px) X.env y = pure y := by intro _; rfl) (ig : i ∉ g.is := by decide) (pf : PinF c g.is := by first | exact pinF_nil rfl | exact pinF_one rfl (by decide) | assumption) : PS X (.For tg (.Name x px) body [] pos) (rdS c W (wForV g i w)) := by
  obtain ⟨t, hpg, run⟩ := hg.ok
  refine PS.imp (ps_for (tb := fun D σ H => ∃ v, rdS (c.pinW i v) W w D σ H) hp hc (pi_seq hv) hpg ⟨fun pins s σ H D I hh => hh.elim fun v z => (hb v).run pins s σ H D I z⟩ hs) fun D σ H h => ?_
  obtain ⟨env, L, Dv, S, ⟨ds, m, he, I, e0, le, i0, hI, step, last⟩, k, kr, kx⟩ := h
  obtain ⟨v, l0, hv0, _, r0⟩ := S.sl.get he
  obtain ⟨a, xs, rfl, ha, _, _⟩ := r0.read.lst_inv
  obtain ⟨L0, S0⟩ := S.lower le
  have pf' : PinF (c.pinW i (.ref a)) g.is := fun p hp z => by
    rcases List.mem_cons.mp hp with e | e
    · subst e; exact ig z
    · exact pf p e z
  refine ⟨.ref a, hv0, a, rfl, .inl ⟨⟨xs, SqL.of ha⟩, ?_⟩⟩
  refine ⟨fun k m σ H => m = ds.length - k ∧ k ≤ ds.length ∧ ∃ e L, Sim (c.pinW i (.ref a)) L [] e σ H ∧ I k e, ⟨ds.length, by simp, Nat.zero_le _, e0, L0, S0.pinned hv0, i0⟩, ?_⟩
  rintro j m' σ2 H2 ⟨rfl, hi, e, L, S, ii⟩
  obtain ⟨m2, he2⟩ := hI j e ii
  obtain ⟨v2, l2, hv2, _, r2⟩ := S.sl.get he2
  have hpin := S.pin (i, .ref a) List.mem_cons_self
  simp only at hpin
  rw [hpin] at hv2
  cases hv2
  obtain ⟨a', ys, ea, ha', _, rs⟩ := r2.read.lst_inv
  cases ea
  have wk := walked_l (K := X.K) ha'
  by_cases hlt : j < ds.length
  · obtain ⟨x, hx, rx⟩ := rs.get (List.getElem?_eq_getElem hlt)
    refine .inr ⟨wk.go j x hx, fun σ' H' => ∃ e L, Sim (c.pinW i (.ref a)) L [] e σ' H' ∧ I (j + 1) e, fun σ' H' ⟨e, L, S, ii⟩ => ⟨ds.length - (j + 1), by omega, rfl, hlt, e, L, S, ii⟩, fun y H' hy => ?_⟩
    obtain ⟨rfl, rfl⟩ := wk.yld j x y H' hx hy
    obtain ⟨qs, hq, hw⟩ := step j _ e (List.getElem?_eq_getElem hlt) ii
    have hit : Res (c.pinW i (.ref a)) (L.flatten ++ []) H' (itemR .b ds[j]) y [] := item_b rx
    obtain ⟨vs, l', s, rr, hl', go⟩ := run (c.pinW i (.ref a)) _ H' _ y _ qs hK hit hq
    have el : l' = [] := List.sublist_nil.mp s
    subst el
    obtain ⟨L3, S3⟩ := Sim.putAll (is := g.is) (Tm := []) (l := []) rr (by simpa using S) (fun b hb => by simpa using hb) pf'
    refine go σ2 _ ⟨.ref a, _, L3, _, S3, hw, fun env' L' σ' H'' ⟨e3, le3, i3⟩ S' => ?_, fun r v l H' e h hr => kr r v l H' e h ⟨hr.fr, hr.nd, hr.own, hr.res, let ⟨L, σ, q, z⟩ := hr.sim; ⟨L, σ, q.unpin, z⟩⟩, fun ex env' L' σ' H' cls d hx S' he => kx ex env' L' σ' H' cls d hx S'.unpin he⟩
    obtain ⟨L4, S4⟩ := S'.lower le3
    exact ⟨e3, L4, S4, i3⟩
  · have e' : j = ds.length := by omega
    subst e'
    exact .inl ⟨wk.stop _ (by rw [rs.len]; omega), k e L σ2 H2 (last e ii) S.unpin⟩
end
section
variable {α β σ ρ : Type} {G : EG} {env env1 env2 : VEnv} {m1 m2 md : Md} {a : Enc α} {b : Enc β} {e : Enc ρ} {w : WS} {s : σ → VEnv}
theorem rb_forVN {g : Tg} (i : Nat) {xs : List α} {F : σ → α → Out σ} (st : σ) (h0 : envLe (s st) env) (ent : σ → α → VEnv)
    (hb : ∀ st x, RB G w (ent st x) (F st x) (KN s)) (hi : env[i]? = some (some (eL a xs, m1)) := by rfl) (hI : ∀ st, ∃ m, (s st)[i]? = some (some (eL a xs, m)) := by exact fun _ => ⟨_, rfl⟩) (hg : ∀ st x, ∃ rs, g.f (itemR .b (a x)) = some rs ∧ VL.putAll (s st) g.is rs = ent st x := by exact fun _ _ => ⟨_, rfl, rfl⟩) :
    RB G (wForV g i w) env (forO F st xs) (KN s) := fun D Xe hX hs => by
  refine ⟨xs.map a, m1, hi, fun k e => ∃ V, e = s V ∧ Sat (forO F V (xs.drop k)) (fun b => KN s b D) Xe, s st, h0, ⟨st, rfl, hs⟩, fun k e hJ => ?_, fun k d e hd hJ => ?_, fun e hJ => ?_⟩
  · obtain ⟨V, rfl, _⟩ := hJ
    exact hI V
  · obtain ⟨V, rfl, hs⟩ := hJ
    rw [List.getElem?_map] at hd
    obtain ⟨x, hx, rfl⟩ := Option.map_eq_some_iff.mp hd
    obtain ⟨rs, h1, h2⟩ := hg V x
    refine ⟨rs, h1, ?_⟩
    rw [h2]
    rw [drop_cons hx] at hs
    exact hb V x { D with nx := fun e2 => _ } Xe hX ((sat_bind.mp hs).imp fun V' hs e le => ⟨s V', le, V', rfl, hs⟩)
  · obtain ⟨V, rfl, hs⟩ := hJ
    rw [List.length_map, List.drop_length] at hs
    exact hs _ (envLe.refl _)
end
end VL
set_option maxRecDepth 100000
set_option maxHeartbeats 4000000
namespace XR3
open PySem PySem.Spec PyProof.Rows L2 VL
@[irreducible] noncomputable def F_solved (drawing_ : ((List (List Int)) × (List (Int × Int)))) (prime_ : Int) (factor_ : Int) : Out ((List Int) × (List (List Int)) × (List (Int × (List Int)))) :=
  ((XC.F_arc_count drawing_).bind fun (count_ : Int) => ((XR.F_equations drawing_ prime_ factor_).bind fun (rows_ : (List (List Int))) => ((Out.ok ((rows_.length : Int))).bind fun (many_ : Int) => (((lift (rgO 0 many_)).bind fun xs => forO (fun (V422 : (List (List Int))) (at_ : Int) => (((lift (atI V422 at_)).bind fun t1 => ((lift (rgO 0 many_)).bind (mapL (fun place_ : Int => noX (Out.ok ((if (decide (place_ = at_)) = true then 1 else 0)))))).bind fun t2 => lift (catO t1 t2)).bind fun v => (Out.ok (at_)).bind fun j => (lift (setO V422 j v)).bind fun rows_ => (Out.ok rows_))) rows_ xs).bind fun (V422 : (List (List Int))) => ((XR2.F_reduced V422 count_ prime_).bind fun (p424 : ((List (List Int)) × (List Int))) => (((lift (rgO 0 count_)).bind (fmapL (fun arc_ : Int => noX (Out.ok (!decide (arc_ ∈ p424.2)))) (fun arc_ : Int => noX (Out.ok (arc_))))).bind fun (frees_ : (List Int)) => ((Out.ok (([] : (List (List Int))))).bind fun (basis_ : (List (List Int))) => ((forO (fun (V425 : (List (List Int))) (free_ : Int) => ((lift (repO ([0]) count_)).bind fun (colours_ : (List Int)) => ((Out.ok (1)).bind fun v => (Out.ok (free_)).bind fun j => (lift (setO colours_ j v)).bind fun colours_ => ((forO (fun (V428 : (List Int)) (x429 : ((List Int) × Int)) => ((((lift (atI x429.1 free_)).bind fun t1 => .ok (-t1)).bind fun t1 => (Out.ok (prime_)).bind fun t2 => lift (modO t1 t2)).bind fun v => (Out.ok (x429.2)).bind fun j => (lift (setO V428 j v)).bind fun colours_ => (Out.ok colours_))) colours_ (List.zip p424.1 p424.2)).bind fun (V428 : (List Int)) => ((Out.ok (V428)).bind fun v => (lift (appO V425 v)).bind fun basis_ => (Out.ok basis_)))))) basis_ frees_).bind fun (V425 : (List (List Int))) => ((mapL (fun p430 : ((List Int) × Int) => noX (Out.ok ((p430.2, cutL p430.1 (some (count_)) none)))) (List.zip p424.1 p424.2)).bind fun (ties_ : (List (Int × (List Int)))) => (Out.ok (frees_, V425, ties_)))))))))))
def sp_solved : FSpec := fun ds Q X => ∃ (drawing_ : ((List (List Int)) × (List (Int × Int)))) (prime_ : Int) (factor_ : Int), ds = [(e2 (eL (eL eI)) (eL (e2 eI eI))) drawing_, eI prime_, eI factor_] ∧ Sat (F_solved drawing_ prime_ factor_) (fun r => Q ⟨(e3 (eL eI) (eL (eL eI)) (eL (e2 eI (eL eI)))) r, mA⟩) X
@[irreducible] noncomputable def F_straight_many (drawing_ : ((List (List Int)) × (List (Int × Int)))) (prime_ : Int) (factor_ : Int) : Out Int :=
  ((Out.ok (1)).bind fun (number_ : Int) => ((((F_solved drawing_ prime_ factor_).bind fun p => .ok (p.1)).bind fun xs => forO (fun (V444 : Int) (free_ : Int) => ((lift (mulO V444 prime_)).bind fun (number_ : Int) => (Out.ok number_))) number_ xs).bind fun (V444 : Int) => (Out.ok V444)))
def sp_straight_many : FSpec := fun ds Q X => ∃ (drawing_ : ((List (List Int)) × (List (Int × Int)))) (prime_ : Int) (factor_ : Int), ds = [(e2 (eL (eL eI)) (eL (e2 eI eI))) drawing_, eI prime_, eI factor_] ∧ Sat (F_straight_many drawing_ prime_ factor_) (fun r => Q ⟨eI r, mA⟩) X
end XR3
set_option maxRecDepth 100000
set_option maxHeartbeats 4000000
namespace VL
open PySem PySem.Spec PyProof.Rows L2
section
variable {α β γ δ : Type} {a : Enc α} {b : Enc β} {c : Enc γ} {d : Enc δ} {n m k j : Nat}
def eX3 (a : Enc α) (b : Enc β) (c : Enc γ) : Enc (α × β × γ) := fun p => .list [a p.1, b p.2.1, c p.2.2]
def eX4 (a : Enc α) (b : Enc β) (c : Enc γ) (d : Enc δ) : Enc (α × β × γ × δ) := fun p => .list [a p.1, b p.2.1, c p.2.2.1, d p.2.2.2]
instance : Nf (eX3 a b c) := ⟨fun _ => rfl⟩
instance : Nf (eX4 a b c d) := ⟨fun _ => rfl⟩
variable [DecidableEq α] [DecidableEq β] [DecidableEq γ] [DecidableEq δ]
instance [h : EqE a n] [g : EqE b m] [i : EqE c k] : EqE (eX3 a b c) (max n (max m k) + 1) := ⟨fun p => by simp [eX3, PyData.canLay0, PyData.canLayAll0, h.lay, g.lay, i.lay], fun p => by
  have := h.dep p.1; have := g.dep p.2.1; have := i.dep p.2.2
  simp only [eX3, PyData.depth, PyData.depthAll]; omega, fun p q => by
  obtain ⟨p1, p2, p3⟩ := p; obtain ⟨q1, q2, q3⟩ := q
  simp only [eX3, PyData.eqv, PyData.eqvAll, h.eqv, g.eqv, i.eqv, Prod.mk.injEq, Bool.and_true, Bool.decide_and]⟩
instance [h : EqE a n] [g : EqE b m] [i : EqE c k] [u : EqE d j] : EqE (eX4 a b c d) (max n (max m (max k j)) + 1) := ⟨fun p => by simp [eX4, PyData.canLay0, PyData.canLayAll0, h.lay, g.lay, i.lay, u.lay], fun p => by
  have := h.dep p.1; have := g.dep p.2.1; have := i.dep p.2.2.1; have := u.dep p.2.2.2
  simp only [eX4, PyData.depth, PyData.depthAll]; omega, fun p q => by
  obtain ⟨p1, p2, p3, p4⟩ := p; obtain ⟨q1, q2, q3, q4⟩ := q
  simp only [eX4, PyData.eqv, PyData.eqvAll, h.eqv, g.eqv, i.eqv, u.eqv, Prod.mk.injEq, Bool.and_true, Bool.decide_and]⟩
end
section
variable {α β τ : Type} {b : Enc β} {G : EG} {env env1 env2 : VEnv} {wb wc : WE} {wl : WA} {m1 m2 : Md}
end
end VL
set_option maxRecDepth 100000
set_option maxHeartbeats 4000000
namespace VL
open PySem PySem.Spec PyProof.Rows L2
section
variable {X : Cx} {c : Cn} {W : WX} {apos cpos : Pos} {wd wk wx : WE} {o e f : Expr} {k : Nat}
end
section
variable {α : Type} {a : Enc α} {G : EG} {env env1 env2 env3 : VEnv} {wd wk wx : WE} {m1 m2 m3 : Md}
end
end VL
set_option maxRecDepth 100000
set_option maxHeartbeats 4000000
namespace VL
open PySem PySem.Spec PyProof.Rows L2
section
variable {X : Cx} {c : Cn} {W : WX} {pos apos cpos : Pos} {wp : WP} {we : WE} {o e : Expr}
end
section
variable {α β γ δ σ ρ τ : Type} {G : EG} {env env1 env2 env3 : VEnv} {md m1 m2 m3 : Md} {a : Enc α} {we : WE} {u : WS} {K : β → DV → Prop}
end
end VL
set_option maxRecDepth 100000
set_option maxHeartbeats 4000000
namespace VL
open PySem PySem.Spec PyProof.Rows L2
section
variable {c : Cn} {R R1 R2 : List Addr} {H1 H : Hp} {L : List (List Addr)} {Tm : List Addr} {e : VEnv} {σ : Sg}
end
section
variable {X : Cx} {c : Cn} {W : WX} {pos : Pos} {g : Tg} {we : WE} {w : WS} {tg iter : Expr} {body : List Stmt}
end
section
variable {σ ρ : Type} {G : EG} {env env1 env2 : VEnv} {md : Md} {e : Enc ρ} {we : WE} {w : WS} {s : σ → VEnv}
end
end VL
set_option maxRecDepth 100000
set_option maxHeartbeats 4000000
namespace VL
open PySem PySem.Spec PyProof.Rows L2
end VL
set_option maxRecDepth 100000
set_option maxHeartbeats 4000000
namespace VL
open PySem PySem.Spec PyProof.Rows L2
open PySem.W (dataLt alike)
end VL
set_option maxRecDepth 100000
set_option maxHeartbeats 4000000
namespace VL
open PySem PySem.Spec PyProof.Rows L2
section
variable {X : Cx} {c : Cn} {W : WX} {pos px ppx py ppy apx cpx pos2 pos3 p3 : Pos} {wp : WP} {o : Expr} {tx ty : Str} {z : Int} {j3 : _}
end
section
variable {α β γ δ σ ρ τ : Type} {G : EG} {env env1 env2 env3 : VEnv} {md m1 m2 m3 : Md} {a : Enc σ} {wp : WP} {w u v : WS} {K : δ → DV → Prop}
end
end VL
set_option maxRecDepth 100000
set_option maxHeartbeats 4000000
namespace VL
open PySem PySem.Spec PyProof.Rows L2
open PySem.W (dataLe dataLt AllAlike Sortable EachIs alike alikeAll)
section
variable {X : Cx} {c : Cn} {W : WX} {pos p : Pos} {wa : WA} {e : Expr} {β : Type} {fv : β → V} {fd : β → D}
end
section
variable {α : Type} [DecidableEq α] {a : Enc α} {lt : α → α → Bool} {n : Nat}
end
end VL
set_option maxRecDepth 100000
set_option maxHeartbeats 4000000
namespace VL
open PySem PySem.Spec PyProof.Rows L2
section
variable {X : Cx} {c : Cn} {W : WX} {pos : Pos} {g : Tg} {we : WE} {w : WS} {tg iter : Expr} {body : List Stmt}
end
section
variable {σ ρ : Type} {G : EG} {env env1 env2 : VEnv} {md : Md} {e : Enc ρ} {we : WE} {w : WS} {s : σ → VEnv}
end
end VL
set_option maxRecDepth 100000
set_option maxHeartbeats 4000000
namespace VL
open PySem PySem.Spec PyProof.Rows L2
def MA (A : Addr → Prop) (H : Hp) : Addr → Prop := fun b => A b ∧ ∃ o, H b = some o ∧ mutO o
section
variable {K : PySem.W.Frag} {A : Addr → Prop} {H : Hp}
mutual
theorem RS.mut : ∀ {v : V} {d : D}, RS K A H v d → RS K (MA A H) H v d
  | _, _, .non => .non
  | _, _, .bl b => .bl b
  | _, _, .int i => .int i
  | _, _, .str x => .str x
  | _, _, .lst h a r => .lst h ⟨a, _, h, trivial⟩ (RSs.mut r)
  | _, _, .tup h r => .tup h (RSs.mut r)
  | _, _, .dct h a e r => .dct h ⟨a, h.mut⟩ e (RSs.mut r)
  | _, _, .scr h => .scr h
  | _, _, .opq a => .opq a
  | _, _, .wtp a => .wtp a
  | _, _, .shr r => .shr (RS.mut r)
  | _, _, .ins h a c e r => .ins h ⟨a, _, h, trivial⟩ c e (RSs.mut r)
theorem RSs.mut : ∀ {v : List V} {d : List D}, RSs K A H v d → RSs K (MA A H) H v d
  | _, _, .nil => .nil
  | _, _, .cons h r => .cons (RS.mut h) (RSs.mut r)
end
mutual
theorem RO.mut : ∀ {m : Option Nat} {v : V} {d : D} {l : List Addr}, RO K A H m v d l → RO K (MA A H) H m v d l
  | _, _, _, _, .sh h => .sh h.mut
  | _, _, _, _, .flat h f => .flat h.mut f
  | _, _, _, _, .lst p h r => .lst p h (ROs.mut r)
  | _, _, _, _, .opq a => .opq a
  | _, _, _, _, .wtp a => .wtp a
  | _, _, _, _, .shr r => .shr r.mut
  | _, _, _, _, .ins p h c e r => .ins p h c e (ROs.mut r)
  | _, _, _, _, .tup h r => .tup h (ROs.mut r)
  | _, _, _, _, .dct p h e r => .dct p h e (ROs.mut r)
theorem ROs.mut : ∀ {m : Option Nat} {v : List V} {d : List D} {l : List Addr}, ROs K A H m v d l → ROs K (MA A H) H m v d l
  | _, _, _, _, .nil => .nil
  | _, _, _, _, .cons h r => .cons (RO.mut h) (ROs.mut r)
end
end
def XdL (R : List Addr) (H1 : Hp) : Prop := ∀ b ∈ R, ∃ fs, H1 b = some (.xd fs)
section
variable {c : Cn} {R : List Addr} {H1 H : Hp} {L : List (List Addr)} {Tm : List Addr} {e : VEnv} {σ : Sg} {hs : List (V × D)}
theorem XdL.is (hR : XdL R H1) : ∀ b ∈ R, ∃ o, H1 b = some o := fun b hb => let ⟨fs, h⟩ := hR b hb; ⟨_, h⟩
theorem XdL.no (hR : XdL R H1) {b : Addr} (h : ∃ o, H1 b = some o ∧ mutO o) : b ∉ R := fun hb => by
  obtain ⟨fs, q⟩ := hR b hb
  obtain ⟨o, h1, h2⟩ := h
  rw [q] at h1
  cases h1
  exact h2
end
def XfH (ex : Exn) (d : Option Addr) (R : List Addr) (H1 : Hp) (hs : List (V × D)) : Prop :=
  XdL R H1 ∧ match ex.fld with
    | none => d = none
    | some (f, dt) => ∃ dd v, d = some dd ∧ dd ∈ R ∧ H1 dd = some (.xd [(f, v)]) ∧ (v, dt) ∈ hs ∧ flatD dt = true
section
variable {X : Cx} {c : Cn} {W : WX} {pos np pos' : Pos} {w : WS} {l : List Str} {i : Nat} {x n : Str} {body suite : List Stmt} {b₀ : Stmt} {ws : Addr → Exn → WS}
end
section
variable {X : Cx} {c : Cn} {W : WX} {pos : Pos} {R : List Addr} {H1 : Hp} {hs : List (V × VL.D)}
theorem XfH.dict {ex : Exn} {d : Option Addr} (h : XfH ex d R H1 hs) {dd : Addr} (e : d = some dd) : ∃ f v dt, ex.fld = some (f, dt) ∧ dd ∈ R ∧ H1 dd = some (.xd [(f, v)]) ∧ (v, dt) ∈ hs ∧ flatD dt = true := by
  obtain ⟨_, h⟩ := h
  cases q : ex.fld with
  | none => rw [q] at h; rw [h] at e; cases e
  | some z =>
    obtain ⟨f, dt⟩ := z
    rw [q] at h
    obtain ⟨dd', v, e1, e2, e3, e4, e5⟩ := h
    rw [e1] at e; cases e
    exact ⟨f, v, dt, rfl, e2, e3, e4, e5⟩
end
end VL
set_option maxRecDepth 100000
set_option maxHeartbeats 4000000
namespace VL
open PySem PySem.Spec PyProof.Rows L2
section
variable {P : Program} {w : World} {K : PySem.W.Frag} {mg : Str → Option Value} {base : Heap} {cl : Str → Option Addr}
end
end VL
set_option maxRecDepth 100000
set_option maxHeartbeats 4000000
namespace VL
open PySem PySem.Spec PyProof.Rows L2
def InitAt (K : PySem.W.Frag) (x f q : Str) (st : Stmt) : Prop := ∃ (C fI : Addr) (oc : Value) (od an : Option Addr) (osl : Array (Option Value)) (kV doc pm cdv ct : Value),
  PySem.W.nsIn K mainGlobals x = some (some (.ref C)) ∧ OexC K C ∧ PySem.W.findIn K (.ref C) f = some none ∧ PySem.W.findIn K (.ref C) "__init__" = some (some (.ref fI)) ∧ PySem.W.typeIn K (.ref fI) = some (.type "function") ∧
  K.lookup fI = some ⟨oc, od, .func (PySem.W.fnOf "__init__" q (defArgs st) (defBody st) (defScope st) .none kV doc pm an cdv ct), osl⟩ ∧ PySem.W.codeIn K cdv q = true ∧ PySem.W.keepIn K (.ref fI) = true
section
variable {P : Program} {w : World} {K : PySem.W.Frag} {mg : Str → Option Value} {base h : Heap} {names : List Str} {x f q prm : Str} {st : Stmt}
theorem InitAt.mk {C fI : Addr} {oc : Value} {od an dd : Option Addr} {osl : Array (Option Value)} {kV doc pm cdv ct : Value} {nm q' : Str} {N : Addr} {bs bm : List Value} {sn : List Str} {sub : List Value} {ab : Bool} {col : Option Bool} {k0 k1 k2 k3 k5 : Option Value}
    (h1 : PySem.W.nsIn K mainGlobals x = some (some (.ref C))) (h2 : K.lookup C = some (excClassObj nm q' C N bs bm true sn sub ab col dd k0 k1 k2 k3 k5 "ValueError.__new__")) (h3 : PySem.HandSPX.refsVE bm = true)
    (h4 : PySem.W.findIn K (.ref C) "__setattr__" = some (some (.builtin "object.__setattr__"))) (h5 : PySem.W.subIn K (.ref C) (.type "BaseException") = some true) (h6 : PySem.W.typeIn K (.ref C) = some (.type "type")) (h7 : PySem.W.keepIn K (.ref C) = true)
    (h8 : PySem.W.findIn K (.ref C) f = some none) (h9 : PySem.W.findIn K (.ref C) "__init__" = some (some (.ref fI))) (h10 : PySem.W.typeIn K (.ref fI) = some (.type "function"))
    (h11 : K.lookup fI = some ⟨oc, od, .func (PySem.W.fnOf "__init__" q (defArgs st) (defBody st) (defScope st) .none kV doc pm an cdv ct), osl⟩) (h12 : PySem.W.codeIn K cdv q = true) (h13 : PySem.W.keepIn K (.ref fI) = true) : InitAt K x f q st :=
  ⟨C, fI, oc, od, an, osl, kV, doc, pm, cdv, ct, h1, ⟨⟨nm, q', N, bs, bm, sn, sub, ab, col, dd, k0, k1, k2, k3, k5, h2, h3⟩, h4, h5, h6, h7⟩, h8, h9, h10, h11, h12, h13⟩
end
section
variable {α β ρ σ : Type} {G : EG} {env env1 : VEnv} {m1 md : Md} {e : Enc α} {u : WS}
end
section
variable {β ρ σ : Type} {G : EG} {env : VEnv} {K : β → DV → Prop} {md : Md} {e : Enc ρ} {w : WS} {s : σ → VEnv}
end
class DecE {α : Type} (e : Enc α) (dec : outParam (D → Option α)) : Prop where
  ok : ∀ d a, dec d = some a → d = e a
  id : ∀ a, dec (e a) = some a
def decI : D → Option Int
  | .int i => some i
  | _ => none
instance : DecE eI decI := ⟨fun d a h => by
  cases d <;> simp [decI] at h
  subst h; rfl, fun _ => rfl⟩
def decA : D → Option At
  | .int i => some (.i i)
  | .bool b => some (.b b)
  | .str x => some (.s x)
  | _ => none
def decAs : List D → Option (List At)
  | [] => some []
  | d :: ds => match decA d, decAs ds with
    | some a, some as => some (a :: as)
    | _, _ => none
def decTA : D → Option (List At)
  | .tuple ds => decAs ds
  | _ => none
theorem decA_ok : ∀ d a, decA d = some a → d = eA a := fun d a h => by
  cases d <;> simp [decA] at h <;> subst h <;> rfl
theorem decAs_ok : ∀ ds as, decAs ds = some as → ds = as.map eA
  | [], as, h => by cases h; rfl
  | d :: ds, as, h => by
    unfold decAs at h
    split at h
    · rename_i a as' h1 h2
      cases h
      rw [decA_ok d a h1, decAs_ok ds as' h2]; rfl
    · cases h
theorem decA_id : ∀ a, decA (eA a) = some a := fun a => by cases a <;> rfl
theorem decAs_id : ∀ as : List At, decAs (as.map eA) = some as
  | [] => rfl
  | a :: as => by
    rw [List.map_cons]
    unfold decAs
    rw [decA_id, decAs_id as]
instance : DecE (eTL eA) decTA := ⟨fun d a h => by
  cases d <;> simp [decTA] at h
  rw [decAs_ok _ _ h]; rfl, fun a => decAs_id a⟩
end VL
set_option maxRecDepth 100000
set_option maxHeartbeats 4000000
namespace VL
open PySem PySem.Spec PyProof.Rows L2
section
variable {α : Type} {G : EG} {env env1 env2 : VEnv} {m1 m2 : Md} {a : Enc α} {wa wb : WE}
end
end VL
set_option maxRecDepth 100000
set_option maxHeartbeats 4000000
namespace VL
open PySem PySem.Spec PyProof.Rows L2
section
variable {X : Cx} {c : Cn} {W : WX} {pos : Pos} {R : List Addr} {H1 : Hp} {hs : List (V × VL.D)}
end
def pureD : D → Bool
  | .dict _ => false
  | d => flatD d
theorem pure_flat {d : D} (h : pureD d = true) : flatD d = true := by
  cases d with
  | dict _ => cases h
  | _ => exact h
abbrev FD := { d : D // pureD d = true }
def eF : Enc FD := fun x => x.1
instance : Fl_ eF := ⟨fun a => pure_flat a.2⟩
def fI (i : Int) : FD := ⟨.int i, rfl⟩
section
variable {G : EG} {env env1 : VEnv} {m1 : Md} {wa : WE}
end
end VL
set_option maxRecDepth 100000
set_option maxHeartbeats 4000000
namespace VL
open PySem PySem.Spec PyProof.Rows L2
section
variable {X : Cx} {c : Cn} {W : WX} {pos p cpos tpos : Pos} {g : Tg} {wa : WA} {w : WS} {elts : List Expr} {kk : Nat} {a b : Expr} {body : List Stmt}
end
section
variable {α β σ ρ : Type} {G : EG} {env env1 env2 : VEnv} {m1 m2 md : Md} {a : Enc α} {b : Enc β} {e : Enc ρ} {wa wb : WE} {w : WS} {s : σ → VEnv}
end
end VL
namespace VL
open PySem PySem.Spec PyProof.Rows L2
def dctS (kvs : List (Str × Int)) : D := mkDict false (kvs.map fun p => (.str p.1, .int p.2))
def eKS : Enc (List (Str × Int)) := dctS
section
variable {X : Cx} {c : Cn} {W : WX} {pos : Pos} {wd wk : WE} {o i : Expr} {k : Nat}
end
section
variable {G : EG} {env env1 env2 : VEnv} {md m1 m2 : Md} {wa wb : WE}
instance : Nf eKS := ⟨fun _ => by unfold eKS dctS mkDict; exact flat_dict⟩
end
end VL
namespace VL
open PySem PySem.Spec PyProof.Rows L2
section
variable {G : EG} {env env1 : VEnv} {m1 : Md} {wa : WE} {T : String}
end
end VL
set_option maxRecDepth 100000
set_option maxHeartbeats 4000000
namespace VL
open PySem PySem.Spec PyProof.Rows L2
section
variable {α β γ : Type} {G : EG} {u : WS} {we : WE} {env env1 : VEnv} {m1 : Md} {a : Enc α} {b : Enc β} {K : γ → DV → Prop}
def eLp (a : Enc α) (b : Enc β) : Enc (List α × β) := fun p => .list (p.1.map a ++ [b p.2])
instance : Nf (eLp a b) := ⟨fun _ => rfl⟩
end
end VL
set_option maxRecDepth 100000
set_option maxHeartbeats 4000000
namespace VL
open PySem PySem.Spec PyProof.Rows L2
section
variable {K : PySem.W.Frag} {A : Addr → Prop} {H : Hp}
end
section
variable {X : Cx} {c : Cn} {W : WX} {pos p apos : Pos} {wa : WA} {wo wl we : WE} {e o : Expr} {k : Nat}
end
section
variable {X : Cx} {c : Cn} {W : WX} {pos : Pos} {g : Tg} {we : WE} {w : WS} {tg iter : Expr} {body : List Stmt}
end
end VL
namespace VL
open PySem PySem.Spec PyProof.Rows L2
section
variable {α β σ ρ : Type} {G : EG} {env env1 env2 : VEnv} {m m1 m2 md : Md} {wa wb we : WE} {e : Enc ρ} {w : WS} {s : σ → VEnv}
end
end VL
namespace VL
open PySem PySem.Spec PyProof.Rows L2
def StrAt (K : PySem.W.Frag) (x z : Str) : Prop := ∃ t, PySem.W.nsIn K mainGlobals x = some (some (.str z t))
section
variable {K : PySem.W.Frag} {h : Heap} {mg : Str → Option Value} {x z : Str}
theorem StrAt.out (X : K.In h) (G : h.Ns mainGlobals mg) (a : StrAt K x z) : ∃ t, mg x = some (.str z t) := let ⟨t, e⟩ := a; ⟨t, PySem.W.mg_of X G e⟩
theorem StrAt.mk {t : Tok} (h : PySem.W.nsIn K mainGlobals x = some (some (.str z t))) : StrAt K x z := ⟨t, h⟩
end
end VL
set_option maxRecDepth 100000
set_option maxHeartbeats 4000000
namespace VL
open PySem PySem.Spec PyProof.Rows L2
section
variable {X : Cx} {pos : Pos} {g : Tg} {e2 : Expr}
end
end VL
set_option maxRecDepth 100000
set_option maxHeartbeats 4000000
namespace VL
open PySem PySem.Spec PyProof.Rows L2 PySem.HandSPX
theorem note_same {x : Value} {c1 c2 : Env} (q : c1.frame = c2.frame) : noteFrame x c1 = noteFrame x c2 := by
  unfold noteFrame PySem.frameOf
  rw [q]
theorem rawInt_ne {a b : Addr} (q : a ≠ b) : (rawInt (a : Int) == rawInt (b : Int)) = false := by
  unfold rawInt
  rw [beq_eq_false_iff_ne]
  intro z
  injection z with z1 z2
  exact q (Int.ofNat.inj z1)
section
variable {Mo : Model} {Ar : Around} {Ex : Value → Shared → Prop} {sh : Shared} {Zp : Obj → Prop} {gr : Heap} {ev : Env} {outs lst : List Env} {Lf x : Addr}
theorem note_other {Fo : Addr} {Qk : Unit → Shared → Prop} (st : Steady Zp) (fr : Ar.frames = some (ev :: outs)) (hf : ev.frame = some Lf) (ne : Fo ≠ Lf) (hh : HeldZ gr (ev :: outs) x Zp Fo sh.heap)
    (k : ∀ g, HeldZ gr (ev :: outs) x Zp Lf g → sh.heap.UpToSlots g → Qk () { sh with heap := g }) : wpAny Mo Ar (noteFrame (.ref x) ev) Qk Ex sh := by
  obtain ⟨stay, nx, ff, ob, fs, T, oT, ts, hx, hz, hd, i1, nT, Tx, hT, dT, i3⟩ := hh
  unfold noteFrame
  simp only [hf]
  refine wpAny_bind (wpAny_field hx hd i1 ?_)
  rw [if_pos (by simp : (Value.ref T != Value.none) = true)]
  refine wpAny_bind (wpAny_field hT dT i3 ?_)
  rw [if_neg (by rw [rawInt_ne ne]; decide)]
  refine wpAny_bind (wpAny_setField hT dT (Array.getElem?_eq_some_iff.mp i3).1 ?_)
  have oth : ∀ b, b ≠ T → (sh.heap.update T (Obj.mapFields (·.setIfInBounds 3 Value.none))).get? b = sh.heap.get? b := fun b q => Heap.get?_update_other _ _ (Ne.symm q)
  have nr : ∀ b o, sh.heap.get? b = some o → (∀ us, o.data ≠ .fields us) → b ≠ T := fun b o q nf e => by
    subst e
    rw [hT] at q
    exact nf ts (by cases q; exact dT)
  refine wpAny_entryZ st fr (ff.of_keeps fun b o q nf => ⟨o, (oth b (nr b o q nf)).trans q, rfl⟩) hf ((oth x (Ne.symm Tx)).trans hx)
    (fun b o q => (oth b (fun e => by subst e; rw [nT] at q; cases q)).trans (stay b o q)) nx hd (Array.getElem?_eq_some_iff.mp i1).1 hz fun g hN => ?_
  obtain ⟨n1, n2, n3, n4⟩ := hN
  exact k g ⟨n1, nx, n2, n3⟩ fun b o q nf => n4 b o ((oth b (nr b o q nf)).trans q) nf
theorem passOn_held {α : Type} {what : String} {Qk : α → Shared → Prop} (hf : ev.frame = some Lf) (hh : HeldZ gr lst x Zp Lf sh.heap)
    (k : ∀ g, HeldZ gr lst x Zp Lf g → sh.heap.UpToSlots g → Ex (.ref x) { sh with heap := g }) : wpAny Mo Ar (PySem.passOn what (.ref x) ev : Sem α) Qk Ex sh := by
  obtain ⟨_, _, _, ob, fs, T, oT, ts, hx, hz, hd, i1, _⟩ := id hh
  unfold PySem.passOn
  refine wpAny_bind (wpAny_field hx hd i1 ?_)
  rw [if_neg (by simp : ¬ ((Value.ref T == Value.none) = true))]
  rw [hf]
  exact wpAny_bind (setFlight_onZ hh fun g h2 up => wpAny_throw (k g h2 up))
end
theorem funFrames_but {h h' B B2 : Heap} : ∀ {l : List Env}, h.FunFrames B l → (∀ L ∈ frs l, h'.get? L = h.get? L) → (∀ L, B.get? L = none → B2.get? L = none) → h'.FunFrames B2 l
  | [], _, _, _ => trivial
  | en :: l, ⟨hk, ⟨L, o, hf, hn, ho, hd⟩, hr⟩, k, n => ⟨hk, ⟨L, o, hf, n L hn, (k L (List.mem_filterMap.mpr ⟨en, List.mem_cons_self, hf⟩)).trans ho, hd⟩, funFrames_but hr (fun b hb => by
      obtain ⟨e, he, q⟩ := List.mem_filterMap.mp hb
      exact k b (List.mem_filterMap.mpr ⟨e, List.mem_cons_of_mem _ he, q⟩)) n⟩
theorem held_but {gr h h' : Heap} {l : List Env} {x Lf C : Addr} {Zp : Obj → Prop} (hh : HeldZ gr l x Zp Lf h) (sb : Heap.SameBut C h h') (nC : C ∉ frs l) (oC : ∃ o, h.get? C = some o ∧ ∀ us, o.data ≠ .fields us) : HeldZ (PySem.W.hideAll gr [C]) l x Zp Lf h' := by
  obtain ⟨stay, nx, ff, ob, fs, T, oT, ts, hx, hz, hd, i1, nT, Tx, hT, dT, i3⟩ := hh
  obtain ⟨oc, hc, nf⟩ := oC
  have hid : ∀ b, gr.get? b = none → (PySem.W.hideAll gr [C]).get? b = none := fun b q => by
    cases e : (PySem.W.hideAll gr [C]).get? b with
    | none => rfl
    | some o => have := PySem.W.of_hideAll _ e; rw [q] at this; cases this
  have xC : x ≠ C := fun e => by subst e; rw [hc] at hx; cases hx; exact nf _ hd
  have TC : T ≠ C := fun e => by subst e; rw [hc] at hT; cases hT; exact nf _ dT
  refine ⟨fun b o q => ?_, hid _ nx, funFrames_but ff (fun L hL => sb.2 L fun e => nC (e ▸ hL)) hid, ob, fs, T, oT, ts, (sb.2 x xC).trans hx, hz, hd, i1, hid _ nT, Tx, (sb.2 T TC).trans hT, dT, i3⟩
  have bC : b ≠ C := fun e => by
    subst e
    rw [PySem.W.hideAll_none [b] (by simp)] at q; cases q
  exact (sb.2 b bC).trans (stay b o (PySem.W.of_hideAll _ q))
end VL
set_option maxRecDepth 100000
set_option maxHeartbeats 4000000
namespace VL
open PySem PySem.Spec PyProof.Rows L2 PySem.HandSPX
section
variable {Mo : Model} {Ar : Around} {Ex : Value → Shared → Prop} {sh : Shared} {ev : Env}
end
abbrev blkE (X : Cx) (t : Shared) (H : Hp) (scp : Scope) (ce : Env) (fp : List Addr) (Ex : Value → Shared → Prop) : Cx := (X.blk t H scp ce fp).wish Ex
section
variable {X : Cx} {pins pp : List (Addr × Obj)} {σ σ' : L2.St} {H H' : Hp} {t t2 u : Shared} {scp : Scope} {ce : Env} {fp : List Addr} {W : WX} {Ex : Value → Shared → Prop}
theorem XE.out (hs : X.stack = X.env :: X.outer) (hf : X.env.frame = some X.env.locals) (tk : Takes X W) (I : Inv X pins σ H t) (hfp : ∀ b ∈ fp, FpOk X pins H b) (cf : ce.frame = X.env.frame) (cl : ce.locals = t.heap.objs.size)
    {x : Value} (xe : XE (blkE X t H scp ce fp Ex) (fun cls d _ H' => W cls d σ H') x u) :
    notedBy (model X.prog X.w) X.A ce (fun x t' => ∃ m, t'.heap.Ns ce.locals m ∧ ∀ g, Heap.SameBut ce.locals t'.heap g → wpAny (model X.prog X.w) X.A (PySem.passOn "comprehension.variables-let-go" x ce : Sem Value) (fun _ _ => False) X.xe { t' with heap := g }) x u := by
  obtain ⟨a, B, sI, pn, σ1, H1, cls, d, rfl, J, nb, up, sky, na, os, ag, w⟩ := xe
  have fr : X.A.frames = some (X.env :: X.outer) := by rw [I.ok.frames, hs]
  have cf' : ce.frame = some X.env.locals := cf.trans hf
  unfold notedBy
  rw [note_same cf]
  obtain ⟨m, hm, _⟩ := J.loc
  have hm : sI.heap.Ns ce.locals m := hm
  have Cin : ce.locals ∉ frs X.stack := fun hb => by
    obtain ⟨_, o, e, _⟩ := I.stack.mem hb
    have := Heap.lt_size e
    rw [cl] at this
    exact Nat.lt_irrefl _ this
  have fresh : t.heap.get? ce.locals = none := by rw [cl]; exact Heap.get?_none_of_le (Nat.le_refl _)
  have back : Inv X pins σ H1 sI := I.call' (ch := fp) J.os J.base J.hok J.bare fun b hb => ⟨(hfp b hb).2.2.2.1, (hfp b hb).2.1, (hfp b hb).2.2.2.2.1, (hfp b hb).2.2.2.2.2⟩
  have Hc : H1 ce.locals = none := J.free
  have fin : ∀ g1, HeldZ B X.stack a (Zc cls d) X.env.locals g1 → u.heap.UpToSlots g1 → ∃ m, ({ u with heap := g1 } : Shared).heap.Ns ce.locals m ∧ ∀ g, Heap.SameBut ce.locals g1 g →
      wpAny (model X.prog X.w) X.A (PySem.passOn "comprehension.variables-let-go" (.ref a) ce : Sem Value) (fun _ _ => False) X.xe { u with heap := g } := by
    intro g1 hh up1
    have stB : ∀ b o, sI.heap.get? b = some o → b ∉ frs X.stack → g1.get? b = some o := fun b o e q => hh.1 b o (nb b o e q)
    obtain ⟨oc, es, ep, hoc, hod, rest⟩ := id hm
    have hoc1 : g1.get? ce.locals = some oc := stB _ _ hoc Cin
    refine ⟨m, ⟨oc, es, ep, hoc1, hod, rest⟩, fun g sb => ?_⟩
    have hh2 := held_but hh sb Cin ⟨oc, hoc1, fun us z => by rw [hod] at z; cases z⟩
    refine passOn_held (sh := { u with heap := g }) cf' hh2 fun g2 hh3 up2 => tk _ _ ?_
    have hid : ∀ {b o}, (PySem.W.hideAll sI.heap [ce.locals]).get? b = some o → sI.heap.get? b = some o ∧ b ≠ ce.locals := fun {b o} e => ⟨PySem.W.of_hideAll _ e, fun z => by
      subst z
      rw [PySem.W.hideAll_none [ce.locals] (by simp)] at e; cases e⟩
    have hget : ∀ {b o}, sI.heap.get? b = some o → b ≠ ce.locals → (PySem.W.hideAll sI.heap [ce.locals]).get? b = some o := fun e q => PySem.W.hideAll_get _ e (by simpa using q)
    refine ⟨a, PySem.W.hideAll B [ce.locals], { sI with heap := PySem.W.hideAll sI.heap [ce.locals] }, pins, σ, H1, cls, d, rfl, ?_, fun b o e q => ?_, fun b o e nf => ?_, .inr (.inr hh3), na, os, ag, w⟩
    · have hne : ∀ {b o}, t.heap.get? b = some o → b ≠ ce.locals := fun e q => by subst q; rw [fresh] at e; cases e
      refine I.call' (s' := { sI with heap := PySem.W.hideAll sI.heap [ce.locals] }) (ch := fp) J.os ⟨fun b o e n hb hx => hget (J.base.keep b o e n hb hx) (hne e), fun b o e n hb hx => ?_, J.base.free, fun b o e hx => ?_, J.base.tups, J.base.frzs, J.base.tbls⟩ (fun b o e => ?_) J.bare fun b hb => ⟨(hfp b hb).2.2.2.1, (hfp b hb).2.1, (hfp b hb).2.2.2.2.1, (hfp b hb).2.2.2.2.2⟩
      · obtain ⟨sl, q⟩ := J.base.slot b o e n hb hx
        exact ⟨sl, hget q (hne e)⟩
      · obtain ⟨o', q⟩ := J.base.there b o e hx
        exact ⟨o', hget q (hne e)⟩
      · refine (J.hok b o e).stay (fun c v hc q => hget q fun z => ?_) (fun _ q => q) fun _ _ q => q
        subst z
        rcases hc with hc | hc
        · rw [← hc, Hc] at e; cases e
        · rw [Hc] at hc; cases hc
    · obtain ⟨e1, e2⟩ := hid e
      exact PySem.W.hideAll_get _ (nb b o e1 q) (by simpa using e2)
    · obtain ⟨e1, e2⟩ := hid e
      obtain ⟨l1, q1⟩ := up b o e1 nf
      obtain ⟨l2, q2⟩ := up1 b _ q1 nf
      have q3 : g.get? b = _ := (sb.2 b e2).trans q2
      obtain ⟨l3, q4⟩ := up2 b _ q3 nf
      exact ⟨l3, q4⟩
  have sky : Sky B X.stack a (Zc cls d) ce.locals u.heap := sky
  rw [hs] at sky fin
  rcases sky with ⟨k1, k2, k3, oe, vs, k4, k5, k6, k7⟩ | fl | hd
  · exact look_newZ Zc.steady fr k3 hf k4 k1 k2 k6 k7 k5 fin
  · exact looks_onZ Zc.steady fr hf fl fin
  · refine note_other Zc.steady fr hf (fun q => ?_) hd fin
    have z := I.lt
    rw [← q, cl] at z
    exact Nat.lt_irrefl _ z
end
end VL
set_option maxRecDepth 100000
set_option maxHeartbeats 4000000
namespace VL
open PySem PySem.Spec PyProof.Rows L2 PySem.HandSPX
section
variable {X : Cx} {W : WX}
end
end VL
set_option maxRecDepth 100000
set_option maxHeartbeats 4000000
namespace VL
open PySem PySem.Spec PyProof.Rows L2
section
variable {c : Cn} {L : List (List Addr)} {Tm : List Addr} {env : VEnv} {σ : Sg} {H H1 : Hp} {Dn : Addr} {km : Option Nat} {acc : List V} {accD : List D} {lk : List Addr} {tt : WT} {wl : WE} {W : WX}
end
section
variable {X : Cx} {c : Cn} {W : WX} {we wl : WE} {tt : WT} {g : Tg} {vs : List Nat}
end
section
variable {X : Cx} {c : Cn} {W : WX} {we wl : WE} {tt : WT} {tg iter elt : Expr} {ifs : List Expr} {scope : Scope} {pos : Pos}
end
section
variable {α β γ τ : Type} {G : EG} {env env1 env2 : VEnv} {m1 m2 md : Md} {a : Enc α} {b : Enc β} {c : Enc γ} {wa wb : WE}
end
end VL
set_option maxRecDepth 100000
set_option maxHeartbeats 4000000
namespace VL
open PySem PySem.Spec PyProof.Rows L2
open PySem.Sem (wp)
section
variable {prog : Program} {w : World} {A : Around} {E : Value → Shared → Prop} {s : Shared}
end
section
variable {prog : Program} {w : World} {A : Around} {E : Value → Shared → Prop} {s : Shared}
end
end VL
set_option maxRecDepth 100000
set_option maxHeartbeats 4000000
namespace VL
open PySem PySem.Spec PyProof.Rows L2
section
variable {X : Cx} {c : Cn} {W : WX} {wl : WE} {wa : WA} {g : Tg} {vs : List Nat}
end
section
variable {X : Cx} {c : Cn} {W : WX} {wl : WE} {wa : WA} {a b elt : Expr} {elts : List Expr} {kk : Nat} {tpos : Pos} {scope : Scope} {pos p cpos : Pos}
end
section
variable {α β γ : Type} {G : EG} {env env1 env2 : VEnv} {m1 m2 : Md} {a : Enc α} {b : Enc β} {c : Enc γ} {wa wb : WE} {k1 k2 : Bool} {ea : Enc (List α)} {eb : Enc (List β)}
end
end VL
set_option maxRecDepth 100000
set_option maxHeartbeats 4000000
namespace VL
open PySem PySem.Spec PyProof.Rows L2
section
variable {c : Cn} {L : List (List Addr)} {Tm : List Addr} {env : VEnv} {σ : Sg} {H : Hp}
end
section
variable {X : Cx} {c : Cn} {W : WX} {pos : Pos} {wp : WP} {w u : WS} {we : WE} {st : Stmt} {rest : List Stmt} {E : Expr}
theorem Ret.unpin {x : Nat} {v' : V} {r : R} {v : V} {l : List Addr} {H : Hp} {e : VEnv} (hr : Ret (c.pinW x v') r v l H e) : Ret c r v l H e := ⟨hr.fr, hr.nd, hr.own, hr.res, let ⟨L, σ, q, z⟩ := hr.sim; ⟨L, σ, q.unpin, z⟩⟩
end
section
variable {α β γ δ σ ρ τ : Type} {G : EG} {env env1 env2 : VEnv} {md m1 : Md} {a : Enc σ} {b : Enc β} {we : WE} {wp : WP} {w u : WS} {K : δ → DV → Prop}
end
end VL
set_option maxRecDepth 100000
set_option maxHeartbeats 4000000
namespace VL
open PySem PySem.Spec PyProof.Rows L2
section
variable {X : Cx} {c : Cn} {W : WX} {pos ppx : Pos} {wp : WP} {o : Expr} {tx : Str} {body : List Stmt}
end
section
variable {α β γ δ σ ρ τ : Type} {G : EG} {env env1 env2 : VEnv} {md m1 : Md} {b : Enc β} {e : Enc ρ} {wp : WP} {K : δ → DV → Prop}
end
end VL
set_option maxRecDepth 100000
set_option maxHeartbeats 4000000
namespace VL
open PySem PySem.Spec PyProof.Rows L2
abbrev WTab := List (Str × List Str)
def lookT : WTab → Str → Option (List Str)
  | [], _ => none
  | p :: ps, z => if p.1 = z then some p.2 else lookT ps z
def RowsT (K : PySem.W.Frag) : List DictEntry → WTab → Prop
  | [], [] => True
  | e :: es, p :: ps => (∃ t, e.key = .str p.1 t) ∧ (∃ b, e.val = .ref b ∧ WTup K b (p.2.map V.str)) ∧ RowsT K es ps
  | _, _ => False
def DctT (K : PySem.W.Frag) (w : World) (x : Str) (tab : WTab) : Prop := ∃ a es n, PySem.W.nsIn K mainGlobals x = some (some (.ref a)) ∧ K.lookup a = some ⟨.type "dict", none, .dict es n, #[]⟩ ∧ PySem.W.KeysLit w.params es.toList ∧ RowsT K es.toList tab ∧ (a == sysModules) = false
def DctE (K : PySem.W.Frag) (w : World) (mg : Str → Option Value) (x : Str) (tab : WTab) : Prop := ∃ a, mg x = some (.ref a) ∧ (a == sysModules) = false ∧ (∃ es n, K.lookup a = some ⟨.type "dict", none, .dict es n, #[]⟩ ∧ PySem.W.KeysLit w.params es.toList) ∧
  ∀ z, match lookT tab z with
    | some zs => ∃ b, PySem.W.nsIn K a z = some (some (.ref b)) ∧ WTup K b (zs.map V.str)
    | none => PySem.W.nsIn K a z = some none
theorem rows_find {K : PySem.W.Frag} (z : Str) : ∀ {es : List DictEntry} {tab : WTab}, RowsT K es tab →
    match lookT tab z with
      | some zs => ∃ e b, es.find? (·.key.isStr z) = some e ∧ e.val = .ref b ∧ WTup K b (zs.map V.str)
      | none => es.find? (·.key.isStr z) = none ∧ es.any (·.refKey) = false
  | [], [], _ => ⟨rfl, rfl⟩
  | e :: es, p :: ps, ⟨⟨t, h1⟩, ⟨b, h2, h3⟩, r⟩ => by
    have ih := rows_find z r
    unfold lookT
    have hk : e.key.isStr z = decide (p.1 = z) := by
      rw [h1]
      show (p.1 == z) = _
      rfl
    by_cases q : p.1 = z
    · rw [if_pos q]
      exact ⟨e, b, by rw [List.find?_cons, hk]; simp [q], h2, h3⟩
    · rw [if_neg q]
      have hf : (e :: es).find? (·.key.isStr z) = es.find? (·.key.isStr z) := by rw [List.find?_cons, hk]; simp [q]
      rw [hf]
      cases hl : lookT ps z with
      | some zs => rw [hl] at ih; exact ih
      | none =>
        rw [hl] at ih
        refine ⟨ih.1, ?_⟩
        have : e.refKey = false := by unfold DictEntry.refKey; rw [h1]
        rw [List.any_cons, this, ih.2]; rfl
theorem DctT.out {K : PySem.W.Frag} {w : World} {h : Heap} {mg : Str → Option Value} {x : Str} {tab : WTab} (X : K.In h) (G : h.Ns mainGlobals mg) (d : DctT K w x tab) : DctE K w mg x tab := by
  obtain ⟨a, es, n, h1, h2, h3, h4, h5⟩ := d
  refine ⟨a, PySem.W.mg_of X G h1, h5, ⟨es, n, h2, h3⟩, fun z => ?_⟩
  have := rows_find z h4
  cases hl : lookT tab z with
  | some zs =>
    rw [hl] at this
    obtain ⟨e, b, q1, q2, q3⟩ := this
    refine ⟨b, ?_, q3⟩
    unfold PySem.W.nsIn
    rw [h2]
    dsimp only
    rw [q1]
    show some (some e.val) = _
    rw [q2]
  | none =>
    rw [hl] at this
    show PySem.W.nsIn K a z = _
    unfold PySem.W.nsIn
    rw [h2]
    dsimp only
    rw [this.1, this.2]
    rfl
theorem DctT.mk {K : PySem.W.Frag} {w : World} {x : Str} {tab : WTab} {a : Addr} {es : Array DictEntry} {n : Nat} (h1 : PySem.W.nsIn K mainGlobals x = some (some (.ref a))) (h2 : K.lookup a = some ⟨.type "dict", none, .dict es n, #[]⟩) (h3 : PySem.W.KeysLit w.params es.toList) (h4 : RowsT K es.toList tab) (h5 : (a == sysModules) = false) : DctT K w x tab := ⟨a, es, n, h1, h2, h3, h4, h5⟩
section
variable {X : Cx} {c : Cn} {W : WX} {pos p px apx : Pos} {wi : WE} {i e : Expr} {x : Str} {tab : WTab}
end
section
variable {X : Cx} {o e : Expr} {apos cpos : Pos} {ty : TE} {a : Addr}
end
section
variable {X : Cx} {c : Cn} {W : WX} {pos p apx : Pos} {wi : WE} {e : Expr} {x : Str} {tab : WTab}
end
def eW : Enc (List Str) := wtD
section
variable {G : EG} {env env1 : VEnv} {m1 : Md} {wi : WE} {tab : WTab} {A : Out Str} {Z : Out (List Str)}
end
end VL
set_option maxRecDepth 100000
set_option maxHeartbeats 4000000
namespace VL
open PySem PySem.Spec PyProof.Rows L2
section
variable {X : Cx} {c : Cn} {W : WX} {pos py apy cpy : Pos} {wk wv : WE} {k v : Expr} {y : Str}
end
section
variable {α γ δ τ : Type} {G : EG} {env env1 env2 : VEnv} {m1 m2 : Md} {c : Enc γ} {wk wv we : WE} {u : WS} {K : δ → DV → Prop} {I : Out Int} {A : Out γ}
end
end VL
namespace VL
open PySem PySem.Spec PyProof.Rows L2
section
variable {X : Cx} {c : Cn} {W : WX} {pos py py2 p1 p2 tpos : Pos} {wa wb we : WE} {a b e : Expr} {y : Str} {kk : Nat}
end
section
variable {α γ δ τ : Type} {G : EG} {env env1 env2 env3 : VEnv} {m1 m2 m3 : Md} {c : Enc γ} {wa wb we : WE} {u : WS} {K : δ → DV → Prop} {I J : Out Int} {A : Out (γ × γ)}
end
end VL
namespace VL
open PySem PySem.Spec PyProof.Rows L2
end VL
namespace VL
open PySem PySem.Spec PyProof.Rows L2
section
variable {α : Type} {G : EG} {env env1 : VEnv} {m1 : Md} {wa : WE} {a : Enc α}
end
end VL
set_option maxRecDepth 100000
set_option maxHeartbeats 1000000
namespace VL
open PySem PySem.Spec PyProof.Rows L2
section
variable {X : Cx} {c : Cn} {W : WX} {pos p2 pos2 : Pos} {wa we : WE} {a e : Expr} {neg : Bool}
end
section
variable {α β : Type} {G : EG} {wa we : WE} {env env1 env2 : VEnv} {m1 m2 : Md} {neg : Bool}
end
section
variable {α : Type} {a : Enc α}
end
end VL
set_option maxRecDepth 100000
set_option maxHeartbeats 1000000
namespace VL
open PySem PySem.Spec PyProof.Rows L2
section
variable {X : Cx} {c : Cn} {W : WX} {pos p p1 p2 p3 : Pos} {e se : Expr} {te ts : TE} {we ws : WE} {k : Nat}
end
section
variable {G : EG} {wa wb : WE} {env env1 env2 : VEnv} {m1 m2 : Md}
end
end VL
set_option maxRecDepth 100000
set_option maxHeartbeats 4000000
namespace VL
open PySem PySem.Spec PyProof.Rows L2
section
variable {K : PySem.W.Frag} {A : Addr → Prop} {H : Hp} {v : V} {d : D} {l : List Addr} {m : Option Nat}
end
section
variable {α β τ : Type} {G : EG} {env env1 env2 : VEnv} {m1 : Md} {a : Enc α} {b : Enc β} {we : WE} {wl : WA} {A : Out α} {w u : WS} {γ : Type} {M : Out γ} {K : γ → DV → Prop}
end
end VL
set_option maxRecDepth 100000
set_option maxHeartbeats 4000000
namespace VL
open PySem PySem.Spec PyProof.Rows L2
def wAppX (i : Nat) (we : WE) : WS := fun env Dv => isL env i [] ∧ we env (fun r e' => ∃ ds m n, e'[i]? = some (some (.list ds, .o m)) ∧ popM m = some n ∧ kidOk n r ∧ ds.length < 1000000 ∧ Dv.nx (killB (e'.set i (some (.list (ds ++ [r.d]), .o m))))) Dv.ex
theorem rd_argX {c : Cn} {W : WX} {we : WE} {σ : Sg} {H : Hp} {Q : VK} {env : VEnv} {L : List (List Addr)} {Dv : DV} {Qv : R → VEnv → Prop} (S : Sim c L [] env σ H) (hw : we env Qv Dv.ex)
    (hx : ∀ ex env' L' σ' H' cls d, Dv.ex ex env' → Sim c L' [] env' σ' H' → ExR c H' ex cls d → W cls d σ' H')
    (k : ∀ r v l L' env' H', Qv r env' → Sim c L' l env' σ H' → Res c (L'.flatten ++ l) H' r v l → Q v H') : rdX c W we σ H Q :=
  ⟨env, L, Qv, _, S, hw, fun r v l L' env' H' q st hr => k r v l L' env' H' q st hr, fun ex env' L' H' cls d hq st he => hx ex env' L' σ H' cls d hq st he⟩
section
variable {X : Cx} {c : Cn} {W : WX} {pos px apx cpx : Pos} {we : WE} {e : Expr} {x : Str}
theorem vs_appX (i : Nat) (he : PE X e (rdX c W we)) (hN : X.N[i]? = some x := by rfl)
    (hx : PE X (.Name x px) (tVar i) := by exact pe_var (by rfl) (by first | exact Or.inl rfl | exact Or.inr (Or.inl rfl) | exact Or.inr (Or.inr rfl)) (by decide) (by decide))
    (hb : PE X (.Name x px) (tVar i) → PE X e (rdX c W we) → PE X (.Call (.Attribute (.Name x px) "append" apx) [e] [] cpx) (tBM X.K "list" rAppend (tVar i) (tCons (rdX c W we) tNil)) := by exact fun hx hq => pe_bm PySem.F.plainAttrs_list PySem.F.slot_list_append PySem.F.type_list_append mt_append hx (pa_cons hq pa_nil)) :
    PS X (.Expr (.Call (.Attribute (.Name x px) "append" apx) [e] [] cpx) pos) (rdS c W (wAppX i we)) := PS.imp (ps_expr (hb hx he)) fun D σ H h => by
  obtain ⟨env, L, Dv, S, ⟨l1, q⟩, kn, kr, kx⟩ := h
  obtain ⟨d1, m1, ds1, e1, g1⟩ := l1
  obtain ⟨vx, lx, hvx, _, rx⟩ := S.sl.get e1
  have g1' : d1 = .list ds1 := Option.some.inj g1
  subst g1'
  obtain ⟨ax, usx, rfl, hax, _, _⟩ := rx.read.lst_inv
  refine ⟨.ref ax, hvx, .inl ⟨rfl, _, .inl (.inl hax)⟩, rd_argX S q kx fun r v l L2 env2 H2 ⟨ds, m, n, ei, pn, ko, hl, q2⟩ S2 hr => ?_⟩
  obtain ⟨a, xs, ea, ha, hlen, _, up⟩ := S2.mutL (p := []) ei hvx rfl rfl rfl pn
  cases ea
  obtain ⟨kk, ks, kq⟩ := Res.item S2 hr ko
  suffices hk : _ by
    obtain ⟨L3, S3⟩ := up (xs ++ [v]) (ds ++ [r.d]) _ hk rfl
    exact ⟨ax, xs, v, rfl, rfl, ha, by rw [hlen]; exact line_big hl, kn _ L3 σ _ q2 S3⟩
  · refine fun lk rk nd hlk => ⟨lk ++ kk, fun b hb => (List.mem_append.mp hb).imp id fun z => ks.subset z, List.nodup_append.mpr ⟨nd, (List.nodup_append.mp S2.nd).2.1.sublist ks, fun b hb b' hb' z => by subst z; exact (hlk b hb).2 (ks.subset hb')⟩, fun T' h1 h2 => ⟨_, List.Perm.refl _, ?_⟩⟩
    have rk' : ROs c.K (AT c.B T') H2 n xs ds lk := ROs.mono (fun b o x _ => AT.less h1 x) rk
    have ri := kq T' h1 fun b hb hb' => by
      rcases List.mem_append.mp (h2 b (List.mem_append_left _ hb) hb') with z | z
      · exact absurd hb (hlk b z).2
      · exact z
    have := ROs.append rk' (.cons ri .nil)
    simpa using this
end
section
variable {α β ρ τ γ : Type} {G : EG} {env env1 : VEnv} {m1 : Md} {a : Enc α} {we : WE} {u : WS} {s : τ → VEnv} {K : γ → DV → Prop}
theorem rs_appX {i : Nat} {m n : Option Nat} {xs : List α} {A : Out (α × τ)} {k : List α → τ → Out γ} (he : RX G we env m1 a s A) (s2 : List α → τ → VEnv) (h2 : ∀ ys t, RB G u (s2 ys t) (k ys t) K)
    (h0 : isL env i [] := by exact ⟨_, _, _, rfl, rfl⟩) (hi : ∀ t, (s t)[i]? = some (some (eL a xs, .o m)) := by exact fun _ => rfl) (hm : popM m = some n := by rfl) (hk : KidE a m1 n := by first | exact kid_F | exact kid_A | exact kid_o)
    (hs : ∀ ys t, killB ((s t).set i (some (eL a ys, .o m))) = s2 ys t := by exact fun _ _ => rfl) :
    RB G (wSeq (wAppX i we) u) env (A.bind fun p => (lift (appO xs p.1)).bind fun ys => k ys p.2) K := fun D Xe hX h =>
  ⟨h0, he _ _ Xe hX ((sat_bind.mp h).imp fun p h => by
    obtain ⟨ys, hy, h⟩ := sat_lift.mp (sat_bind.mp h)
    unfold appO at hy
    split at hy
    · rename_i hl
      cases hy
      refine ⟨xs.map a, m, n, hi p.2, hm, hk p.1, by rw [List.length_map]; exact hl, ?_⟩
      have := h2 _ p.2 D Xe hX h
      rw [← hs] at this
      simpa [eL] using this
    · cases hy)⟩
end
end VL
set_option maxRecDepth 100000
set_option maxHeartbeats 4000000
namespace LK85
open PySem PySem.Spec PyProof.Rows L2 VL
@[irreducible] noncomputable def F_law_prime (some_ : (List Int)) : Out (Int × Int) :=
  ((Out.ok ([2, 3, 5, 7, 11, 13, 23, 97, 65537, 99991])).bind fun (primes_ : (List Int)) => (((Out.ok (primes_)).bind fun t1 => (lift (atI some_ 0)).bind fun t2 => lift (atI t1 t2)).bind fun (prime_here_ : Int) => (((Out.ok (1)).bind fun t1 => ((lift (atI some_ 1)).bind fun t1 => (Out.ok (maxF 1 (prime_here_ - 1))).bind fun t2 => lift (modO t1 t2)).bind fun t2 => .ok ((t1 + t2))).bind fun (factor_ : Int) => (((Out.ok (prime_here_)).bind fun x => (((Out.ok (factor_)).bind fun t1 => ((Out.ok (prime_here_)).bind fun t1 => ((Out.ok ([0, 0, -(3), 1, (10 ^ ((50 : Int).toNat) : Int)])).bind fun t1 => (lift (atI some_ 2)).bind fun t2 => lift (atI t1 t2)).bind fun t2 => lift (mulO t1 t2)).bind fun t2 => .ok ((t1 + t2))).bind fun x => (Out.ok ()).bind fun t => .ok (x, t)).bind fun t => .ok (x, t)).bind fun (t : Int × Int × Unit) => .ok (t.1, t.2.1)))))
def sp_law_prime : FSpec := fun ds Q X => ∃ (some_ : (List Int)), ds = [(eL eI) some_] ∧ Sat (F_law_prime some_) (fun r => Q ⟨(e2 eI eI) r, mA⟩) X
@[irreducible] noncomputable def F_law_threes (low_ : Int) (some_ : Int) : Out ((List (Int × Int)) × (List (Int × Int))) :=
  ((Out.ok (((2 * (some_ % 2)) - 1))).bind fun (first_ : Int) => ((Out.ok (((2 * ((some_ / 2) % 2)) - 1))).bind fun (mid_ : Int) => ((Out.ok (((2 * ((some_ / 4) % 2)) - 1))).bind fun (last_ : Int) => ((if (decide (first_ = last_)) = true then ((Out.ok (first_)).bind fun (mid_ : Int) => (Out.ok mid_)) else (Out.ok mid_)).bind fun (V30 : Int) => ((Out.ok ([(low_, first_), ((low_ + 1), V30), (low_, last_)])).bind fun (one_ : (List (Int × Int))) => (Out.ok (one_, [((low_ + 1), last_), (low_, V30), ((low_ + 1), first_)])))))))
def sp_law_threes : FSpec := fun ds Q X => ∃ (low_ : Int) (some_ : Int), ds = [eI low_, eI some_] ∧ Sat (F_law_threes low_ some_) (fun r => Q ⟨(e2 (eL (e2 eI eI)) (eL (e2 eI eI))) r, mA⟩) X
@[irreducible] noncomputable def F_law_beside (word_ : (List (Int × Int))) (strands_ : Int) (some_ : (List Int)) : Out ((List (Int × Int)) × (List (Int × Int)) × Int) :=
  (((lift (atI some_ 1)).bind fun t1 => (Out.ok (((word_.length : Int) + 1))).bind fun t2 => lift (modO t1 t2)).bind fun (at_ : Int) => (((lift (atI some_ 2)).bind fun t1 => (Out.ok ((strands_ - 1))).bind fun t2 => lift (modO t1 t2)).bind fun (low_ : Int) => (((((lift (atI some_ 3)).bind fun t1 => .ok (t1 % 2)).bind fun t1 => .ok (2 * t1)).bind fun t1 => (Out.ok (1)).bind fun t2 => .ok ((t1 - t2))).bind fun (sign_ : Int) => ((Out.ok (cutL word_ none (some (at_)), (cutL word_ (some (at_)) none, ()))).bind fun (p35 : (List (Int × Int)) × (List (Int × Int)) × Unit) => (((lift (atI some_ 0)).bind fun t1 => (Out.ok (0)).bind fun t2 => .ok (decide (t1 = t2))).bind fun p => if p = true then (((Out.ok (word_)).bind fun x => (((lift (catO p35.1 ([(low_, sign_), (low_, -sign_)]))).bind fun t1 => (Out.ok (p35.2.1)).bind fun t2 => lift (catO t1 t2)).bind fun x => (Out.ok (strands_, ())).bind fun t => .ok (x, t)).bind fun t => .ok (x, t)).bind fun (t : (List (Int × Int)) × (List (Int × Int)) × Int × Unit) => .ok (t.1, t.2.1, t.2.2.1)) else (((lift (atI some_ 0)).bind fun t1 => (Out.ok (1)).bind fun t2 => .ok (decide (t1 = t2))).bind fun p => if p = true then (((Out.ok (word_)).bind fun x => ((lift (catO p35.2.1 p35.1)).bind fun x => (Out.ok (strands_, ())).bind fun t => .ok (x, t)).bind fun t => .ok (x, t)).bind fun (t : (List (Int × Int)) × (List (Int × Int)) × Int × Unit) => .ok (t.1, t.2.1, t.2.2.1)) else ((((lift (atI some_ 0)).bind fun t1 => (Out.ok (2)).bind fun t2 => .ok (decide (t1 = t2))).bind fun p => if p = true then (Out.ok (decide (strands_ > 2))) else .ok false).bind fun p => if p = true then (((((lift (atI some_ 2)).bind fun t1 => (Out.ok ((strands_ - 2))).bind fun t2 => lift (modO t1 t2)).bind fun x => ((lift (atI some_ 3)).bind fun x => (Out.ok ()).bind fun t => .ok (x, t)).bind fun t => .ok (x, t)).bind (fun (t : Int × Int × Unit) => F_law_threes t.1 t.2.1)).bind fun (p36 : ((List (Int × Int)) × (List (Int × Int)))) => ((((lift (catO p35.1 p36.1)).bind fun t1 => (Out.ok (p35.2.1)).bind fun t2 => lift (catO t1 t2)).bind fun x => (((lift (catO p35.1 p36.2)).bind fun t1 => (Out.ok (p35.2.1)).bind fun t2 => lift (catO t1 t2)).bind fun x => (Out.ok (strands_, ())).bind fun t => .ok (x, t)).bind fun t => .ok (x, t)).bind fun (t : (List (Int × Int)) × (List (Int × Int)) × Int × Unit) => .ok (t.1, t.2.1, t.2.2.1))) else ((((lift (atI some_ 0)).bind fun t1 => (Out.ok (3)).bind fun t2 => .ok (decide (t1 = t2))).bind fun p => if p = true then (Out.ok (decide (strands_ > 3))) else .ok false).bind fun p => if p = true then ((((Out.ok ((0, sign_))).bind fun x => (((((Out.ok (2)).bind fun t1 => ((lift (atI some_ 2)).bind fun t1 => (Out.ok ((strands_ - 3))).bind fun t2 => lift (modO t1 t2)).bind fun t2 => .ok ((t1 + t2))).bind fun x => (Out.ok (1, ())).bind fun t => .ok (x, t)).bind fun (t : Int × Int × Unit) => .ok (t.1, t.2.1)).bind fun x => (Out.ok ()).bind fun t => .ok (x, t)).bind fun t => .ok (x, t)).bind fun (t : (Int × Int) × (Int × Int) × Unit) => .ok [t.1, t.2.1]).bind fun (far_ : (List (Int × Int))) => ((((lift (catO p35.1 far_)).bind fun t1 => (Out.ok (p35.2.1)).bind fun t2 => lift (catO t1 t2)).bind fun x => (((lift (catO p35.1 far_.reverse)).bind fun t1 => (Out.ok (p35.2.1)).bind fun t2 => lift (catO t1 t2)).bind fun x => (Out.ok (strands_, ())).bind fun t => .ok (x, t)).bind fun t => .ok (x, t)).bind fun (t : (List (Int × Int)) × (List (Int × Int)) × Int × Unit) => .ok (t.1, t.2.1, t.2.2.1))) else (((Out.ok (word_)).bind fun x => ((lift (catO word_ ([((strands_ - 1), sign_)]))).bind fun x => (Out.ok ((strands_ + 1), ())).bind fun t => .ok (x, t)).bind fun t => .ok (x, t)).bind fun (t : (List (Int × Int)) × (List (Int × Int)) × Int × Unit) => .ok (t.1, t.2.1, t.2.2.1))))))))))
def sp_law_beside : FSpec := fun ds Q X => ∃ (word_ : (List (Int × Int))) (strands_ : Int) (some_ : (List Int)), ds = [(eL (e2 eI eI)) word_, eI strands_, (eL eI) some_] ∧ Sat (F_law_beside word_ strands_ some_) (fun r => Q ⟨(e3 (eL (e2 eI eI)) (eL (e2 eI eI)) eI) r, mS⟩) X
@[irreducible] noncomputable def F_law_ring (word_ : (List (Int × Int))) (strands_ : Int) (start_ : Int) (step_ : Int) (seen_ : (List Bool)) : Out ((List Int) × (List Bool)) :=
  ((Out.ok (([] : (List Int)))).bind fun (walk_ : (List Int)) => ((Out.ok (start_)).bind fun (at_ : Int) => ((whileO (fun (V77 : (List Bool) × (List Int) × Int) => ((lift (atI V77.1 V77.2.2)).bind fun t1 => .ok (!t1))) (fun (V77 : (List Bool) × (List Int) × Int) => ((Out.ok (true)).bind fun v => (Out.ok (V77.2.2)).bind fun j => (lift (setO V77.1 j v)).bind fun seen_ => (((lift (rgO 0 (word_.length : Int))).bind fun xs => forO (fun (V87 : (List Int) × Int) (k_ : Int) => ((lift (atI word_ k_)).bind fun (p92 : (Int × Int)) => ((if (decide (V87.2 = p92.1)) = true then ((((Out.ok (1)).bind fun t1 => (lift (mulO k_ step_)).bind fun t2 => .ok ((t1 + t2))).bind fun t1 => (Out.ok (p92.2)).bind fun t2 => lift (mulO t1 t2)).bind fun v => (lift (appO V87.1 v)).bind fun walk_ => ((Out.ok ((p92.1 + 1))).bind fun (at_ : Int) => (Out.ok (walk_, at_)))) else ((if (decide (V87.2 = (p92.1 + 1))) = true then (((((Out.ok (1)).bind fun t1 => (lift (mulO k_ step_)).bind fun t2 => .ok ((t1 + t2))).bind fun t1 => .ok (-t1)).bind fun t1 => (Out.ok (p92.2)).bind fun t2 => lift (mulO t1 t2)).bind fun v => (lift (appO V87.1 v)).bind fun walk_ => ((Out.ok (p92.1)).bind fun (at_ : Int) => (Out.ok (walk_, at_)))) else (Out.ok (V87.1, V87.2))).bind fun (V95 : (List Int) × Int) => (Out.ok (V95.1, V95.2)))).bind fun (V94 : (List Int) × Int) => (Out.ok (V94.1, V94.2))))) (V77.2.1, V77.2.2) xs).bind fun (V87 : (List Int) × Int) => (Out.ok (seen_, V87.1, V87.2))))) fuel (seen_, walk_, at_)).bind fun (V77 : (List Bool) × (List Int) × Int) => (Out.ok ((V77.2.1 : (List Int)), V77.1)))))
def sp_law_ring : FSpecM := fun ds Q X => ∃ (word_ : (List (Int × Int))) (strands_ : Int) (start_ : Int) (step_ : Int) (seen_ : (List Bool)), ds = [(eL (e2 eI eI)) word_, eI strands_, eI start_, eI step_, (eL eB) seen_] ∧ Sat (F_law_ring word_ strands_ start_ step_ seen_) (fun t => Q ⟨(eL eI) t.1, mA⟩ ((eL eB) t.2)) X
@[irreducible] noncomputable def F_law_closed (word_ : (List (Int × Int))) (strands_ : Int) (step_ : Int) : Out ((List (List Int)) × (List (Int × Int))) :=
  ((lift (repO ([false]) strands_)).bind fun (seen_ : (List Bool)) => ((Out.ok (([] : (List (List Int))))).bind fun (walks_ : (List (List Int))) => (((lift (rgO 0 strands_)).bind fun xs => forO (fun (V101 : (List (List Int)) × (List Bool)) (start_ : Int) => ((((lift (atI V101.2 start_)).bind fun t1 => .ok (!t1)).bind fun p => if p = true then (((Out.ok (word_, (strands_, (start_, (step_, (V101.2, ())))))).bind fun (t : (List (Int × Int)) × Int × Int × Int × (List Bool) × Unit) => noX (F_law_ring t.1 t.2.1 t.2.2.1 t.2.2.2.1 t.2.2.2.2.1)).bind fun p => (lift (appO V101.1 p.1)).bind fun ys => (fun (walks_ : (List (List Int))) (seen_ : (List Bool)) => (Out.ok (walks_, seen_))) ys p.2) else (Out.ok (V101.1, V101.2))).bind fun (V103 : (List (List Int)) × (List Bool)) => (Out.ok (V103.1, V103.2)))) (walks_, seen_) xs).bind fun (V101 : (List (List Int)) × (List Bool)) => (((Out.ok (V101.1)).bind fun x => (((lift (rgO 0 (word_.length : Int))).bind (mapL (fun k_ : Int => noX ((((Out.ok (1)).bind fun t1 => (lift (mulO k_ step_)).bind fun t2 => .ok ((t1 + t2))).bind fun x => (((lift (atI word_ k_)).bind fun p => .ok (p.2)).bind fun x => (Out.ok ()).bind fun t => .ok (x, t)).bind fun t => .ok (x, t)).bind fun (t : Int × Int × Unit) => .ok (t.1, t.2.1))))).bind fun x => (Out.ok ()).bind fun t => .ok (x, t)).bind fun t => .ok (x, t)).bind fun (t : (List (List Int)) × (List (Int × Int)) × Unit) => .ok (t.1, t.2.1)))))
def sp_law_closed : FSpec := fun ds Q X => ∃ (word_ : (List (Int × Int))) (strands_ : Int) (step_ : Int), ds = [(eL (e2 eI eI)) word_, eI strands_, eI step_] ∧ Sat (F_law_closed word_ strands_ step_) (fun r => Q ⟨(e2 (eL (eL eI)) (eL (e2 eI eI))) r, mA⟩) X
@[irreducible] noncomputable def F_law (script_ : (List Int)) : Out Bool :=
  ((((Out.ok (script_)).bind fun x => ((Out.ok (0)).bind fun x => (((Out.ok ([19, 4, 5, 60, 60, 8, 4])).bind fun t1 => (lift (repO ([4, 2]) 18)).bind fun t2 => lift (catO t1 t2)).bind fun x => (Out.ok ()).bind fun t => .ok (x, t)).bind fun t => .ok (x, t)).bind fun t => .ok (x, t)).bind (fun (t : (List Int) × Int × (List Int) × Unit) => XD.F_law_row t.1 t.2.1 t.2.2.1)).bind fun (some_ : (List Int)) => (((Out.ok (2)).bind fun t1 => (lift (atI some_ 1)).bind fun t2 => .ok ((t1 + t2))).bind fun (strands_ : Int) => ((Out.ok (([] : (List (Int × Int))))).bind fun (word_ : (List (Int × Int))) => ((((lift (atI some_ 0)).bind fun x => (Out.ok ()).bind fun t => .ok (x, t)).bind fun (t : Int × Unit) => (lift (rgO (0) (t.1))).bind fun xs => forO (fun (V297 : (List (Int × Int))) (k_ : Int) => (((((lift (atI some_ (7 + (2 * k_)))).bind fun t1 => (Out.ok ((strands_ - 1))).bind fun t2 => lift (modO t1 t2)).bind fun x => ((((lift (atI some_ (8 + (2 * k_)))).bind fun t1 => .ok (2 * t1)).bind fun t1 => (Out.ok (1)).bind fun t2 => .ok ((t1 - t2))).bind fun x => (Out.ok ()).bind fun t => .ok (x, t)).bind fun t => .ok (x, t)).bind fun (t : Int × Int × Unit) => .ok (t.1, t.2.1)).bind fun v => (lift (appO V297 v)).bind fun word_ => (Out.ok word_))) word_ xs).bind fun (V297 : (List (Int × Int))) => ((((XD.F_law_row script_ 1 ([10, 99990, 5])).bind fun x => (Out.ok ()).bind fun t => .ok (x, t)).bind (fun (t : (List Int) × Unit) => F_law_prime t.1)).bind fun (p298 : (Int × Int)) => ((F_law_beside V297 strands_ (cutL some_ (some (2)) none)).bind fun (p299 : ((List (Int × Int)) × (List (Int × Int)) × Int)) => (((Out.ok ([1, 2, 7, (10 ^ ((9 : Int).toNat) : Int)])).bind fun t1 => (lift (atI some_ 6)).bind fun t2 => lift (atI t1 t2)).bind fun (step_ : Int) => ((((F_law_closed p299.1 strands_ 1).bind fun x => (Out.ok (p298.1, (p298.2, ()))).bind fun t => .ok (x, t)).bind (fun (t : ((List (List Int)) × (List (Int × Int))) × Int × Int × Unit) => XR3.F_straight_many t.1 t.2.1 t.2.2.1)).bind fun (first_ : Int) => (((XD.F_law_is_whole first_).bind fun t1 => .ok (!t1)).bind fun p => if p = true then (Out.ok false) else ((((F_law_closed p299.2.1 p299.2.2 step_).bind fun x => (Out.ok (p298.1, (p298.2, ()))).bind fun t => .ok (x, t)).bind (fun (t : ((List (List Int)) × (List (Int × Int))) × Int × Int × Unit) => XR3.F_straight_many t.1 t.2.1 t.2.2.1)).bind fun (second_ : Int) => (if (!decide (second_ = first_) || decide (first_ < 1)) = true then (Out.ok false) else ((whileO (fun (V300 : Int) => ((lift (modO V300 p298.1)).bind fun t1 => (Out.ok (0)).bind fun t2 => .ok (decide (t1 = t2)))) (fun (V300 : Int) => ((lift (fdO V300 p298.1)).bind fun (first_ : Int) => (Out.ok first_))) fuel first_).bind fun (V300 : Int) => (Out.ok (decide (V300 = 1)))))))))))))))
end LK85
set_option maxRecDepth 100000
set_option maxHeartbeats 1000000
namespace VL
open PySem PySem.Spec PyProof.Rows L2
section
variable {α β σ ρ : Type} {X : Exn → Prop}
theorem eta2 (p : α × β) : (p.1, p.2) = p := Eq.trans rfl rfl
theorem s_atE {xs : List α} {i : Int} {x : α} {Q : α → Prop} (h : atI xs i = some x) (q : Q x) : Sat (lift (atI xs i)) Q X := sat_lift.mpr ⟨x, h, q⟩
theorem s_at {xs : List α} {i : Int} {Q : α → Prop} (h0 : 0 ≤ i) (h1 : i < xs.length) (q : ∀ x, xs[i.toNat]? = some x → Q x) : Sat (lift (atI xs i)) Q X := sat_lift.mpr ⟨_, atI_get h0 h1, q _ (List.getElem?_eq_getElem (by omega))⟩
theorem s_app {xs : List α} {v : α} {Q : List α → Prop} (h : xs.length < 1000000) (q : Q (xs ++ [v])) : Sat (lift (appO xs v)) Q X := sat_lift.mpr ⟨_, appO_ok h, q⟩
theorem s_cat {xs ys : List α} {Q : List α → Prop} (h : xs.length + ys.length ≤ 1000000) (q : Q (xs ++ ys)) : Sat (lift (catO xs ys)) Q X := sat_lift.mpr ⟨_, catO_ok h, q⟩
theorem s_mod {x y : Int} {Q : Int → Prop} (h : 0 < y) (q : Q (x % y)) : Sat (lift (modO x y)) Q X := sat_lift.mpr ⟨_, modO_ok h, q⟩
theorem s_modB {x y : Int} {Q : Int → Prop} (h : 0 < y) (q : ∀ z, z = x % y → 0 ≤ z → z < y → Q z) : Sat (lift (modO x y)) Q X := sat_lift.mpr ⟨_, modO_ok h, q _ rfl (Int.emod_nonneg _ (by omega)) (Int.emod_lt_of_pos _ h)⟩
theorem s_mulS {x y : Int} {Q : Int → Prop} (h : (-(2 ^ 64) < x ∧ x < 2 ^ 64) ∨ (-(2 ^ 64) < y ∧ y < 2 ^ 64)) (q : Q (x * y)) : Sat (lift (mulO x y)) Q X := sat_lift.mpr ⟨_, mulO_ok (.inl h), q⟩
theorem s_fd {x y : Int} {Q : Int → Prop} (h : CDiv x y ∨ CDivW x y) (q : Q (x / y)) : Sat (lift (fdO x y)) Q X := sat_lift.mpr ⟨_, fdO_ok h, q⟩
theorem s_fdS {x y : Int} {Q : Int → Prop} (h : 0 < y) (h2 : y < 2 ^ 5000) (q : Q (x / y)) : Sat (lift (fdO x y)) Q X := s_fd (divW h 5000 (by
  have : (2 : Nat) ^ 5000 < 2 ^ 5001 := Nat.pow_lt_pow_right (by decide) (by decide)
  have e : ((2 : Int) ^ 5000) = (((2 : Nat) ^ 5000 : Nat) : Int) := by push_cast; rfl
  rw [e] at h2
  generalize (2 : Nat) ^ 5000 = a at *
  generalize (2 : Nat) ^ 5001 = b at *
  omega) (by decide)) q
theorem s_set {xs : List α} {i : Int} {v : α} {Q : List α → Prop} (h0 : 0 ≤ i) (h1 : i < xs.length) (q : Q (xs.set i.toNat v)) : Sat (lift (setO xs i v)) Q X := sat_lift.mpr ⟨_, setO_ok h0 h1, q⟩
theorem s_rep {x : α} {k : Int} {Q : List α → Prop} (h0 : 0 ≤ k) (h1 : k ≤ 1000000) (q : Q (List.replicate k.toNat x)) : Sat (lift (repO [x] k)) Q X := sat_lift.mpr ⟨_, rep1_ok h0 h1, q⟩
theorem rg_getE {lo hi : Int} {k : Nat} {x : Int} (h : (rg lo hi)[k]? = some x) : x = lo + k ∧ x < hi := by
  unfold rg at h
  rw [List.getElem?_map] at h
  obtain ⟨a, h1, h2⟩ := Option.map_eq_some_iff.mp h
  have := (List.getElem?_eq_some_iff.mp h1)
  obtain ⟨hl, he⟩ := this
  rw [List.getElem_range] at he
  rw [List.length_range] at hl
  omega
theorem rg0_ok {n : Nat} (h : n < 4611686018427387904) : rgO 0 (n : Int) = some (rg 0 n) := rgO_ok ⟨by decide, by decide, by omega, by omega⟩
theorem s_for {f : σ → Int → Out σ} {hi : Int} {s0 : σ} {Q : σ → Prop} (n : Nat) (hn : hi = n) (hs : n < 4611686018427387904) (Inv : Nat → σ → Prop) (h0 : Inv 0 s0) (step : ∀ (k : Nat) s, k < n → Inv k s → Sat (f s (k : Int)) (Inv (k + 1)) X) (last : ∀ s, Inv n s → Q s) : Sat (lift (rgO 0 hi)) (fun xs => Sat (forO f s0 xs) Q X) X := by
  subst hn
  have h9 := rg0_ok (n := n) (by omega)
  refine sat_lift.mpr ?_
  refine ⟨_, h9, ?_⟩
  refine sat_forO Inv h0 (fun k s x hx hi => ?_) fun s h => ?_
  · obtain ⟨h1, h2⟩ := rg_getE hx
    rw [h1, Int.zero_add]
    exact step k s (by omega) hi
  · rw [rg_len] at h
    exact last s (by simpa using h)
theorem s_mapR {f : Int → Out β} {g : Int → β} {hi : Int} {Q : List β → Prop} (n : Nat) (hn : hi = n) (hs : n ≤ 1000000) (h : ∀ k : Nat, k < n → f k = .ok (g k)) (q : Q ((List.range n).map fun k : Nat => g k)) : Sat (lift (rgO 0 hi)) (fun xs => Sat (mapL f xs) Q X) X := by
  subst hn
  have h9 := rg0_ok (n := n) (by omega)
  refine sat_lift.mpr ?_
  refine ⟨_, h9, ?_⟩
  rw [mapL_ok (g := g) (by rw [rg_len]; omega) fun x hx => by
    rw [mem_rg] at hx
    have := h x.toNat (by omega)
    rwa [show ((x.toNat : Nat) : Int) = x by omega] at this]
  rw [rg_nat, List.map_map]
  exact q
theorem s_fmapR {p : Int → Out Bool} {f : Int → Out β} {q : Int → Bool} {g : Int → β} {hi : Int} {Q : List β → Prop} (n : Nat) (hn : hi = n) (hs : n ≤ 1000000) (hp : ∀ k : Nat, k < n → p k = .ok (q k)) (h : ∀ k : Nat, k < n → q k = true → f k = .ok (g k)) (hq : Q (((List.range n).filter fun k : Nat => q k).map fun k : Nat => g k)) : Sat (lift (rgO 0 hi)) (fun xs => Sat (fmapL p f xs) Q X) X := by
  subst hn
  have h9 := rg0_ok (n := n) (by omega)
  refine sat_lift.mpr ?_
  refine ⟨_, h9, ?_⟩
  rw [fmapL_ok (q := q) (g := g) (by rw [rg_len]; omega) (fun x hx => by
    rw [mem_rg] at hx
    have := hp x.toNat (by omega)
    rwa [show ((x.toNat : Nat) : Int) = x by omega] at this) fun x hx hh => by
    rw [mem_rg] at hx
    have := h x.toNat (by omega) (by rwa [show ((x.toNat : Nat) : Int) = x by omega])
    rwa [show ((x.toNat : Nat) : Int) = x by omega] at this]
  rw [rg_nat, List.filter_map, List.map_map]
  exact hq
theorem s_if {c : Bool} {a b : Out α} {Q : α → Prop} (h1 : c = true → Sat a Q X) (h2 : c = false → Sat b Q X) : Sat (if c = true then a else b) Q X := by
  cases c
  · exact h2 rfl
  · exact h1 rfl
theorem p_if {c : Bool} {p q : Prop} (h1 : c = true → p) (h2 : c = false → q) : if c = true then p else q := by
  cases c
  · exact h2 rfl
  · exact h1 rfl
theorem s_ite {p : Prop} [Decidable p] {a b : Out α} {Q : α → Prop} (h1 : p → Sat a Q X) (h2 : ¬ p → Sat b Q X) : Sat (if decide p = true then a else b) Q X := s_if (fun h => h1 (of_decide_eq_true h)) fun h => h2 (of_decide_eq_false h)
theorem s_F {m : Out α} {P Q : α → Prop} (h : Sat m P fun _ => False) (q : ∀ a, P a → Q a) : Sat m Q X := h.mono q fun _ h => h.elim
end
end VL
set_option maxRecDepth 100000
set_option maxHeartbeats 1000000
namespace VL
open PySem PySem.Spec PyProof.Rows L2
local macro_rules | `(tactic| sleep 11) => `(tactic| simp only [Out.bind_ok, noX_ok, lift_some, flowT_ret, flowT_nxt, flowF_ret, flowF_nxt, sat_bind, sat_ok, sat_exn, sat_noX, eta2, Out.bind_id])
theorem RowIn.get : ∀ {sz xs : List Int}, RowIn sz xs → xs.length = sz.length ∧ ∀ (i : Nat) s, sz[i]? = some s → ∃ x, xs[i]? = some x ∧ 0 ≤ x ∧ x < s
  | [], [], _ => ⟨rfl, fun i s h => by simp at h⟩
  | [], _ :: _, h => h.elim
  | _ :: _, [], h => h.elim
  | s :: sz, x :: xs, ⟨h, r⟩ => by
    obtain ⟨h1, h2⟩ := RowIn.get r
    refine ⟨by simp [h1], fun i s' hi => ?_⟩
    cases i with
    | zero => simp at hi; subst hi; exact ⟨x, rfl, h⟩
    | succ i => exact h2 i s' (by simpa using hi)
def Inc (s : List (Int × Int)) : Prop := (s.map (·.1)).Pairwise (· < ·)
theorem cell_ok {ns : List Int} {p : Int} (h : 0 ≤ p) : ∃ c, XD.F_law_cell ns p = .ok c := by
  unfold XD.F_law_cell
  by_cases hp : p < ns.length
  · rw [if_pos (decide_eq_true hp), atI_get h hp]
    exact ⟨_, lift_some _⟩
  · rw [if_neg (by simpa using hp)]
    simp only [Out.bind_ok]
    rw [forO_ok (g := fun (V3 cell_here_ : Int) => (V3 * 48271 + cell_here_ % 1000003 + 1) % 2147483647) 5 (fun _ _ _ => rfl)]
    exact ⟨_, Out.bind_ok _ _⟩
theorem mix_ok {c k : Int} (h1 : 0 ≤ k) (h2 : k < 10000) : ∃ m, XD.F_law_mix c k = .ok m := by
  unfold XD.F_law_mix
  have e1 : 0 ≤ c % 2147483629 := Int.emod_nonneg _ (by decide)
  have e2 : c % 2147483629 < 2147483629 := Int.emod_lt_of_pos _ (by decide)
  rw [powO_ok ⟨by decide, by decide, by omega⟩, mulO_ok (.inl (.inr (by omega)))]
  simp only [lift_some, Out.bind_ok]
  exact ⟨_, rfl⟩
theorem row_ok {ns sz : List Int} {p : Int} (h : 0 ≤ p) (hl : sz.length ≤ 500) (hs : ∀ s ∈ sz, 0 < s ∧ s < 2 ^ 5000) : Sat (XD.F_law_row ns p sz) (fun r => RowIn sz r) (fun _ => False) := by
  unfold XD.F_law_row
  obtain ⟨c, hc⟩ := cell_ok (ns := ns) h
  rw [hc]
  sleep 11
  refine s_for sz.length rfl (by omega) (fun k s => s.1.length = k ∧ ∀ (i : Nat) t x, sz[i]? = some t → s.1[i]? = some x → 0 ≤ x ∧ x < t) ⟨rfl, fun i t x _ h => by simp at h⟩ (fun k s hk hi => ?_) fun s hi => RowIn.of hi.1 hi.2
  obtain ⟨h1, h2⟩ := hi
  have hg : sz[k]? = some sz[k] := List.getElem?_eq_getElem hk
  have ha : atI sz (k : Int) = some sz[k] := atI_nat hg
  obtain ⟨g1, g2⟩ := hs _ (List.getElem_mem hk)
  have fin : ∀ y : Int, (s.1 ++ [y % sz[k]]).length = k + 1 ∧ ∀ (i : Nat) t x, sz[i]? = some t → (s.1 ++ [y % sz[k]])[i]? = some x → 0 ≤ x ∧ x < t := by
    intro y
    refine ⟨by simp [h1], fun i t x e1 e2 => ?_⟩
    rw [List.getElem?_append] at e2
    split at e2
    · exact h2 i t x e1 e2
    · rename_i hi
      have hi2 : i = k := by
        have := (List.getElem?_eq_some_iff.mp e2).1
        simp at this
        omega
      subst hi2
      rw [h1] at e2
      simp at e2
      rw [hg] at e1
      cases e1; subst e2
      exact ⟨Int.emod_nonneg _ (by omega), Int.emod_lt_of_pos _ g1⟩
  sleep 11
  refine s_if (fun hh => ?_) (fun hh => ?_)
  · obtain ⟨m, hm⟩ := mix_ok (c := c) (k := (k : Int)) (by omega) (by omega)
    rw [hm]
    sleep 11
    refine s_atE ha ?_
    refine s_mod g1 ?_
    refine s_app (by omega) ?_
    exact fin _
  · refine s_if (fun hh => ?_) (fun hh => ?_)
    · sleep 11
      refine s_atE ha ?_
      refine s_mod g1 ?_
      refine s_app (by omega) ?_
      sleep 11
      refine s_atE ha ?_
      refine s_fdS g1 g2 ?_
      exact fin _
    · obtain ⟨o, ho⟩ := cell_ok (ns := ns) (p := (p + 1 + (k : Int)) % 63) (Int.emod_nonneg _ (by decide))
      obtain ⟨m, hm⟩ := mix_ok (c := o) (k := (k : Int)) (by omega) (by omega)
      rw [ho]
      sleep 11
      rw [hm]
      sleep 11
      refine s_atE ha ?_
      refine s_mod g1 ?_
      refine s_app (by omega) ?_
      exact fin _
end VL
set_option maxRecDepth 100000
set_option maxHeartbeats 1000000
namespace VL
open PySem PySem.Spec PyProof.Rows L2
local macro_rules | `(tactic| sleep 11) => `(tactic| simp only [Out.bind_ok, noX_ok, lift_some, flowT_ret, flowT_nxt, flowF_ret, flowF_nxt, sat_bind, sat_ok, sat_exn, sat_noX, eta2, Out.bind_id])
theorem RowIn.at {sz xs : List Int} (h : RowIn sz xs) {i s : Int} (h0 : 0 ≤ i) (hs : sz[i.toNat]? = some s) : ∃ x, atI xs i = some x ∧ 0 ≤ x ∧ x < s := by
  obtain ⟨x, h1, h2⟩ := (RowIn.get h).2 _ s hs
  refine ⟨x, ?_, h2⟩
  have := atI_nat h1
  rwa [show ((i.toNat : Nat) : Int) = i by omega] at this
theorem nodup_mapI {α β : Type} {f : α → β} {l : List α} (hf : ∀ a b, f a = f b → a = b) (h : l.Nodup) : (l.map f).Nodup := List.Pairwise.map f (fun a b n e => n (hf a b e)) h
theorem nodup_rg (n : Nat) : (rg 0 (n : Int)).Nodup := by
  rw [rg_nat]
  exact nodup_mapI (fun a b e => by omega) List.nodup_range
def both (names : List Int) : List Int := names.flatMap fun c => [c, -c]
theorem both_len (names : List Int) : (both names).length = 2 * names.length := by
  unfold both
  induction names with
  | nil => rfl
  | cons a l ih => rw [List.flatMap_cons, List.length_append, ih]; simp; omega
def rounds : List (Int × Int) → Int → List Int × Int
  | [], s => ([], s)
  | (low, c) :: r, s => if s = low then (c :: (rounds r (low + 1)).1, (rounds r (low + 1)).2) else if s = low + 1 then (-c :: (rounds r low).1, (rounds r low).2) else rounds r s
def stepS (low s : Int) : Int := if s = low then low + 1 else if s = low + 1 then low else s
def firstS (low c s : Int) : List Int := if s = low then [c] else if s = low + 1 then [-c] else []
theorem rounds_cons (low c : Int) (r : List (Int × Int)) (s : Int) : rounds ((low, c) :: r) s = (firstS low c s ++ (rounds r (stepS low s)).1, (rounds r (stepS low s)).2) := by
  unfold firstS stepS
  rw [rounds]
  split
  · rfl
  · split <;> rfl
theorem rounds_snoc (ls : List (Int × Int)) (low c s : Int) : rounds (ls ++ [(low, c)]) s = ((rounds ls s).1 ++ firstS low c (rounds ls s).2, stepS low (rounds ls s).2) := by
  induction ls generalizing s with
  | nil =>
    rw [List.nil_append, rounds_cons]
    simp [rounds]
  | cons p r ih =>
    obtain ⟨l2, c2⟩ := p
    rw [List.cons_append, rounds_cons, ih, rounds_cons]
    simp
theorem stepS_in {low s : Int} {st : Int} (h : 0 ≤ low ∧ low < st - 1) (hs : 0 ≤ s ∧ s < st) : 0 ≤ stepS low s ∧ stepS low s < st := by
  unfold stepS
  split
  · omega
  · split <;> omega
theorem rounds_in {ls : List (Int × Int)} {st s : Int} (h : ∀ p ∈ ls, 0 ≤ p.1 ∧ p.1 < st - 1) (hs : 0 ≤ s ∧ s < st) : 0 ≤ (rounds ls s).2 ∧ (rounds ls s).2 < st := by
  induction ls generalizing s with
  | nil => exact hs
  | cons p r ih =>
    obtain ⟨l, c⟩ := p
    rw [rounds_cons]
    exact ih (fun p hp => h p (List.mem_cons_of_mem _ hp)) (stepS_in (h _ List.mem_cons_self) hs)
theorem stepS_inv (low s : Int) : stepS low (stepS low s) = s := by
  unfold stepS
  split
  · rename_i h; rw [if_neg (by omega), if_pos rfl, h]
  · split
    · rename_i h; rw [if_pos rfl, h]
    · rfl
theorem stepS_perm {low : Int} {n : Nat} (h : 0 ≤ low ∧ low < n - 1) : ((rg 0 n).map (stepS low)).Perm (rg 0 n) := by
  have nd := nodup_rg n
  refine (List.perm_ext_iff_of_nodup ?_ nd).mpr fun x => ?_
  · exact nodup_mapI (fun a b e => by rw [← stepS_inv low a, ← stepS_inv low b, e]) nd
  · rw [List.mem_map, mem_rg]
    constructor
    · rintro ⟨y, hy, rfl⟩
      rw [mem_rg] at hy
      exact stepS_in h hy
    · intro hx
      exact ⟨stepS low x, by rw [mem_rg]; exact stepS_in h hx, stepS_inv _ _⟩
theorem flatMap_appP {f g : Int → List Int} (xs : List Int) : (xs.flatMap fun x => f x ++ g x).Perm (xs.flatMap f ++ xs.flatMap g) := by
  induction xs with
  | nil => exact List.Perm.refl _
  | cons x xs ih =>
    simp only [List.flatMap_cons, List.append_assoc]
    refine List.Perm.append_left _ ?_
    refine (ih.append_left _).trans ?_
    rw [← List.append_assoc, ← List.append_assoc]
    exact List.perm_append_comm.append_right _
theorem firstS_perm {low c : Int} {n : Nat} (h : 0 ≤ low ∧ low < n - 1) : ((rg 0 n).flatMap (firstS low c)) = [c, -c] := by
  obtain ⟨a, rfl⟩ : ∃ a : Nat, low = a := ⟨low.toNat, by omega⟩
  obtain ⟨b, rfl⟩ : ∃ b : Nat, n = a + (1 + (1 + b)) := ⟨n - a - 2, by omega⟩
  rw [rg_nat, List.range_add, List.range_add, List.range_add]
  have z : ∀ l : List Nat, (∀ x ∈ l, x ≠ a ∧ x ≠ a + 1) → (l.map fun k : Nat => (k : Int)).flatMap (firstS (a : Int) c) = [] := fun l hl => by
    rw [List.flatMap_eq_nil_iff]
    intro x hx
    obtain ⟨y, hy, rfl⟩ := List.mem_map.mp hx
    obtain ⟨h1, h2⟩ := hl y hy
    unfold firstS
    rw [if_neg (by omega), if_neg (by omega)]
  simp only [List.map_append, List.flatMap_append]
  rw [z (List.range a) fun x hx => by rw [List.mem_range] at hx; omega]
  rw [z (List.map (fun x => a + x) (List.map (fun x => 1 + x) (List.map (fun x => 1 + x) (List.range b)))) fun x hx => by
    simp only [List.mem_map, List.mem_range] at hx
    obtain ⟨y, ⟨z, ⟨u, hu, rfl⟩, rfl⟩, rfl⟩ := hx
    omega]
  simp [List.range_succ, firstS]
  intro h; omega
theorem rounds_perm {ls : List (Int × Int)} {n : Nat} (h : ∀ p ∈ ls, 0 ≤ p.1 ∧ p.1 < n - 1) : ((rg 0 n).flatMap fun s => (rounds ls s).1).Perm (both (ls.map (·.2))) := by
  induction ls with
  | nil =>
    have : ((rg 0 (n : Int)).flatMap fun s => (rounds [] s).1) = [] := by
      rw [List.flatMap_eq_nil_iff]; intro _ _; rfl
    rw [this]
    exact List.Perm.refl _
  | cons p r ih =>
    obtain ⟨low, c⟩ := p
    have e : (fun s => (rounds ((low, c) :: r) s).1) = fun s => firstS low c s ++ (rounds r (stepS low s)).1 := funext fun s => by rw [rounds_cons]
    rw [e]
    refine (flatMap_appP _).trans ?_
    have h1 := h _ List.mem_cons_self
    rw [firstS_perm h1]
    show List.Perm _ (both (c :: r.map (·.2)))
    rw [show both (c :: r.map (·.2)) = [c, -c] ++ both (r.map (·.2)) from rfl]
    refine List.Perm.append_left _ ?_
    refine List.Perm.trans ?_ (ih fun p hp => h p (List.mem_cons_of_mem _ hp))
    have := (stepS_perm h1).flatMap_right (fun s => (rounds r s).1)
    rw [List.flatMap_map] at this
    exact this
end VL
set_option maxRecDepth 100000
set_option maxHeartbeats 1000000
namespace VL
open PySem PySem.Spec PyProof.Rows L2
local macro_rules | `(tactic| sleep 11) => `(tactic| simp only [Out.bind_ok, noX_ok, lift_some, flowT_ret, flowT_nxt, flowF_ret, flowF_nxt, sat_bind, sat_ok, sat_exn, sat_noX, eta2, Out.bind_id])
theorem rounds_len (ls : List (Int × Int)) (s : Int) : (rounds ls s).1.length ≤ ls.length := by
  induction ls generalizing s with
  | nil => simp [rounds]
  | cons p r ih =>
    obtain ⟨l, c⟩ := p
    rw [rounds_cons]
    have := ih (stepS l s)
    unfold firstS
    simp only [List.length_append, List.length_cons]
    split
    · simp; omega
    · split <;> simp <;> omega
def seenL (st : Nat) (dn : List Int) : List Bool := (List.range st).map fun k : Nat => decide ((k : Int) ∈ dn)
theorem seenL_len (st : Nat) (dn : List Int) : (seenL st dn).length = st := by simp [seenL]
theorem seenL_get {st : Nat} {dn : List Int} {k : Nat} (h : k < st) : (seenL st dn)[k]? = some (decide ((k : Int) ∈ dn)) := by
  unfold seenL
  rw [List.getElem?_map, List.getElem?_range h]; rfl
theorem seenL_at {st : Nat} {dn : List Int} {x : Int} (h0 : 0 ≤ x) (h : x < st) : atI (seenL st dn) x = some (decide (x ∈ dn)) := by
  have := atI_nat (seenL_get (st := st) (dn := dn) (k := x.toNat) (by omega))
  rwa [show ((x.toNat : Nat) : Int) = x by omega] at this
theorem seenL_set {st : Nat} {dn : List Int} {x : Int} (h0 : 0 ≤ x) (h : x < st) : (seenL st dn).set x.toNat true = seenL st (dn ++ [x]) := by
  refine List.ext_getElem? fun i => ?_
  rw [List.getElem?_set, seenL_len]
  by_cases hi : i < st
  · rw [seenL_get hi, seenL_get hi]
    split
    · rename_i e
      subst e
      rw [if_pos hi]
      rw [show ((x.toNat : Nat) : Int) = x by omega]
      simp
    · rename_i e
      congr 1
      have : ¬ (i : Int) = x := by omega
      simp [this]
  · rw [if_neg (by omega), List.getElem?_eq_none (by rw [seenL_len]; omega), List.getElem?_eq_none (by rw [seenL_len]; omega)]
theorem flatMap_len {f : Int → List Int} {n : Nat} : ∀ (dn : List Int), (∀ s, (f s).length ≤ n) → (dn.flatMap f).length ≤ n * dn.length
  | [], _ => by simp
  | a :: l, h => by
    rw [List.flatMap_cons, List.length_append, List.length_cons, Nat.mul_add, Nat.mul_one]
    have := flatMap_len l h
    have := h a
    omega
theorem both_perm {xs ys : List Int} (hl : xs.length = ys.length) (h : ∀ (k : Nat) x y, xs[k]? = some x → ys[k]? = some y → x = y ∨ x = -y) : (both xs).Perm (both ys) := by
  induction xs generalizing ys with
  | nil => cases ys with | nil => exact List.Perm.refl _ | cons _ _ => cases hl
  | cons x xs ih =>
    cases ys with
    | nil => cases hl
    | cons y ys =>
      show List.Perm ([x, -x] ++ both xs) ([y, -y] ++ both ys)
      refine List.Perm.append ?_ (ih (by simpa using hl) fun k a b h1 h2 => h (k + 1) a b (by simpa using h1) (by simpa using h2))
      rcases h 0 x y rfl rfl with e | e
      · rw [e]
      · rw [e, Int.neg_neg]
        exact List.Perm.swap _ _ _
end VL
set_option maxRecDepth 100000
set_option maxHeartbeats 1000000
namespace VL
open PySem PySem.Spec PyProof.Rows L2
local macro_rules | `(tactic| sleep 11) => `(tactic| simp only [Out.bind_ok, noX_ok, lift_some, flowT_ret, flowT_nxt, flowF_ret, flowF_nxt, sat_bind, sat_ok, sat_exn, sat_noX, eta2, Out.bind_id])
abbrev Dr := List (List Int) × List (Int × Int)
structure DrS (most : Nat) (d : Dr) : Prop where
  wl : d.1.length ≤ 12
  sl : d.2.length ≤ most
  inc : Inc d.2
  pos : ∀ p ∈ d.2, 0 < p.1 ∧ (p.2 = 1 ∨ p.2 = -1)
  perm : d.1.flatten.Perm (both (d.2.map (·.1)))
theorem DrS.mono {a b : Nat} {d : Dr} (h : DrS a d) (hab : a ≤ b) : DrS b d := ⟨h.wl, Nat.le_trans h.sl hab, h.inc, h.pos, h.perm⟩
theorem s_repL {xs : List α} {k : Int} {X : Exn → Prop} {Q : List α → Prop} (h0 : 0 ≤ k) (h1 : k < 9223372036854775808) (h : xs.length * k.toNat ≤ 1000000) (q : Q (List.replicate k.toNat xs).flatten) : Sat (lift (repO xs k)) Q X := sat_lift.mpr ⟨_, repO_ok (by omega) (by omega) h, q⟩
end VL
set_option maxRecDepth 100000
set_option maxHeartbeats 1000000
namespace VL
open PySem PySem.Spec PyProof.Rows L2
local macro_rules | `(tactic| sleep 11) => `(tactic| simp only [Out.bind_ok, noX_ok, lift_some, flowT_ret, flowT_nxt, flowF_ret, flowF_nxt, sat_bind, sat_ok, sat_exn, sat_noX, eta2, Out.bind_id])
def negU (w : List Int) (k : Nat) : Nat := (w.take k).countP fun x => decide (x < 0)
def negs (w : List Int) : Nat := w.countP fun x => decide (x < 0)
theorem negU_zero (w : List Int) : negU w 0 = 0 := rfl
theorem negU_succ {w : List Int} {k : Nat} {x : Int} (h : w[k]? = some x) : negU w (k + 1) = negU w k + if x < 0 then 1 else 0 := by
  unfold negU
  rw [List.take_add_one, h, List.countP_append]
  simp
theorem negU_all {w : List Int} {k : Nat} (h : w.length ≤ k) : negU w k = negs w := by unfold negU negs; rw [List.take_of_length_le h]
theorem negU_mono (w : List Int) {j k : Nat} (h : j ≤ k) : negU w j ≤ negU w k := by
  unfold negU
  exact (List.take_sublist_take_left h).countP_le
theorem negU_le (w : List Int) (k : Nat) : negU w k ≤ negs w := by
  unfold negU negs
  exact (List.take_sublist k w).countP_le
def arcRow (w : List Int) (c : Int) : List Int := if negs w = 0 then List.replicate (max 1 w.length) c else (List.range w.length).map fun k => if negU w k = negs w then c else c + negU w k
def arcNum (w : List Int) : Nat := max 1 (negs w)
theorem arcRow_len (w : List Int) (c : Int) : (arcRow w c).length = max 1 w.length := by
  unfold arcRow
  split
  · simp
  · rename_i h
    have : 0 < w.length := by
      rcases Nat.eq_zero_or_pos w.length with e | e
      · rw [List.length_eq_zero_iff.mp e] at h; exact absurd rfl h
      · exact e
    simp; omega
theorem list_ext {α : Type} {n : Nat} {xs ys : List α} (h1 : xs.length = n) (h2 : ys.length = n) (h : ∀ k, k < n → xs[k]? = ys[k]?) : xs = ys := by
  refine List.ext_getElem? fun i => ?_
  by_cases hi : i < n
  · exact h i hi
  · rw [List.getElem?_eq_none (by omega), List.getElem?_eq_none (by omega)]
theorem rangeMap_get {α : Type} {n k : Nat} {f : Nat → α} (h : k < n) : ((List.range n).map f)[k]? = some (f k) := by
  rw [List.getElem?_map, List.getElem?_range h]; rfl
theorem rangeMap_set {α : Type} {n k : Nat} {f g : Nat → α} (h : ∀ j, j < n → j ≠ k → g j = f j) : ((List.range n).map f).set k (g k) = (List.range n).map g := by
  refine list_ext (n := n) (by simp) (by simp) fun j hj => ?_
  rw [List.getElem?_set, rangeMap_get hj, rangeMap_get hj]
  simp only [List.length_map, List.length_range]
  split
  · rename_i e; subst e; rw [if_pos hj]
  · rename_i e; rw [h j hj (fun e2 => e e2.symm)]
theorem walk_arcs_ok {w : List Int} {c : Int} (hl : w.length ≤ 1000) : XA.F_walk_arcs w c = .ok (arcRow w c, c + (arcNum w : Int)) := by
  refine Sat.eq ?_
  unfold XA.F_walk_arcs
  sleep 11
  have hg : ∀ k : Nat, k < w.length → ∃ x, w[k]? = some x := fun k h => ⟨_, List.getElem?_eq_getElem h⟩
  refine s_fmapR (q := fun k => decide ((w[k.toNat]?).getD 0 < 0)) (g := fun k => k) w.length rfl (by omega) (fun k hk => ?_) (fun k hk _ => rfl) ?_
  · obtain ⟨x, hx⟩ := hg k hk
    rw [atI_nat hx]
    simp only [lift_some, Out.bind_ok, noX_ok, Int.toNat_natCast, hx, Option.getD_some]
  have e0 : (decide (((((List.range w.length).filter fun k : Nat => decide ((w[((k : Int)).toNat]?).getD 0 < 0)).map fun k : Nat => (k : Int)).length : Int) = 0)) = decide (negs w = 0) := by
    refine decide_eq_decide.mpr ?_
    rw [List.length_map]
    constructor
    · intro h
      have h2 : ((List.range w.length).filter fun k : Nat => decide ((w[((k : Int)).toNat]?).getD 0 < 0)) = [] := List.eq_nil_of_length_eq_zero (by omega)
      rw [List.filter_eq_nil_iff] at h2
      unfold negs
      rw [List.countP_eq_zero]
      intro x hx
      obtain ⟨i, hi, e⟩ := List.mem_iff_getElem.mp hx
      have := h2 i (List.mem_range.mpr hi)
      simpa [List.getElem?_eq_getElem hi, e] using this
    · intro h
      have h2 : ((List.range w.length).filter fun k : Nat => decide ((w[((k : Int)).toNat]?).getD 0 < 0)) = [] := by
        rw [List.filter_eq_nil_iff]
        intro i hi
        have hi := List.mem_range.mp hi
        unfold negs at h
        rw [List.countP_eq_zero] at h
        have := h _ (List.getElem_mem hi)
        simpa [List.getElem?_eq_getElem hi] using this
      rw [h2]; rfl
  sleep 11
  rw [e0]
  refine s_ite (fun hz => ?_) (fun hz => ?_)
  · sleep 11
    refine s_rep (by unfold maxF; split <;> omega) (by unfold maxF; split <;> omega) ?_
    unfold arcRow arcNum
    rw [if_pos hz, hz]
    have : (maxF 1 (w.length : Int)).toNat = max 1 w.length := by unfold maxF; split <;> omega
    rw [this]; rfl
  · sleep 11
    refine s_for w.length rfl (by omega) (fun k s => s = ((List.range k).map (fun j => c + (negU w j : Int)), c + (negU w k : Int))) (by simp [negU_zero]) (fun k s hk hi => ?_) fun s hi => ?_
    · subst hi
      obtain ⟨x, hx⟩ := hg k hk
      sleep 11
      refine s_app (by simp; omega) ?_
      refine s_atE (atI_nat hx) ?_
      rw [negU_succ hx, List.range_succ]
      refine s_ite (fun h => ?_) (fun h => ?_)
      · sleep 11
        simp [h]; omega
      · sleep 11
        simp [h]
    · subst hi
      sleep 11
      refine s_for w.length rfl (by omega) (fun k s => s = (List.range w.length).map fun j => if j < k ∧ negU w j = negs w then c else c + (negU w j : Int)) (by simp) (fun k s hk hi => ?_) fun s hi => ?_
      · subst hi
        obtain ⟨x, hx⟩ := hg k hk
        sleep 11
        refine s_atE (atI_nat (rangeMap_get hk)) ?_
        have e3 : (if k < k ∧ negU w k = negs w then c else c + (negU w k : Int)) = c + (negU w k : Int) := if_neg (by omega)
        rw [e3, negU_all (Nat.le_refl _)]
        refine s_ite (fun h => ?_) (fun h => ?_)
        · sleep 11
          refine s_set (by omega) (by simp; omega) ?_
          rw [Int.toNat_natCast]
          have := rangeMap_set (n := w.length) (k := k) (f := fun j => if j < k ∧ negU w j = negs w then c else c + (negU w j : Int)) (g := fun j => if j < k + 1 ∧ negU w j = negs w then c else c + (negU w j : Int)) fun j _ hj => by
            show (if j < k + 1 ∧ negU w j = negs w then c else c + (negU w j : Int)) = if j < k ∧ negU w j = negs w then c else c + (negU w j : Int)
            by_cases h1 : j < k
            · simp [h1, show j < k + 1 by omega]
            · simp [h1, show ¬ j < k + 1 by omega]
          rw [← this]
          have e4 : (if k < k + 1 ∧ negU w k = negs w then c else c + (negU w k : Int)) = c := if_pos ⟨by omega, by omega⟩
          rw [e4]
        · sleep 11
          refine List.map_congr_left fun j hj => ?_
          by_cases h1 : j < k
          · simp [h1, show j < k + 1 by omega]
          · by_cases h2 : j = k
            · subst h2
              have : ¬ negU w j = negs w := fun e => h (by rw [e])
              simp [this]
            · simp [h1, show ¬ j < k + 1 by omega]
      · subst hi
        sleep 11
        unfold arcRow arcNum
        rw [if_neg hz, negU_all (Nat.le_refl _)]
        refine Prod.ext ?_ ?_
        · refine List.map_congr_left fun j hj => ?_
          simp [List.mem_range.mp hj]
        · show c + (negs w : Int) = c + ((max 1 (negs w) : Nat) : Int)
          omega
def arcsF : Int → List (List Int) → List (List Int)
  | _, [] => []
  | c, w :: ws => arcRow w c :: arcsF (c + arcNum w) ws
def cntF : Int → List (List Int) → Int
  | c, [] => c
  | c, w :: ws => cntF (c + arcNum w) ws
theorem s_forC {f : Int × List (List Int) → List Int → Out (Int × List (List Int))} (hf : ∀ c t w, t.length < 100000 → w.length ≤ 1000 → f (c, t) w = .ok (c + arcNum w, t ++ [arcRow w c])) : ∀ (ws : List (List Int)) (c : Int) (t : List (List Int)), t.length + ws.length ≤ 100000 → (∀ w ∈ ws, w.length ≤ 1000) → forO f (c, t) ws = .ok (cntF c ws, t ++ arcsF c ws)
  | [], c, t, _, _ => by simp [forO, cntF, arcsF]
  | w :: ws, c, t, h, hw => by
    rw [forO, hf c t w (by simp at h; omega) (hw w List.mem_cons_self), Out.bind_ok, s_forC hf ws _ _ (by simp at h ⊢; omega) fun w h => hw w (List.mem_cons_of_mem _ h)]
    simp [cntF, arcsF]
theorem arcs_ok {d : Dr} (h1 : d.1.length ≤ 1000) (h2 : ∀ w ∈ d.1, w.length ≤ 1000) : XA.F_arcs d = .ok (arcsF 0 d.1) := by
  unfold XA.F_arcs
  simp only [Out.bind_ok]
  rw [s_forC (fun c t w ht hw => ?_) d.1 0 [] (by simp; omega) h2]
  · rfl
  · show ((XA.F_walk_arcs w c).bind fun p => (Out.ok p.1).bind fun v => (lift (appO t v)).bind fun told_ => Out.ok (p.2, told_)) = _
    rw [walk_arcs_ok hw]
    simp only [Out.bind_ok]
    rw [appO_ok (by omega)]
    simp only [lift_some, Out.bind_ok]
theorem arcsF_get {ws : List (List Int)} {c : Int} {i : Nat} {w : List Int} (h : ws[i]? = some w) : ∃ c', (arcsF c ws)[i]? = some (arcRow w c') := by
  induction ws generalizing c i with
  | nil => simp at h
  | cons a ws ih =>
    cases i with
    | zero => simp at h; subst h; exact ⟨c, rfl⟩
    | succ i => exact ih (by simpa using h)
def spotF (ws : List (List Int)) (x : Int) : Nat × Nat := (ws.findIdx fun w => decide (x ∈ w), ((ws[ws.findIdx fun w => decide (x ∈ w)]?).getD []).idxOf x)
theorem spotF_eq {ws : List (List Int)} {x : Int} {k : Nat} {w : List Int} (hk : ws[k]? = some w) (hx : x ∈ w) (h : ∀ j, j < k → ∀ v, ws[j]? = some v → x ∉ v) : spotF ws x = (k, w.idxOf x) := by
  have hl := (List.getElem?_eq_some_iff.mp hk)
  obtain ⟨hl, he⟩ := hl
  have : ws.findIdx (fun w => decide (x ∈ w)) = k := by
    rw [List.findIdx_eq hl]
    refine ⟨by rw [he]; exact decide_eq_true hx, fun j hj => ?_⟩
    have := h j hj _ (List.getElem?_eq_getElem (by omega))
    simpa using this
  unfold spotF
  rw [this, hk]; rfl
theorem spotF_in {ws : List (List Int)} {x : Int} (h : x ∈ ws.flatten) : ∃ w, ws[(spotF ws x).1]? = some w ∧ w[(spotF ws x).2]? = some x := by
  obtain ⟨w, hw, hx⟩ := List.mem_flatten.mp h
  have h1 : ws.findIdx (fun w => decide (x ∈ w)) < ws.length := List.findIdx_lt_length_of_exists ⟨w, hw, decide_eq_true hx⟩
  have h2 : x ∈ ws[ws.findIdx (fun w => decide (x ∈ w))] := by simpa using List.findIdx_getElem (w := h1)
  refine ⟨_, List.getElem?_eq_getElem h1, ?_⟩
  unfold spotF
  simp only [List.getElem?_eq_getElem h1, Option.getD_some]
  rw [List.getElem?_eq_getElem (List.idxOf_lt_length_of_mem h2), List.getElem_idxOf]
theorem enumF_get {α : Type} {xs : List α} {k : Nat} {p : Int × α} (h : (enumF xs)[k]? = some p) : ∃ x, xs[k]? = some x ∧ p = ((k : Int), x) := by
  unfold enumF at h
  rw [List.getElem?_map, List.getElem?_zipIdx] at h
  cases e : xs[k]? with
  | none => rw [e] at h; simp at h
  | some x => rw [e] at h; simp at h; exact ⟨x, rfl, h.symm⟩
theorem idxO_ok {α : Type} [DecidableEq α] {xs : List α} {x : α} (h : x ∈ xs) : idxO xs x = some ((xs.idxOf x : Nat) : Int) := by unfold idxO; exact if_pos h
theorem spot_ok {d : Dr} {x : Int} (h : x ∈ d.1.flatten) : XA.F_spot d x = .ok (((spotF d.1 x).1 : Int), ((spotF d.1 x).2 : Int)) := by
  refine Sat.eq ?_
  unfold XA.F_spot
  sleep 11
  refine sat_forF (fun k _ => ∀ j, j < k → ∀ v, d.1[j]? = some v → x ∉ v) (fun j h => absurd h (Nat.not_lt_zero _)) (fun k s p hp hi => ?_) fun s hi => ?_
  · obtain ⟨w, hw, rfl⟩ := enumF_get hp
    refine s_ite (fun hx => ?_) (fun hx => ?_)
    · rw [idxO_ok hx]
      sleep 11
      rw [spotF_eq hw hx hi]
    · sleep 11
      intro j hj v hv
      by_cases e : j = k
      · subst e; rw [hw] at hv; cases hv; exact hx
      · exact hi j (by omega) v hv
  · obtain ⟨w, hw, hx⟩ := List.mem_flatten.mp h
    obtain ⟨i, hi2, e⟩ := List.mem_iff_getElem.mp hw
    have hl : (enumF d.1).length = d.1.length := by simp [enumF]
    rw [hl] at hi
    exact absurd hx (hi i hi2 w (by rw [List.getElem?_eq_getElem hi2, e]))
def entL (rows : List (List Int)) (i j : Nat) : Int := (((rows[i]?).getD [])[j]?).getD 0
def meetOf (ws : List (List Int)) (p : Int × Int) : Int × Int × Int × Int × Int :=
  (p.1, p.2, entL (arcsF 0 ws) (spotF ws p.1).1 (spotF ws p.1).2, entL (arcsF 0 ws) (spotF ws (-p.1)).1 (spotF ws (-p.1)).2, entL (arcsF 0 ws) (spotF ws (-p.1)).1 (((spotF ws (-p.1)).2 + 1) % ((ws[(spotF ws (-p.1)).1]?).getD []).length))
def meetsF (d : Dr) : List (Int × Int × Int × Int × Int) := d.2.map (meetOf d.1)
theorem both_mem {names : List Int} {x : Int} : x ∈ both names ↔ x ∈ names ∨ -x ∈ names := by
  unfold both
  rw [List.mem_flatMap]
  constructor
  · rintro ⟨a, ha, h⟩
    simp only [List.mem_cons, List.not_mem_nil, or_false] at h
    rcases h with h | h
    · left; rw [h]; exact ha
    · right; rw [h, Int.neg_neg]; exact ha
  · rintro (h | h)
    · exact ⟨x, h, by simp⟩
    · exact ⟨-x, h, by simp⟩
theorem DrS.mem {most : Nat} {d : Dr} (h : DrS most d) {p : Int × Int} (hp : p ∈ d.2) : p.1 ∈ d.1.flatten ∧ -p.1 ∈ d.1.flatten := by
  have : p.1 ∈ d.2.map (·.1) := List.mem_map.mpr ⟨p, hp, rfl⟩
  exact ⟨h.perm.mem_iff.mpr (both_mem.mpr (.inl this)), h.perm.mem_iff.mpr (both_mem.mpr (.inr (by rwa [Int.neg_neg])))⟩
theorem DrS.row {most : Nat} {d : Dr} (h : DrS most d) {w : List Int} (hw : w ∈ d.1) : w.length ≤ 2 * most := by
  have h1 := (List.sublist_flatten_of_mem hw).length_le
  have h2 := h.perm.length_eq
  rw [both_len, List.length_map] at h2
  have := h.sl
  omega
theorem arcs_at {ws : List (List Int)} {i j : Nat} {w : List Int} (hw : ws[i]? = some w) (hj : j < w.length) : ∃ row, (arcsF 0 ws)[i]? = some row ∧ row.length = w.length ∧ row[j]? = some (entL (arcsF 0 ws) i j) := by
  obtain ⟨c, hc⟩ := arcsF_get (c := 0) hw
  have hl : (arcRow w c).length = w.length := by rw [arcRow_len]; omega
  refine ⟨_, hc, hl, ?_⟩
  unfold entL
  rw [hc, Option.getD_some, List.getElem?_eq_getElem (by omega)]; rfl
theorem s_forApp {α β : Type} {f : List β → α → Out (List β)} {g : α → β} : ∀ (xs : List α) (t : List β), (∀ t, ∀ x ∈ xs, t.length < 100000 → f t x = .ok (t ++ [g x])) → t.length + xs.length ≤ 100000 → forO f t xs = .ok (t ++ xs.map g)
  | [], t, _, _ => by simp [forO]
  | x :: xs, t, hf, h => by
    rw [forO, hf t x List.mem_cons_self (by simp at h; omega), Out.bind_ok, s_forApp xs _ (fun t y hy => hf t y (List.mem_cons_of_mem _ hy)) (by simp at h ⊢; omega)]
    simp
theorem meets_ok {most : Nat} {d : Dr} (h : DrS most d) (hm : most ≤ 40) : XA.F_meets d = .ok (meetsF d) := by
  unfold XA.F_meets
  have hr : ∀ w ∈ d.1, w.length ≤ 1000 := fun w hw => by have := h.row hw; omega
  have hl := h.wl
  have hs := h.sl
  rw [arcs_ok (by omega) hr]
  simp only [Out.bind_ok]
  rw [s_forApp (g := meetOf d.1) d.2 [] (fun t p hp ht => ?_) (by simp; omega)]
  · rfl
  obtain ⟨m1, m2⟩ := h.mem hp
  rw [spot_ok m1, spot_ok m2]
  obtain ⟨w1, a1, b1⟩ := spotF_in m1
  obtain ⟨w2, a2, b2⟩ := spotF_in m2
  obtain ⟨r1, e1, f1, g1⟩ := arcs_at a1 (List.getElem?_eq_some_iff.mp b1).1
  obtain ⟨r2, e2, f2, g2⟩ := arcs_at a2 (List.getElem?_eq_some_iff.mp b2).1
  have hb := (List.getElem?_eq_some_iff.mp b2).1
  obtain ⟨r3, e3, f3, g3⟩ := arcs_at (j := ((spotF d.1 (-p.1)).2 + 1) % w2.length) a2 (Nat.mod_lt _ (by omega))
  rw [e2] at e3
  cases e3
  refine Sat.eq ?_
  sleep 11
  refine s_atE (atI_nat e1) ?_
  refine s_atE (atI_nat g1) ?_
  refine s_atE (atI_nat e2) ?_
  refine s_atE (atI_nat g2) ?_
  refine s_mod (by omega) ?_
  have e4 : (((spotF d.1 (-p.1)).2 : Int) + 1) % (r2.length : Int) = ((((spotF d.1 (-p.1)).2 + 1) % w2.length : Nat) : Int) := by rw [f2, Int.natCast_emod]; rfl
  rw [e4]
  refine s_atE (atI_nat g3) ?_
  refine s_app (by omega) ?_
  unfold meetOf
  rw [a2]; rfl
end VL
set_option maxRecDepth 100000
set_option maxHeartbeats 1000000
namespace VL
open PySem PySem.Spec PyProof.Rows L2
local macro_rules | `(tactic| sleep 11) => `(tactic| simp only [Out.bind_ok, noX_ok, lift_some, flowT_ret, flowT_nxt, flowF_ret, flowF_nxt, sat_bind, sat_ok, sat_exn, sat_noX, eta2, Out.bind_id])
theorem whole_ok (x : Int) : XD.F_law_is_whole x = .ok true := by unfold XD.F_law_is_whole; rfl
theorem cutL_from {α : Type} (xs : List α) (k : Nat) (h : k ≤ xs.length) : cutL xs (some (k : Int)) none = xs.drop k := by
  unfold cutL
  rw [HT.sIx_nat xs.length 0 k, HT.sIx_none, show min k xs.length = k by omega]
  exact List.take_of_length_le (by simp)
theorem cutL_to {α : Type} (xs : List α) (k : Nat) : cutL xs none (some (k : Int)) = xs.take k := by
  unfold cutL
  rw [HT.sIx_nat xs.length xs.length k, HT.sIx_none, List.drop_zero, Nat.sub_zero]
  by_cases h : k ≤ xs.length
  · rw [show min k xs.length = k by omega]
  · rw [show min k xs.length = xs.length by omega, List.take_length, List.take_of_length_le (by omega)]
theorem cutL_mid {α : Type} (xs : List α) (k n : Nat) (h : k ≤ xs.length) : cutL xs (some (k : Int)) (some (n : Int)) = (xs.take n).drop k := by
  unfold cutL
  rw [HT.sIx_nat xs.length 0 k, HT.sIx_nat xs.length xs.length n, show min k xs.length = k by omega, List.drop_take]
  by_cases h2 : n ≤ xs.length
  · rw [show min n xs.length = n by omega]
  · rw [show min n xs.length = xs.length by omega, List.take_of_length_le (by simp), List.take_of_length_le (by simp; omega)]
end VL
set_option maxRecDepth 100000
set_option maxHeartbeats 1000000
namespace VL
open PySem PySem.Spec PyProof.Rows L2
local macro_rules | `(tactic| sleep 11) => `(tactic| simp only [Out.bind_ok, Out.bind_exn, noX_ok, lift_some, flowT_ret, flowT_nxt, flowF_ret, flowF_nxt, sat_bind, sat_ok, sat_exn, sat_noX, eta2, Out.bind_id])
def tabG (n : Nat) (m : Nat → Nat → Nat) : List (List Int) := (List.range n).map fun a => (List.range n).map fun b => (m a b : Int)
def idxD {α : Type} [DecidableEq α] (xs : List α) (x : α) : Nat := xs.idxOf x
theorem idxD_lt {α : Type} [DecidableEq α] {xs : List α} {x : α} (h : x ∈ xs) : idxD xs x < xs.length := List.idxOf_lt_length_of_mem h
theorem idxD_get {α : Type} [DecidableEq α] {xs : List α} {x : α} (h : x ∈ xs) : xs[idxD xs x]? = some x := by
  unfold idxD
  rw [List.getElem?_eq_getElem (List.idxOf_lt_length_of_mem h), List.getElem_idxOf]
theorem idxD_nd {α : Type} [DecidableEq α] {xs : List α} (h : xs.Nodup) {i : Nat} (hi : i < xs.length) : idxD xs xs[i] = i := h.idxOf_getElem i hi
structure Shp (n : Nat) (t : List (List Int)) : Prop where
  len : t.length = n
  row : ∀ r ∈ t, r.length = n ∧ ∀ x ∈ r, 0 ≤ x ∧ x < (n : Int)
theorem Shp.tab {n : Nat} {t : List (List Int)} (h : Shp n t) : ∃ m, (∀ a b, a < n → b < n → m a b < n) ∧ t = tabG n m := by
  have key : ∀ a b, a < n → b < n → ∃ r x, t[a]? = some r ∧ r[b]? = some x ∧ 0 ≤ x ∧ x < (n : Int) := fun a b ha hb => by
    have e1 : t[a]? = some (t[a]'(by rw [h.len]; exact ha)) := List.getElem?_eq_getElem _
    have h1 := h.row _ (List.getElem_mem (show a < t.length by rw [h.len]; exact ha))
    refine ⟨_, _, e1, List.getElem?_eq_getElem (by rw [h1.1]; exact hb), h1.2 _ (List.getElem_mem _)⟩
  refine ⟨fun a b => ((((t[a]?).getD [])[b]?).getD 0).toNat, fun a b ha hb => ?_, ?_⟩
  · obtain ⟨r, x, e1, e2, e3, e4⟩ := key a b ha hb
    simp only [e1, e2, Option.getD_some]
    omega
  · refine list_ext (n := n) h.len (by simp [tabG]) fun a ha => ?_
    have e1 : t[a]? = some (t[a]'(by rw [h.len]; exact ha)) := List.getElem?_eq_getElem _
    have h1 := h.row _ (List.getElem_mem (show a < t.length by rw [h.len]; exact ha))
    unfold tabG
    rw [rangeMap_get ha, e1]
    congr 1
    refine list_ext (n := n) h1.1 (by simp) fun b hb => ?_
    obtain ⟨r, x, f1, f2, f3, f4⟩ := key a b ha hb
    rw [e1] at f1; cases f1
    rw [rangeMap_get hb, f2]
    simp only [e1, f2, Option.getD_some]
    congr 1; omega
theorem Shp.set {n : Nat} {t : List (List Int)} (h : Shp n t) {i j : Nat} {r : List Int} {v : Int} (hr : t[i]? = some r) (h0 : 0 ≤ v) (h1 : v < n) : Shp n (t.set i (r.set j v)) := by
  refine ⟨by rw [List.length_set]; exact h.len, fun s hs => ?_⟩
  rcases List.mem_or_eq_of_mem_set hs with z | z
  · exact h.row s z
  · have hr := h.row r (List.mem_of_getElem? hr)
    subst z
    refine ⟨by rw [List.length_set]; exact hr.1, fun x hx => ?_⟩
    rcases List.mem_or_eq_of_mem_set hx with z | z
    · exact hr.2 x z
    · subst z; exact ⟨h0, h1⟩
end VL
set_option maxRecDepth 100000
set_option maxHeartbeats 4000000
namespace VL
open PySem PySem.Spec PyProof.Rows L2
def ColInj (n : Nat) (t : List (List Int)) : Prop := ∀ a c b : Int, 0 ≤ a → a < n → 0 ≤ c → c < n → 0 ≤ b → b < n → ent t a b = ent t c b → a = c
theorem emod_rg (x : Int) {k : Int} (h : 0 < k) : 0 ≤ x % k ∧ x % k < k := ⟨Int.emod_nonneg _ (by omega), Int.emod_lt_of_pos _ h⟩
theorem small_dvd {n x : Int} (h : n ∣ x) (lo : -n < x) (hi : x < n) : x = 0 := by
  have e := Int.emod_eq_zero_of_dvd h
  by_cases h0 : 0 ≤ x
  · rw [Int.emod_eq_of_lt h0 hi] at e; exact e
  · have e2 : (x + n) % n = 0 := by rw [Int.add_emod_right]; exact e
    rw [Int.emod_eq_of_lt (by omega) (by omega)] at e2
    omega
theorem dvd_of_emod {n x y : Int} (h : x % n = y % n) : n ∣ x - y := Int.dvd_of_emod_eq_zero (Int.emod_eq_emod_iff_emod_sub_eq_zero.mp h)
theorem dvd_coprime {f n x : Int} (h : n ∣ f * x) (g : Int.gcd f n = 1) : n ∣ x := by
  rw [← Int.natAbs_dvd_natAbs] at h ⊢
  rw [Int.natAbs_mul] at h
  have c : Nat.Coprime n.natAbs f.natAbs := by
    unfold Nat.Coprime
    rw [Nat.gcd_comm]; exact g
  exact c.dvd_of_dvd_mul_left h
theorem emod_inj {n x a c : Int} (a0 : 0 ≤ a) (a1 : a < n) (c0 : 0 ≤ c) (c1 : c < n) (h : (x - a) % n = (x - c) % n) : a = c := by
  have := small_dvd (dvd_of_emod h) (by omega) (by omega)
  omega
theorem cellG_inj {w n f a c b : Int} (hn : 1 ≤ n) (hg : Int.gcd f n = 1) (a0 : 0 ≤ a) (a1 : a < n) (c0 : 0 ≤ c) (c1 : c < n) (b0 : 0 ≤ b) (b1 : b < n) (h : cellG w n f a b = cellG w n f c b) : a = c := by
  unfold cellG at h
  by_cases w1 : w = 1
  · rw [if_pos w1, if_pos w1] at h
    exact emod_inj a0 a1 c0 c1 h
  rw [if_neg w1, if_neg w1] at h
  by_cases w2 : w = 2
  · rw [if_pos w2, if_pos w2] at h
    have := dvd_of_emod h
    have e : f * a + (1 - f) * b - (f * c + (1 - f) * b) = f * (a - c) := by rw [Int.mul_sub]; omega
    rw [e] at this
    have := small_dvd (dvd_coprime this hg) (by omega) (by omega)
    omega
  rw [if_neg w2, if_neg w2] at h
  by_cases w3 : w = 3
  · have n4 : ¬ w = 4 := by omega
    have n6 : ¬ w = 6 := by omega
    simp only [w3, n4, n6, true_and, false_and, if_false] at h
    simp only [show ¬ (3 : Int) = 6 by decide, show ¬ (3 : Int) = 4 by decide, false_and, if_false] at h
    (repeat' split at h) <;> omega
  by_cases w6 : w = 6
  · subst w6
    simp only [show ¬ (6 : Int) = 3 by decide, show ¬ (6 : Int) = 4 by decide, false_and, true_and, if_false] at h
    by_cases hb : b = n - 1
    · simp only [hb, and_true] at h
      by_cases h1 : a < n - 1
      · by_cases h2 : c < n - 1
        · rw [if_pos h1, if_pos h2] at h
          have := small_dvd (dvd_of_emod h) (by omega) (by omega)
          omega
        · rw [if_pos h1, if_neg h2] at h
          have := emod_rg (a + 1) (show 0 < n - 1 by omega)
          omega
      · by_cases h2 : c < n - 1
        · rw [if_neg h1, if_pos h2] at h
          have := emod_rg (c + 1) (show 0 < n - 1 by omega)
          omega
        · omega
    · simp only [hb, and_false, if_false] at h
      exact h
  by_cases w4 : w = 4
  · subst w4
    simp only [show ¬ (4 : Int) = 3 by decide, show ¬ (4 : Int) = 6 by decide, false_and, true_and, if_false] at h
    have half : 0 ≤ n / 2 ∧ n / 2 < n := by omega
    generalize n / 2 = k at h half
    by_cases hb : b < k
    · have hb' : ¬ b ≥ k := by omega
      simp only [hb, hb', and_true, and_false, if_false] at h
      by_cases h1 : a < k
      · by_cases h2 : c < k
        · rw [if_pos h1, if_pos h2] at h
          exact emod_inj a0 h1 c0 h2 h
        · rw [if_pos h1, if_neg h2] at h
          have := emod_rg (2 * b - a) (show 0 < k by omega)
          omega
      · by_cases h2 : c < k
        · rw [if_neg h1, if_pos h2] at h
          have := emod_rg (2 * b - c) (show 0 < k by omega)
          omega
        · rw [if_neg h1, if_neg h2] at h
          exact h
    · have hb' : b ≥ k := by omega
      simp only [hb, hb', and_true, and_false, if_false] at h
      by_cases h1 : a ≥ k
      · by_cases h2 : c ≥ k
        · rw [if_pos h1, if_pos h2] at h
          have h' : (2 * b - a - k) % (n - k) = (2 * b - c - k) % (n - k) := by omega
          have := small_dvd (dvd_of_emod h') (by omega) (by omega)
          omega
        · rw [if_pos h1, if_neg h2] at h
          have := emod_rg (2 * b - a - k) (show 0 < n - k by omega)
          omega
      · by_cases h2 : c ≥ k
        · rw [if_neg h1, if_pos h2] at h
          have := emod_rg (2 * b - c - k) (show 0 < n - k by omega)
          omega
        · rw [if_neg h1, if_neg h2] at h
          exact h
  simp only [w3, w6, w4, false_and, if_false] at h
  exact h
theorem tabT_ent {g : Int → Int → Int} {n : Nat} {a b : Int} (a0 : 0 ≤ a) (a1 : a < n) (b0 : 0 ≤ b) (b1 : b < n) : ent (tabT g n) a b = g a b := by
  unfold ent tabT
  rw [List.getElem?_map, List.getElem?_range (by omega)]
  show (((List.range n).map _)[b.toNat]?).getD 0 = _
  rw [List.getElem?_map, List.getElem?_range (by omega)]
  show g ((a.toNat : Nat) : Int) ((b.toNat : Nat) : Int) = _
  rw [Int.toNat_of_nonneg a0, Int.toNat_of_nonneg b0]
def fourT : List (List Int) := [[0, 3, 1, 2], [2, 1, 3, 0], [3, 0, 2, 1], [1, 2, 0, 3]]
theorem four_inj : ∀ a c b : Fin 4, ent fourT (a.val : Int) (b.val : Int) = ent fourT (c.val : Int) (b.val : Int) → a = c := by decide
theorem madeT_inj {w f : Int} {n : Nat} (hn : 1 ≤ n) (hg : Int.gcd f n = 1) : ColInj n (madeT w n f) := by
  intro a c b a0 a1 c0 c1 b0 b1 h
  unfold madeT at h
  split at h
  · rename_i hw
    obtain ⟨_, rfl⟩ := hw
    have := four_inj ⟨a.toNat, by omega⟩ ⟨c.toNat, by omega⟩ ⟨b.toNat, by omega⟩ (by
      show ent fourT ((a.toNat : Nat) : Int) ((b.toNat : Nat) : Int) = ent fourT ((c.toNat : Nat) : Int) ((b.toNat : Nat) : Int)
      rw [Int.toNat_of_nonneg a0, Int.toNat_of_nonneg b0, Int.toNat_of_nonneg c0]
      exact h)
    have := congrArg Fin.val this
    simp at this
    omega
  · rw [tabT_ent a0 a1 b0 b1, tabT_ent c0 c1 b0 b1] at h
    exact cellG_inj (by omega) hg a0 a1 c0 c1 b0 b1 h
theorem permF {s : List Int} {n : Nat} (h : s.Perm (rgI n)) : s.length = n ∧ (∀ i : Nat, i < n → ∃ k : Nat, s[i]? = some (k : Int) ∧ k < n) ∧ ∀ i j : Nat, i < n → j < n → s[i]? = s[j]? → i = j := by
  have hl : s.length = n := by rw [h.length_eq]; simp [rgI]
  have nd : s.Nodup := by
    rw [h.nodup_iff]
    unfold rgI
    exact List.Pairwise.map _ (fun a b (hab : a ≠ b) (e : (a : Int) = b) => hab (by omega)) List.nodup_range
  refine ⟨hl, fun i hi => ?_, fun i j hi hj e => ?_⟩
  · have h1 : i < s.length := by omega
    have hm := h.mem_iff.mp (List.getElem_mem h1)
    obtain ⟨k, hk, e⟩ := List.mem_map.mp hm
    exact ⟨k, by rw [List.getElem?_eq_getElem h1, ← e], by simpa using hk⟩
  · rw [List.getElem?_eq_getElem (by omega), List.getElem?_eq_getElem (by omega)] at e
    have e := Option.some.inj e
    have pw := List.pairwise_iff_getElem.mp nd
    rcases Nat.lt_trichotomy i j with z | z | z
    · exact absurd e (pw i j (by omega) (by omega) z)
    · exact z
    · exact absurd e.symm (pw j i (by omega) (by omega) z)
theorem permS {s : List Int} {n : Nat} (h : s.Perm (rgI n)) (k : Nat) (hk : k < n) : ∃ a : Nat, a < n ∧ s[a]? = some (k : Int) := by
  have hm : (k : Int) ∈ s := h.mem_iff.mpr (List.mem_map.mpr ⟨k, by simpa using hk, rfl⟩)
  obtain ⟨a, ha, e⟩ := List.mem_iff_getElem.mp hm
  have hl := (permF h).1
  exact ⟨a, by omega, by rw [List.getElem?_eq_getElem ha, e]⟩
theorem relaid_at {n : Nat} {t r : List (List Int)} {s : List Int} (h : Relaid n t s r) (sh : Shape n t) (p : s.Perm (rgI n)) :
    ∃ f : Int → Int, (∀ a : Int, 0 ≤ a → a < n → 0 ≤ f a ∧ f a < n) ∧ (∀ a c : Int, 0 ≤ a → a < n → 0 ≤ c → c < n → f a = f c → a = c) ∧ (∀ k : Int, 0 ≤ k → k < n → ∃ a : Int, 0 ≤ a ∧ a < n ∧ f a = k) ∧
      ∀ a b : Int, 0 ≤ a → a < n → 0 ≤ b → b < n → ent r (f a) (f b) = f (ent t a b) := by
  obtain ⟨hl, h1, h2⟩ := permF p
  refine ⟨fun a => (s[a.toNat]?).getD 0, fun a a0 a1 => ?_, fun a c a0 a1 c0 c1 e => ?_, fun k k0 k1 => ?_, fun a b a0 a1 b0 b1 => ?_⟩
  · obtain ⟨k, e, hk⟩ := h1 a.toNat (by omega)
    show 0 ≤ (s[a.toNat]?).getD 0 ∧ (s[a.toNat]?).getD 0 < (n : Int)
    rw [e]
    show 0 ≤ (k : Int) ∧ (k : Int) < (n : Int)
    omega
  · obtain ⟨k, e1, hk⟩ := h1 a.toNat (by omega)
    obtain ⟨j, e2, hj⟩ := h1 c.toNat (by omega)
    have e' : (s[a.toNat]?).getD 0 = (s[c.toNat]?).getD 0 := e
    rw [e1, e2] at e'
    have e'' : (k : Int) = (j : Int) := e'
    have := h2 a.toNat c.toNat (by omega) (by omega) (by rw [e1, e2, e''])
    omega
  · obtain ⟨a, ha, e⟩ := permS p k.toNat (by omega)
    refine ⟨a, by omega, by omega, ?_⟩
    show (s[((a : Nat) : Int).toNat]?).getD 0 = k
    rw [Int.toNat_natCast, e]
    show ((k.toNat : Nat) : Int) = k
    omega
  · have := h.2 a.toNat b.toNat (by omega) (by omega)
    rw [Int.toNat_of_nonneg a0, Int.toNat_of_nonneg b0] at this
    exact this
theorem IsTab.inj {n : Nat} {t : List (List Int)} (hn : 1 ≤ n) (h : IsTab n t) : ColInj n t := by
  rcases h with h | ⟨t0, s, h, p, hr⟩
  · obtain ⟨w, f, _, _, _, _, hg, rfl⟩ := h
    exact madeT_inj hn hg
  · have sh := h.shape hn
    obtain ⟨w, f, _, _, _, _, hg, rfl⟩ := h
    have ij := madeT_inj (w := w) hn hg
    obtain ⟨F, f1, f2, f3, f4⟩ := relaid_at hr sh p
    intro a c b a0 a1 c0 c1 b0 b1 e
    obtain ⟨x, x0, x1, rfl⟩ := f3 a a0 a1
    obtain ⟨y, y0, y1, rfl⟩ := f3 c c0 c1
    obtain ⟨z, z0, z1, rfl⟩ := f3 b b0 b1
    rw [f4 x z x0 x1 z0 z1, f4 y z y0 y1 z0 z1] at e
    have g1 := ent_rg sh x0 x1 z0 z1
    have g2 := ent_rg sh y0 y1 z0 z1
    have := f2 _ _ g1.1 g1.2 g2.1 g2.2 e
    rw [ij x y z x0 x1 y0 y1 z0 z1 this]
end VL
set_option maxRecDepth 100000
set_option maxHeartbeats 4000000
namespace VL
open PySem PySem.Spec PyProof.Rows L2
def Idem (n : Nat) (t : List (List Int)) : Prop := ∀ a : Int, 0 ≤ a → a < n → ent t a a = a
def Dist (n : Nat) (t : List (List Int)) : Prop := ∀ a b c : Int, 0 ≤ a → a < n → 0 ≤ b → b < n → 0 ≤ c → c < n → ent t (ent t a b) c = ent t (ent t a c) (ent t b c)
structure Good (n : Nat) (t : List (List Int)) : Prop where
  sh : Shape n t
  idem : Idem n t
  inj : ColInj n t
  dist : Dist n t
theorem emod_as (x n : Int) : ∃ q, x % n = x - n * q := ⟨x / n, by have := Int.emod_add_mul_ediv x n; omega⟩
theorem aff_dist (f a b c n : Int) : (f * ((f * a + (1 - f) * b) % n) + (1 - f) * c) % n = (f * ((f * a + (1 - f) * c) % n) + (1 - f) * ((f * b + (1 - f) * c) % n)) % n := by
  rw [Int.emod_eq_emod_iff_emod_sub_eq_zero]
  obtain ⟨q1, e1⟩ := emod_as (f * a + (1 - f) * b) n
  obtain ⟨q2, e2⟩ := emod_as (f * a + (1 - f) * c) n
  obtain ⟨q3, e3⟩ := emod_as (f * b + (1 - f) * c) n
  rw [e1, e2, e3]
  have : f * (f * a + (1 - f) * b - n * q1) + (1 - f) * c - (f * (f * a + (1 - f) * c - n * q2) + (1 - f) * (f * b + (1 - f) * c - n * q3)) = n * (f * q2 - f * q1 + (1 - f) * q3) := by grind
  rw [this]
  exact Int.mul_emod_right _ _
theorem turn_aff (a b n : Int) : (2 * b - a) % n = ((-1) * a + (1 - (-1)) * b) % n := by
  congr 1; omega
theorem turn_dist (a b c n : Int) : (2 * c - (2 * b - a) % n) % n = (2 * ((2 * c - b) % n) - (2 * c - a) % n) % n := by
  simp only [turn_aff]
  exact aff_dist (-1) a b c n
def way3 (n a b : Int) : Int := if n > 2 ∧ a < 2 ∧ b = n - 1 then 1 - a else a
def way6 (n a b : Int) : Int := if a < n - 1 ∧ b = n - 1 then (a + 1) % (n - 1) else a
def way4 (k n a b : Int) : Int := if a < k ∧ b < k then (2 * b - a) % k else if a ≥ k ∧ b ≥ k then k + (2 * b - a - k) % (n - k) else a
theorem way4_dist {k n a b c : Int} (hk : 0 ≤ k) (hkn : k < n) (a0 : 0 ≤ a) (a1 : a < n) (b0 : 0 ≤ b) (b1 : b < n) (c0 : 0 ≤ c) (c1 : c < n) : way4 k n (way4 k n a b) c = way4 k n (way4 k n a c) (way4 k n b c) := by
  have lo : ∀ x y : Int, 0 ≤ x → x < k → y < k → way4 k n x y = (2 * y - x) % k := fun x y h0 h1 h2 => by unfold way4; rw [if_pos ⟨h1, h2⟩]
  have hi : ∀ x y : Int, k ≤ x → k ≤ y → way4 k n x y = k + (2 * y - x - k) % (n - k) := fun x y h0 h1 => by unfold way4; rw [if_neg (by omega), if_pos ⟨h0, h1⟩]
  have lh : ∀ x y : Int, x < k → k ≤ y → way4 k n x y = x := fun x y h0 h1 => by unfold way4; rw [if_neg (by omega), if_neg (by omega)]
  have hl : ∀ x y : Int, k ≤ x → y < k → way4 k n x y = x := fun x y h0 h1 => by unfold way4; rw [if_neg (by omega), if_neg (by omega)]
  have rl : ∀ x y : Int, 0 < k → 0 ≤ (2 * y - x) % k ∧ (2 * y - x) % k < k := fun x y h => emod_rg _ h
  have rh : ∀ x y : Int, 0 ≤ (2 * y - x - k) % (n - k) ∧ (2 * y - x - k) % (n - k) < n - k := fun x y => emod_rg _ (by omega)
  by_cases ha : a < k
  · by_cases hb : b < k
    · by_cases hc : c < k
      · have k0 : 0 < k := by omega
        have r1 := rl a b k0
        have r2 := rl a c k0
        have r3 := rl b c k0
        rw [lo a b a0 ha hb, lo a c a0 ha hc, lo b c b0 hb hc, lo _ c r1.1 r1.2 hc, lo _ _ r2.1 r2.2 r3.2]
        exact turn_dist a b c k
      · have r1 := rl a b (by omega)
        rw [lo a b a0 ha hb, lh a c ha (by omega), lh b c hb (by omega), lh _ c r1.2 (by omega), lo a b a0 ha hb]
    · by_cases hc : c < k
      · have r2 := rl a c (by omega)
        rw [lh a b ha (by omega), lo a c a0 ha hc, hl b c (by omega) hc, lh _ b r2.2 (by omega)]
      · have r3 := rh b c
        rw [lh a b ha (by omega), lh a c ha (by omega), hi b c (by omega) (by omega), lh a _ ha (by omega)]
  · by_cases hb : b < k
    · by_cases hc : c < k
      · have r3 := rl b c (by omega)
        rw [hl a b (by omega) hb, hl a c (by omega) hc, lo b c b0 hb hc, hl a _ (by omega) r3.2]
      · have r2 := rh a c
        rw [hl a b (by omega) hb, hi a c (by omega) (by omega), lh b c hb (by omega), hl _ b (by omega) hb]
    · by_cases hc : c < k
      · have r1 := rh a b
        rw [hi a b (by omega) (by omega), hl a c (by omega) hc, hl b c (by omega) hc, hl _ c (by omega) hc, hi a b (by omega) (by omega)]
      · have r1 := rh a b
        have r2 := rh a c
        have r3 := rh b c
        rw [hi a b (by omega) (by omega), hi a c (by omega) (by omega), hi b c (by omega) (by omega), hi _ c (by omega) (by omega), hi _ _ (by omega) (by omega)]
        have := turn_dist (a - k) (b - k) (c - k) (n - k)
        have e1 : 2 * c - (k + (2 * b - a - k) % (n - k)) - k = 2 * (c - k) - (2 * (b - k) - (a - k)) % (n - k) := by
          rw [show 2 * (b - k) - (a - k) = 2 * b - a - k by omega]; omega
        have e2 : 2 * (k + (2 * c - b - k) % (n - k)) - (k + (2 * c - a - k) % (n - k)) - k = 2 * ((2 * (c - k) - (b - k)) % (n - k)) - (2 * (c - k) - (a - k)) % (n - k) := by
          rw [show 2 * (c - k) - (b - k) = 2 * c - b - k by omega, show 2 * (c - k) - (a - k) = 2 * c - a - k by omega]; omega
        rw [e1, e2, this]
theorem way6_dist {n a b c : Int} (a0 : 0 ≤ a) (a1 : a < n) (b0 : 0 ≤ b) (b1 : b < n) (c0 : 0 ≤ c) (c1 : c < n) : way6 n (way6 n a b) c = way6 n (way6 n a c) (way6 n b c) := by
  have sm : ∀ x y : Int, y ≠ n - 1 → way6 n x y = x := fun x y h => by unfold way6; rw [if_neg (fun z => h z.2)]
  have la : ∀ y : Int, way6 n (n - 1) y = n - 1 := fun y => by unfold way6; rw [if_neg (by omega)]
  have lt : ∀ x y : Int, 0 ≤ x → x < n - 1 → 0 ≤ way6 n x y ∧ way6 n x y < n - 1 := fun x y h0 h1 => by
    unfold way6
    split
    · exact emod_rg _ (by omega)
    · omega
  by_cases hc : c = n - 1
  · by_cases hb : b = n - 1
    · rw [hb, hc, la]
    · have := lt b c b0 (by omega)
      rw [sm a b hb, sm _ (way6 n b c) (by omega)]
  · rw [sm _ c hc, sm a c hc, sm b c hc]
theorem way3_dist {n a b c : Int} (a0 : 0 ≤ a) (a1 : a < n) (b0 : 0 ≤ b) (b1 : b < n) (c0 : 0 ≤ c) (c1 : c < n) : way3 n (way3 n a b) c = way3 n (way3 n a c) (way3 n b c) := by
  unfold way3
  (repeat' split) <;> omega
theorem cellG_3 {n f a b : Int} : cellG 3 n f a b = way3 n a b := by
  unfold cellG way3
  simp only [show ¬ (3 : Int) = 1 by decide, show ¬ (3 : Int) = 2 by decide, show ¬ (3 : Int) = 6 by decide, show ¬ (3 : Int) = 4 by decide, false_and, true_and, if_false]
theorem cellG_6 {n f a b : Int} : cellG 6 n f a b = way6 n a b := by
  unfold cellG way6
  simp only [show ¬ (6 : Int) = 1 by decide, show ¬ (6 : Int) = 2 by decide, show ¬ (6 : Int) = 3 by decide, show ¬ (6 : Int) = 4 by decide, false_and, true_and, if_false]
theorem cellG_4 {n f a b : Int} : cellG 4 n f a b = way4 (n / 2) n a b := by
  unfold cellG way4
  simp only [show ¬ (4 : Int) = 1 by decide, show ¬ (4 : Int) = 2 by decide, show ¬ (4 : Int) = 3 by decide, show ¬ (4 : Int) = 6 by decide, false_and, true_and, if_false]
theorem cellG_other {w n f a b : Int} (h : w ≠ 1 ∧ w ≠ 2 ∧ w ≠ 3 ∧ w ≠ 4 ∧ w ≠ 6) : cellG w n f a b = a := by
  unfold cellG
  simp only [h.1, h.2.1, h.2.2.1, h.2.2.2.1, h.2.2.2.2, false_and, if_false]
theorem cellG_1 {n f a b : Int} : cellG 1 n f a b = (2 * b - a) % n := rfl
theorem cellG_2 {n f a b : Int} : cellG 2 n f a b = (f * a + (1 - f) * b) % n := rfl
theorem cellG_idem {w n f a : Int} (hn : 1 ≤ n) (a0 : 0 ≤ a) (a1 : a < n) : cellG w n f a a = a := by
  by_cases h1 : w = 1
  · subst h1; rw [cellG_1, show 2 * a - a = a by omega]; exact Int.emod_eq_of_lt a0 a1
  by_cases h2 : w = 2
  · subst h2; rw [cellG_2, show f * a + (1 - f) * a = a by grind]; exact Int.emod_eq_of_lt a0 a1
  by_cases h3 : w = 3
  · subst h3; rw [cellG_3]; unfold way3; split <;> omega
  by_cases h4 : w = 4
  · subst h4; rw [cellG_4]; unfold way4
    split
    · rw [show 2 * a - a = a by omega]; exact Int.emod_eq_of_lt a0 (by omega)
    · split
      · rw [show 2 * a - a - n / 2 = a - n / 2 by omega, Int.emod_eq_of_lt (by omega) (by omega)]; omega
      · rfl
  by_cases h6 : w = 6
  · subst h6; rw [cellG_6]; unfold way6; rw [if_neg (by omega)]
  exact cellG_other ⟨h1, h2, h3, h4, h6⟩
theorem cellG_dist {w n f a b c : Int} (hn : 1 ≤ n) (a0 : 0 ≤ a) (a1 : a < n) (b0 : 0 ≤ b) (b1 : b < n) (c0 : 0 ≤ c) (c1 : c < n) : cellG w n f (cellG w n f a b) c = cellG w n f (cellG w n f a c) (cellG w n f b c) := by
  by_cases h1 : w = 1
  · subst h1; simp only [cellG_1]; exact turn_dist a b c n
  by_cases h2 : w = 2
  · subst h2; simp only [cellG_2]; exact aff_dist f a b c n
  by_cases h3 : w = 3
  · subst h3; simp only [cellG_3]; exact way3_dist a0 a1 b0 b1 c0 c1
  by_cases h4 : w = 4
  · subst h4; simp only [cellG_4]; exact way4_dist (by omega) (by omega) a0 a1 b0 b1 c0 c1
  by_cases h6 : w = 6
  · subst h6; simp only [cellG_6]; exact way6_dist a0 a1 b0 b1 c0 c1
  simp only [cellG_other ⟨h1, h2, h3, h4, h6⟩]
theorem four_idem : ∀ a : Fin 4, ent fourT (a.val : Int) (a.val : Int) = (a.val : Int) := by decide
theorem four_dist : ∀ a b c : Fin 4, ent fourT (ent fourT (a.val : Int) (b.val : Int)) (c.val : Int) = ent fourT (ent fourT (a.val : Int) (c.val : Int)) (ent fourT (b.val : Int) (c.val : Int)) := by decide
theorem madeT_idem {w f : Int} {n : Nat} (hn : 1 ≤ n) : Idem n (madeT w n f) := by
  intro a a0 a1
  unfold madeT
  split
  · rename_i hw
    obtain ⟨_, rfl⟩ := hw
    have := four_idem ⟨a.toNat, by omega⟩
    simp only [Int.toNat_of_nonneg a0] at this
    exact this
  · rw [tabT_ent a0 a1 a0 a1]; exact cellG_idem (by omega) a0 a1
theorem madeT_dist {w f : Int} {n : Nat} (hn : 1 ≤ n) : Dist n (madeT w n f) := by
  intro a b c a0 a1 b0 b1 c0 c1
  unfold madeT
  split
  · rename_i hw
    obtain ⟨_, rfl⟩ := hw
    have := four_dist ⟨a.toNat, by omega⟩ ⟨b.toNat, by omega⟩ ⟨c.toNat, by omega⟩
    simp only [Int.toNat_of_nonneg a0, Int.toNat_of_nonneg b0, Int.toNat_of_nonneg c0] at this
    exact this
  · have r1 := cellG_range (w := w) (f := f) (n := n) (a := a) (b := b) (by omega) a0 a1
    have r2 := cellG_range (w := w) (f := f) (n := n) (a := a) (b := c) (by omega) a0 a1
    have r3 := cellG_range (w := w) (f := f) (n := n) (a := b) (b := c) (by omega) b0 b1
    rw [tabT_ent a0 a1 b0 b1, tabT_ent a0 a1 c0 c1, tabT_ent b0 b1 c0 c1, tabT_ent r1.1 r1.2 c0 c1, tabT_ent r2.1 r2.2 r3.1 r3.2]
    exact cellG_dist (by omega) a0 a1 b0 b1 c0 c1
theorem Made.good {n : Nat} {t : List (List Int)} (hn : 1 ≤ n) (h : Made n t) : Good n t := by
  have sh := h.shape hn
  obtain ⟨w, f, _, _, _, _, hg, rfl⟩ := h
  exact ⟨sh, madeT_idem hn, madeT_inj hn hg, madeT_dist hn⟩
theorem Relaid.good {n : Nat} {t r : List (List Int)} {s : List Int} (h : Relaid n t s r) (p : s.Perm (rgI n)) (g : Good n t) : Good n r := by
  obtain ⟨F, f1, f2, f3, f4⟩ := relaid_at h g.sh p
  refine ⟨h.1, fun a a0 a1 => ?_, fun a c b a0 a1 c0 c1 b0 b1 e => ?_, fun a b c a0 a1 b0 b1 c0 c1 => ?_⟩
  · obtain ⟨x, x0, x1, rfl⟩ := f3 a a0 a1
    rw [f4 x x x0 x1 x0 x1, g.idem x x0 x1]
  · obtain ⟨x, x0, x1, rfl⟩ := f3 a a0 a1
    obtain ⟨y, y0, y1, rfl⟩ := f3 c c0 c1
    obtain ⟨z, z0, z1, rfl⟩ := f3 b b0 b1
    rw [f4 x z x0 x1 z0 z1, f4 y z y0 y1 z0 z1] at e
    have g1 := ent_rg g.sh x0 x1 z0 z1
    have g2 := ent_rg g.sh y0 y1 z0 z1
    rw [g.inj x y z x0 x1 y0 y1 z0 z1 (f2 _ _ g1.1 g1.2 g2.1 g2.2 e)]
  · obtain ⟨x, x0, x1, rfl⟩ := f3 a a0 a1
    obtain ⟨y, y0, y1, rfl⟩ := f3 b b0 b1
    obtain ⟨z, z0, z1, rfl⟩ := f3 c c0 c1
    have g1 := ent_rg g.sh x0 x1 y0 y1
    have g2 := ent_rg g.sh x0 x1 z0 z1
    have g3 := ent_rg g.sh y0 y1 z0 z1
    rw [f4 x y x0 x1 y0 y1, f4 x z x0 x1 z0 z1, f4 y z y0 y1 z0 z1, f4 _ z g1.1 g1.2 z0 z1, f4 _ _ g2.1 g2.2 g3.1 g3.2, g.dist x y z x0 x1 y0 y1 z0 z1]
theorem IsTab.good {n : Nat} {t : List (List Int)} (hn : 1 ≤ n) (h : IsTab n t) : Good n t := by
  rcases h with h | ⟨t0, s, h, p, hr⟩
  · exact h.good hn
  · exact hr.good p (h.good hn)
end VL
set_option maxRecDepth 100000
set_option maxHeartbeats 1000000
namespace VL
open PySem PySem.Spec PyProof.Rows L2
local macro_rules | `(tactic| sleep 11) => `(tactic| simp only [Out.bind_ok, Out.bind_exn, noX_ok, lift_some, flowT_ret, flowT_nxt, flowF_ret, flowF_nxt, sat_bind, sat_ok, sat_exn, sat_noX, eta2, Out.bind_id])
end VL
set_option maxRecDepth 100000
set_option maxHeartbeats 1000000
namespace VL
open PySem PySem.Spec PyProof.Rows L2
local macro_rules | `(tactic| sleep 11) => `(tactic| simp only [Out.bind_ok, Out.bind_exn, noX_ok, lift_some, flowT_ret, flowT_nxt, flowF_ret, flowF_nxt, sat_bind, sat_ok, sat_exn, sat_noX, eta2, Out.bind_id])
theorem negsL {w : List Int} (hl : w.length ≤ 1000000) : fmapL (fun x : Int => noX (Out.ok (decide (x < 0)))) (fun x : Int => noX (Out.ok x)) w = .ok (w.filter fun x => decide (x < 0)) := by
  simp only [noX_ok]
  rw [fmapL_pure hl, List.map_id'' (fun _ => rfl)]
theorem negs_len (w : List Int) : (w.filter fun x => decide (x < 0)).length = negs w := by
  unfold negs
  rw [List.countP_eq_length_filter]
theorem arc_count_ok {d : Dr} (h2 : ∀ w ∈ d.1, w.length ≤ 1000) : XC.F_arc_count d = .ok (cntF 0 d.1) := by
  unfold XC.F_arc_count
  simp only [Out.bind_ok, Out.bind_id]
  have : ∀ (ws : List (List Int)) (c : Int) (f : Int → List Int → Out Int), (∀ w ∈ ws, w.length ≤ 1000) → (∀ c w, w.length ≤ 1000 → f c w = .ok (c + arcNum w)) → forO f c ws = .ok (cntF c ws) := by
    intro ws
    induction ws with
    | nil => intro c f _ _; rfl
    | cons w ws ih =>
      intro c f hw hf
      rw [forO, hf c w (hw w List.mem_cons_self), Out.bind_ok]
      exact ih _ f (fun w h => hw w (List.mem_cons_of_mem _ h)) hf
  refine this d.1 0 _ h2 fun c w hw => ?_
  rw [negsL (by omega)]
  simp only [Out.bind_ok]
  rw [negs_len]
  congr 2
  unfold arcNum maxF
  split <;> omega
theorem cnt_add (ws : List (List Int)) (c : Int) : cntF c ws = c + cntF 0 ws := by
  induction ws generalizing c with
  | nil => simp [cntF]
  | cons w ws ih =>
    rw [cntF, cntF, ih, ih (0 + _)]
    omega
theorem cnt_negs (ws : List (List Int)) : cntF 0 ws = (negs ws.flatten : Int) + ((ws.filter fun w => decide (negs w = 0)).length : Int) := by
  induction ws with
  | nil => rfl
  | cons w ws ih =>
    rw [cntF, cnt_add, ih, List.flatten_cons, List.filter_cons]
    have : negs (w ++ ws.flatten) = negs w + negs ws.flatten := by unfold negs; rw [List.countP_append]
    rw [this]
    unfold arcNum
    split
    · rename_i h
      have := of_decide_eq_true h
      rw [List.length_cons]
      omega
    · rename_i h
      have : ¬ negs w = 0 := fun e => h (decide_eq_true e)
      omega
theorem both_negs {names : List Int} (h : ∀ x ∈ names, 0 < x) : negs (both names) = names.length := by
  unfold negs both
  induction names with
  | nil => rfl
  | cons x xs ih =>
    have := h x List.mem_cons_self
    rw [List.flatMap_cons, List.countP_append, ih fun y hy => h y (List.mem_cons_of_mem _ hy), List.length_cons]
    simp [show ¬ x < 0 by omega, this]
    omega
theorem DrS.cnt {most : Nat} {d : Dr} (h : DrS most d) : cntF 0 d.1 = (d.2.length : Int) + ((d.1.filter fun w => decide (negs w = 0)).length : Int) := by
  rw [cnt_negs]
  have : negs d.1.flatten = d.2.length := by
    unfold negs
    rw [h.perm.countP_eq]
    have := both_negs (names := d.2.map (·.1)) fun x hx => by
      obtain ⟨p, hp, rfl⟩ := List.mem_map.mp hx
      exact (h.pos p hp).1
    unfold negs at this
    rw [this, List.length_map]
  rw [this]
theorem arcRow_at {w : List Int} {c : Int} {k : Nat} (hk : k < w.length) : (arcRow w c)[k]? = some (if negU w k = negs w then c else c + (negU w k : Int)) := by
  unfold arcRow
  split
  · rename_i h
    rw [List.getElem?_replicate, if_pos (by omega)]
    have := negU_le w k
    rw [if_pos (by omega)]
  · rw [rangeMap_get hk]
theorem arcRow_next {w : List Int} {c x : Int} {k : Nat} (hx : w[k]? = some x) : ∃ u v, (arcRow w c)[k]? = some u ∧ (arcRow w c)[(k + 1) % w.length]? = some v ∧ (0 < x → v = u) ∧ (x < 0 → 1 < negs w → v ≠ u) := by
  have hk := (List.getElem?_eq_some_iff.mp hx).1
  have h1 := negU_succ hx
  have h0 := negU_le w k
  have hm := Nat.mod_lt (k + 1) (show 0 < w.length by omega)
  refine ⟨_, _, arcRow_at hk, arcRow_at hm, fun hx0 => ?_, fun hx0 hn => ?_⟩
  · rw [if_neg (by omega)] at h1
    by_cases e : k + 1 < w.length
    · rw [Nat.mod_eq_of_lt e, h1]; rfl
    · have e2 : k + 1 = w.length := by omega
      rw [e2, Nat.mod_self, negU_zero]
      rw [negU_all (by omega)] at h1
      rw [if_pos (by omega : negU w k = negs w)]
      split
      · rfl
      · simp
  · rw [if_pos hx0] at h1
    have h2 := negU_le w (k + 1)
    rw [if_neg (by omega : ¬ negU w k = negs w)]
    by_cases e : k + 1 < w.length
    · rw [Nat.mod_eq_of_lt e]
      split
      · omega
      · omega
    · have e2 : k + 1 = w.length := by omega
      rw [e2, Nat.mod_self, negU_zero, if_neg (by omega)]
      rw [negU_all (by omega)] at h1
      omega
end VL
set_option maxRecDepth 100000
set_option maxHeartbeats 4000000
namespace XF2
open PySem PySem.Spec PyProof.Rows L2 VL
end XF2
set_option maxRecDepth 100000
set_option maxHeartbeats 1000000
namespace VL
open PySem PySem.Spec PyProof.Rows L2
open PySem.W (maxOf)
local macro_rules | `(tactic| sleep 11) => `(tactic| simp only [Out.bind_ok, Out.bind_exn, noX_ok, lift_some, flowT_ret, flowT_nxt, flowF_ret, flowF_nxt, sat_bind, sat_ok, sat_exn, sat_noX, eta2, Out.bind_id])
section
variable {α β : Type} {X : Exn → Prop}
end
abbrev Mt := Int × Int × Int × Int × Int
def inA (m : Mt) : Int := if m.2.1 < 0 then m.2.2.2.2 else m.2.2.2.1
def outA (m : Mt) : Int := if m.2.1 < 0 then m.2.2.2.1 else m.2.2.2.2
def agreeP (t : List (List Int)) (cs : List Int) (m : Mt) : Bool := decide (ent t (atR cs (inA m)) (atR cs m.2.2.1) = atR cs (outA m))
def topA (m : Mt) : Int := max3I m.2.2.1 m.2.2.2.1 m.2.2.2.2
def MtIn (k : Int) (m : Mt) : Prop := (0 ≤ m.2.2.1 ∧ m.2.2.1 < k) ∧ (0 ≤ m.2.2.2.1 ∧ m.2.2.2.1 < k) ∧ 0 ≤ m.2.2.2.2 ∧ m.2.2.2.2 < k
theorem topA_in {m : Mt} {k : Int} (h : MtIn k m) : 0 ≤ topA m ∧ topA m < k ∧ MtIn (topA m + 1) m := by
  obtain ⟨h1, h2, h3⟩ := h
  unfold topA max3I MtIn
  (repeat' split) <;> omega
structure Cs (n k : Nat) (cs : List Int) : Prop where
  len : cs.length = k
  rng : ∀ x ∈ cs, 0 ≤ x ∧ x < (n : Int)
theorem Cs.at {n k : Nat} {cs : List Int} (h : Cs n k cs) {i : Int} (h0 : 0 ≤ i) (h1 : i < k) : atI cs i = some (atR cs i) ∧ 0 ≤ atR cs i ∧ atR cs i < n := by
  have hl := h.len
  have e : atI cs i = some (cs[i.toNat]'(by omega)) := atI_get h0 (by omega)
  have e2 : atR cs i = cs[i.toNat]'(by omega) := by
    unfold atR
    rw [List.getElem?_eq_getElem (by omega)]; rfl
  rw [e, e2]
  exact ⟨rfl, h.rng _ (List.getElem_mem _)⟩
theorem Cs.snoc {n k : Nat} {cs : List Int} (h : Cs n k cs) {c : Nat} (hc : c < n) : Cs n (k + 1) (cs ++ [(c : Int)]) := by
  refine ⟨by simp [h.len], fun x hx => ?_⟩
  rcases List.mem_append.mp hx with z | z
  · exact h.rng x z
  · rw [List.mem_singleton.mp z]; omega
def extP (t : List (List Int)) (n : Nat) (ms : List Mt) (cs : List Int) : List (List Int) := ((List.range n).filter fun c : Nat => ms.all (agreeP t (cs ++ [(c : Int)]))).map fun c : Nat => cs ++ [(c : Int)]
def colsF (t : List (List Int)) (n : Nat) (ms : List Mt) : Nat → List (List Int)
  | 0 => [[]]
  | k + 1 => (colsF t n ms k).flatMap (extP t n (ms.filter fun m => decide (topA m = (k : Int))))
theorem colsF_Cs {t : List (List Int)} {n : Nat} {ms : List Mt} : ∀ {k : Nat}, ∀ cs ∈ colsF t n ms k, Cs n k cs
  | 0, cs, h => by
    rw [List.mem_singleton.mp h]
    exact ⟨rfl, fun _ h => by cases h⟩
  | k + 1, cs, h => by
    obtain ⟨c0, h1, h2⟩ := List.mem_flatMap.mp h
    unfold extP at h2
    obtain ⟨c, hc, rfl⟩ := List.mem_map.mp h2
    exact (colsF_Cs c0 h1).snoc (List.mem_range.mp (List.mem_filter.mp hc).1)
def cntN (ws : List (List Int)) : Nat := (ws.map arcNum).sum
theorem cnt_N (ws : List (List Int)) (c : Int) : cntF c ws = c + (cntN ws : Int) := by
  induction ws generalizing c with
  | nil => simp [cntF, cntN]
  | cons w ws ih =>
    rw [cntF, ih]
    simp only [cntN, List.map_cons, List.sum_cons, Int.natCast_add]
    omega
theorem arcRow_in {w : List Int} {c x : Int} (h : x ∈ arcRow w c) : c ≤ x ∧ x < c + arcNum w := by
  unfold arcRow at h
  unfold arcNum
  split at h
  · rw [(List.mem_replicate.mp h).2]; omega
  · obtain ⟨k, _, rfl⟩ := List.mem_map.mp h
    have := negU_le w k
    split <;> omega
theorem arcsF_in {ws : List (List Int)} {c x : Int} {row : List Int} (hr : row ∈ arcsF c ws) (hx : x ∈ row) : c ≤ x ∧ x < c + (cntN ws : Int) := by
  induction ws generalizing c with
  | nil => cases hr
  | cons w ws ih =>
    have e : (cntN (w :: ws) : Int) = (arcNum w : Int) + (cntN ws : Int) := by simp [cntN]
    rw [e]
    rw [arcsF] at hr
    rcases List.mem_cons.mp hr with z | z
    · subst z
      have := arcRow_in hx
      omega
    · have := ih z
      omega
theorem meet_in {most : Nat} {d : Dr} (h : DrS most d) {m : Mt} (hm : m ∈ meetsF d) : MtIn (cntN d.1) m := by
  unfold meetsF at hm
  obtain ⟨p, hp, rfl⟩ := List.mem_map.mp hm
  obtain ⟨m1, m2⟩ := h.mem hp
  obtain ⟨w1, a1, b1⟩ := spotF_in m1
  obtain ⟨w2, a2, b2⟩ := spotF_in m2
  obtain ⟨r1, e1, f1, g1⟩ := arcs_at a1 (List.getElem?_eq_some_iff.mp b1).1
  obtain ⟨r2, e2, f2, g2⟩ := arcs_at a2 (List.getElem?_eq_some_iff.mp b2).1
  have hb := (List.getElem?_eq_some_iff.mp b2).1
  obtain ⟨r3, e3, f3, g3⟩ := arcs_at (j := ((spotF d.1 (-p.1)).2 + 1) % w2.length) a2 (Nat.mod_lt _ (by omega))
  have i1 := arcsF_in (List.mem_of_getElem? e1) (List.mem_of_getElem? g1)
  have i2 := arcsF_in (List.mem_of_getElem? e2) (List.mem_of_getElem? g2)
  have i3 := arcsF_in (List.mem_of_getElem? e3) (List.mem_of_getElem? g3)
  unfold meetOf MtIn
  simp only [a2, Option.getD_some]
  omega
end VL
set_option maxRecDepth 100000
set_option maxHeartbeats 1000000
namespace VL
open PySem PySem.Spec PyProof.Rows L2
local macro_rules | `(tactic| sleep 11) => `(tactic| simp only [Out.bind_ok, Out.bind_exn, noX_ok, lift_some, flowT_ret, flowT_nxt, flowF_ret, flowF_nxt, sat_bind, sat_ok, sat_exn, sat_noX, eta2, Out.bind_id])
theorem DrS.cnt_le {most : Nat} {d : Dr} (h : DrS most d) : cntN d.1 ≤ most + 12 := by
  have e1 := cnt_N d.1 0
  rw [h.cnt] at e1
  have := h.sl
  have := h.wl
  have := List.length_filter_le (fun w => decide (negs w = 0)) d.1
  omega
end VL
set_option maxRecDepth 100000
set_option maxHeartbeats 1000000
namespace VL
open PySem PySem.Spec PyProof.Rows L2
theorem atR_app {cs : List Int} {c i : Int} (h0 : 0 ≤ i) (h : i < cs.length) : atR (cs ++ [c]) i = atR cs i := by
  unfold atR; rw [List.getElem?_append_left (by omega)]
theorem MtIn.mono {a b : Int} {m : Mt} (h : MtIn a m) (hab : a ≤ b) : MtIn b m := by
  obtain ⟨h1, h2, h3⟩ := h
  exact ⟨⟨h1.1, by omega⟩, ⟨h2.1, by omega⟩, h3.1, by omega⟩
theorem agree_app {t : List (List Int)} {cs : List Int} {c : Int} {m : Mt} (h : MtIn cs.length m) : agreeP t (cs ++ [c]) m = agreeP t cs m := by
  have hi : 0 ≤ inA m ∧ inA m < cs.length := by obtain ⟨_, h2, h3⟩ := h; unfold inA; split <;> assumption
  have ho : 0 ≤ outA m ∧ outA m < cs.length := by obtain ⟨_, h2, h3⟩ := h; unfold outA; split <;> assumption
  unfold agreeP
  rw [atR_app hi.1 hi.2, atR_app ho.1 ho.2, atR_app h.1.1 h.1.2]
theorem Cs.unsnoc {n k : Nat} {cs : List Int} (h : Cs n (k + 1) cs) : ∃ c0 c, cs = c0 ++ [((c : Nat) : Int)] ∧ Cs n k c0 ∧ c < n := by
  have hne : cs ≠ [] := by intro e; have := h.len; rw [e] at this; simp at this
  have e := List.dropLast_concat_getLast hne
  have hm := h.rng _ (List.getLast_mem hne)
  refine ⟨cs.dropLast, (cs.getLast hne).toNat, ?_, ⟨?_, fun x hx => h.rng x (List.dropLast_subset _ hx)⟩, by omega⟩
  · rw [show (((cs.getLast hne).toNat : Nat) : Int) = cs.getLast hne by omega]; exact e.symm
  · rw [List.length_dropLast, h.len]; rfl
theorem colsF_iff {t : List (List Int)} {n : Nat} {ms : List Mt} (hms : ∀ m ∈ ms, ∃ K : Int, MtIn K m) : ∀ {k : Nat} {cs : List Int}, cs ∈ colsF t n ms k ↔ Cs n k cs ∧ ∀ m ∈ ms, topA m < (k : Int) → agreeP t cs m = true
  | 0, cs => by
    constructor
    · intro h; rw [List.mem_singleton.mp h]
      refine ⟨⟨rfl, fun _ h => by cases h⟩, fun m hm ht => ?_⟩
      obtain ⟨K, hK⟩ := hms m hm
      have := (topA_in hK).1
      omega
    · rintro ⟨h, _⟩
      have := List.eq_nil_of_length_eq_zero h.len
      subst this; exact List.mem_singleton.mpr rfl
  | k + 1, cs => by
    constructor
    · intro h
      have hC := colsF_Cs cs h
      refine ⟨hC, ?_⟩
      obtain ⟨c0, h1, h2⟩ := List.mem_flatMap.mp h
      unfold extP at h2
      obtain ⟨c, hc, rfl⟩ := List.mem_map.mp h2
      obtain ⟨g1, g2⟩ := (colsF_iff hms).mp h1
      have hl := g1.len
      intro m hm ht
      obtain ⟨K, hK⟩ := hms m hm
      by_cases e : topA m = (k : Int)
      · have := (List.mem_filter.mp hc).2
        rw [List.all_eq_true] at this
        exact this m (List.mem_filter.mpr ⟨hm, decide_eq_true e⟩)
      · have hi := (topA_in hK).2.2
        rw [agree_app (hi.mono (by omega))]
        exact g2 m hm (by omega)
    · rintro ⟨hC, hA⟩
      obtain ⟨c0, c, rfl, hC0, hc⟩ := hC.unsnoc
      have hl := hC0.len
      refine List.mem_flatMap.mpr ⟨c0, (colsF_iff hms).mpr ⟨hC0, fun m hm ht => ?_⟩, ?_⟩
      · obtain ⟨K, hK⟩ := hms m hm
        have hi := (topA_in hK).2.2
        rw [← agree_app (c := (c : Int)) (hi.mono (by omega))]
        exact hA m hm (by omega)
      · unfold extP
        refine List.mem_map.mpr ⟨c, List.mem_filter.mpr ⟨List.mem_range.mpr hc, ?_⟩, rfl⟩
        rw [List.all_eq_true]
        intro m hm
        obtain ⟨h1, h2⟩ := List.mem_filter.mp hm
        have := of_decide_eq_true h2
        exact hA m h1 (by omega)
theorem lexLt_snoc : ∀ {a b : List Int} {x y : Int}, a.length = b.length → HT.lexLt (a ++ [x]) (b ++ [y]) = (HT.lexLt a b || (decide (a = b) && decide (x < y)))
  | [], [], x, y, _ => by
    show (if x = y then HT.lexLt [] [] else decide (x < y)) = _
    rw [HT.lexLt_nil_nil]
    by_cases h : x = y
    · subst h; simp
    · simp [h]
  | [], _ :: _, _, _, h => by simp at h
  | _ :: _, [], _, _, h => by simp at h
  | u :: a, v :: b, x, y, h => by
    rw [List.cons_append, List.cons_append, HT.lexLt_cons, HT.lexLt_cons]
    by_cases e : u = v
    · subst e
      rw [if_pos rfl, if_pos rfl, lexLt_snoc (by simpa using h)]
      simp
    · rw [if_neg e, if_neg e]
      simp [e]
theorem lexLt_irr : ∀ a : List Int, HT.lexLt a a = false
  | [] => rfl
  | x :: a => by rw [HT.lexLt_cons, if_pos rfl]; exact lexLt_irr a
abbrev LexL (a b : List Int) : Prop := HT.lexLt a b = true
theorem range_lt (n : Nat) : (List.range n).Pairwise (· < ·) := List.pairwise_lt_range
theorem colsF_sorted {t : List (List Int)} {n : Nat} {ms : List Mt} : ∀ k : Nat, (colsF t n ms k).Pairwise LexL
  | 0 => List.pairwise_singleton _ _
  | k + 1 => by
    show List.Pairwise LexL ((colsF t n ms k).flatMap _)
    rw [List.pairwise_flatMap]
    refine ⟨fun cs hcs => ?_, ?_⟩
    · unfold extP
      rw [List.pairwise_map]
      refine ((range_lt n).filter _).imp fun {a b} h => ?_
      show HT.lexLt _ _ = true
      rw [lexLt_snoc rfl]
      simp [h]
    · refine (List.Pairwise.and_mem.mp (colsF_sorted k)).imp fun {a b} h => ?_
      obtain ⟨ha, hb, h⟩ := h
      intro x hx y hy
      unfold extP at hx hy
      obtain ⟨c, _, rfl⟩ := List.mem_map.mp hx
      obtain ⟨e, _, rfl⟩ := List.mem_map.mp hy
      show HT.lexLt _ _ = true
      rw [lexLt_snoc (by rw [(colsF_Cs a ha).len, (colsF_Cs b hb).len]), h]
      simp
theorem lex_nodup {l : List (List Int)} (h : l.Pairwise LexL) : l.Nodup := h.imp fun {a b} h e => by
  subst e
  rw [LexL, lexLt_irr] at h
  cases h
end VL
set_option maxRecDepth 100000
set_option maxHeartbeats 1000000
namespace VL
open PySem PySem.Spec PyProof.Rows L2
local macro_rules | `(tactic| sleep 11) => `(tactic| simp only [Out.bind_ok, Out.bind_exn, noX_ok, lift_some, flowT_ret, flowT_nxt, flowF_ret, flowF_nxt, sat_bind, sat_ok, sat_exn, sat_noX, eta2, Out.bind_id])
theorem both_nodup {names : List Int} (h : names.Pairwise (· < ·)) (hp : ∀ x ∈ names, 0 < x) : (both names).Nodup := by
  induction names with
  | nil => exact List.nodup_nil
  | cons a l ih =>
    obtain ⟨h1, h2⟩ := List.pairwise_cons.mp h
    have ih := ih h2 fun x hx => hp x (List.mem_cons_of_mem _ hx)
    have ha := hp a List.mem_cons_self
    have hn : ∀ y : Int, (y = a ∨ y = -a) → y ∉ both l := fun y hy hm => by
      rcases both_mem.mp hm with z | z
      · have := h1 _ z; have := hp _ (List.mem_cons_of_mem _ z); omega
      · have := h1 _ z; have := hp _ (List.mem_cons_of_mem _ z); omega
    show ([a, -a] ++ both l).Nodup
    rw [List.nodup_append]
    refine ⟨by simp; omega, ih, fun x hx y hy e => ?_⟩
    subst e
    exact hn x (by simpa using hx) hy
theorem DrS.nodup {most : Nat} {d : Dr} (h : DrS most d) : d.1.flatten.Nodup := h.perm.symm.nodup (both_nodup h.inc fun x hx => by
  obtain ⟨p, hp, rfl⟩ := List.mem_map.mp hx
  exact (h.pos p hp).1)
theorem nodup_row : ∀ {ws : List (List Int)}, ws.flatten.Nodup → ∀ {i : Nat} {w : List Int}, ws[i]? = some w → w.Nodup
  | [], _, _, _, h => by simp at h
  | a :: ws, hn, 0, w, h => by
    rw [List.flatten_cons, List.nodup_append] at hn
    rw [List.getElem?_cons_zero, Option.some.injEq] at h
    exact h ▸ hn.1
  | a :: ws, hn, i + 1, w, h => by
    rw [List.flatten_cons, List.nodup_append] at hn
    exact nodup_row hn.2.1 (by simpa using h)
theorem rows_apart : ∀ {ws : List (List Int)}, ws.flatten.Nodup → ∀ {i j : Nat} {v w : List Int} {x : Int}, ws[i]? = some v → ws[j]? = some w → x ∈ v → x ∈ w → i = j
  | [], _, _, _, _, _, _, h, _, _, _ => by simp at h
  | a :: ws, hn, 0, 0, _, _, _, _, _, _, _ => rfl
  | a :: ws, hn, 0, j + 1, v, w, x, h1, h2, hv, hw => by
    rw [List.flatten_cons, List.nodup_append] at hn
    rw [List.getElem?_cons_zero, Option.some.injEq] at h1
    subst h1
    exact absurd rfl (hn.2.2 x hv x (List.mem_flatten.mpr ⟨w, List.mem_of_getElem? (by simpa using h2), hw⟩))
  | a :: ws, hn, i + 1, 0, v, w, x, h1, h2, hv, hw => by
    rw [List.flatten_cons, List.nodup_append] at hn
    rw [List.getElem?_cons_zero, Option.some.injEq] at h2
    subst h2
    exact absurd rfl (hn.2.2 x hw x (List.mem_flatten.mpr ⟨v, List.mem_of_getElem? (by simpa using h1), hv⟩))
  | a :: ws, hn, i + 1, j + 1, v, w, x, h1, h2, hv, hw => by
    rw [List.flatten_cons, List.nodup_append] at hn
    exact congrArg (· + 1) (rows_apart hn.2.1 (by simpa using h1) (by simpa using h2) hv hw)
theorem spot_eq {ws : List (List Int)} (h : ws.flatten.Nodup) {i j : Nat} {w : List Int} {x : Int} (hi : ws[i]? = some w) (hj : w[j]? = some x) : spotF ws x = (i, j) := by
  have hx : x ∈ w := List.mem_of_getElem? hj
  have hw := nodup_row h hi
  rw [spotF_eq hi hx fun k hk v hv hm => by have := rows_apart h hv hi hm hx; omega]
  obtain ⟨h1, h2⟩ := List.getElem?_eq_some_iff.mp hj
  rw [← h2, hw.idxOf_getElem j h1]
theorem Sat.exn {α : Type} {m : Out α} {x : Exn} (h : Sat m (fun _ => False) fun y => y = x) : m = .exn x := by
  cases m with
  | ok a => exact h.elim
  | exn y => exact congrArg _ h
  | stuck => exact h.elim
end VL
set_option maxRecDepth 100000
set_option maxHeartbeats 1000000
namespace VL
open PySem PySem.Spec PyProof.Rows L2
def TrW (w v : List Int) (x p y : Int) : Prop := ∃ k, w[k]? = some p ∧ v[k]? = some x ∧ v[(k + 1) % w.length]? = some y
def Tr (ws vs : List (List Int)) (x p y : Int) : Prop := ∃ (i : Nat) (w v : List Int), ws[i]? = some w ∧ vs[i]? = some v ∧ TrW w v x p y
def rel (t : List (List Int)) (s x y z : Int) : Prop := if s < 0 then ent t z y = x else ent t x y = z
structure WC (n : Nat) (t : List (List Int)) (d : Dr) (vs : List (List Int)) : Prop where
  len : vs.length = d.1.length
  row : ∀ (i : Nat) w v, d.1[i]? = some w → vs[i]? = some v → v.length = max 1 w.length ∧ ∀ x ∈ v, 0 ≤ x ∧ x < (n : Int)
  over : ∀ x p y, Tr d.1 vs x p y → 0 < p → x = y
  under : ∀ c s, (c, s) ∈ d.2 → ∀ x y y' z, Tr d.1 vs y c y' → Tr d.1 vs x (-c) z → rel t s x y z
def spreadW (ws : List (List Int)) (cs : List Int) : List (List Int) := (arcsF 0 ws).map fun r => r.map (atR cs)
section
variable {w v : List Int}
theorem same_lin (hl : v.length = max 1 w.length) (h0 : ∀ p ∈ w, p ≠ 0) (ho : ∀ x p y, TrW w v x p y → 0 < p → x = y) : ∀ (m k : Nat), k + m < w.length → negU w k = negU w (k + m) → v[k]? = v[k + m]?
  | 0, k, _, _ => rfl
  | m + 1, k, hk, he => by
    have h1 := negU_mono w (show k ≤ k + m by omega)
    have h2 := negU_mono w (show k + m ≤ k + (m + 1) by omega)
    rw [same_lin hl h0 ho m k (by omega) (by omega)]
    have hg : w[k + m]? = some w[k + m] := List.getElem?_eq_getElem (by omega)
    have h3 := negU_succ hg
    have hn := h0 _ (List.mem_of_getElem? hg)
    have hp : 0 < w[k + m] := by
      by_cases e : w[k + m] < 0
      · rw [if_pos e] at h3
        rw [show k + m + 1 = k + (m + 1) by omega] at h3
        omega
      · omega
    have ha : v[k + m]? = some v[k + m] := List.getElem?_eq_getElem (by omega)
    have hb : v[(k + m + 1) % w.length]? = some v[k + m + 1] := by
      rw [Nat.mod_eq_of_lt (by omega)]; exact List.getElem?_eq_getElem (by omega)
    have := ho _ _ _ ⟨k + m, hg, ha, hb⟩ hp
    rw [ha, this]
    exact (List.getElem?_eq_getElem (by omega)).symm
theorem same_zero (hl : v.length = max 1 w.length) (h0 : ∀ p ∈ w, p ≠ 0) (ho : ∀ x p y, TrW w v x p y → 0 < p → x = y) {k : Nat} (hk : k < w.length) (he : negU w k = negs w) : v[k]? = v[0]? := by
  have h1 : negU w (w.length - 1) = negs w := Nat.le_antisymm (negU_le w _) (by rw [← he]; exact negU_mono w (by omega))
  have e1 := same_lin hl h0 ho (w.length - 1 - k) k (by omega) (by rw [show k + (w.length - 1 - k) = w.length - 1 by omega, he, h1])
  rw [e1, show k + (w.length - 1 - k) = w.length - 1 by omega]
  have hg : w[w.length - 1]? = some w[w.length - 1] := List.getElem?_eq_getElem (by omega)
  have h3 := negU_succ hg
  have hn := h0 _ (List.mem_of_getElem? hg)
  rw [negU_all (show w.length ≤ w.length - 1 + 1 by omega)] at h3
  have hp : 0 < w[w.length - 1] := by
    by_cases e : w[w.length - 1] < 0
    · rw [if_pos e] at h3; omega
    · omega
  have ha : v[w.length - 1]? = some v[w.length - 1] := List.getElem?_eq_getElem (by omega)
  have hb : v[(w.length - 1 + 1) % w.length]? = some v[0] := by
    rw [show w.length - 1 + 1 = w.length by omega, Nat.mod_self]; exact List.getElem?_eq_getElem (by omega)
  have := ho _ _ _ ⟨w.length - 1, hg, ha, hb⟩ hp
  rw [ha, this]
  exact (List.getElem?_eq_getElem (by omega)).symm
theorem same_arc {c a : Int} (hl : v.length = max 1 w.length) (h0 : ∀ p ∈ w, p ≠ 0) (ho : ∀ x p y, TrW w v x p y → 0 < p → x = y) {k k' : Nat} (h1 : (arcRow w c)[k]? = some a) (h2 : (arcRow w c)[k']? = some a) : v[k]? = v[k']? := by
  have l1 := (List.getElem?_eq_some_iff.mp h1).1
  have l2 := (List.getElem?_eq_some_iff.mp h2).1
  rw [arcRow_len] at l1 l2
  by_cases e : w.length = 0
  · rw [show k = 0 by omega, show k' = 0 by omega]
  · have b1 : k < w.length := by omega
    have b2 : k' < w.length := by omega
    rw [arcRow_at b1, Option.some.injEq] at h1
    rw [arcRow_at b2, Option.some.injEq] at h2
    have z : ∀ k, k < w.length → negU w k = 0 → v[k]? = v[0]? := fun k hk he => by
      have := same_lin hl h0 ho k 0 (by omega) (by rw [Nat.zero_add, negU_zero, he])
      rw [Nat.zero_add] at this
      exact this.symm
    have cls : ∀ k, k < w.length → (if negU w k = negs w then c else c + (negU w k : Int)) = c → v[k]? = v[0]? := fun k hk he => by
      split at he
      · rename_i q; exact same_zero hl h0 ho hk q
      · exact z k hk (by omega)
    by_cases ea : a = c
    · rw [cls k b1 (by rw [h1, ea]), cls k' b2 (by rw [h2, ea])]
    · have f1 : ¬ negU w k = negs w := fun q => ea (by rw [← h1, if_pos q])
      have f2 : ¬ negU w k' = negs w := fun q => ea (by rw [← h2, if_pos q])
      rw [if_neg f1] at h1
      rw [if_neg f2] at h2
      have e9 : negU w k = negU w k' := by omega
      rcases Nat.le_total k k' with q | q
      · have := same_lin hl h0 ho (k' - k) k (by omega) (by rw [show k + (k' - k) = k' by omega, e9])
        rwa [show k + (k' - k) = k' by omega] at this
      · have := same_lin hl h0 ho (k - k') k' (by omega) (by rw [show k' + (k - k') = k by omega, e9])
        rw [show k' + (k - k') = k by omega] at this
        exact this.symm
theorem negU_hit (w : List Int) : ∀ (L j : Nat), j ≤ negU w L → ∃ k, k ≤ L ∧ negU w k = j
  | 0, j, h => ⟨0, Nat.le_refl _, by rw [negU_zero] at *; omega⟩
  | L + 1, j, h => by
    by_cases e : j ≤ negU w L
    · obtain ⟨k, h1, h2⟩ := negU_hit w L j e
      exact ⟨k, by omega, h2⟩
    · refine ⟨L + 1, Nat.le_refl _, ?_⟩
      by_cases hL : L < w.length
      · have := negU_succ (List.getElem?_eq_getElem hL)
        split at this <;> omega
      · rw [negU_all (by omega)] at h
        rw [negU_all (by omega)] at e
        omega
theorem arc_hit (w : List Int) (c : Int) {j : Nat} (hj : j < arcNum w) : ∃ k : Nat, (arcRow w c)[k]? = some (c + (j : Int)) := by
  by_cases e : negs w = 0
  · refine ⟨0, ?_⟩
    unfold arcNum at hj
    rw [show j = 0 by omega]
    unfold arcRow
    rw [if_pos e, List.getElem?_replicate, if_pos (by omega)]
    simp
  · unfold arcNum at hj
    obtain ⟨k, h1, h2⟩ := negU_hit w w.length j (by rw [negU_all (Nat.le_refl _)]; omega)
    have hk : k < w.length := by
      rcases Nat.lt_or_eq_of_le h1 with q | q
      · exact q
      · subst q; rw [negU_all (Nat.le_refl _)] at h2; omega
    exact ⟨k, by rw [arcRow_at hk, if_neg (by omega), h2]⟩
def gathW (w v : List Int) : List Int := (List.range (arcNum w)).map fun j : Nat => (v[idxD (arcRow w 0) (j : Int)]?).getD 0
theorem arcRow_shift (w : List Int) (c : Int) : arcRow w c = (arcRow w 0).map (c + ·) := by
  unfold arcRow
  split
  · simp
  · rw [List.map_map]
    refine List.map_congr_left fun k _ => ?_
    simp only [Function.comp]
    split <;> simp
theorem gathW_at (hl : v.length = max 1 w.length) (h0 : ∀ p ∈ w, p ≠ 0) (ho : ∀ x p y, TrW w v x p y → 0 < p → x = y) {k : Nat} {a : Int} (h : (arcRow w 0)[k]? = some a) : (gathW w v)[a.toNat]? = v[k]? := by
  have hin := arcRow_in (List.mem_of_getElem? h)
  unfold gathW
  rw [rangeMap_get (by omega), show ((a.toNat : Nat) : Int) = a by omega]
  have hm : a ∈ arcRow w 0 := List.mem_of_getElem? h
  have := idxD_get hm
  have e := same_arc hl h0 ho this h
  rw [e]
  have lk := (List.getElem?_eq_some_iff.mp h).1
  rw [arcRow_len] at lk
  rw [List.getElem?_eq_getElem (by omega)]
  rfl
end
def gathC : List (List Int) → List (List Int) → List Int
  | w :: ws, v :: vs => gathW w v ++ gathC ws vs
  | _, _ => []
structure OverOk (ws vs : List (List Int)) : Prop where
  len : vs.length = ws.length
  row : ∀ (i : Nat) w v, ws[i]? = some w → vs[i]? = some v → v.length = max 1 w.length
  nz : ∀ w ∈ ws, ∀ p ∈ w, p ≠ 0
  over : ∀ x p y, Tr ws vs x p y → 0 < p → x = y
theorem OverOk.tail {w v : List Int} {ws vs : List (List Int)} (h : OverOk (w :: ws) (v :: vs)) : OverOk ws vs :=
  ⟨by simpa using h.len, fun i w v h1 h2 => h.row (i + 1) w v (by simpa using h1) (by simpa using h2), fun w hw => h.nz w (List.mem_cons_of_mem _ hw), fun x p y ⟨i, w, v, h1, h2, h3⟩ => h.over x p y ⟨i + 1, w, v, by simpa using h1, by simpa using h2, h3⟩⟩
theorem OverOk.head {w v : List Int} {ws vs : List (List Int)} (h : OverOk (w :: ws) (v :: vs)) : v.length = max 1 w.length ∧ (∀ p ∈ w, p ≠ 0) ∧ ∀ x p y, TrW w v x p y → 0 < p → x = y :=
  ⟨h.row 0 w v rfl rfl, h.nz w List.mem_cons_self, fun x p y q => h.over x p y ⟨0, w, v, rfl, rfl, q⟩⟩
theorem gathW_len (w v : List Int) : (gathW w v).length = arcNum w := by unfold gathW; simp
theorem spread_gath {ws vs : List (List Int)} (h : OverOk ws vs) (pre post : List Int) : (arcsF (pre.length : Int) ws).map (fun r => r.map (atR (pre ++ gathC ws vs ++ post))) = vs := by
  induction ws generalizing vs pre with
  | nil =>
    have := List.eq_nil_of_length_eq_zero (by simpa using h.len)
    subst this; rfl
  | cons w ws ih =>
    cases vs with
    | nil => have := h.len; simp at this
    | cons v vs =>
      obtain ⟨hl, h0, ho⟩ := h.head
      rw [arcsF, List.map_cons]
      have e : (pre ++ gathC (w :: ws) (v :: vs) ++ post) = (pre ++ gathW w v) ++ gathC ws vs ++ post := by
        show pre ++ (gathW w v ++ gathC ws vs) ++ post = _
        simp only [List.append_assoc]
      have ih := ih h.tail (pre ++ gathW w v)
      rw [List.length_append, gathW_len, Int.natCast_add] at ih
      rw [e]
      refine congr (congrArg _ ?_) ih
      refine list_ext (n := max 1 w.length) (by rw [List.length_map, arcRow_len]) hl fun k hk => ?_
      rw [List.getElem?_map, arcRow_shift, List.getElem?_map]
      have hk' : k < (arcRow w 0).length := by rw [arcRow_len]; exact hk
      rw [List.getElem?_eq_getElem hk']
      have hg : (arcRow w 0)[k]? = some (arcRow w 0)[k] := List.getElem?_eq_getElem hk'
      have hin := arcRow_in (List.mem_of_getElem? hg)
      have := gathW_at hl h0 ho hg
      simp only [Option.map_some]
      rw [List.getElem?_eq_getElem (show k < v.length by omega)] at this ⊢
      rw [Option.some.injEq]
      unfold atR
      have e2 : ((pre.length : Int) + (arcRow w 0)[k]).toNat = pre.length + ((arcRow w 0)[k]).toNat := by omega
      rw [e2, List.append_assoc, List.append_assoc, List.getElem?_append_right (by omega), Nat.add_sub_cancel_left, List.getElem?_append_left (by rw [gathW_len]; omega), this]
      rfl
theorem gathC_len {ws vs : List (List Int)} (h : vs.length = ws.length) : (gathC ws vs).length = cntN ws := by
  induction ws generalizing vs with
  | nil => cases vs <;> rfl
  | cons w ws ih =>
    cases vs with
    | nil => simp at h
    | cons v vs =>
      show (gathW w v ++ gathC ws vs).length = _
      rw [List.length_append, gathW_len, ih (by simpa using h)]
      rfl
theorem gathC_in {n : Nat} {ws vs : List (List Int)} (hr : ∀ (i : Nat) w v, ws[i]? = some w → vs[i]? = some v → v.length = max 1 w.length ∧ ∀ x ∈ v, 0 ≤ x ∧ x < (n : Int)) : ∀ x ∈ gathC ws vs, 0 ≤ x ∧ x < (n : Int) := by
  induction ws generalizing vs with
  | nil => intro x hx; cases vs <;> cases hx
  | cons w ws ih =>
    cases vs with
    | nil => intro x hx; cases hx
    | cons v vs =>
      intro x hx
      rcases List.mem_append.mp (show x ∈ gathW w v ++ gathC ws vs from hx) with z | z
      · obtain ⟨hl, hx9⟩ := hr 0 w v rfl rfl
        unfold gathW at z
        obtain ⟨j, hj, rfl⟩ := List.mem_map.mp z
        obtain ⟨k, hk⟩ := arc_hit w 0 (List.mem_range.mp hj)
        rw [Int.zero_add] at hk
        have h1 := idxD_lt (List.mem_of_getElem? hk)
        rw [arcRow_len] at h1
        rw [List.getElem?_eq_getElem (by omega)]
        exact hx9 _ (List.getElem_mem _)
      · exact ih (fun i w v h1 h2 => hr (i + 1) w v (by simpa using h1) (by simpa using h2)) x z
theorem arcs_hit {ws : List (List Int)} {c : Int} {j : Nat} (hj : j < cntN ws) : ∃ (i k : Nat) (row : List Int), (arcsF c ws)[i]? = some row ∧ row[k]? = some (c + (j : Int)) := by
  induction ws generalizing c j with
  | nil => exact absurd hj (by simp [cntN])
  | cons w ws ih =>
    have e : cntN (w :: ws) = arcNum w + cntN ws := by simp [cntN]
    by_cases h : j < arcNum w
    · obtain ⟨k, hk⟩ := arc_hit w c h
      exact ⟨0, k, _, rfl, hk⟩
    · obtain ⟨i, k, row, h1, h2⟩ := ih (c := c + arcNum w) (j := j - arcNum w) (by omega)
      refine ⟨i + 1, k, row, by rw [arcsF, List.getElem?_cons_succ]; exact h1, ?_⟩
      rw [h2]; congr 1; omega
theorem spreadW_inj {n : Nat} {ws : List (List Int)} {cs cs' : List Int} (h : Cs n (cntN ws) cs) (h' : Cs n (cntN ws) cs') (e : spreadW ws cs = spreadW ws cs') : cs = cs' := by
  have l1 := h.len
  have l2 := h'.len
  refine list_ext l1 l2 fun j hj => ?_
  obtain ⟨i, k, row, h1, h2⟩ := arcs_hit (c := 0) hj
  rw [Int.zero_add] at h2
  have e1 : (spreadW ws cs)[i]? = some (row.map (atR cs)) := by unfold spreadW; rw [List.getElem?_map, h1]; rfl
  have e2 : (spreadW ws cs')[i]? = some (row.map (atR cs')) := by unfold spreadW; rw [List.getElem?_map, h1]; rfl
  rw [e, e2, Option.some.injEq] at e1
  have e3 : (row.map (atR cs'))[k]? = (row.map (atR cs))[k]? := by rw [e1]
  rw [List.getElem?_map, List.getElem?_map, h2] at e3
  have e4 : atR cs' (j : Int) = atR cs (j : Int) := by simpa using e3
  unfold atR at e4
  rw [Int.toNat_natCast, List.getElem?_eq_getElem (by omega), List.getElem?_eq_getElem (by omega)] at e4
  rw [List.getElem?_eq_getElem (by omega), List.getElem?_eq_getElem (by omega)]
  exact congrArg some e4.symm
end VL
set_option maxRecDepth 100000
set_option maxHeartbeats 1000000
namespace VL
open PySem PySem.Spec PyProof.Rows L2
theorem agree_rel {t : List (List Int)} {cs : List Int} {m : Mt} : agreeP t cs m = true ↔ rel t m.2.1 (atR cs m.2.2.2.1) (atR cs m.2.2.1) (atR cs m.2.2.2.2) := by
  unfold agreeP rel inA outA
  rw [decide_eq_true_eq]
  by_cases h : m.2.1 < 0
  · rw [if_pos h, if_pos h, if_pos h]
  · rw [if_neg h, if_neg h, if_neg h]
theorem DrS.nz {most : Nat} {d : Dr} (h : DrS most d) : ∀ w ∈ d.1, ∀ p ∈ w, p ≠ 0 := fun w hw p hp e => by
  have := h.perm.mem_iff.mp (List.mem_flatten.mpr ⟨w, hw, hp⟩)
  rcases both_mem.mp this with z | z
  · obtain ⟨q, hq, e2⟩ := List.mem_map.mp z
    have := (h.pos q hq).1
    omega
  · obtain ⟨q, hq, e2⟩ := List.mem_map.mp z
    have := (h.pos q hq).1
    omega
theorem spread_row {ws : List (List Int)} {cs : List Int} {i : Nat} {w : List Int} (h : ws[i]? = some w) : ∃ c, (arcsF 0 ws)[i]? = some (arcRow w c) ∧ (spreadW ws cs)[i]? = some ((arcRow w c).map (atR cs)) := by
  obtain ⟨c, hc⟩ := arcsF_get (c := 0) h
  exact ⟨c, hc, by unfold spreadW; rw [List.getElem?_map, hc]; rfl⟩
theorem arcsF_len (ws : List (List Int)) (c : Int) : (arcsF c ws).length = ws.length := by
  induction ws generalizing c with
  | nil => rfl
  | cons w ws ih => rw [arcsF, List.length_cons, ih]; rfl
theorem tr_spread {ws : List (List Int)} {cs : List Int} {x p y : Int} (h : Tr ws (spreadW ws cs) x p y) : ∃ (i k : Nat) (w : List Int), ws[i]? = some w ∧ w[k]? = some p ∧ x = atR cs (entL (arcsF 0 ws) i k) ∧ y = atR cs (entL (arcsF 0 ws) i ((k + 1) % w.length)) ∧ (0 < p → x = y) := by
  obtain ⟨i, w, v, h1, h2, k, h3, h4, h5⟩ := h
  obtain ⟨c, h6, h7⟩ := spread_row (cs := cs) h1
  rw [h2, Option.some.injEq] at h7
  subst h7
  obtain ⟨a, b, g1, g2, g3, _⟩ := arcRow_next (c := c) h3
  rw [List.getElem?_map, g1, Option.map_some, Option.some.injEq] at h4
  rw [List.getElem?_map, g2, Option.map_some, Option.some.injEq] at h5
  refine ⟨i, k, w, h1, h3, ?_, ?_, fun hp => ?_⟩
  · unfold entL; rw [h6, Option.getD_some, g1]; exact h4.symm
  · unfold entL; rw [h6, Option.getD_some, g2]; exact h5.symm
  · rw [← h4, ← h5, g3 hp]
theorem spread_tr {ws : List (List Int)} {cs : List Int} {i k : Nat} {w : List Int} {p : Int} (h1 : ws[i]? = some w) (h2 : w[k]? = some p) : Tr ws (spreadW ws cs) (atR cs (entL (arcsF 0 ws) i k)) p (atR cs (entL (arcsF 0 ws) i ((k + 1) % w.length))) := by
  obtain ⟨c, h6, h7⟩ := spread_row (cs := cs) h1
  obtain ⟨a, b, g1, g2, _, _⟩ := arcRow_next (c := c) h2
  refine ⟨i, w, _, h1, h7, k, h2, ?_, ?_⟩
  · unfold entL; rw [h6, Option.getD_some, List.getElem?_map, g1]; rfl
  · unfold entL; rw [h6, Option.getD_some, List.getElem?_map, g2]; rfl
theorem spread_in {n : Nat} {ws : List (List Int)} {cs : List Int} (h : Cs n (cntN ws) cs) {i : Nat} {w v : List Int} (h1 : ws[i]? = some w) (h2 : (spreadW ws cs)[i]? = some v) : v.length = max 1 w.length ∧ ∀ x ∈ v, 0 ≤ x ∧ x < (n : Int) := by
  obtain ⟨c, h6, h7⟩ := spread_row (cs := cs) h1
  rw [h2, Option.some.injEq] at h7
  subst h7
  refine ⟨by rw [List.length_map, arcRow_len], fun x hx => ?_⟩
  obtain ⟨a, ha, rfl⟩ := List.mem_map.mp hx
  have := arcsF_in (List.mem_of_getElem? h6) ha
  exact (h.at this.1 (by omega)).2
theorem DrS.spots {most : Nat} {d : Dr} (h : DrS most d) {p : Int} (hp : p ∈ d.1.flatten) : ∃ (i k : Nat) (w : List Int), d.1[i]? = some w ∧ w[k]? = some p := by
  obtain ⟨w, hw, hm⟩ := List.mem_flatten.mp hp
  obtain ⟨i, hi⟩ := List.mem_iff_getElem?.mp hw
  obtain ⟨k, hk⟩ := List.mem_iff_getElem?.mp hm
  exact ⟨i, k, w, hi, hk⟩
theorem wc_iff {most n : Nat} {d : Dr} {t : List (List Int)} {cs : List Int} (h : DrS most d) (hC : Cs n (cntN d.1) cs) : WC n t d (spreadW d.1 cs) ↔ ∀ m ∈ meetsF d, agreeP t cs m = true := by
  have nd := h.nodup
  constructor
  · intro W m hm
    obtain ⟨p, hp, rfl⟩ := List.mem_map.mp hm
    obtain ⟨c, s⟩ := p
    obtain ⟨m1, m2⟩ := h.mem hp
    obtain ⟨i, k, w, a1, a2⟩ := h.spots m1
    obtain ⟨j, l, u, b1, b2⟩ := h.spots m2
    have h1 := spread_tr (cs := cs) a1 a2
    have h2 := spread_tr (cs := cs) b1 b2
    rw [agree_rel]
    unfold meetOf
    simp only [spot_eq nd a1 a2, spot_eq nd b1 b2, b1, Option.getD_some]
    exact W.under c s hp _ _ _ _ h1 h2
  · intro hA
    refine ⟨by unfold spreadW; rw [List.length_map, arcsF_len], fun i w v h1 h2 => spread_in hC h1 h2, fun x p y hT hp => ?_, fun c s hp x y y' z hT1 hT2 => ?_⟩
    · obtain ⟨_, _, _, _, _, _, _, q⟩ := tr_spread hT
      exact q hp
    · obtain ⟨i, k, w, a1, a2, a3, _, _⟩ := tr_spread hT1
      obtain ⟨j, l, u, b1, b2, b3, b4, _⟩ := tr_spread hT2
      have := hA _ (List.mem_map.mpr ⟨_, hp, rfl⟩)
      rw [agree_rel] at this
      unfold meetOf at this
      simp only [spot_eq nd a1 a2, spot_eq nd b1 b2, b1, Option.getD_some] at this
      rw [a3, b3, b4]
      exact this
theorem WC.overOk {most n : Nat} {d : Dr} {t vs : List (List Int)} (h : DrS most d) (W : WC n t d vs) : OverOk d.1 vs := ⟨W.len, fun i w v h1 h2 => (W.row i w v h1 h2).1, h.nz, W.over⟩
theorem spread_gath0 {ws vs : List (List Int)} (h : OverOk ws vs) : spreadW ws (gathC ws vs) = vs := by
  have := spread_gath h [] []
  rw [List.nil_append, List.append_nil] at this
  exact this
theorem gath_Cs {n : Nat} {ws vs : List (List Int)} (hl : vs.length = ws.length) (hr : ∀ (i : Nat) w v, ws[i]? = some w → vs[i]? = some v → v.length = max 1 w.length ∧ ∀ x ∈ v, 0 ≤ x ∧ x < (n : Int)) : Cs n (cntN ws) (gathC ws vs) := ⟨gathC_len hl, gathC_in hr⟩
abbrev colsD (n : Nat) (t : List (List Int)) (d : Dr) : List (List Int) := colsF t n (meetsF d) (cntN d.1)
theorem colsD_mem {most n : Nat} {d : Dr} {t : List (List Int)} {cs : List Int} (h : DrS most d) : cs ∈ colsD n t d ↔ Cs n (cntN d.1) cs ∧ WC n t d (spreadW d.1 cs) := by
  rw [colsF_iff fun m hm => ⟨_, meet_in h hm⟩]
  refine and_congr_right fun hC => ?_
  rw [wc_iff h hC]
  exact ⟨fun q m hm => q m hm (topA_in (meet_in h hm)).2.1, fun q m hm _ => q m hm⟩
theorem gath_mem {most n : Nat} {d : Dr} {t vs : List (List Int)} (h : DrS most d) (W : WC n t d vs) : gathC d.1 vs ∈ colsD n t d := by
  rw [colsD_mem h, spread_gath0 (W.overOk h)]
  exact ⟨gath_Cs W.len W.row, W⟩
theorem colsD_nodup {n : Nat} {d : Dr} {t : List (List Int)} : (colsD n t d).Nodup := lex_nodup (colsF_sorted _)
theorem sub_len {α : Type} [DecidableEq α] : ∀ {a b : List α}, a.Nodup → (∀ x ∈ a, x ∈ b) → a.length ≤ b.length
  | [], _, _, _ => Nat.zero_le _
  | x :: a, b, hn, h => by
    obtain ⟨h1, h2⟩ := List.nodup_cons.mp hn
    have hx := h x List.mem_cons_self
    have := sub_len (a := a) (b := b.erase x) h2 fun y hy => by
      have hne : y ≠ x := fun e => by subst e; exact h1 hy
      exact (List.mem_erase_of_ne hne).mpr (h y (List.mem_cons_of_mem _ hy))
    rw [List.length_erase_of_mem hx] at this
    have := List.length_pos_of_mem hx
    rw [List.length_cons]; omega
theorem count_le {most most' n n' : Nat} {d d' : Dr} {t t' : List (List Int)} (h : DrS most d) (h' : DrS most' d') (f : List (List Int) → List (List Int)) (hf : ∀ vs, WC n t d vs → WC n' t' d' (f vs)) (inj : ∀ vs vs', WC n t d vs → WC n t d vs' → f vs = f vs' → vs = vs') : (colsD n t d).length ≤ (colsD n' t' d').length := by
  have key : ∀ cs ∈ colsD n t d, gathC d'.1 (f (spreadW d.1 cs)) ∈ colsD n' t' d' := fun cs hcs => gath_mem h' (hf _ ((colsD_mem h).mp hcs).2)
  have := sub_len (a := (colsD n t d).map fun cs => gathC d'.1 (f (spreadW d.1 cs))) (b := colsD n' t' d') ?_ fun x hx => ?_
  · rwa [List.length_map] at this
  · rw [List.Nodup, List.pairwise_map]
    refine (List.Pairwise.and_mem.mp (colsD_nodup (n := n) (d := d) (t := t))).imp fun {a b} hab e => ?_
    obtain ⟨ha, hb, hne⟩ := hab
    obtain ⟨ca, wa⟩ := (colsD_mem h).mp ha
    obtain ⟨cb, wb⟩ := (colsD_mem h).mp hb
    have e2 : f (spreadW d.1 a) = f (spreadW d.1 b) := by
      rw [← spread_gath0 ((hf _ wa).overOk h'), ← spread_gath0 ((hf _ wb).overOk h'), e]
    exact hne (spreadW_inj ca cb (inj _ _ wa wb e2))
  · obtain ⟨cs, hcs, rfl⟩ := List.mem_map.mp hx
    exact key cs hcs
end VL
set_option maxRecDepth 100000
set_option maxHeartbeats 1000000
namespace VB
structure Qn (C : Type) where
  op : C → C → C
  iv : C → C → C
  l : ∀ a b, iv (op a b) b = a
  r : ∀ a b, op (iv a b) b = a
  id : ∀ a, op a a = a
  d : ∀ a b c, op (op a b) c = op (op a c) (op b c)
section
variable {C : Type} (q : Qn C)
theorem Qn.inj {a b c : C} (h : q.op a c = q.op b c) : a = b := by rw [← q.l a c, h, q.l]
theorem Qn.d2 (a b c : C) : q.iv (q.op a b) c = q.op (q.iv a c) (q.iv b c) := q.inj (c := c) (by rw [q.r, q.d, q.r, q.r])
theorem Qn.d3 (a b c : C) : q.op (q.iv a b) c = q.iv (q.op a c) (q.op b c) := q.inj (c := q.op b c) (by rw [q.r, ← q.d, q.r])
theorem Qn.d4 (a b c : C) : q.iv (q.iv a b) c = q.iv (q.iv a c) (q.iv b c) := q.inj (c := q.iv b c) (by rw [q.r, ← q.d2, q.r])
def actL (l s : Int) (x : Int → C) : Int → C := fun j => if j = l then (if s < 0 then x (l + 1) else q.op (x (l + 1)) (x l)) else if j = l + 1 then (if s < 0 then q.iv (x l) (x (l + 1)) else x l) else x j
def act : List (Int × Int) → (Int → C) → Int → C
  | [], x => x
  | (l, s) :: w, x => act w (actL q l s x)
theorem act_app (u w : List (Int × Int)) (x : Int → C) : act q (u ++ w) x = act q w (act q u x) := by
  induction u generalizing x with
  | nil => rfl
  | cons p u ih => exact ih _
def Eo (n : Int) (x y : Int → C) : Prop := ∀ j, 0 ≤ j → j < n → x j = y j
def InW (n : Int) (w : List (Int × Int)) : Prop := ∀ p ∈ w, 0 ≤ p.1 ∧ p.1 + 1 < n
theorem actL_congr {n l s : Int} {x y : Int → C} (h : 0 ≤ l ∧ l + 1 < n) (e : Eo n x y) : Eo n (actL q l s x) (actL q l s y) := fun j h0 h1 => by
  unfold actL
  rw [e l (by omega) (by omega), e (l + 1) (by omega) (by omega), e j h0 h1]
theorem act_congr {n : Int} {w : List (Int × Int)} (h : InW n w) {x y : Int → C} (e : Eo n x y) : Eo n (act q w x) (act q w y) := by
  induction w generalizing x y with
  | nil => exact e
  | cons p w ih => exact ih (fun r hr => h r (List.mem_cons_of_mem _ hr)) (actL_congr q (h p List.mem_cons_self) e)
theorem act_out {n : Int} {w : List (Int × Int)} (h : InW n w) (x : Int → C) {j : Int} (hj : n ≤ j) : act q w x j = x j := by
  induction w generalizing x with
  | nil => rfl
  | cons p w ih =>
    have hp := h p List.mem_cons_self
    show act q w _ j = _
    rw [ih fun r hr => h r (List.mem_cons_of_mem _ hr)]
    unfold actL
    rw [if_neg (by omega), if_neg (by omega)]
def Fx (n : Int) (w : List (Int × Int)) (x : Int → C) : Prop := Eo n (act q w x) x
def Mp (n : Int) (w : List (Int × Int)) (n' : Int) (w' : List (Int × Int)) : Prop :=
  ∃ M : (Int → C) → Int → C, (∀ x, Fx q n w x → Fx q n' w' (M x)) ∧ ∀ x y, Fx q n w x → Fx q n w y → Eo n' (M x) (M y) → Eo n x y
variable {q}
theorem mp_same {n : Int} {w w' : List (Int × Int)} (h : ∀ x, act q w x = act q w' x) : Mp q n w n w' :=
  ⟨fun x => x, fun x hx => by unfold Fx at hx ⊢; rw [← h]; exact hx, fun x y _ _ e => e⟩
theorem mp_mid {n : Int} {u v a b : List (Int × Int)} (h : ∀ x, act q a x = act q b x) : Mp q n (u ++ a ++ v) n (u ++ b ++ v) := mp_same fun x => by
  rw [act_app, act_app, act_app, act_app, h]
theorem mp_turn {n : Int} {u w : List (Int × Int)} (hu : InW n u) (hw : InW n w) : Mp q n (u ++ w) n (w ++ u) := by
  refine ⟨act q u, fun x hx => ?_, fun x y hx hy e => ?_⟩
  · unfold Fx at hx ⊢
    rw [act_app] at hx ⊢
    exact act_congr q hu hx
  · unfold Fx at hx hy
    rw [act_app] at hx hy
    exact fun j h0 h1 => ((hx j h0 h1).symm.trans (act_congr q hw e j h0 h1)).trans (hy j h0 h1)
theorem put_same (l : Int) {s : Int} (hs : s = 1 ∨ s = -1) (x : Int → C) : act q [(l, s), (l, -s)] x = act q [] x := by
  funext j
  show actL q l (-s) (actL q l s x) j = x j
  have n1 : ¬ l + 1 = l := by omega
  rcases hs with rfl | rfl <;> simp only [actL, n1, if_true, if_false, show ¬ ((1 : Int) < 0) by decide, show (-1 : Int) < 0 by decide, show ¬ (-(-1) : Int) < 0 by decide] <;> split
  · rename_i e; rw [e]
  · split
    · rename_i e; rw [e, q.l]
    · rfl
  · rename_i e; rw [e, q.r]
  · split
    · rename_i e; rw [e]
    · rfl
theorem far_same {i j : Int} (h : i + 1 < j) (s t : Int) (x : Int → C) : act q [(i, s), (j, t)] x = act q [(j, t), (i, s)] x := by
  funext k
  show actL q j t (actL q i s x) k = actL q i s (actL q j t x) k
  unfold actL
  have h1 : ¬ j = i := by omega
  have h2 : ¬ j = i + 1 := by omega
  have h3 : ¬ j + 1 = i := by omega
  have h4 : ¬ j + 1 = i + 1 := by omega
  have h5 : ¬ i = j := by omega
  have h6 : ¬ i = j + 1 := by omega
  have h7 : ¬ i + 1 = j := by omega
  have h8 : ¬ i + 1 = j + 1 := by omega
  simp only [h1, h2, h3, h4, h5, h6, h7, h8, if_false]
  by_cases a : k = j
  · subst a; simp only [h1, h2, if_true, if_false]
  · by_cases b : k = j + 1
    · subst b; simp only [h3, h4, a, if_true, if_false]
    · simp only [a, b, if_false]
theorem threes_same (l : Int) {a b c : Int} (ha : a = 1 ∨ a = -1) (hb : b = 1 ∨ b = -1) (hc : c = 1 ∨ c = -1) (h : a = c → b = a) (x : Int → C) :
    act q [(l, a), (l + 1, b), (l, c)] x = act q [(l + 1, c), (l, b), (l + 1, a)] x := by
  funext j
  show actL q l c (actL q (l + 1) b (actL q l a x)) j = actL q (l + 1) a (actL q l b (actL q (l + 1) c x)) j
  have n1 : ¬ l + 1 = l := by omega
  have n2 : ¬ l = l + 1 := by omega
  have n3 : ¬ l + 1 + 1 = l := by omega
  have n4 : ¬ l + 1 + 1 = l + 1 := by omega
  have n5 : ¬ l = l + 1 + 1 := by omega
  have n6 : ¬ l + 1 = l + 1 + 1 := by omega
  have p1 : ¬ ((1 : Int) < 0) := by decide
  have p2 : ((-1 : Int) < 0) := by decide
  have e1 := q.d
  have e2 := q.d2
  have e3 := q.d3
  have e4 := q.d4
  have i1 := q.l
  have i2 := q.r
  by_cases c1 : j = l
  · subst c1
    rcases ha with rfl | rfl <;> rcases hb with rfl | rfl <;> rcases hc with rfl | rfl <;>
      first
      | (exfalso; exact absurd (h rfl) (by decide))
      | (simp only [actL, n1, n2, n3, n4, n5, n6, p1, p2, if_true, if_false]; done)
      | (simp only [actL, n1, n2, n3, n4, n5, n6, p1, p2, if_true, if_false]; first | exact (q.d _ _ _).symm | exact q.d4 _ _ _ | exact (q.d3 _ _ _).symm | exact q.d2 _ _ _ | (rw [q.d, q.r]; done) | (rw [q.d4 _ (q.op _ _), q.l]; done))
  · by_cases c2 : j = l + 1
    · subst c2
      rcases ha with rfl | rfl <;> rcases hb with rfl | rfl <;> rcases hc with rfl | rfl <;>
        first
        | (exfalso; exact absurd (h rfl) (by decide))
        | (simp only [actL, n1, n2, n3, n4, n5, n6, p1, p2, if_true, if_false]; done)
        | (simp only [actL, n1, n2, n3, n4, n5, n6, p1, p2, if_true, if_false]; first | exact (q.d _ _ _).symm | exact q.d4 _ _ _ | exact (q.d3 _ _ _).symm | exact q.d2 _ _ _ | (rw [q.d, q.r]; done) | (rw [q.d4 _ (q.op _ _), q.l]; done))
    · by_cases c3 : j = l + 1 + 1
      · subst c3
        rcases ha with rfl | rfl <;> rcases hb with rfl | rfl <;> rcases hc with rfl | rfl <;>
          first
          | (exfalso; exact absurd (h rfl) (by decide))
          | (simp only [actL, n1, n2, n3, n4, n5, n6, p1, p2, if_true, if_false]; done)
          | (simp only [actL, n1, n2, n3, n4, n5, n6, p1, p2, if_true, if_false]; first | exact (q.d _ _ _).symm | exact q.d4 _ _ _ | exact (q.d3 _ _ _).symm | exact q.d2 _ _ _ | (rw [q.d, q.r]; done) | (rw [q.d4 _ (q.op _ _), q.l]; done))
      · simp only [actL, c1, c2, c3, if_false]
theorem fx_more {n s : Int} {w : List (Int × Int)} (hn : 1 ≤ n) (hw : InW n w) (hs : s = 1 ∨ s = -1) (x : Int → C) : Fx q (n + 1) (w ++ [(n - 1, s)]) x ↔ Fx q n w x ∧ x n = x (n - 1) := by
  unfold Fx
  rw [act_app]
  have en : n - 1 + 1 = n := by omega
  have hy := act_out q hw x (j := n) (Int.le_refl n)
  show Eo (n + 1) (actL q (n - 1) s (act q w x)) x ↔ _
  have lo : ∀ j, j < n - 1 → actL q (n - 1) s (act q w x) j = act q w x j := fun j hj => by
    unfold actL; rw [if_neg (by omega), if_neg (by omega)]
  have a1 : actL q (n - 1) s (act q w x) (n - 1) = if s < 0 then x n else q.op (x n) (act q w x (n - 1)) := by
    unfold actL; rw [if_pos rfl, en, hy]
  have a2 : actL q (n - 1) s (act q w x) n = if s < 0 then q.iv (act q w x (n - 1)) (x n) else act q w x (n - 1) := by
    unfold actL; rw [if_neg (by omega), if_pos (by omega), en, hy]
  constructor
  · intro h
    have b1 := h (n - 1) (by omega) (by omega)
    have b2 := h n (by omega) (by omega)
    rw [a1] at b1
    rw [a2] at b2
    have key : act q w x (n - 1) = x n ∧ x n = x (n - 1) := by
      rcases hs with rfl | rfl
      · rw [if_neg (by decide)] at b1 b2
        rw [b2, q.id] at b1
        exact ⟨b2, b1⟩
      · rw [if_pos (by decide)] at b1 b2
        have : act q w x (n - 1) = x n := q.inj (c := x n) (by
          have := q.r (act q w x (n - 1)) (x n)
          rw [b2, q.id] at this
          rw [← this])
        exact ⟨this, b1⟩
    refine ⟨fun j h0 h1 => ?_, key.2⟩
    by_cases e : j = n - 1
    · subst e; rw [key.1, key.2]
    · rw [← lo j (by omega)]; exact h j h0 (by omega)
  · rintro ⟨h, e⟩ j h0 h1
    by_cases c1 : j = n
    · subst c1
      rw [a2, h (j - 1) (by omega) (by omega), ← e]
      split
      · have := q.l (x j) (x j)
        rwa [q.id] at this
      · rfl
    · by_cases c2 : j = n - 1
      · subst c2
        rw [a1, h (n - 1) (by omega) (by omega), e]
        split
        · rfl
        · exact q.id _
      · rw [lo j (by omega)]; exact h j h0 (by omega)
theorem mp_more {n s : Int} {w : List (Int × Int)} (hn : 1 ≤ n) (hw : InW n w) (hs : s = 1 ∨ s = -1) : Mp q n w (n + 1) (w ++ [(n - 1, s)]) := by
  refine ⟨fun x j => if j = n then x (n - 1) else x j, fun x hx => ?_, fun x y _ _ e j h0 h1 => ?_⟩
  · rw [fx_more hn hw hs]
    have eo : Eo n (fun j => if j = n then x (n - 1) else x j) x := fun j h0 h1 => by
      show (if j = n then _ else _) = _
      rw [if_neg (by omega)]
    refine ⟨fun j h0 h1 => ?_, ?_⟩
    · rw [act_congr q hw eo j h0 h1, hx j h0 h1]
      exact (eo j h0 h1).symm
    · show (if n = n then _ else _) = if n - 1 = n then _ else _
      rw [if_pos rfl, if_neg (by omega)]
  · have := e j h0 (by omega)
    show x j = y j
    simp only at this
    rwa [if_neg (by omega), if_neg (by omega)] at this
theorem mp_less {n s : Int} {w : List (Int × Int)} (hn : 1 ≤ n) (hw : InW n w) (hs : s = 1 ∨ s = -1) : Mp q (n + 1) (w ++ [(n - 1, s)]) n w := by
  refine ⟨fun x => x, fun x hx => ((fx_more hn hw hs x).mp hx).1, fun x y hx hy e j h0 h1 => ?_⟩
  have e1 := ((fx_more hn hw hs x).mp hx).2
  have e2 := ((fx_more hn hw hs y).mp hy).2
  by_cases c : j = n
  · subst c; rw [e1, e2]; exact e _ (by omega) (by omega)
  · exact e j h0 (by omega)
theorem act_sign {w w' : List (Int × Int)} (h : w.map (fun p => (p.1, decide (p.2 < 0))) = w'.map (fun p => (p.1, decide (p.2 < 0)))) (x : Int → C) : act q w x = act q w' x := by
  induction w generalizing w' x with
  | nil => cases w' with | nil => rfl | cons _ _ => simp at h
  | cons p w ih =>
    cases w' with
    | nil => simp at h
    | cons p' w' =>
      simp only [List.map_cons, List.cons.injEq, Prod.mk.injEq, decide_eq_decide] at h
      show act q w (actL q p.1 p.2 x) = act q w' (actL q p'.1 p'.2 x)
      rw [ih h.2]
      congr 1
      unfold actL
      simp only [h.1.1, h.1.2]
end
end VB
set_option maxRecDepth 100000
set_option maxHeartbeats 1000000
namespace VB
open PySem PySem.Spec PyProof.Rows L2 VL
abbrev Cc (p : Nat) := {z : Int // 0 ≤ z ∧ z < (p : Int)}
structure Pl (ls : List (Int × Int)) (n : Int) (d : Dr) (Rs : List (List Int)) : Prop where
  ws : d.1 = Rs.map fun R => R.flatMap fun s => (rounds ls s).1
  cyc : ∀ R ∈ Rs, ∀ (i : Nat) a, R[i]? = some a → R[(i + 1) % R.length]? = some (rounds ls a).2
  ne : ∀ R ∈ Rs, R ≠ []
  nd : Rs.flatten.Nodup
  mem : ∀ s, s ∈ Rs.flatten ↔ 0 ≤ s ∧ s < n
  low : InW n ls
  nz : (ls.map fun p => p.2.natAbs).Nodup
  sg : ∀ c s, (c, s) ∈ d.2 → 0 < c ∧ (s = 1 ∨ s = -1) ∧ ∃ l, (l, c * s) ∈ ls
  gs : ∀ p ∈ ls, ∃ c s, (c, s) ∈ d.2 ∧ p.2 = c * s ∧ 0 < c ∧ (s = 1 ∨ s = -1)
section
variable {C : Type} {q : Qn C}
def Tt (q : Qn C) : List (Int × Int) → Int → (Int → C) → List (Int × C × C)
  | [], _, _ => []
  | (l, c) :: r, s, x => (if s = l then [(c, x s, actL q l c x (stepS l s))] else if s = l + 1 then [(-c, x s, actL q l c x (stepS l s))] else []) ++ Tt q r (stepS l s) (actL q l c x)
theorem tt_fst (ls : List (Int × Int)) (s : Int) (x : Int → C) : (Tt q ls s x).map (·.1) = (rounds ls s).1 := by
  induction ls generalizing s x with
  | nil => rfl
  | cons p r ih =>
    obtain ⟨l, c⟩ := p
    rw [rounds_cons, Tt, List.map_append, ih]
    congr 1
    unfold firstS
    split
    · rfl
    · split <;> rfl
def Path : C → List (Int × C × C) → C → Prop
  | a, [], b => a = b
  | a, (_, u, v) :: r, b => a = u ∧ Path v r b
theorem path_app {a b c : C} {L L' : List (Int × C × C)} (h : Path a L b) (h' : Path b L' c) : Path a (L ++ L') c := by
  induction L generalizing a with
  | nil => cases h; exact h'
  | cons p r ih => exact ⟨h.1, ih h.2⟩
theorem stay {l c s : Int} {x : Int → C} (h1 : ¬ s = l) (h2 : ¬ s = l + 1) : stepS l s = s ∧ actL q l c x s = x s := by
  unfold stepS actL
  simp only [h1, h2, if_false, and_self]
theorem tt_path (ls : List (Int × Int)) (s : Int) (x : Int → C) : Path (x s) (Tt q ls s x) (act q ls x (rounds ls s).2) := by
  induction ls generalizing s x with
  | nil => rfl
  | cons p r ih =>
    obtain ⟨l, c⟩ := p
    rw [rounds_cons, Tt]
    have := ih (stepS l s) (actL q l c x)
    by_cases h1 : s = l
    · rw [if_pos h1]; exact ⟨rfl, this⟩
    · rw [if_neg h1]
      by_cases h2 : s = l + 1
      · rw [if_pos h2]; exact ⟨rfl, this⟩
      · rw [if_neg h2, List.nil_append]
        have e := stay (q := q) (c := c) (x := x) h1 h2
        rw [e.1, e.2] at this
        rw [e.1]; exact this
theorem path_next {a b : C} {L : List (Int × C × C)} (h : Path a L b) {k : Nat} {p : Int} {u v : C} (hk : L[k]? = some (p, u, v)) :
    (∀ p' u' v', L[k + 1]? = some (p', u', v') → u' = v) ∧ (L[k + 1]? = none → v = b) := by
  induction L generalizing a k with
  | nil => simp at hk
  | cons z r ih =>
    obtain ⟨p0, u0, v0⟩ := z
    obtain ⟨h1, h2⟩ := h
    cases k with
    | zero =>
      simp only [List.getElem?_cons_zero, Option.some.injEq, Prod.mk.injEq] at hk
      obtain ⟨rfl, rfl, rfl⟩ := hk
      cases r with
      | nil => exact ⟨fun _ _ _ e => by simp at e, fun _ => h2⟩
      | cons w r =>
        obtain ⟨p1, u1, v1⟩ := w
        refine ⟨fun p' u' v' e => ?_, fun e => by simp at e⟩
        simp only [Nat.zero_add, List.getElem?_cons_succ, List.getElem?_cons_zero, Option.some.injEq, Prod.mk.injEq] at e
        rw [← e.2.1]; exact h2.1.symm
    | succ k =>
      rw [List.getElem?_cons_succ] at hk
      have := ih h2 hk
      simpa only [List.getElem?_cons_succ] using this
theorem path_ring {n : Int} {ls : List (Int × Int)} {x : Int → C} (hin : ∀ s, 0 ≤ s → s < n → 0 ≤ (rounds ls s).2 ∧ (rounds ls s).2 < n) (hf : Fx q n ls x) : ∀ {R : List Int} (s : Int), (∀ a ∈ s :: R, 0 ≤ a ∧ a < n) → (∀ (i : Nat) a b, (s :: R)[i]? = some a → (s :: R)[i + 1]? = some b → b = (rounds ls a).2) → ∀ z, (s :: R).getLast? = some z → Path (x s) ((s :: R).flatMap fun a => Tt q ls a x) (x (rounds ls z).2)
  | [], s, hR, _, z, hz => by
    simp at hz; subst hz
    have := tt_path (q := q) ls s x
    have h0 := hR s List.mem_cons_self
    have h1 := hin s h0.1 h0.2
    rw [hf _ h1.1 h1.2] at this
    simpa using this
  | b :: R, s, hR, hc, z, hz => by
    have h0 := hR s List.mem_cons_self
    have h1 := hin s h0.1 h0.2
    have := tt_path (q := q) ls s x
    rw [hf _ h1.1 h1.2, ← hc 0 s b rfl rfl] at this
    rw [List.flatMap_cons]
    refine path_app this (path_ring hin hf b (fun a ha => hR a (List.mem_cons_of_mem _ ha)) (fun i u v e1 e2 => hc (i + 1) u v (by simpa using e1) (by simpa using e2)) z ?_)
    rw [← hz]; rfl
theorem tt_mem {ls : List (Int × Int)} {s : Int} {x : Int → C} {p : Int} {u v : C} (h : (p, u, v) ∈ Tt q ls s x) : ∃ L1 l c L2, ls = L1 ++ (l, c) :: L2 ∧ ((p = c ∧ u = act q L1 x l ∧ v = actL q l c (act q L1 x) (l + 1)) ∨ (p = -c ∧ u = act q L1 x (l + 1) ∧ v = actL q l c (act q L1 x) l)) := by
  induction ls generalizing s x with
  | nil => cases h
  | cons z r ih =>
    obtain ⟨l, c⟩ := z
    rw [Tt] at h
    rcases List.mem_append.mp h with h | h
    · refine ⟨[], l, c, r, rfl, ?_⟩
      split at h
      · rename_i e
        subst e
        simp only [List.mem_singleton, Prod.mk.injEq] at h
        left
        refine ⟨h.1, h.2.1, ?_⟩
        rw [h.2.2, show stepS s s = s + 1 by unfold stepS; rw [if_pos rfl]]
        rfl
      · rename_i e
        split at h
        · rename_i e2
          subst e2
          simp only [List.mem_singleton, Prod.mk.injEq] at h
          right
          refine ⟨h.1, h.2.1, ?_⟩
          rw [h.2.2, show stepS l (l + 1) = l by unfold stepS; rw [if_neg (by omega), if_pos rfl]]
          rfl
        · cases h
    · obtain ⟨L1, l', c', L2, rfl, hh⟩ := ih h
      exact ⟨(l, c) :: L1, l', c', L2, rfl, hh⟩
theorem split_uniq {α β : Type} {f : α → β} {ls L1 L2 M1 M2 : List α} {a b : α} (nd : (ls.map f).Nodup) (h1 : ls = L1 ++ a :: L2) (h2 : ls = M1 ++ b :: M2) (e : f a = f b) : L1 = M1 ∧ a = b := by
  subst h1
  induction L1 generalizing M1 with
  | nil =>
    cases M1 with
    | nil => simp at h2; exact ⟨rfl, h2.1⟩
    | cons m M1 =>
      exfalso
      simp only [List.nil_append, List.cons_append, List.cons.injEq] at h2
      obtain ⟨rfl, rfl⟩ := h2
      simp only [List.nil_append, List.map_cons, List.nodup_cons] at nd
      exact nd.1 (by rw [e]; simp)
  | cons l L1 ih =>
    cases M1 with
    | nil =>
      exfalso
      simp only [List.nil_append, List.cons_append, List.cons.injEq] at h2
      obtain ⟨rfl, rfl⟩ := h2
      simp only [List.cons_append, List.map_cons, List.nodup_cons] at nd
      exact nd.1 (by rw [← e]; simp)
    | cons m M1 =>
      simp only [List.cons_append, List.cons.injEq] at h2
      obtain ⟨rfl, h2⟩ := h2
      simp only [List.cons_append, List.map_cons, List.nodup_cons] at nd
      obtain ⟨r1, r2⟩ := ih nd.2 h2
      exact ⟨by rw [r1], r2⟩
end
section
variable {p : Nat} {q : Qn (Cc p)} {t : List (List Int)} {ls : List (Int × Int)} {n : Int} {d : Dr} {Rs : List (List Int)}
def colV (q : Qn (Cc p)) (ls : List (Int × Int)) (x : Int → Cc p) (R : List Int) : List Int :=
  if (R.flatMap fun s => Tt q ls s x) = [] then [(x (R.headD 0)).1] else (R.flatMap fun s => Tt q ls s x).map (·.2.1.1)
theorem Pl.inn (h : Pl ls n d Rs) : ∀ p ∈ ls, 0 ≤ p.1 ∧ p.1 < n - 1 := fun p hp => by have := h.low p hp; omega
theorem Pl.fin (h : Pl ls n d Rs) : ∀ s, 0 ≤ s → s < n → 0 ≤ (rounds ls s).2 ∧ (rounds ls s).2 < n := fun s h0 h1 => rounds_in h.inn ⟨h0, h1⟩
theorem Pl.ring (h : Pl ls n d Rs) {R : List Int} (hR : R ∈ Rs) : ∀ a ∈ R, 0 ≤ a ∧ a < n := fun a ha => (h.mem a).mp (List.mem_flatten.mpr ⟨R, hR, ha⟩)
theorem flat_fst (ls : List (Int × Int)) (x : Int → Cc p) (R : List Int) : (R.flatMap fun s => Tt q ls s x).map (·.1) = R.flatMap fun s => (rounds ls s).1 := by
  rw [List.map_flatMap]
  congr 1
  funext s
  exact tt_fst ls s x
theorem colV_len (ls : List (Int × Int)) (x : Int → Cc p) (R : List Int) : (colV q ls x R).length = max 1 (R.flatMap fun s => (rounds ls s).1).length := by
  rw [← flat_fst (q := q) ls x R, List.length_map]
  unfold colV
  split
  · rename_i e; rw [e]; rfl
  · rename_i e
    have := List.length_pos_iff.mpr e
    rw [List.length_map]; omega
theorem colV_rng (ls : List (Int × Int)) (x : Int → Cc p) (R : List Int) : ∀ z ∈ colV q ls x R, 0 ≤ z ∧ z < (p : Int) := by
  unfold colV
  split
  · intro z hz; rw [List.mem_singleton.mp hz]; exact (x _).2
  · intro z hz
    obtain ⟨w, _, rfl⟩ := List.mem_map.mp hz
    exact w.2.1.2
theorem Pl.path (h : Pl ls n d Rs) {x : Int → Cc p} (hf : Fx q n ls x) {R : List Int} (hR : R ∈ Rs) : ∃ a, Path a (R.flatMap fun s => Tt q ls s x) a := by
  cases R with
  | nil => exact absurd rfl (h.ne _ hR)
  | cons s R =>
    have hc := h.cyc _ hR
    refine ⟨x s, ?_⟩
    obtain ⟨z, hz⟩ : ∃ z, (s :: R).getLast? = some z := by
      cases e : (s :: R).getLast? with
      | none => simp at e
      | some z => exact ⟨z, rfl⟩
    have := path_ring h.fin hf s (h.ring hR) (fun i a b e1 e2 => by
      have := hc i a e1
      have hl := (List.getElem?_eq_some_iff.mp e2).1
      rw [Nat.mod_eq_of_lt hl, e2] at this
      exact Option.some.inj this) z hz
    rw [List.getLast?_eq_getElem?] at hz
    have e := hc _ _ hz
    rw [show (s :: R).length - 1 + 1 = (s :: R).length by simp, Nat.mod_self] at e
    rw [← Option.some.inj e] at this
    exact this
theorem Pl.trB (h : Pl ls n d Rs) {x : Int → Cc p} (hf : Fx q n ls x) {y c z : Int} (hT : Tr d.1 (Rs.map (colV q ls x)) y c z) : ∃ s u v, (c, u, v) ∈ Tt q ls s x ∧ y = u.1 ∧ z = v.1 := by
  obtain ⟨i, w, v, h1, h2, k, e1, e2, e3⟩ := hT
  rw [h.ws, List.getElem?_map] at h1
  rw [List.getElem?_map] at h2
  obtain ⟨R, hR, rfl⟩ := Option.map_eq_some_iff.mp h1
  rw [hR] at h2
  cases h2
  have hm := List.mem_of_getElem? hR
  obtain ⟨a, hp⟩ := h.path (q := q) hf hm
  rw [← flat_fst (q := q) ls x R] at e1 e3
  unfold colV at e2 e3
  generalize hL : (R.flatMap fun s => Tt q ls s x) = L at *
  have hne : ¬ L = [] := fun e => by subst e; simp at e1
  rw [if_neg hne] at e2 e3
  rw [List.getElem?_map] at e1 e2 e3
  obtain ⟨⟨c', u, v⟩, f1, rfl⟩ := Option.map_eq_some_iff.mp e1
  rw [f1] at e2
  cases e2
  have hmem := List.mem_of_getElem? f1
  rw [← hL] at hmem
  obtain ⟨s, _, hs⟩ := List.mem_flatMap.mp hmem
  refine ⟨s, u, v, hs, rfl, ?_⟩
  obtain ⟨n1, n2⟩ := path_next hp f1
  have hk := (List.getElem?_eq_some_iff.mp f1).1
  rw [List.length_map] at e3
  obtain ⟨⟨c2, u2, v2⟩, f2, rfl⟩ := Option.map_eq_some_iff.mp e3
  by_cases hq : k + 1 < L.length
  · rw [Nat.mod_eq_of_lt hq] at f2
    rw [n1 _ _ _ f2]
  · rw [show k + 1 = L.length by omega, Nat.mod_self] at f2
    rw [n2 (List.getElem?_eq_none (by omega))]
    cases L with
    | nil => exact absurd rfl hne
    | cons w r =>
      simp at f2; subst f2
      rw [← hp.1]
theorem Pl.wcB (h : Pl ls n d Rs) (ht : ∀ a b : Cc p, ent t a.1 b.1 = (q.op a b).1) {x : Int → Cc p} (hf : Fx q n ls x) : WC p t d (Rs.map (colV q ls x)) := by
  refine ⟨by rw [h.ws, List.length_map, List.length_map], fun i w v h1 h2 => ?_, fun y c z hT hc => ?_, fun c s hcs y a b z hT1 hT2 => ?_⟩
  · rw [h.ws, List.getElem?_map] at h1
    rw [List.getElem?_map] at h2
    obtain ⟨R, hR, rfl⟩ := Option.map_eq_some_iff.mp h1
    rw [hR] at h2
    cases h2
    exact ⟨colV_len ls x R, colV_rng ls x R⟩
  · obtain ⟨s, u, v, hm, rfl, rfl⟩ := h.trB hf hT
    obtain ⟨L1, l, c', L2, rfl, hh⟩ := tt_mem hm
    rcases hh with ⟨rfl, rfl, rfl⟩ | ⟨rfl, rfl, rfl⟩
    · unfold actL; rw [if_neg (by omega), if_pos rfl, if_neg (by omega)]
    · unfold actL; rw [if_pos rfl, if_pos (by omega)]
  · obtain ⟨s1, u1, v1, hm1, rfl, rfl⟩ := h.trB hf hT1
    obtain ⟨s2, u2, v2, hm2, rfl, rfl⟩ := h.trB hf hT2
    obtain ⟨c0, hs, l0, hl0⟩ := h.sg c s hcs
    obtain ⟨L1, l, c1, L2, g1, hh1⟩ := tt_mem hm1
    obtain ⟨M1, m, c2, M2, g2, hh2⟩ := tt_mem hm2
    obtain ⟨N1, N2, g0⟩ := List.append_of_mem hl0
    have ec : (c * s).natAbs = c.natAbs := by rcases hs with rfl | rfl <;> simp
    obtain ⟨i1, i2⟩ := split_uniq (f := fun p : Int × Int => p.2.natAbs) h.nz g1 g0 (by
      show c1.natAbs = (c * s).natAbs
      rw [ec]
      rcases hh1 with h | h <;> (have := h.1; omega))
    obtain ⟨j1, j2⟩ := split_uniq (f := fun p : Int × Int => p.2.natAbs) h.nz g2 g0 (by
      show c2.natAbs = (c * s).natAbs
      rw [ec]
      rcases hh2 with h | h <;> (have := h.1; omega))
    simp only [Prod.mk.injEq] at i2 j2
    obtain ⟨rfl, rfl⟩ := i2
    obtain ⟨rfl, rfl⟩ := j2
    subst i1; subst j1
    unfold VL.rel
    rcases hs with rfl | rfl
    · rw [if_neg (by decide)]
      rcases hh1 with ⟨_, rfl, rfl⟩ | ⟨hx, _⟩
      · rcases hh2 with ⟨hx, _⟩ | ⟨_, rfl, rfl⟩
        · omega
        · rw [ht]; unfold actL; rw [if_pos rfl, if_neg (by omega)]
      · omega
    · rw [if_pos (by decide)]
      rcases hh1 with ⟨hx, _⟩ | ⟨_, rfl, rfl⟩
      · omega
      · rcases hh2 with ⟨_, rfl, rfl⟩ | ⟨hx, _⟩
        · rw [ht]; unfold actL; rw [if_neg (by omega), if_pos rfl, if_pos (by omega), q.r]
        · omega
end
end VB
set_option maxRecDepth 100000
set_option maxHeartbeats 1000000
namespace VB
open PySem PySem.Spec PyProof.Rows L2 VL
abbrev wk (ls : List (Int × Int)) (R : List Int) : List Int := R.flatMap fun s => (rounds ls s).1
def At (Rs vs : List (List Int)) (ls : List (Int × Int)) (s : Int) (m : Nat) (z : Int) : Prop :=
  ∃ (j : Nat) (R v R1 R2 : List Int), Rs[j]? = some R ∧ vs[j]? = some v ∧ R = R1 ++ s :: R2 ∧ v[((wk ls R1).length + m) % (wk ls R).length]? = some z
theorem ring_uniq {s : Int} : ∀ {Rs : List (List Int)} {j j' : Nat} {R R' : List Int}, Rs.flatten.Nodup → Rs[j]? = some R → Rs[j']? = some R' → s ∈ R → s ∈ R' → j = j'
  | [], _, _, _, _, _, h, _, _, _ => by simp at h
  | A :: Rs, j, j', R, R', nd, h, h', m, m' => by
    rw [List.flatten_cons] at nd
    obtain ⟨n1, n2, n3⟩ := List.nodup_append.mp nd
    cases j with
    | zero =>
      cases j' with
      | zero => rfl
      | succ j' =>
        simp at h h'; subst h
        exact absurd rfl (n3 s m s (List.mem_flatten.mpr ⟨R', List.mem_of_getElem? h', m'⟩))
    | succ j =>
      cases j' with
      | zero =>
        simp at h h'; subst h'
        exact absurd rfl (n3 s m' s (List.mem_flatten.mpr ⟨R, List.mem_of_getElem? h, m⟩))
      | succ j' =>
        simp at h h'
        rw [ring_uniq n2 h h' m m']
theorem rounds_app (u w : List (Int × Int)) (s : Int) : rounds (u ++ w) s = ((rounds u s).1 ++ (rounds w (rounds u s).2).1, (rounds w (rounds u s).2).2) := by
  induction u generalizing s with
  | nil => simp [rounds]
  | cons p u ih =>
    obtain ⟨l, c⟩ := p
    rw [List.cons_append, rounds_cons, ih, rounds_cons]
    simp
theorem rounds_surj {n : Int} : ∀ {ls : List (Int × Int)}, (∀ p ∈ ls, 0 ≤ p.1 ∧ p.1 < n - 1) → ∀ j, 0 ≤ j → j < n → ∃ s, 0 ≤ s ∧ s < n ∧ (rounds ls s).2 = j
  | [], _, j, h0, h1 => ⟨j, h0, h1, rfl⟩
  | (l, c) :: r, h, j, h0, h1 => by
    obtain ⟨s, s0, s1, e⟩ := rounds_surj (fun p hp => h p (List.mem_cons_of_mem _ hp)) j h0 h1
    have := stepS_in (h (l, c) List.mem_cons_self) ⟨s0, s1⟩
    exact ⟨stepS l s, this.1, this.2, by rw [rounds_cons, stepS_inv, e]⟩
section
variable {p : Nat} {q : Qn (Cc p)} {t : List (List Int)} {ls : List (Int × Int)} {n : Int} {d : Dr} {Rs vs vs' : List (List Int)}
theorem Pl.at_same (h : Pl ls n d Rs) {s : Int} {j j' : Nat} {R R' R1 R2 R1' R2' : List Int} (h1 : Rs[j]? = some R) (h2 : Rs[j']? = some R') (e1 : R = R1 ++ s :: R2) (e2 : R' = R1' ++ s :: R2') : j = j' ∧ R = R' ∧ R1 = R1' := by
  have hj := ring_uniq (s := s) h.nd h1 h2 (by rw [e1]; simp) (by rw [e2]; simp)
  subst hj
  rw [h1] at h2
  cases h2
  have nd : R.Nodup := (List.sublist_flatten_of_mem (List.mem_of_getElem? h1)).nodup h.nd
  exact ⟨rfl, rfl, (split_uniq (f := id) (by rwa [List.map_id]) e1 e2 rfl).1⟩
theorem Pl.at_fun (h : Pl ls n d Rs) {s z z' : Int} {m : Nat} (a : At Rs vs ls s m z) (b : At Rs vs ls s m z') : z = z' := by
  obtain ⟨j, R, v, R1, R2, a1, a2, a3, a4⟩ := a
  obtain ⟨j', R', v', R1', R2', b1, b2, b3, b4⟩ := b
  obtain ⟨rfl, rfl, rfl⟩ := h.at_same a1 b1 a3 b3
  rw [a2] at b2
  cases b2
  rw [a4] at b4
  exact Option.some.inj b4
theorem wk_split (ls : List (Int × Int)) (R1 R2 : List Int) (s : Int) : wk ls (R1 ++ s :: R2) = wk ls R1 ++ ((rounds ls s).1 ++ wk ls R2) := by
  unfold wk
  rw [List.flatMap_append, List.flatMap_cons]
theorem Pl.at_ex (h : Pl ls n d Rs) (W : WC p t d vs) {s : Int} (h0 : 0 ≤ s) (h1 : s < n) {m : Nat} (hm : m ≤ (rounds ls s).1.length) : ∃ z : Cc p, At Rs vs ls s m z.1 := by
  obtain ⟨R, hR, hs⟩ := List.mem_flatten.mp ((h.mem s).mpr ⟨h0, h1⟩)
  obtain ⟨j, hj⟩ := List.mem_iff_getElem?.mp hR
  obtain ⟨R1, R2, e⟩ := List.append_of_mem hs
  have hl := W.len
  have hjl := (List.getElem?_eq_some_iff.mp hj).1
  have hw : d.1[j]? = some (wk ls R) := by rw [h.ws, List.getElem?_map, hj]; rfl
  have hv : vs[j]? = some (vs[j]'(by rw [hl, h.ws, List.length_map]; exact hjl)) := List.getElem?_eq_getElem _
  generalize vs[j]'(by rw [hl, h.ws, List.length_map]; exact hjl) = v at hv
  obtain ⟨r1, r2⟩ := W.row j _ _ hw hv
  have hlt : ((wk ls R1).length + m) % (wk ls R).length < v.length := by
    rw [r1]
    have e3 : (wk ls R).length = (wk ls R1).length + ((rounds ls s).1.length + (wk ls R2).length) := by rw [e, wk_split, List.length_append, List.length_append]
    by_cases z : (wk ls R).length = 0
    · rw [z, Nat.mod_zero]; omega
    · have := Nat.mod_lt ((wk ls R1).length + m) (Nat.pos_of_ne_zero z)
      omega
  have hg : v[((wk ls R1).length + m) % (wk ls R).length]? = some (v[((wk ls R1).length + m) % (wk ls R).length]'hlt) := List.getElem?_eq_getElem _
  exact ⟨⟨_, r2 _ (List.getElem_mem hlt)⟩, j, R, v, R1, R2, hj, hv, e, hg⟩
theorem Pl.at_tr (h : Pl ls n d Rs) {s a b c : Int} {m : Nat} (hc : (rounds ls s).1[m]? = some c) (ha : At Rs vs ls s m a) (hb : At Rs vs ls s (m + 1) b) : Tr d.1 vs a c b := by
  obtain ⟨j, R, v, R1, R2, a1, a2, a3, a4⟩ := ha
  obtain ⟨j', R', v', R1', R2', b1, b2, b3, b4⟩ := hb
  obtain ⟨rfl, rfl, rfl⟩ := h.at_same a1 b1 a3 b3
  rw [a2] at b2
  cases b2
  have hm := (List.getElem?_eq_some_iff.mp hc).1
  have e3 : (wk ls R).length = (wk ls R1).length + ((rounds ls s).1.length + (wk ls R2).length) := by rw [a3, wk_split, List.length_append, List.length_append]
  rw [Nat.mod_eq_of_lt (by omega)] at a4
  refine ⟨j, wk ls R, v, by rw [h.ws, List.getElem?_map, a1]; rfl, a2, (wk ls R1).length + m, ?_, a4, b4⟩
  rw [a3, wk_split, List.getElem?_append_right (by omega), List.getElem?_append_left (by omega), ← hc]
  congr 1
  omega
theorem Pl.at_fin (h : Pl ls n d Rs) {s z : Int} (ha : At Rs vs ls s (rounds ls s).1.length z) : At Rs vs ls (rounds ls s).2 0 z := by
  obtain ⟨j, R, v, R1, R2, a1, a2, a3, a4⟩ := ha
  have hc := h.cyc R (List.mem_of_getElem? a1) R1.length s (by rw [a3, List.getElem?_append_right (Nat.le_refl _), Nat.sub_self]; rfl)
  cases R2 with
  | nil =>
    have hl : R.length = R1.length + 1 := by rw [a3]; simp
    rw [hl, Nat.mod_self] at hc
    cases R with
    | nil => simp at hc
    | cons b R' =>
      simp only [List.getElem?_cons_zero, Option.some.injEq] at hc
      refine ⟨j, _, v, [], R', a1, a2, by rw [hc]; rfl, ?_⟩
      rw [← a4]
      congr 1
      have e3 : (wk ls (b :: R')).length = (wk ls R1).length + (rounds ls s).1.length := by rw [a3, wk_split]; simp [wk]
      rw [← e3, Nat.mod_self]
      simp [wk]
  | cons s' R2 =>
    have hl : R.length = R1.length + (R2.length + 2) := by rw [a3]; simp
    rw [Nat.mod_eq_of_lt (by omega)] at hc
    rw [a3, List.getElem?_append_right (by omega), show R1.length + 1 - R1.length = 1 by omega] at hc
    simp only [List.getElem?_cons_succ, List.getElem?_cons_zero, Option.some.injEq] at hc
    refine ⟨j, R, v, R1 ++ [s], R2, a1, a2, by rw [a3, hc]; simp, ?_⟩
    rw [← a4]
    congr 2
    unfold wk
    rw [List.flatMap_append, List.length_append]
    simp
theorem Pl.step (h : Pl ls n d Rs) (ht : ∀ a b : Cc p, ent t a.1 b.1 = (q.op a b).1) (W : WC p t d vs) {L1 L2 : List (Int × Int)} {l c : Int} (e : ls = L1 ++ (l, c) :: L2) {y : Int → Cc p}
    (ih : ∀ s, 0 ≤ s → s < n → At Rs vs ls s (rounds L1 s).1.length (y (rounds L1 s).2).1) {a b : Int} (ha : 0 ≤ a ∧ a < n) (hb : 0 ≤ b ∧ b < n) (fa : (rounds L1 a).2 = l) (fb : (rounds L1 b).2 = l + 1) :
    At Rs vs ls a ((rounds L1 a).1.length + 1) (actL q l c y (l + 1)).1 ∧ At Rs vs ls b ((rounds L1 b).1.length + 1) (actL q l c y l).1 := by
  have ra : (rounds ls a).1 = (rounds L1 a).1 ++ (c :: (rounds L2 (l + 1)).1) := by
    rw [e, rounds_app, fa, rounds_cons]
    simp [firstS, stepS]
  have rb : (rounds ls b).1 = (rounds L1 b).1 ++ (-c :: (rounds L2 l).1) := by
    rw [e, rounds_app, fb, rounds_cons]
    simp [firstS, stepS, show ¬ l + 1 = l by omega]
  have ga : (rounds ls a).1[(rounds L1 a).1.length]? = some c := by rw [ra, List.getElem?_append_right (Nat.le_refl _), Nat.sub_self]; rfl
  have gb : (rounds ls b).1[(rounds L1 b).1.length]? = some (-c) := by rw [rb, List.getElem?_append_right (Nat.le_refl _), Nat.sub_self]; rfl
  have i1 := ih a ha.1 ha.2
  have i2 := ih b hb.1 hb.2
  rw [fa] at i1
  rw [fb] at i2
  obtain ⟨za, wa⟩ := h.at_ex W ha.1 ha.2 (m := (rounds L1 a).1.length + 1) (by rw [ra]; simp)
  obtain ⟨zb, wb⟩ := h.at_ex W hb.1 hb.2 (m := (rounds L1 b).1.length + 1) (by rw [rb]; simp)
  have ta := h.at_tr ga i1 wa
  have tb := h.at_tr gb i2 wb
  obtain ⟨c0, s0, hd, ec, hc0, hs⟩ := h.gs (l, c) (by rw [e]; simp)
  simp only at ec
  rcases hs with rfl | rfl
  · obtain rfl : c = c0 := by omega
    have o := W.over _ _ _ ta hc0
    have u := W.under _ _ hd _ _ _ _ ta tb
    unfold VL.rel at u
    rw [if_neg (by decide), ht] at u
    have e1 : actL q l c y (l + 1) = za := by
      unfold actL; rw [if_neg (by omega), if_pos rfl, if_neg (by omega)]; exact Subtype.ext o
    have e2 : actL q l c y l = zb := by
      unfold actL; rw [if_pos rfl, if_neg (by omega)]; exact Subtype.ext u
    rw [e1, e2]
    exact ⟨wa, wb⟩
  · obtain rfl : c = -c0 := by omega
    rw [Int.neg_neg] at tb
    have o := W.over _ _ _ tb hc0
    have u := W.under _ _ hd _ _ _ _ tb ta
    unfold VL.rel at u
    rw [if_pos (by decide), ht] at u
    have e1 : actL q l (-c0) y (l + 1) = za := by
      unfold actL; rw [if_neg (by omega), if_pos rfl, if_pos (by omega), ← Subtype.ext u, q.l]
    have e2 : actL q l (-c0) y l = zb := by
      unfold actL; rw [if_pos rfl, if_pos (by omega)]; exact Subtype.ext o
    rw [e1, e2]
    exact ⟨wa, wb⟩
theorem Pl.walk (h : Pl ls n d Rs) (ht : ∀ a b : Cc p, ent t a.1 b.1 = (q.op a b).1) (W : WC p t d vs) {x : Int → Cc p} (hx : ∀ s, 0 ≤ s → s < n → At Rs vs ls s 0 (x s).1) :
    ∀ (k : Nat), k ≤ ls.length → ∀ s, 0 ≤ s → s < n → At Rs vs ls s (rounds (ls.take k) s).1.length (act q (ls.take k) x (rounds (ls.take k) s).2).1
  | 0, _, s, h0, h1 => by simpa [rounds, act] using hx s h0 h1
  | k + 1, hk, s, h0, h1 => by
    have ih := h.walk ht W hx k (by omega)
    obtain ⟨⟨l, c⟩, hg⟩ : ∃ z, ls[k]'(by omega) = z := ⟨_, rfl⟩
    have eg : ls[k]? = some (l, c) := by rw [List.getElem?_eq_getElem (by omega), hg]
    have et : ls.take (k + 1) = ls.take k ++ [(l, c)] := by rw [List.take_add_one, eg]; rfl
    have el : ls = ls.take k ++ (l, c) :: ls.drop (k + 1) := by
      have := (List.take_append_drop k ls).symm
      rwa [List.drop_eq_getElem_cons (show k < ls.length by omega), hg] at this
    have hin : ∀ p ∈ ls.take k, 0 ≤ p.1 ∧ p.1 < n - 1 := fun p hp => h.inn p (List.mem_of_mem_take hp)
    have hl := h.low (l, c) (by rw [el]; simp)
    simp only at hl
    rw [et, rounds_snoc, act_app]
    show At Rs vs ls s ((rounds (ls.take k) s).1 ++ firstS l c (rounds (ls.take k) s).2).length (actL q l c (act q (ls.take k) x) (stepS l (rounds (ls.take k) s).2)).1
    by_cases c1 : (rounds (ls.take k) s).2 = l
    · obtain ⟨b, b0, b1, eb⟩ := rounds_surj hin (l + 1) (by omega) (by omega)
      have := (h.step ht W el ih ⟨h0, h1⟩ ⟨b0, b1⟩ c1 eb).1
      rw [c1]
      simpa [firstS, stepS] using this
    · by_cases c2 : (rounds (ls.take k) s).2 = l + 1
      · obtain ⟨a, a0, a1, ea⟩ := rounds_surj hin l (by omega) (by omega)
        have := (h.step ht W el ih ⟨a0, a1⟩ ⟨h0, h1⟩ ea c2).2
        rw [c2]
        simpa [firstS, stepS, show ¬ l + 1 = l by omega] using this
      · have := ih s h0 h1
        have e2 := stay (q := q) (c := c) (x := act q (ls.take k) x) c1 c2
        rw [e2.1, e2.2]
        simpa [firstS, c1, c2] using this
open Classical in
noncomputable def rowA (c0 : Cc p) (ls : List (Int × Int)) (Rs vs : List (List Int)) : Int → Cc p := fun s => if h : ∃ z : Cc p, At Rs vs ls s 0 z.1 then h.choose else c0
theorem Pl.rowA_at (h : Pl ls n d Rs) (W : WC p t d vs) (c0 : Cc p) : ∀ s, 0 ≤ s → s < n → At Rs vs ls s 0 (rowA c0 ls Rs vs s).1 := fun s h0 h1 => by
  have hh := h.at_ex W h0 h1 (m := 0) (Nat.zero_le _)
  unfold rowA
  rw [dif_pos hh]
  exact hh.choose_spec
theorem Pl.fxA (h : Pl ls n d Rs) (ht : ∀ a b : Cc p, ent t a.1 b.1 = (q.op a b).1) (W : WC p t d vs) {x : Int → Cc p} (hx : ∀ s, 0 ≤ s → s < n → At Rs vs ls s 0 (x s).1) : Fx q n ls x := fun j h0 h1 => by
  obtain ⟨s, s0, s1, e⟩ := rounds_surj h.inn j h0 h1
  have := h.walk ht W hx ls.length (Nat.le_refl _) s s0 s1
  rw [List.take_length] at this
  have := h.at_fin this
  rw [e] at this
  exact Subtype.ext (h.at_fun this (hx j h0 h1))
theorem place_on {ls : List (Int × Int)} : ∀ {R : List Int} {m : Nat}, m < (wk ls R).length → ∃ R1 s R2 k, R = R1 ++ s :: R2 ∧ k < (rounds ls s).1.length ∧ m = (wk ls R1).length + k
  | [], m, h => by simp [wk] at h
  | s :: R, m, h => by
    by_cases c : m < (rounds ls s).1.length
    · exact ⟨[], s, R, m, rfl, c, by simp [wk]⟩
    · have e : wk ls (s :: R) = (rounds ls s).1 ++ wk ls R := by unfold wk; rw [List.flatMap_cons]
      rw [e, List.length_append] at h
      obtain ⟨R1, s', R2, k, h1, h2, h3⟩ := place_on (ls := ls) (R := R) (m := m - (rounds ls s).1.length) (by omega)
      refine ⟨s :: R1, s', R2, k, by rw [h1]; rfl, h2, ?_⟩
      have e2 : wk ls (s :: R1) = (rounds ls s).1 ++ wk ls R1 := by unfold wk; rw [List.flatMap_cons]
      rw [e2, List.length_append]; omega
theorem pre_len {ls : List (Int × Int)} {s : Int} {m : Nat} (h : m ≤ (rounds ls s).1.length) : ∃ k, k ≤ ls.length ∧ (rounds (ls.take k) s).1.length = m := by
  have key : ∀ j, j ≤ ls.length → m ≤ (rounds (ls.take j) s).1.length → ∃ k, k ≤ ls.length ∧ (rounds (ls.take k) s).1.length = m := by
    intro j
    induction j with
    | zero => intro h1 h2; exact ⟨0, h1, by simp [rounds] at h2 ⊢; omega⟩
    | succ j ih =>
      intro h1 h2
      by_cases c : m ≤ (rounds (ls.take j) s).1.length
      · exact ih (by omega) c
      · refine ⟨j + 1, h1, ?_⟩
        obtain ⟨⟨l, c'⟩, hg⟩ : ∃ z, ls[j]'(by omega) = z := ⟨_, rfl⟩
        have eg : ls[j]? = some (l, c') := by rw [List.getElem?_eq_getElem (by omega), hg]
        have et : ls.take (j + 1) = ls.take j ++ [(l, c')] := by rw [List.take_add_one, eg]; rfl
        rw [et, rounds_snoc, List.length_append] at h2 ⊢
        have : (firstS l c' (rounds (ls.take j) s).2).length ≤ 1 := by
          unfold firstS; split
          · simp
          · split <;> simp
        omega
  exact key ls.length (Nat.le_refl _) (by rw [List.take_length]; exact h)
theorem Pl.injA (h : Pl ls n d Rs) (ht : ∀ a b : Cc p, ent t a.1 b.1 = (q.op a b).1) (W : WC p t d vs) (W' : WC p t d vs') {x x' : Int → Cc p} (hx : ∀ s, 0 ≤ s → s < n → At Rs vs ls s 0 (x s).1) (hx' : ∀ s, 0 ≤ s → s < n → At Rs vs' ls s 0 (x' s).1) (e : Eo n x x') : vs = vs' := by
  have both : ∀ s m, 0 ≤ s → s < n → m ≤ (rounds ls s).1.length → ∃ z, At Rs vs ls s m z ∧ At Rs vs' ls s m z := fun s m h0 h1 hm => by
    obtain ⟨k, hk, rfl⟩ := pre_len hm
    have a := h.walk ht W hx k hk s h0 h1
    have b := h.walk ht W' hx' k hk s h0 h1
    have hin : ∀ p ∈ ls.take k, 0 ≤ p.1 ∧ p.1 < n - 1 := fun p hp => h.inn p (List.mem_of_mem_take hp)
    have r := rounds_in hin ⟨h0, h1⟩
    rw [← act_congr q (fun p hp => h.low p (List.mem_of_mem_take hp)) e _ r.1 r.2] at b
    exact ⟨_, a, b⟩
  refine List.ext_getElem? fun j => ?_
  have l1 := W.len
  have l2 := W'.len
  have l3 : d.1.length = Rs.length := by rw [h.ws, List.length_map]
  by_cases hj : j < Rs.length
  · have hR : Rs[j]? = some Rs[j] := List.getElem?_eq_getElem hj
    have hv : vs[j]? = some (vs[j]'(by omega)) := List.getElem?_eq_getElem _
    have hv' : vs'[j]? = some (vs'[j]'(by omega)) := List.getElem?_eq_getElem _
    generalize Rs[j] = R at hR
    generalize vs[j]'(by omega) = v at hv
    generalize vs'[j]'(by omega) = v' at hv'
    rw [hv, hv']
    congr 1
    have hw : d.1[j]? = some (wk ls R) := by rw [h.ws, List.getElem?_map, hR]; rfl
    obtain ⟨r1, _⟩ := W.row j _ _ hw hv
    obtain ⟨r2, _⟩ := W'.row j _ _ hw hv'
    have hRm := List.mem_of_getElem? hR
    have at_get : ∀ {u : List (List Int)} {y : List Int} {R1 R2 : List Int} {s z : Int} {m : Nat}, u[j]? = some y → R = R1 ++ s :: R2 → At Rs u ls s m z → y[((wk ls R1).length + m) % (wk ls R).length]? = some z := fun hy hs ha => by
      obtain ⟨j', R', v2, R1', R2', b1, b2, b3, b4⟩ := ha
      obtain ⟨rfl, rfl, rfl⟩ := h.at_same hR b1 hs b3
      rw [hy] at b2
      cases b2
      exact b4
    refine List.ext_getElem? fun m => ?_
    by_cases hm : m < max 1 (wk ls R).length
    · by_cases hz : (wk ls R).length = 0
      · cases hq : R with
        | nil => exact absurd hq (h.ne R hRm)
        | cons s R2 =>
          have hs := h.ring hRm s (by rw [hq]; simp)
          obtain ⟨z, a, b⟩ := both s 0 hs.1 hs.2 (Nat.zero_le _)
          have a' := at_get (R1 := []) hv hq a
          have b' := at_get (R1 := []) hv' hq b
          rw [hz, Nat.mod_zero] at a' b'
          simp only [wk, List.flatMap_nil, List.length_nil, Nat.add_zero] at a' b'
          rw [show m = 0 by omega, a', b']
      · obtain ⟨R1, s, R2, k, h1, h2, h3⟩ := place_on (ls := ls) (R := R) (m := m) (by omega)
        have hs := h.ring hRm s (by rw [h1]; simp)
        obtain ⟨z, a, b⟩ := both s k hs.1 hs.2 (by omega)
        have a' := at_get hv h1 a
        have b' := at_get hv' h1 b
        rw [← h3, Nat.mod_eq_of_lt (by omega)] at a' b'
        rw [a', b']
    · rw [List.getElem?_eq_none (by omega), List.getElem?_eq_none (by omega)]
  · rw [List.getElem?_eq_none (by omega), List.getElem?_eq_none (by omega)]
theorem still {ls : List (Int × Int)} {s : Int} (h : (rounds ls s).1 = []) : (rounds ls s).2 = s := by
  induction ls generalizing s with
  | nil => rfl
  | cons p r ih =>
    obtain ⟨l, c⟩ := p
    rw [rounds_cons] at h ⊢
    obtain ⟨h1, h2⟩ := List.append_eq_nil_iff.mp h
    have e : stepS l s = s := by
      unfold firstS at h1
      by_cases c1 : s = l
      · rw [if_pos c1] at h1; cases h1
      · rw [if_neg c1] at h1
        by_cases c2 : s = l + 1
        · rw [if_pos c2] at h1; cases h1
        · unfold stepS; rw [if_neg c1, if_neg c2]
    rw [e] at h2 ⊢
    exact ih h2
theorem Pl.lone (h : Pl ls n d Rs) {R R1 R2 : List Int} {s : Int} (hR : R ∈ Rs) (e : R = R1 ++ s :: R2) (hs : (rounds ls s).1 = []) : R1 = [] ∧ R2 = [] := by
  have nd : R.Nodup := (List.sublist_flatten_of_mem hR).nodup h.nd
  have h1 : R[R1.length]? = some s := by rw [e, List.getElem?_append_right (Nat.le_refl _), Nat.sub_self]; rfl
  have hc := h.cyc R hR R1.length s h1
  rw [still hs] at hc
  have hl : R.length = R1.length + (R2.length + 1) := by rw [e]; simp
  have hlt : (R1.length + 1) % R.length < R.length := Nat.mod_lt _ (by omega)
  have key : (R1.length + 1) % R.length = R1.length := by
    exact (List.getElem?_inj hlt nd).mp (by rw [hc, h1])
  have : R2.length = 0 ∧ R1.length = 0 := by
    by_cases c : R1.length + 1 < R.length
    · rw [Nat.mod_eq_of_lt c] at key; omega
    · rw [show R1.length + 1 = R.length by omega, Nat.mod_self] at key; omega
  exact ⟨List.eq_nil_of_length_eq_zero this.2, List.eq_nil_of_length_eq_zero this.1⟩
theorem Pl.backB (h : Pl ls n d Rs) {x : Int → Cc p} {s : Int} (h0 : 0 ≤ s) (h1 : s < n) : At Rs (Rs.map (colV q ls x)) ls s 0 (x s).1 := by
  obtain ⟨R, hR, hs⟩ := List.mem_flatten.mp ((h.mem s).mpr ⟨h0, h1⟩)
  obtain ⟨j, hj⟩ := List.mem_iff_getElem?.mp hR
  obtain ⟨R1, R2, e⟩ := List.append_of_mem hs
  refine ⟨j, R, colV q ls x R, R1, R2, hj, by rw [List.getElem?_map, hj]; rfl, e, ?_⟩
  by_cases c : (rounds ls s).1 = []
  · obtain ⟨rfl, rfl⟩ := h.lone hR e c
    have ez : Tt q ls s x = [] := by
      have := tt_fst (q := q) ls s x
      rw [c] at this
      exact List.map_eq_nil_iff.mp this
    subst e
    unfold colV
    simp [wk, c, ez]
  · have tp := tt_path (q := q) ls s x
    have tf := tt_fst (q := q) ls s x
    cases hT : Tt q ls s x with
    | nil => rw [hT] at tf; exact absurd tf.symm c
    | cons z r =>
      obtain ⟨p0, u, v⟩ := z
      rw [hT] at tp tf
      have eu : x s = u := tp.1
      have e3 : (wk ls R).length = (wk ls R1).length + ((rounds ls s).1.length + (wk ls R2).length) := by rw [e, wk_split, List.length_append, List.length_append]
      have e4 : 0 < (rounds ls s).1.length := List.length_pos_iff.mpr c
      rw [Nat.add_zero, Nat.mod_eq_of_lt (by omega)]
      have ef : (R.flatMap fun s => Tt q ls s x) = (R1.flatMap fun s => Tt q ls s x) ++ (((p0, u, v) :: r) ++ R2.flatMap fun s => Tt q ls s x) := by
        rw [e, List.flatMap_append, List.flatMap_cons, hT]
      have el : (wk ls R1).length = (R1.flatMap fun s => Tt q ls s x).length := by
        show (R1.flatMap fun s => (rounds ls s).1).length = _
        rw [← flat_fst (q := q) ls x R1, List.length_map]
      unfold colV
      rw [ef, if_neg (by simp), List.getElem?_map, List.getElem?_append_right (by omega), el, Nat.sub_self]
      simp [eu]
theorem cols_le {m1 m2 : Nat} {ls' : List (Int × Int)} {n' : Int} {d' : Dr} {Rs' : List (List Int)} (c0 : Cc p) (ht : ∀ a b : Cc p, ent t a.1 b.1 = (q.op a b).1) (hd : DrS m1 d) (hd' : DrS m2 d') (h : Pl ls n d Rs) (h' : Pl ls' n' d' Rs') (hM : Mp q n ls n' ls') :
    (colsD p t d).length ≤ (colsD p t d').length := by
  obtain ⟨M, M1, M2⟩ := hM
  refine count_le hd hd' (fun vs => Rs'.map (colV q ls' (M (rowA c0 ls Rs vs)))) (fun vs W => h'.wcB ht (M1 _ (h.fxA ht W (h.rowA_at W c0)))) fun vs vs' W W' e => ?_
  have f1 := h.fxA ht W (h.rowA_at W c0)
  have f2 := h.fxA ht W' (h.rowA_at W' c0)
  refine h.injA ht W W' (h.rowA_at W c0) (h.rowA_at W' c0) (M2 _ _ f1 f2 fun j h0 h1 => ?_)
  have a := h'.backB (q := q) (x := M (rowA c0 ls Rs vs)) h0 h1
  have b := h'.backB (q := q) (x := M (rowA c0 ls Rs vs')) h0 h1
  rw [← e] at b
  exact Subtype.ext (h'.at_fun a b)
end
end VB
set_option maxRecDepth 100000
set_option maxHeartbeats 1000000
namespace LK85
open PySem PySem.Spec PyProof.Rows L2 VL VB
local macro_rules | `(tactic| sleep 11) => `(tactic| simp only [Out.bind_ok, Out.bind_exn, noX_ok, lift_some, flowT_ret, flowT_nxt, flowF_ret, flowF_nxt, sat_bind, sat_ok, sat_exn, sat_noX, eta2, Out.bind_id])
def lsF (step : Int) (W : List (Int × Int)) (k : Nat) : Int × Int := (((W[k]?).getD (0, 0)).1, (1 + (k : Int) * step) * ((W[k]?).getD (0, 0)).2)
def lsU (step : Int) (W : List (Int × Int)) (n : Nat) : List (Int × Int) := (List.range n).map (lsF step W)
theorem lsU_succ (step : Int) (W : List (Int × Int)) (n : Nat) : lsU step W (n + 1) = lsU step W n ++ [lsF step W n] := by
  unfold lsU; rw [List.range_succ]; simp
theorem lsU_len (step : Int) (W : List (Int × Int)) (n : Nat) : (lsU step W n).length = n := by simp [lsU]
abbrev lsO (step : Int) (W : List (Int × Int)) : List (Int × Int) := lsU step W W.length
theorem rounds_inj {ls : List (Int × Int)} : ∀ {a b : Int}, (rounds ls a).2 = (rounds ls b).2 → a = b := by
  induction ls with
  | nil => intro a b h; exact h
  | cons p r ih =>
    intro a b h
    obtain ⟨l, c⟩ := p
    rw [rounds_cons, rounds_cons] at h
    have := ih h
    rw [← stepS_inv l a, this, stepS_inv]
def WOk (n : Int) (W : List (Int × Int)) : Prop := ∀ p ∈ W, (0 ≤ p.1 ∧ p.1 + 1 < n) ∧ (p.2 = 1 ∨ p.2 = -1)
theorem lsU_in {n step : Int} {W : List (Int × Int)} (h : WOk n W) {m : Nat} (hm : m ≤ W.length) : ∀ p ∈ lsU step W m, 0 ≤ p.1 ∧ p.1 < n - 1 := fun p hp => by
  obtain ⟨k, hk, rfl⟩ := List.mem_map.mp hp
  have hk := List.mem_range.mp hk
  have hg : W[k]? = some W[k] := List.getElem?_eq_getElem (by omega)
  unfold lsF
  rw [hg]
  have := h _ (List.mem_of_getElem? hg)
  simp only [Option.getD_some]
  omega
def Shut (ls : List (Int × Int)) (dn : List Int) : Prop := ∀ x ∈ dn, ∃ y ∈ dn, (rounds ls y).2 = x
def Cyc (ls : List (Int × Int)) (R : List Int) : Prop := ∀ (i : Nat) a, R[i]? = some a → R[(i + 1) % R.length]? = some (rounds ls a).2
theorem Cyc.shut {ls : List (Int × Int)} {R : List Int} (h : Cyc ls R) : Shut ls R := fun x hx => by
  obtain ⟨i, hi⟩ := List.mem_iff_getElem?.mp hx
  have hl := (List.getElem?_eq_some_iff.mp hi).1
  obtain ⟨j, hj, e⟩ : ∃ j, j < R.length ∧ (j + 1) % R.length = i := by
    by_cases c : i = 0
    · exact ⟨R.length - 1, by omega, by rw [show R.length - 1 + 1 = R.length by omega, Nat.mod_self, c]⟩
    · exact ⟨i - 1, by omega, by rw [Nat.mod_eq_of_lt (by omega)]; omega⟩
  have hg : R[j]? = some R[j] := List.getElem?_eq_getElem hj
  have := h j _ hg
  rw [e, hi] at this
  exact ⟨R[j], List.getElem_mem hj, (Option.some.inj this).symm⟩
theorem shut_app {ls : List (Int × Int)} {a b : List Int} (h : Shut ls a) (g : Shut ls b) : Shut ls (a ++ b) := fun x hx => by
  rcases List.mem_append.mp hx with z | z
  · obtain ⟨y, h1, h2⟩ := h x z; exact ⟨y, List.mem_append_left _ h1, h2⟩
  · obtain ⟨y, h1, h2⟩ := g x z; exact ⟨y, List.mem_append_right _ h1, h2⟩
theorem ring_ok {n : Nat} {step : Int} {W : List (Int × Int)} {dn : List Int} {start : Int} (hn : n ≤ 12) (hw : WOk n W) (hl : W.length ≤ 40) (h0 : 0 ≤ start ∧ start < n) (hst : 0 ≤ step ∧ step ≤ 1000000000) (hnd : dn.Nodup) (hr : ∀ x ∈ dn, 0 ≤ x ∧ x < (n : Int)) (hs : Shut (lsO step W) dn) (hx : ¬ start ∈ dn) :
    Sat (F_law_ring W n start step (seenL n dn)) (fun r => ∃ R, r.1 = wk (lsO step W) R ∧ r.2 = seenL n (dn ++ R) ∧ R ≠ [] ∧ start ∈ R ∧ (dn ++ R).Nodup ∧ (∀ x ∈ R, 0 ≤ x ∧ x < (n : Int)) ∧ Cyc (lsO step W) R) fun _ => False := by
  unfold F_law_ring
  sleep 11
  refine sat_whileO (fun t : List Bool × List Int × Int => ∃ R, t.1 = seenL n (dn ++ R) ∧ (dn ++ R).Nodup ∧ (∀ x ∈ R, 0 ≤ x ∧ x < (n : Int)) ∧ t.2.1 = wk (lsO step W) R ∧ (0 ≤ t.2.2 ∧ t.2.2 < n) ∧ (R ++ [t.2.2])[0]? = some start ∧ ∀ (i : Nat) a b, (R ++ [t.2.2])[i]? = some a → (R ++ [t.2.2])[i + 1]? = some b → b = (rounds (lsO step W) a).2) (fun t => t.1.countP (fun b => !b)) ?_ ?_ ?_
  · show (seenL n dn).countP _ < fuel
    have := List.countP_le_length (p := fun b => !b) (l := seenL n dn)
    rw [seenL_len] at this
    unfold fuel; omega
  · exact ⟨[], by simp, by simpa using hnd, fun _ h => (by cases h), rfl, h0, rfl, fun i a b _ e => by simp at e⟩
  · rintro ⟨sn, w, at_⟩ ⟨R, e1, nd, hR, e2, hat, e3, hch⟩
    simp only at e1 e2 hat e3 hch ⊢
    subst e1; subst e2
    sleep 11
    refine s_atE (seenL_at hat.1 hat.2) ?_
    refine p_if (fun hh => ?_) (fun hh => ?_)
    · sleep 11
      have hnw : ¬ at_ ∈ dn ++ R := by simpa using hh
      have hndR : (dn ++ (R ++ [at_])).Nodup := by
        rw [← List.append_assoc, List.nodup_append]
        refine ⟨nd, by simp, fun a ha b hb e => ?_⟩
        rw [List.mem_singleton] at hb
        subst hb; subst e
        exact hnw ha
      refine s_set hat.1 (by rw [seenL_len]; omega) ?_
      rw [seenL_set hat.1 hat.2]
      refine s_for W.length rfl (by omega) (fun j t => t = (wk (lsO step W) R ++ (rounds (lsU step W j) at_).1, (rounds (lsU step W j) at_).2)) ?_ (fun j t hj hi => ?_) fun t hi => ?_
      · simp [lsU, rounds]
      · subst hi
        have hg : W[j]? = some W[j] := List.getElem?_eq_getElem hj
        obtain ⟨hlo, hsg⟩ := hw _ (List.mem_of_getElem? hg)
        have hRl : R.length ≤ 12 := by
          have hp := nodup_rg n
          have h9 := sub_len (a := R) (b := rg 0 n) (List.nodup_append.mp nd).2.1 fun x hx => mem_rg.mpr (hR x hx)
          rw [rg_len] at h9; omega
        have hfl := flatMap_len (f := fun x => (rounds (lsO step W) x).1) (n := 40) R fun x => by
          have := rounds_len (lsO step W) x
          rw [lsU_len] at this
          show (rounds _ _).1.length ≤ _
          omega
        have hb : (wk (lsO step W) R ++ (rounds (lsU step W j) at_).1).length < 1000000 := by
          rw [List.length_append]
          have := rounds_len (lsU step W j) at_
          rw [lsU_len] at this
          have : (wk (lsO step W) R).length ≤ 40 * R.length := hfl
          omega
        have hlet : lsF step W j = (W[j].1, (1 + (j : Int) * step) * W[j].2) := by unfold lsF; rw [hg]; rfl
        have hjs : (j : Int) * step ≤ 40 * 1000000000 := Int.mul_le_mul (by omega) hst.2 hst.1 (by omega)
        have hj0 : 0 ≤ (j : Int) * step := Int.mul_nonneg (by omega) hst.1
        rw [lsU_succ, hlet, rounds_snoc, ← List.append_assoc]
        sleep 11
        refine s_atE (VL.atI_nat hg) ?_
        generalize W[j] = q at hlo hsg
        obtain ⟨lo, sg⟩ := q
        simp only at hlo hsg ⊢
        refine s_ite (fun hq => ?_) (fun hq => ?_)
        · sleep 11
          refine s_mulS (.inr ⟨by omega, by omega⟩) ?_
          refine s_mulS (.inr ⟨by omega, by omega⟩) ?_
          refine s_app hb ?_
          rw [firstS, stepS, if_pos hq, if_pos hq]
        · refine s_ite (fun hq2 => ?_) (fun hq2 => ?_)
          · sleep 11
            refine s_mulS (.inr ⟨by omega, by omega⟩) ?_
            refine s_mulS (.inr ⟨by omega, by omega⟩) ?_
            refine s_app hb ?_
            rw [firstS, stepS, if_neg hq, if_neg hq, if_pos hq2, if_pos hq2, Int.neg_mul]
          · sleep 11
            rw [firstS, stepS, if_neg hq, if_neg hq, if_neg hq2, if_neg hq2, List.append_nil]
      · subst hi
        have hcp : (seenL n (dn ++ R ++ [at_])).countP (fun b => !b) + 1 = (seenL n (dn ++ R)).countP (fun b => !b) := by
          rw [← seenL_set hat.1 hat.2, List.countP_set (by rw [seenL_len]; omega)]
          have e : (seenL n (dn ++ R))[at_.toNat]'(by rw [seenL_len]; omega) = false := by
            have := seenL_get (st := n) (dn := dn ++ R) (k := at_.toNat) (by omega)
            rw [List.getElem?_eq_getElem (by rw [seenL_len]; omega)] at this
            have := Option.some.inj this
            rw [this, show ((at_.toNat : Nat) : Int) = at_ by omega]
            simpa using hnw
          have hpos : 0 < (seenL n (dn ++ R)).countP (fun b => !b) := by
            rw [List.countP_pos_iff]
            exact ⟨false, by rw [← e]; exact List.getElem_mem _, rfl⟩
          rw [e]
          simp
          omega
        have hin2 := rounds_in (lsU_in (step := step) hw (Nat.le_refl _)) (s := at_) hat
        refine ⟨⟨R ++ [at_], by rw [List.append_assoc], hndR, ?_, ?_, hin2, ?_, ?_⟩, ?_⟩
        · intro x hx
          rcases List.mem_append.mp hx with h | h
          · exact hR x h
          · rw [List.mem_singleton.mp h]; exact hat
        · show wk _ R ++ _ = _
          unfold wk
          rw [List.flatMap_append]
          simp
        · rw [List.getElem?_append_left (by simp)]; exact e3
        · intro i a b h1 h2
          have hl2 := (List.getElem?_eq_some_iff.mp h2).1
          rw [List.length_append, List.length_append, List.length_singleton, List.length_singleton] at hl2
          rw [List.getElem?_append_left (by simp; omega)] at h1
          by_cases c : i + 1 < (R ++ [at_]).length
          · rw [List.getElem?_append_left c] at h2
            exact hch i a b h1 h2
          · rw [List.length_append, List.length_singleton] at c
            obtain rfl : i = R.length := by omega
            rw [List.getElem?_append_right (by simp), show R.length + 1 - (R ++ [at_]).length = 0 by simp] at h2
            rw [List.getElem?_append_right (Nat.le_refl _), Nat.sub_self] at h1
            simp only [List.getElem?_cons_zero, Option.some.injEq] at h1 h2
            rw [← h1, ← h2]
        · show (seenL n (dn ++ R ++ [at_])).countP (fun b => !b) < (seenL n (dn ++ R)).countP (fun b => !b)
          omega
    · have hin : at_ ∈ dn ++ R := by
        rw [Bool.not_eq_false'] at hh
        exact of_decide_eq_true hh
      sleep 11
      have hne : R ≠ [] := fun e => by
        subst e
        simp at e3 hin
        exact hx (by rw [← e3]; exact hin)
      have hpos := List.length_pos_iff.mpr hne
      have hz : R[R.length - 1]? = some (R[R.length - 1]'(by omega)) := List.getElem?_eq_getElem _
      generalize hzz : R[R.length - 1]'(by omega) = z at hz
      have hfz : at_ = (rounds (lsO step W) z).2 := hch (R.length - 1) z at_ (by rw [List.getElem?_append_left (by omega)]; exact hz) (by rw [List.getElem?_append_right (by omega), show R.length - 1 + 1 - R.length = 0 by omega]; rfl)
      have hzR := List.mem_of_getElem? hz
      obtain ⟨n1, n2, n3⟩ := List.nodup_append.mp nd
      have hstart : R[0]? = some start := by rwa [List.getElem?_append_left (by omega)] at e3
      have hat0 : at_ = start := by
        rcases List.mem_append.mp hin with h | h
        · obtain ⟨y, y1, y2⟩ := hs at_ h
          have := rounds_inj (y2.trans hfz)
          subst this
          exact absurd rfl (n3 _ y1 _ hzR)
        · obtain ⟨i, hi⟩ := List.mem_iff_getElem?.mp h
          have hil := (List.getElem?_eq_some_iff.mp hi).1
          by_cases c : i = 0
          · subst c; rw [hi] at hstart; exact Option.some.inj hstart
          · have hg : R[i - 1]? = some (R[i - 1]'(by omega)) := List.getElem?_eq_getElem _
            have := hch (i - 1) _ at_ (by rw [List.getElem?_append_left (by omega)]; exact hg) (by rw [show i - 1 + 1 = i by omega, List.getElem?_append_left (by omega)]; exact hi)
            have e := rounds_inj (this.symm.trans hfz)
            rw [e] at hg
            have := (List.getElem?_inj (j := R.length - 1) (show i - 1 < R.length by omega) n2).mp (hg.trans hz.symm)
            omega
      refine ⟨R, rfl, rfl, hne, List.mem_of_getElem? hstart, nd, hR, fun i a hi => ?_⟩
      have hil := (List.getElem?_eq_some_iff.mp hi).1
      by_cases c : i + 1 < R.length
      · rw [Nat.mod_eq_of_lt c]
        have hg : R[i + 1]? = some (R[i + 1]'c) := List.getElem?_eq_getElem _
        have hq : R[i + 1]'c = (rounds (lsO step W) a).2 := hch i a _ (by rw [List.getElem?_append_left hil]; exact hi) (by rw [List.getElem?_append_left c]; exact hg)
        rw [hg, hq]
      · rw [show i + 1 = R.length by omega, Nat.mod_self, hstart, ← hat0, hfz]
        have : i = R.length - 1 := by omega
        subst this
        rw [hz] at hi
        rw [Option.some.inj hi]
theorem closed_ok {n : Nat} {step : Int} {W : List (Int × Int)} (hn : 2 ≤ n ∧ n ≤ 12) (hw : WOk n W) (hl : W.length ≤ 40) (hst : 1 ≤ step ∧ step ≤ 1000000000) :
    Sat (F_law_closed W n step) (fun d => DrS 40 d ∧ ∃ Rs, Pl (lsO step W) n d Rs) fun _ => False := by
  unfold F_law_closed
  sleep 11
  refine s_rep (by omega) (by omega) ?_
  refine s_for n rfl (by omega) (fun k s => ∃ Rs : List (List Int), s.1 = Rs.map (wk (lsO step W)) ∧ s.2 = seenL n Rs.flatten ∧ Rs.flatten.Nodup ∧ (∀ x ∈ Rs.flatten, 0 ≤ x ∧ x < (n : Int)) ∧ (∀ R ∈ Rs, R ≠ [] ∧ Cyc (lsO step W) R) ∧ Shut (lsO step W) Rs.flatten ∧ Rs.length ≤ k ∧ ∀ j : Nat, j < k → (j : Int) ∈ Rs.flatten) ?_ (fun k s hk hi => ?_) fun s hi => ?_
  · refine ⟨[], rfl, ?_, List.nodup_nil, fun _ h => (by cases h), fun _ h => (by cases h), fun _ h => (by cases h), Nat.le_refl 0, fun j h => absurd h (Nat.not_lt_zero _)⟩
    refine List.ext_getElem? fun i => ?_
    by_cases hi : i < n
    · rw [seenL_get hi, List.getElem?_replicate, if_pos (by omega)]; simp
    · rw [List.getElem?_eq_none (by simp; omega), List.getElem?_eq_none (by rw [seenL_len]; omega)]
  · obtain ⟨Rs, e1, e2, nd, hr, hc, hs, hlen, hj⟩ := hi
    obtain ⟨ws, sn⟩ := s
    simp only at e1 e2 ⊢
    subst e1; subst e2
    sleep 11
    refine s_atE (seenL_at (by omega) (by omega)) ?_
    refine s_if (fun hh => ?_) (fun hh => ?_)
    · sleep 11
      have hnd : ¬ (k : Int) ∈ Rs.flatten := by simpa using hh
      refine s_F (ring_ok hn.2 hw hl ⟨by omega, by omega⟩ ⟨by omega, hst.2⟩ nd hr hs hnd) fun r ⟨R, r1, r2, r3, r4, r5, r6, r7⟩ => ?_
      refine s_app (by rw [List.length_map]; omega) ?_
      refine ⟨Rs ++ [R], ?_, ?_, ?_, ?_, ?_, ?_, ?_, ?_⟩
      · rw [List.map_append, r1]; rfl
      · rw [r2]; simp
      · simpa using r5
      · intro x hx
        rw [List.flatten_append] at hx
        rcases List.mem_append.mp hx with z | z
        · exact hr x z
        · exact r6 x (by simpa using z)
      · intro R' hR'
        rcases List.mem_append.mp hR' with z | z
        · exact hc R' z
        · rw [List.mem_singleton.mp z]; exact ⟨r3, r7⟩
      · rw [List.flatten_append]
        exact shut_app hs (by simpa using r7.shut)
      · simp; omega
      · intro j h
        rw [List.flatten_append]
        by_cases e : j = k
        · subst e; exact List.mem_append_right _ (by simpa using r4)
        · exact List.mem_append_left _ (hj j (by omega))
    · have hnd : (k : Int) ∈ Rs.flatten := by simpa using hh
      sleep 11
      refine ⟨Rs, rfl, rfl, nd, hr, hc, hs, by omega, fun j h => ?_⟩
      by_cases e : j = k
      · subst e; exact hnd
      · exact hj j (by omega)
  · obtain ⟨Rs, e1, e2, nd, hr, hc, hs, hlen, hj⟩ := hi
    obtain ⟨ws, sn⟩ := s
    simp only at e1 e2 ⊢
    subst e1
    sleep 11
    have hmul : ∀ k : Nat, k < W.length → 0 ≤ (k : Int) * step ∧ (k : Int) * step ≤ 40 * 1000000000 := fun k hk => ⟨Int.mul_nonneg (by omega) (by omega), Int.mul_le_mul (by omega) hst.2 (by omega) (by omega)⟩
    refine s_mapR (g := fun k : Int => (1 + k * step, ((W[k.toNat]?).getD (0, 0)).2)) W.length rfl (by omega) (fun k hk => ?_) ?_
    · have hg : W[k]? = some W[k] := List.getElem?_eq_getElem hk
      have := hmul k hk
      rw [mulO_ok (.inl (.inr ⟨by omega, by omega⟩)), VL.atI_nat hg]
      sleep 11
      rw [Int.toNat_natCast, hg]
      rfl
    · have hin := lsU_in (step := step) hw (Nat.le_refl _)
      have hmem : ∀ s, s ∈ Rs.flatten ↔ 0 ≤ s ∧ s < (n : Int) := fun s => ⟨hr s, fun h => by
        have := hj s.toNat (by omega)
        rwa [show ((s.toNat : Nat) : Int) = s by omega] at this⟩
      have hsnd : ∀ k : Nat, k < W.length → (((W[k]?).getD (0, 0)).2 = 1 ∨ ((W[k]?).getD (0, 0)).2 = -1) := fun k hk => by
        have hg : W[k]? = some W[k] := List.getElem?_eq_getElem hk
        rw [hg]; exact (hw _ (List.mem_of_getElem? hg)).2
      refine ⟨⟨by rw [List.length_map]; omega, by simp; omega, ?_, fun p hp => ?_, ?_⟩, Rs, rfl, fun R hR => (hc R hR).2, fun R hR => (hc R hR).1, nd, hmem, fun p hp => by have := hin p hp; omega, ?_, fun c s hcs => ?_, fun p hp => ?_⟩
      · unfold Inc
        rw [List.map_map, List.pairwise_map]
        refine (List.pairwise_lt_range (n := W.length)).imp fun {a b} hab => ?_
        show 1 + (a : Int) * step < 1 + (b : Int) * step
        have := Int.mul_lt_mul_of_pos_right (show (a : Int) < b by omega) (show 0 < step by omega)
        omega
      · obtain ⟨k, hk, rfl⟩ := List.mem_map.mp hp
        have hk := List.mem_range.mp hk
        have := hmul k hk
        have := hsnd k hk
        simp only [Int.toNat_natCast]
        exact ⟨by omega, by assumption⟩
      · have p1 : Rs.flatten.Perm (rg 0 n) := by
          refine (List.perm_ext_iff_of_nodup nd (nodup_rg n)).mpr fun x => ?_
          rw [mem_rg, hmem]
        show (Rs.map (wk (lsO step W))).flatten.Perm _
        have ef : (Rs.map (wk (lsO step W))).flatten = Rs.flatten.flatMap fun s => (rounds (lsO step W) s).1 := by
          clear hc hs hj e2 nd hr hlen hmem p1
          induction Rs with
          | nil => rfl
          | cons R Rs ih => rw [List.map_cons, List.flatten_cons, ih, List.flatten_cons, List.flatMap_append]
        rw [ef]
        refine (p1.flatMap_right _).trans ?_
        refine (rounds_perm hin).trans ?_
        refine both_perm (by simp [lsU]) fun k x y h1 h2 => ?_
        rw [List.map_map, List.getElem?_map] at h2
        obtain ⟨a, h3, rfl⟩ := Option.map_eq_some_iff.mp h2
        have hk : k < W.length := by
          have := (List.getElem?_eq_some_iff.mp h3).1
          simpa using this
        rw [List.getElem?_range hk] at h3
        cases h3
        unfold lsO lsU at h1
        rw [List.map_map, List.getElem?_map, List.getElem?_range hk] at h1
        simp only [Option.map_some, Option.some.injEq, Function.comp] at h1
        subst h1
        unfold lsF
        simp only [Function.comp]
        rcases hsnd k hk with e | e <;> rw [e]
        · left; omega
        · right; omega
      · rw [List.Nodup, List.pairwise_map]
        unfold lsO lsU
        rw [List.pairwise_map]
        refine (List.Pairwise.and_mem.mp (List.pairwise_lt_range (n := W.length))).imp ?_
        rintro a b ⟨ha, hb, hab⟩ e
        have ha := List.mem_range.mp ha
        have hb := List.mem_range.mp hb
        have m1 := hmul a ha
        have m2 := hmul b hb
        have lt := Int.mul_lt_mul_of_pos_right (show (a : Int) < b by omega) (show 0 < step by omega)
        unfold lsF at e
        simp only at e
        rcases hsnd a ha with e1 | e1 <;> rcases hsnd b hb with e2 | e2 <;> rw [e1, e2] at e <;> omega
      · obtain ⟨k, hk, he⟩ := List.mem_map.mp hcs
        have hk := List.mem_range.mp hk
        simp only [Prod.mk.injEq, Int.toNat_natCast] at he
        obtain ⟨rfl, rfl⟩ := he
        have := hmul k hk
        exact ⟨by omega, hsnd k hk, ((W[k]?).getD (0, 0)).1, List.mem_map.mpr ⟨k, List.mem_range.mpr hk, rfl⟩⟩
      · obtain ⟨k, hk, rfl⟩ := List.mem_map.mp hp
        have hk := List.mem_range.mp hk
        have := hmul k hk
        exact ⟨1 + (k : Int) * step, ((W[k]?).getD (0, 0)).2, List.mem_map.mpr ⟨k, List.mem_range.mpr hk, by simp⟩, rfl, by omega, hsnd k hk⟩
end LK85
set_option maxRecDepth 100000
set_option maxHeartbeats 1000000
namespace VL
open PySem PySem.Spec PyProof.Rows L2
def Cg (p a b : Int) : Prop := ∃ k, a = b + p * k
theorem Cg.rfl' {p a : Int} : Cg p a a := ⟨0, by grind⟩
theorem Cg.symm {p a b : Int} (h : Cg p a b) : Cg p b a := by obtain ⟨k, h⟩ := h; exact ⟨-k, by grind⟩
theorem Cg.trans {p a b c : Int} (h : Cg p a b) (g : Cg p b c) : Cg p a c := by obtain ⟨k, h⟩ := h; obtain ⟨l, g⟩ := g; exact ⟨k + l, by grind⟩
theorem Cg.add {p a b c d : Int} (h : Cg p a b) (g : Cg p c d) : Cg p (a + c) (b + d) := by obtain ⟨k, h⟩ := h; obtain ⟨l, g⟩ := g; exact ⟨k + l, by grind⟩
theorem Cg.sub {p a b c d : Int} (h : Cg p a b) (g : Cg p c d) : Cg p (a - c) (b - d) := by obtain ⟨k, h⟩ := h; obtain ⟨l, g⟩ := g; exact ⟨k - l, by grind⟩
theorem Cg.mul {p a b c d : Int} (h : Cg p a b) (g : Cg p c d) : Cg p (a * c) (b * d) := by obtain ⟨k, h⟩ := h; obtain ⟨l, g⟩ := g; exact ⟨k * d + l * b + p * k * l, by grind⟩
theorem Cg.mod (p a : Int) : Cg p (a % p) a := ⟨-(a / p), by have := Int.emod_add_mul_ediv a p; grind⟩
theorem Cg.eq {p a b : Int} (h : Cg p a b) : a % p = b % p := by obtain ⟨k, rfl⟩ := h; rw [Int.add_mul_emod_self_left]
theorem Cg.of {p a b : Int} (h : a % p = b % p) : Cg p a b := (Cg.mod p a).symm.trans (h ▸ Cg.mod p b)
theorem Cg.same {p a b : Int} (h : Cg p a b) (h1 : 0 ≤ a) (h2 : a < p) (h3 : 0 ≤ b) (h4 : b < p) : a = b := by
  have := h.eq
  rwa [Int.emod_eq_of_lt h1 h2, Int.emod_eq_of_lt h3 h4] at this
theorem Cg.zero {p a : Int} : Cg p a 0 ↔ a % p = 0 := ⟨fun h => by have := h.eq; rwa [Int.zero_emod] at this, fun h => Cg.of (by rw [h, Int.zero_emod])⟩
def nt (r : List Int) (c : Nat) : Int := (r[c]?).getD 0
theorem nt_get {r : List Int} {c : Nat} {x : Int} (h : r[c]? = some x) : nt r c = x := by unfold nt; rw [h]; rfl
theorem nt_at {r : List Int} {c : Nat} (h : c < r.length) : r[c]? = some (nt r c) := by unfold nt; rw [List.getElem?_eq_getElem h]; rfl
theorem nt_atI {r : List Int} {c : Nat} (h : c < r.length) : atI r (c : Int) = some (nt r c) := by
  rw [atI_nat' (nt_at h)]
theorem nt_big {r : List Int} {c : Nat} (h : r.length ≤ c) : nt r c = 0 := by unfold nt; rw [List.getElem?_eq_none h]; rfl
theorem nt_ext {r s : List Int} (hl : r.length = s.length) (h : ∀ c, c < r.length → nt r c = nt s c) : r = s := by
  apply List.ext_getElem? 
  intro c
  by_cases hc : c < r.length
  · rw [nt_at hc, nt_at (by omega), h c hc]
  · rw [List.getElem?_eq_none (by omega), List.getElem?_eq_none (by omega)]
theorem nt_map {r : List Int} {f : Int → Int} {c : Nat} (h : c < r.length) : nt (r.map f) c = f (nt r c) := by
  unfold nt; rw [List.getElem?_map, List.getElem?_eq_getElem h]; rfl
theorem nt_set {r : List Int} {i c : Nat} {v : Int} (h : i < r.length) : nt (r.set i v) c = if c = i then v else nt r c := by
  unfold nt
  rw [List.getElem?_set]
  by_cases e : i = c
  · subst e; simp [h]
  · rw [if_neg e, if_neg (Ne.symm e)]
theorem nt_rep {n c : Nat} {x : Int} (h : c < n) : nt (List.replicate n x) c = x := by unfold nt; rw [List.getElem?_replicate, if_pos h]; rfl
theorem nt_rep0 {n c : Nat} : nt (List.replicate n 0) c = 0 := by
  by_cases h : c < n
  · exact nt_rep h
  · exact nt_big (by simp; omega)
def dot : List Int → List Int → Int
  | x :: xs, y :: ys => x * y + dot xs ys
  | _, _ => 0
theorem dot_nil (xs : List Int) : dot xs [] = 0 := by cases xs <;> rfl
theorem dot_rep0 (n : Nat) (ys : List Int) : dot (List.replicate n 0) ys = 0 := by
  induction n generalizing ys with
  | zero => rfl
  | succ n ih => cases ys with
    | nil => exact dot_nil _
    | cons y ys => simp only [List.replicate_succ, dot, ih]; omega
def addAt (xs : List Int) (i : Nat) (v : Int) : List Int := xs.set i (nt xs i + v)
theorem addAt_len (xs : List Int) (i : Nat) (v : Int) : (addAt xs i v).length = xs.length := by simp [addAt]
theorem dot_set {xs ys : List Int} {i : Nat} {v : Int} (h : i < xs.length) : dot (xs.set i v) ys = dot xs ys + (v - nt xs i) * nt ys i := by
  induction xs generalizing ys i with
  | nil => cases h
  | cons x xs ih => cases ys with
    | nil => rw [dot_nil, dot_nil]; simp [nt]
    | cons y ys => cases i with
      | zero => simp only [List.set_cons_zero, dot, nt, List.getElem?_cons_zero, Option.getD_some]; grind
      | succ i =>
        have := ih (ys := ys) (i := i) (by simpa using h)
        simp only [List.set_cons_succ, dot, this]
        have e1 : nt (x :: xs) (i + 1) = nt xs i := rfl
        have e2 : nt (y :: ys) (i + 1) = nt ys i := rfl
        rw [e1, e2]; grind
theorem dot_addAt {xs ys : List Int} {i : Nat} {v : Int} (h : i < xs.length) : dot (addAt xs i v) ys = dot xs ys + v * nt ys i := by
  unfold addAt; rw [dot_set h]; grind
theorem dot_cg {p : Int} {xs xs' : List Int} (ys : List Int) (hl : xs.length = xs'.length) (h : ∀ c, c < xs.length → Cg p (nt xs c) (nt xs' c)) : Cg p (dot xs ys) (dot xs' ys) := by
  induction xs generalizing xs' ys with
  | nil => cases xs' with
    | nil => exact .rfl'
    | cons _ _ => cases hl
  | cons x xs ih => cases xs' with
    | nil => cases hl
    | cons x' xs' => cases ys with
      | nil => rw [dot_nil, dot_nil]; exact .rfl'
      | cons y ys =>
        have h0 : Cg p x x' := h 0 (by simp)
        exact (h0.mul .rfl').add (ih ys (by simpa using hl) fun c hc => h (c + 1) (by simpa using hc))
theorem dot_comm (xs ys : List Int) : dot xs ys = dot ys xs := by
  induction xs generalizing ys with
  | nil => cases ys <;> rfl
  | cons x xs ih => cases ys with
    | nil => rfl
    | cons y ys => simp only [dot, ih ys]; grind
def mp (p : Int) (xs : List Int) : List Int := xs.map (· % p)
theorem mp_len (p : Int) (xs : List Int) : (mp p xs).length = xs.length := by simp [mp]
theorem nt_mp {p : Int} {xs : List Int} {c : Nat} (h : c < xs.length) : nt (mp p xs) c = nt xs c % p := nt_map h
theorem dot_mp (p : Int) (xs ys : List Int) : Cg p (dot (mp p xs) ys) (dot xs ys) := dot_cg ys (mp_len p xs) fun c hc => by
  rw [mp_len] at hc
  rw [nt_mp hc]; exact Cg.mod p _
def comb (f : Int → Int → Int) (xs ys : List Int) : List Int := (xs.zip ys).map fun q => f q.1 q.2
theorem comb_len {f : Int → Int → Int} {xs ys : List Int} (h : xs.length = ys.length) : (comb f xs ys).length = xs.length := by simp [comb, h]
theorem nt_comb {f : Int → Int → Int} {xs ys : List Int} {c : Nat} (h : c < xs.length) (h2 : c < ys.length) : nt (comb f xs ys) c = f (nt xs c) (nt ys c) := by
  have e : (comb f xs ys)[c]? = some (f (nt xs c) (nt ys c)) := by
    unfold comb
    rw [List.getElem?_map, show (xs.zip ys)[c]? = some (nt xs c, nt ys c) from List.getElem?_zip_eq_some.mpr ⟨nt_at h, nt_at h2⟩]; rfl
  exact nt_get e
theorem dot_lin {xs zs : List Int} (b : Int) (ys : List Int) (h : xs.length = zs.length) : dot (comb (fun x z => x - b * z) xs zs) ys = dot xs ys - b * dot zs ys := by
  induction xs generalizing zs ys with
  | nil => cases zs with
    | nil => simp [comb, dot]
    | cons _ _ => cases h
  | cons x xs ih => cases zs with
    | nil => cases h
    | cons z zs => cases ys with
      | nil => rw [dot_nil, dot_nil, dot_nil]; omega
      | cons y ys =>
        have := ih (zs := zs) ys (by simpa using h)
        have e : comb (fun x z => x - b * z) (x :: xs) (z :: zs) = (x - b * z) :: comb (fun x z => x - b * z) xs zs := rfl
        rw [e]
        simp only [dot, this]; grind
theorem dot_scale (n : Int) (xs ys : List Int) : dot (xs.map fun x => n * x) ys = n * dot xs ys := by
  induction xs generalizing ys with
  | nil => simp [dot]
  | cons x xs ih => cases ys with
    | nil => rw [dot_nil, dot_nil]; omega
    | cons y ys => simp only [List.map_cons, dot, ih ys]; grind
theorem dot_app (xs xs' ys ys' : List Int) (h : xs.length = ys.length) : dot (xs ++ xs') (ys ++ ys') = dot xs ys + dot xs' ys' := by
  induction xs generalizing ys with
  | nil => cases ys with
    | nil => simp [dot]
    | cons _ _ => cases h
  | cons x xs ih => cases ys with
    | nil => cases h
    | cons y ys => simp only [List.cons_append, dot, ih ys (by simpa using h)]; grind
end VL
set_option maxRecDepth 100000
set_option maxHeartbeats 1000000
namespace VL
open PySem PySem.Spec PyProof.Rows L2
local macro_rules | `(tactic| sleep 11) => `(tactic| simp only [Out.bind_ok, Out.bind_exn, noX_ok, lift_some, flowT_ret, flowT_nxt, flowF_ret, flowF_nxt, sat_bind, sat_ok, sat_exn, sat_noX, eta2, Out.bind_id])
structure PrP (p : Int) : Prop where
  ge : 2 ≤ p
  le : p ≤ 100000
  no : ∀ s : Int, 2 ≤ s → s * s ≤ p → p % s ≠ 0
theorem sq_lt {s n : Int} (h : s * s ≤ n) (hn : n ≤ 100000) : s ≤ 316 := by
  by_cases c : s ≤ 316
  · exact c
  · have := Int.mul_le_mul (show (317 : Int) ≤ s by omega) (show (317 : Int) ≤ s by omega) (by omega) (by omega)
    omega
theorem sq_le {s t n : Int} (h : t * t ≤ n) (h0 : 0 ≤ s) (h1 : s ≤ t) : s * s ≤ n := Int.le_trans (Int.mul_le_mul h1 h1 h0 (by omega)) h
theorem PrP.co {p a g : Int} (h : PrP p) (ha : 0 < a) (hl : a < p) (hg : 0 < g) (h1 : g ∣ p) (h2 : g ∣ a) : g = 1 := by
  by_cases e : g = 1
  · exact e
  · have hga := Int.le_of_dvd ha h2
    obtain ⟨k, hk⟩ := h1
    have hp := h.ge
    have hk0 : 2 ≤ k := by
      by_cases c : 2 ≤ k
      · exact c
      · have := Int.mul_le_mul_of_nonneg_left (show k ≤ 1 by omega) (show 0 ≤ g by omega)
        omega
    exfalso
    by_cases c : g ≤ k
    · have := Int.mul_le_mul_of_nonneg_left c (show 0 ≤ g by omega)
      exact h.no g (by omega) (by omega) (by rw [hk, Int.mul_emod_right])
    · have := Int.mul_le_mul_of_nonneg_right (show k ≤ g by omega) (show 0 ≤ k by omega)
      exact h.no k (by omega) (by omega) (by rw [hk, Int.mul_emod_left])
theorem all_prime {V : Int} (h2 : 2 ≤ V) (hV : V ≤ 100000) : (((rg 2 317).filter fun s => decide (s * s ≤ V)).map fun s => decide (V % s > 0)).all id = true ↔ PrP V := by
  rw [List.all_eq_true]
  refine ⟨fun h => ⟨h2, hV, fun s h1 h2 e => ?_⟩, fun h b hb => ?_⟩
  · have := h (decide (V % s > 0)) (List.mem_map.mpr ⟨s, List.mem_filter.mpr ⟨mem_rg.mpr ⟨h1, by have := sq_lt h2 hV; omega⟩, by simpa using h2⟩, rfl⟩)
    simp [e] at this
  · obtain ⟨s, hs, rfl⟩ := List.mem_map.mp hb
    rw [List.mem_filter, mem_rg] at hs
    have := h.no s hs.1.1 (by simpa using hs.2)
    have h9 := Int.emod_nonneg V (show s ≠ 0 by omega)
    simp only [id]
    exact decide_eq_true (by omega)
theorem pr_by (p : Int) (h2 : 2 ≤ p) (hp : p ≤ 100000) (h : (((rg 2 317).filter fun s => decide (s * s ≤ p)).map fun s => decide (p % s > 0)).all id = true) : PrP p := (all_prime h2 hp).mp h
theorem is_prime_ok (n : Int) : Sat (XR.F_is_prime n) (fun b => b = true ↔ PrP n) fun _ => False := by
  unfold XR.F_is_prime
  refine s_if (fun hc => ?_) fun hc => ?_
  · rw [sat_ok]
    rw [Bool.or_eq_true, decide_eq_true_iff, decide_eq_true_iff] at hc
    exact ⟨fun z => (by cases z), fun z => by have := z.ge; have := z.le; omega⟩
  · rw [Bool.or_eq_false_iff, decide_eq_false_iff_not, decide_eq_false_iff_not] at hc
    sleep 11
    refine sat_whileF (fun V => 2 ≤ V ∧ V ≤ 317 ∧ ∀ s, 2 ≤ s → s < V → s * s ≤ n → n % s ≠ 0) (fun V => (400 - V).toNat) (by unfold fuel; omega) ⟨by omega, by omega, fun s h1 h2 => by omega⟩ fun V ⟨v1, v2, v3⟩ => ?_
    rw [mulO_ok (.inl (.inl ⟨by omega, by omega⟩))]
    sleep 11
    refine p_if (fun hc => ?_) fun hc => ?_
    · have hc := of_decide_eq_true hc
      have := sq_lt hc (by omega)
      rw [modO_ok (by omega)]
      sleep 11
      refine s_ite (fun hq => ?_) fun hq => ?_
      · sleep 11
        exact ⟨fun z => (by cases z), fun z => absurd hq (z.no V v1 hc)⟩
      · sleep 11
        refine ⟨⟨by omega, by omega, fun s h1 h2 h3 => ?_⟩, by omega⟩
        by_cases e : s = V
        · subst e; exact hq
        · exact v3 s h1 (by omega) h3
    · have hc := of_decide_eq_false hc
      sleep 11
      refine ⟨fun _ => ⟨by omega, by omega, fun s h1 h2 => ?_⟩, fun _ => (by trivial)⟩
      refine v3 s h1 ?_ h2
      by_cases e : s < V
      · exact e
      · exact absurd (sq_le h2 (by omega) (by omega)) hc
theorem asked_prime_ok {p f : Int} (h : PrP p) (hf : f % p ≠ 0) : XR.F_asked_prime p f = .ok () := by
  refine Sat.eq ?_
  unfold XR.F_asked_prime
  sleep 11
  refine s_F (is_prime_ok p) fun b hb => ?_
  rw [hb.mpr h]
  simp only [Bool.not_true, Bool.false_eq_true, if_false]
  have := h.ge
  rw [modO_ok (by omega)]
  sleep 11
  rw [decide_eq_false hf]
  simp only [Bool.false_eq_true, if_false]
  sleep 11
end VL
set_option maxRecDepth 100000
set_option maxHeartbeats 1000000
namespace VL
open PySem PySem.Spec PyProof.Rows L2
local macro_rules | `(tactic| sleep 11) => `(tactic| simp only [Out.bind_ok, Out.bind_exn, noX_ok, lift_some, flowT_ret, flowT_nxt, flowF_ret, flowF_nxt, sat_bind, sat_ok, sat_exn, sat_noX, eta2, Out.bind_id])
def eq0 (n : Nat) (f : Int) (m : Mt) : List Int := addAt (addAt (addAt (List.replicate n 0) (inA m).toNat f) m.2.2.1.toNat (1 - f)) (outA m).toNat (-1)
def eqR (n : Nat) (p f : Int) (m : Mt) : List Int := mp p (eq0 n f m)
def eqsF (p f : Int) (d : Dr) : List (List Int) := (meetsF d).map (eqR (cntN d.1) p f)
theorem eq0_len (n : Nat) (f : Int) (m : Mt) : (eq0 n f m).length = n := by simp [eq0, addAt_len]
theorem eqR_len (n : Nat) (p f : Int) (m : Mt) : (eqR n p f m).length = n := by rw [eqR, mp_len, eq0_len]
theorem MtIn.ab {n : Nat} {m : Mt} (h : MtIn n m) : (0 ≤ inA m ∧ inA m < n) ∧ (0 ≤ m.2.2.1 ∧ m.2.2.1 < n) ∧ 0 ≤ outA m ∧ outA m < n := by
  obtain ⟨h1, h2, h3⟩ := h
  unfold inA outA
  split <;> omega
theorem eqR_dot {n : Nat} {p f : Int} {m : Mt} (h : MtIn n m) (ys : List Int) : Cg p (dot (eqR n p f m) ys) (f * nt ys (inA m).toNat + (1 - f) * nt ys m.2.2.1.toNat - nt ys (outA m).toNat) := by
  obtain ⟨h1, h2, h3⟩ := h.ab
  refine (dot_mp p _ ys).trans ?_
  unfold eq0
  rw [dot_addAt (by simp [addAt_len]; omega), dot_addAt (by simp [addAt_len]; omega), dot_addAt (by simp; omega), dot_rep0]
  exact ⟨0, by grind⟩
theorem mp_rep0 (p : Int) (n : Nat) : mp p (List.replicate n 0) = List.replicate n 0 := by simp [mp]
theorem mp_add (p : Int) (xs : List Int) (i : Nat) (v : Int) (h : i < xs.length) : (mp p xs).set i ((nt (mp p xs) i + v) % p) = mp p (addAt xs i v) := by
  rw [nt_mp h]
  unfold mp addAt
  rw [List.map_set, Int.emod_add_emod]
theorem add3_ok {p : Int} (hp : 0 < p) {n : Nat} {a b c : Int} {f g k : Int} (ha : 0 ≤ a ∧ a < n) (hb : 0 ≤ b ∧ b < n) (hc : 0 ≤ c ∧ c < n) :
    forO (fun (V353 : (List Int)) (x354 : (Int × Int)) => ((lift (atI V353 x354.1)).bind fun t1 => (lift (modO (t1 + x354.2) p)).bind fun v => (lift (setO V353 x354.1 v)))) (List.replicate n 0) [(a, f), (b, g), (c, k)] = .ok (mp p (addAt (addAt (addAt (List.replicate n 0) a.toNat f) b.toNat g) c.toNat k)) := by
  have one : ∀ (xs : List Int) (i v : Int), xs.length = n → 0 ≤ i → i < n → ((lift (atI (mp p xs) i)).bind fun t1 => (lift (modO (t1 + v) p)).bind fun v => (lift (setO (mp p xs) i v))) = .ok (mp p (addAt xs i.toNat v)) := fun xs i v hl h0 h1 => by
    have e : atI (mp p xs) i = some (nt (mp p xs) i.toNat) := by
      rw [show i = ((i.toNat : Nat) : Int) by omega, Int.toNat_natCast]
      exact nt_atI (by rw [mp_len]; omega)
    rw [e, lift_some, Out.bind_ok, modO_ok hp, lift_some, Out.bind_ok, setO_ok h0 (by rw [mp_len]; omega), lift_some, mp_add p xs _ v (by omega)]
  rw [← mp_rep0 p n]
  simp only [forO]
  rw [one _ _ _ (by simp) ha.1 ha.2, Out.bind_ok, one _ _ _ (by simp [addAt_len]) hb.1 hb.2, Out.bind_ok, one _ _ _ (by simp [addAt_len]) hc.1 hc.2, Out.bind_ok, mp_rep0]
theorem equations_ok {most : Nat} {d : Dr} {p f : Int} (h : DrS most d) (hm : most ≤ 40) (hp : PrP p) (hf : f % p ≠ 0) : XR.F_equations d p f = .ok (eqsF p f d) := by
  have hw := h.wl
  have h2 := h.cnt_le
  have hl : ∀ w ∈ d.1, w.length ≤ 1000 := fun w hw => by have := h.row hw; omega
  have p0 := hp.ge
  have hs := h.sl
  unfold XR.F_equations
  rw [asked_prime_ok hp hf, meets_ok h hm]
  sleep 11
  rw [s_forApp (g := eqR (cntN d.1) p f) (meetsF d) [] (fun t m hmm ht => ?_) (by simp [meetsF]; omega)]
  · sleep 11; simp [eqsF]
  · obtain ⟨h1, h2, h3⟩ := (meet_in h hmm).ab
    rw [arc_count_ok hl, cnt_N, Int.zero_add]
    sleep 11
    rw [rep1_ok (by omega) (by omega), lift_some, Int.toNat_natCast]
    sleep 11
    have fin : ∀ a b, a = inA m → b = outA m → ((forO (fun (V353 : (List Int)) (x354 : (Int × Int)) => ((lift (atI V353 x354.1)).bind fun t1 => (lift (modO (t1 + x354.2) p)).bind fun v => (lift (setO V353 x354.1 v)))) (List.replicate (cntN d.1) 0) [(a, f), (m.2.2.1, 1 - f), (b, -1)]).bind fun V => lift (appO t V)) = .ok (t ++ [eqR (cntN d.1) p f m]) := fun a b ea eb => by
      subst ea; subst eb
      rw [add3_ok (by omega) h1 h2 h3, Out.bind_ok, appO_ok (by omega)]
      rfl
    by_cases c : m.2.1 < 0
    · rw [decide_eq_true c]
      simp only [if_true]
      sleep 11
      simp only [Out.bind_assoc, Out.bind_ok]
      exact fin _ _ (by unfold inA; rw [if_pos c]) (by unfold outA; rw [if_pos c])
    · rw [decide_eq_false c]
      simp only [Bool.false_eq_true, if_false]
      sleep 11
      simp only [Out.bind_assoc, Out.bind_ok]
      exact fin _ _ (by unfold inA; rw [if_neg c]) (by unfold outA; rw [if_neg c])
def Rst (p : Int) (r : List Int) : Prop := ∀ x ∈ r, 0 ≤ x ∧ x < p
theorem mp_rst {p : Int} (hp : 0 < p) (xs : List Int) : Rst p (mp p xs) := fun x hx => by
  obtain ⟨y, _, rfl⟩ := List.mem_map.mp hx
  exact ⟨Int.emod_nonneg _ (by omega), Int.emod_lt_of_pos _ hp⟩
theorem eqs_rst {p f : Int} {d : Dr} (hp : 0 < p) {r : List Int} (h : r ∈ eqsF p f d) : Rst p r ∧ r.length = cntN d.1 := by
  obtain ⟨m, _, rfl⟩ := List.mem_map.mp h
  exact ⟨mp_rst hp _, eqR_len _ _ _ _⟩
theorem Rst.nt {p : Int} {r : List Int} (h : Rst p r) {c : Nat} (hc : c < r.length) : 0 ≤ nt r c ∧ nt r c < p := h _ (List.mem_of_getElem? (nt_at hc))
def keepB (p : Int) (rows : List (List Int)) (ys : List Int) : Bool := rows.all fun r => decide (dot r ys % p = 0)
end VL
set_option maxRecDepth 100000
set_option maxHeartbeats 1000000
namespace VL
open PySem PySem.Spec PyProof.Rows L2
local macro_rules | `(tactic| sleep 11) => `(tactic| simp only [Out.bind_ok, Out.bind_exn, noX_ok, lift_some, flowT_ret, flowT_nxt, flowF_ret, flowF_nxt, sat_bind, sat_ok, sat_exn, sat_noX, eta2, Out.bind_id])
theorem way_back_ok {p a : Int} (hp : PrP p) (h0 : 0 < a) (h1 : a < p) : Sat (XR2.F_way_back a p) (fun b => 0 ≤ b ∧ b < p ∧ Cg p (b * a) 1) fun _ => False := by
  have p2 := hp.ge
  have p9 := hp.le
  unfold XR2.F_way_back
  sleep 11
  refine s_mod (by omega) ?_
  rw [Int.emod_eq_of_lt (by omega) h1]
  refine sat_whileO (fun V => (0 < V.1 ∧ V.1 ≤ 100000) ∧ (0 ≤ V.2.1 ∧ V.2.1 ≤ 100000) ∧ Cg p (V.2.2.1 * a) V.1 ∧ Cg p (V.2.2.2 * a) V.2.1 ∧ ∀ g, g ∣ V.1 → g ∣ V.2.1 → g ∣ p ∧ g ∣ a) (fun V => V.2.1.toNat) (by unfold fuel; simp only; omega) ⟨by simp only; omega, by simp only; omega, ⟨-1, by simp only; grind⟩, ⟨0, by simp only; grind⟩, fun g x y => ⟨x, y⟩⟩ fun V hV => ?_
  obtain ⟨one, other, left, right⟩ := V
  obtain ⟨h2, h3, h4, h5, h6⟩ := hV
  simp only at h2 h3 h4 h5 h6
  sleep 11
  refine p_if (fun hc => ?_) fun hc => ?_
  · have hc : other > 0 := of_decide_eq_true hc
    refine s_fd (divW hc 16 (by omega) (by decide)) ?_
    have hw0 := Int.ediv_nonneg (show 0 ≤ one by omega) (show 0 ≤ other by omega)
    have hw1 := Int.ediv_le_self other (show 0 ≤ one by omega)
    refine s_mulS (.inl ⟨by omega, by omega⟩) ?_
    refine s_mulS (.inl ⟨by omega, by omega⟩) ?_
    have hm : one - one / other * other = one % other := by have := Int.emod_def one other; grind
    have m0 := Int.emod_nonneg one (show other ≠ 0 by omega)
    have m1 := Int.emod_lt_of_pos one hc
    rw [hm]
    refine ⟨⟨⟨hc, h3.2⟩, ⟨m0, by omega⟩, h5, ?_, fun g x y => h6 g ?_ x⟩, by omega⟩
    · rw [← hm]
      refine Cg.trans ⟨0, ?_⟩ (h4.sub ((Cg.rfl' (a := one / other)).mul h5))
      grind
    · rw [← hm] at y
      obtain ⟨k, hk⟩ := x
      obtain ⟨l, hl⟩ := y
      generalize one / other = w at *
      exact ⟨l + w * k, by grind⟩
  · have hc : ¬ other > 0 := of_decide_eq_false hc
    have e : other = 0 := by omega
    subst e
    sleep 11
    obtain ⟨d1, d2⟩ := h6 one ⟨1, by omega⟩ ⟨0, by omega⟩
    have e1 := hp.co h0 h1 h2.1 d1 d2
    subst e1
    refine s_modB (by omega) fun z hz z0 z1 => ⟨z0, z1, ?_⟩
    subst hz
    exact ((Cg.mod p left).mul Cg.rfl').trans h4
def lessF (p b : Int) (row other : List Int) : List Int := mp p (comb (fun x z => x - b * z) row other)
theorem less_len {p b : Int} {row other : List Int} (h : row.length = other.length) : (lessF p b row other).length = row.length := by rw [lessF, mp_len, comb_len h]
theorem less_nt {p b : Int} {row other : List Int} (h : row.length = other.length) {c : Nat} (hc : c < row.length) : nt (lessF p b row other) c = (nt row c - b * nt other c) % p := by
  unfold lessF; rw [nt_mp (by rw [comb_len h]; exact hc), nt_comb hc (by omega)]
theorem less_dot {p b : Int} {row other : List Int} (h : row.length = other.length) (ys : List Int) : Cg p (dot (lessF p b row other) ys) (dot row ys - b * dot other ys) := by
  refine (dot_mp p _ ys).trans ?_
  rw [dot_lin b ys h]; exact .rfl'
theorem made_less_ok {p b : Int} {row other : List Int} (hp : 0 < p) (hb : 0 ≤ b ∧ b ≤ 100000) (hl : row.length ≤ 100000) : XR2.F_made_less row b other p = .ok (lessF p b row other) := by
  unfold XR2.F_made_less
  rw [mapL_ok (g := fun q => (q.1 - b * q.2) % p) (by simp only [List.length_zip]; omega) fun x _ => ?_]
  · unfold lessF mp comb
    rw [List.map_map]; rfl
  · rw [mulO_ok (.inl (.inl ⟨by omega, by omega⟩))]
    sleep 11
    rw [modO_ok hp]
    sleep 11
def leadF (p b : Int) (R : List Int) : List Int := mp p (R.map fun x => b * x)
theorem lead_len (p b : Int) (R : List Int) : (leadF p b R).length = R.length := by simp [leadF, mp_len]
theorem lead_nt {p b : Int} {R : List Int} {c : Nat} (hc : c < R.length) : nt (leadF p b R) c = (b * nt R c) % p := by
  unfold leadF; rw [nt_mp (by simpa using hc), nt_map hc]
theorem lead_dot (p b : Int) (R ys : List Int) : Cg p (dot (leadF p b R) ys) (b * dot R ys) := by
  refine (dot_mp p _ ys).trans ?_
  rw [dot_scale]; exact .rfl'
def elF (p : Int) (j : Nat) (lead X : List Int) : List Int := lessF p (nt X j) X lead
theorem cleared_ok {p : Int} {N j : Nat} {A D : List (List Int)} {R : List Int} (hp : PrP p) (hN : N ≤ 1000) (hm : (A ++ R :: D).length ≤ 1000) (hr : ∀ X ∈ A ++ R :: D, Rst p X ∧ X.length = N) (hj : j < N) (h0 : nt R j ≠ 0) :
    Sat (XR2.F_cleared (A ++ R :: D) (A.length : Int) (j : Int) p) (fun rows => ∃ b, 0 ≤ b ∧ b < p ∧ Cg p (b * nt R j) 1 ∧ rows = A.map (elF p j (leadF p b R)) ++ leadF p b R :: D.map (elF p j (leadF p b R))) fun _ => False := by
  have p2 := hp.ge
  have p9 := hp.le
  obtain ⟨hR, hRl⟩ := hr R (by simp)
  have hRj := hR.nt (c := j) (by omega)
  unfold XR2.F_cleared
  have ea : atI (A ++ R :: D) (A.length : Int) = some R := atI_nat' (by simp)
  rw [ea]
  sleep 11
  rw [nt_atI (by omega)]
  sleep 11
  refine s_F (way_back_ok hp (by omega) hRj.2) fun b ⟨b0, b1, b2⟩ => ?_
  rw [mapL_ok (g := fun x => (b * x) % p) (by omega) fun x _ => by
    rw [mulO_ok (.inl (.inl ⟨by omega, by omega⟩)), lift_some, Out.bind_ok, modO_ok (by omega)]; rfl]
  sleep 11
  have el : (R.map fun x => b * x % p) = leadF p b R := by unfold leadF mp; rw [List.map_map]; rfl
  rw [el]
  rw [s_forApp (g := fun x : Int × List Int => if x.1 = (A.length : Int) then leadF p b R else elF p j (leadF p b R) x.2) (enumF (A ++ R :: D)) [] (fun t x hx ht => ?_) (by simp [enumF] at hm ⊢; omega)]
  · sleep 11
    refine ⟨b, b0, b1, b2, ?_⟩
    rw [List.nil_append]
    apply List.ext_getElem?
    intro i
    unfold enumF
    rw [List.getElem?_map, List.getElem?_map, List.getElem?_zipIdx]
    by_cases c1 : i < A.length
    · rw [List.getElem?_append_left c1, List.getElem?_append_left (by simpa using c1), List.getElem?_map, List.getElem?_eq_getElem c1]
      simp only [Option.map_some]
      rw [if_neg (by omega)]
    · rw [List.getElem?_append_right (by omega), List.getElem?_append_right (by simp; omega), List.length_map]
      by_cases c2 : i = A.length
      · subst c2
        simp
      · obtain ⟨q, hq⟩ : ∃ q, i - A.length = q + 1 := ⟨i - A.length - 1, by omega⟩
        rw [hq, List.getElem?_cons_succ, List.getElem?_cons_succ, List.getElem?_map]
        cases hD : D[q]? with
        | none => rfl
        | some X =>
          simp only [Option.map_some]
          rw [if_neg (by omega)]
  · obtain ⟨k, hk⟩ := List.getElem?_of_mem hx
    obtain ⟨X, hX, rfl⟩ := enumF_get hk
    obtain ⟨hXr, hXl⟩ := hr X (List.mem_of_getElem? hX)
    by_cases c : (k : Int) = (A.length : Int)
    · simp only [decide_eq_true c, if_true, if_pos c]
      sleep 11
      rw [appO_ok (by omega)]
      sleep 11
    · simp only [decide_eq_false c, Bool.false_eq_true, if_false, if_neg c]
      sleep 11
      have := hXr.nt (c := j) (by omega)
      rw [nt_atI (by omega)]
      sleep 11
      rw [made_less_ok (by omega) (by omega) (by omega)]
      sleep 11
      rw [appO_ok (by omega)]
      sleep 11
      rfl
end VL
set_option maxRecDepth 100000
set_option maxHeartbeats 1000000
namespace VL
open PySem PySem.Spec PyProof.Rows L2
local macro_rules | `(tactic| sleep 11) => `(tactic| simp only [Out.bind_ok, Out.bind_exn, noX_ok, lift_some, flowT_ret, flowT_nxt, flowF_ret, flowF_nxt, sat_bind, sat_ok, sat_exn, sat_noX, eta2, Out.bind_id])
def Kr (p : Int) (rows : List (List Int)) (ys : List Int) : Prop := ∀ r ∈ rows, Cg p (dot r ys) 0
theorem keepB_iff {p : Int} {rows : List (List Int)} {ys : List Int} : keepB p rows ys = true ↔ Kr p rows ys := by
  unfold keepB Kr
  rw [List.all_eq_true]
  exact ⟨fun h r hr => Cg.zero.mpr (of_decide_eq_true (h r hr)), fun h r hr => decide_eq_true (Cg.zero.mp (h r hr))⟩
theorem Kr_clear {p b : Int} {N j : Nat} {A D : List (List Int)} {R : List Int} (hl : ∀ X ∈ A ++ R :: D, X.length = N) (hb : Cg p (b * nt R j) 1) (ys : List Int) :
    Kr p (A.map (elF p j (leadF p b R)) ++ leadF p b R :: D.map (elF p j (leadF p b R))) ys ↔ Kr p (A ++ R :: D) ys := by
  have hlead := lead_dot p b R ys
  have hR : R.length = N := hl R (by simp)
  have hel : ∀ X ∈ A ++ R :: D, Cg p (dot (elF p j (leadF p b R) X) ys) (dot X ys - nt X j * dot (leadF p b R) ys) := fun X hX => less_dot (by rw [lead_len, hl X hX, hR]) ys
  constructor
  · intro h X hX
    have h1 : Cg p (dot (leadF p b R) ys) 0 := h _ (by simp)
    have key : ∀ Y ∈ A ++ R :: D, Cg p (dot (elF p j (leadF p b R) Y) ys) 0 → Cg p (dot Y ys) 0 := fun Y hY hz => by
      have h2 := hel Y hY
      have h3 := (h2.symm.trans hz).add ((Cg.rfl' (a := nt Y j)).mul h1)
      obtain ⟨k, hk⟩ := h3
      exact ⟨k, by grind⟩
    rcases List.mem_append.mp hX with z | z
    · exact key X hX (h _ (List.mem_append_left _ (List.mem_map_of_mem z)))
    · rcases List.mem_cons.mp z with rfl | z
      · have h2 := hb.mul (Cg.rfl' (a := dot X ys))
        have h3 := (Cg.rfl' (a := nt X j)).mul (hlead.symm.trans h1)
        obtain ⟨k, hk⟩ := h2
        obtain ⟨l, hl⟩ := h3
        exact ⟨l - k, by grind⟩
      · exact key X hX (h _ (List.mem_append_right _ (List.mem_cons_of_mem _ (List.mem_map_of_mem z))))
  · intro h
    have hR0 : Cg p (dot R ys) 0 := h R (by simp)
    have h1 : Cg p (dot (leadF p b R) ys) 0 := hlead.trans (((Cg.rfl' (a := b)).mul hR0).trans ⟨0, by grind⟩)
    have key : ∀ Y ∈ A ++ R :: D, Cg p (dot (elF p j (leadF p b R) Y) ys) 0 := fun Y hY => (hel Y hY).trans (((h Y hY).sub ((Cg.rfl' (a := nt Y j)).mul h1)).trans ⟨0, by grind⟩)
    intro X hX
    rcases List.mem_append.mp hX with z | z
    · obtain ⟨Y, hY, rfl⟩ := List.mem_map.mp z
      exact key Y (List.mem_append_left _ hY)
    · rcases List.mem_cons.mp z with rfl | z
      · exact h1
      · obtain ⟨Y, hY, rfl⟩ := List.mem_map.mp z
        exact key Y (List.mem_append_right _ (List.mem_cons_of_mem _ hY))
theorem first_row_ok {A D : List (List Int)} {N j : Nat} (hl : ∀ X ∈ A ++ D, X.length = N) (hj : j < N) (hm : (A ++ D).length ≤ 1000) :
    Sat (XR2.F_first_row (A ++ D) (A.length : Int) (j : Int)) (fun o => (o = none ∧ ∀ X ∈ D, nt X j = 0) ∨ ∃ B R C, D = B ++ R :: C ∧ o = some ((A.length + B.length : Nat) : Int) ∧ nt R j ≠ 0 ∧ ∀ X ∈ B, nt X j = 0) fun _ => False := by
  unfold XR2.F_first_row
  rw [List.length_append] at hm
  rw [rgO_ok (by rw [List.length_append]; omega)]
  sleep 11
  refine sat_forF (fun k _ => ∀ X ∈ D.take k, nt X j = 0) (by simp) (fun k s x hx hI => ?_) fun s hI => ?_
  · obtain ⟨h1, h2⟩ := rg_getE hx
    rw [List.length_append] at h2
    have hk : k < D.length := by omega
    have e : atI (A ++ D) x = some D[k] := by
      rw [h1, show ((A.length : Int) + (k : Int)) = ((A.length + k : Nat) : Int) by omega]
      exact atI_nat' (by rw [List.getElem?_append_right (by omega), Nat.add_sub_cancel_left, List.getElem?_eq_getElem hk])
    have hlk : D[k].length = N := hl _ (List.mem_append_right _ (List.getElem_mem hk))
    rw [e]
    sleep 11
    rw [nt_atI (by omega)]
    sleep 11
    by_cases c : nt D[k] j = 0
    · rw [decide_eq_true c]
      simp only [Bool.not_true, Bool.false_eq_true, if_false]
      sleep 11
      intro X hX
      rw [List.take_add_one, List.getElem?_eq_getElem hk] at hX
      rcases List.mem_append.mp hX with z | z
      · exact hI X z
      · simp at z; subst z; exact c
    · rw [decide_eq_false c]
      simp only [Bool.not_false, if_true]
      sleep 11
      refine .inr ⟨D.take k, D[k], D.drop (k + 1), ?_, ?_, c, hI⟩
      · rw [List.getElem_cons_drop, List.take_append_drop]
      · rw [List.length_take, Nat.min_eq_left (by omega), h1]
        congr 1
  · sleep 11
    left
    refine ⟨trivial, fun X hX => hI X ?_⟩
    rw [rg_len, List.take_of_length_le (by rw [List.length_append]; omega)]
    exact hX
structure Red (p : Int) (N : Nat) (rows0 : List (List Int)) (j : Nat) (A D : List (List Int)) (tied : List Int) : Prop where
  len : (A ++ D).length = rows0.length
  row : ∀ X ∈ A ++ D, Rst p X ∧ X.length = N
  ker : ∀ ys, Kr p (A ++ D) ys ↔ Kr p rows0 ys
  al : A.length = tied.length
  tin : ∀ t ∈ tied, 0 ≤ t ∧ t < (j : Int)
  inc : tied.Pairwise (· < ·)
  one : ∀ (i k : Nat) (X : List Int) (t : Int), A[i]? = some X → tied[k]? = some t → nt X t.toNat = if i = k then 1 else 0
  zero : ∀ X ∈ D, ∀ c, c < j → nt X c = 0
  ech : ∀ (i : Nat) (X : List Int) (t : Int), A[i]? = some X → tied[i]? = some t → ∀ c : Nat, (c : Int) < t → nt X c = 0
theorem Red.start {p : Int} {N : Nat} {rows0 : List (List Int)} (h : ∀ X ∈ rows0, Rst p X ∧ X.length = N) : Red p N rows0 0 [] rows0 [] :=
  ⟨rfl, h, fun _ => Iff.rfl, rfl, fun t ht => (by cases ht), .nil, fun i k X t h => (by cases h), fun X _ c hc => (by omega), fun i X t h => (by cases h)⟩
theorem Red.skip {p : Int} {N j : Nat} {rows0 A D : List (List Int)} {tied : List Int} (h : Red p N rows0 j A D tied) (hz : ∀ X ∈ D, nt X j = 0) : Red p N rows0 (j + 1) A D tied :=
  ⟨h.len, h.row, h.ker, h.al, fun t ht => by have := h.tin t ht; omega, h.inc, h.one, fun X hX c hc => by
    by_cases e : c = j
    · subst e; exact hz X hX
    · exact h.zero X hX c (by omega), h.ech⟩
theorem Red.step {p b : Int} {N j : Nat} {rows0 A B C : List (List Int)} {R : List Int} {tied : List Int} (hp : 2 ≤ p) (h : Red p N rows0 j A (B ++ R :: C) tied) (hj : j < N) (hb : Cg p (b * nt R j) 1) :
    Red p N rows0 (j + 1) (A.map (elF p j (leadF p b R)) ++ [leadF p b R]) ((B ++ C).map (elF p j (leadF p b R))) (tied ++ [(j : Int)]) := by
  have hmem : ∀ X, X ∈ A ++ R :: (B ++ C) ↔ X ∈ A ++ (B ++ R :: C) := fun X => by
    simp only [List.mem_append, List.mem_cons]
    constructor <;> intro z <;> rcases z with z | z | z | z <;> simp [z]
  have hrow : ∀ X ∈ A ++ R :: (B ++ C), Rst p X ∧ X.length = N := fun X hX => h.row X ((hmem X).mp hX)
  obtain ⟨hR, hRl⟩ := hrow R (by simp)
  have hll : (leadF p b R).length = N := by rw [lead_len, hRl]
  have hR0 : ∀ c, c < j → nt R c = 0 := h.zero R (by simp)
  have l0 : ∀ c, c < j → nt (leadF p b R) c = 0 := fun c hc => by rw [lead_nt (by omega), hR0 c hc]; simp
  have l1 : nt (leadF p b R) j = 1 := by
    rw [lead_nt (by omega), hb.eq, Int.emod_eq_of_lt (by omega) (by omega)]
  have el_len : ∀ X, X.length = N → (elF p j (leadF p b R) X).length = N := fun X hX => by unfold elF; rw [less_len (by rw [hX, hll]), hX]
  have el_nt : ∀ X, X.length = N → ∀ c, c < N → nt (elF p j (leadF p b R) X) c = (nt X c - nt X j * nt (leadF p b R) c) % p := fun X hX c hc => by unfold elF; rw [less_nt (by rw [hX, hll]) (by omega)]
  have el_lo : ∀ X, Rst p X → X.length = N → ∀ c, c < j → nt (elF p j (leadF p b R) X) c = nt X c := fun X hr hX c hc => by
    rw [el_nt X hX c (by omega), l0 c hc]
    have := hr.nt (c := c) (by omega)
    rw [Int.mul_zero, Int.sub_zero, Int.emod_eq_of_lt this.1 this.2]
  have el_j : ∀ X, X.length = N → nt (elF p j (leadF p b R) X) j = 0 := fun X hX => by
    rw [el_nt X hX j hj, l1]; simp
  have tlt : ∀ t ∈ tied, t.toNat < j ∧ 0 ≤ t := fun t ht => by have := h.tin t ht; omega
  refine ⟨?_, ?_, ?_, ?_, ?_, ?_, ?_, ?_, ?_⟩
  · have := h.len
    simp only [List.length_append, List.length_map, List.length_cons, List.length_nil] at this ⊢
    omega
  · have good : ∀ Y, (Y = leadF p b R ∨ ∃ X ∈ A ++ R :: (B ++ C), Y = elF p j (leadF p b R) X) → Rst p Y ∧ Y.length = N := fun Y hY => by
      rcases hY with rfl | ⟨X, hX, rfl⟩
      · exact ⟨mp_rst (by omega) _, hll⟩
      · exact ⟨mp_rst (by omega) _, el_len X (hrow X hX).2⟩
    intro Y hY
    apply good
    rcases List.mem_append.mp hY with z | z
    · rcases List.mem_append.mp z with z | z
      · obtain ⟨X, hX, rfl⟩ := List.mem_map.mp z
        exact .inr ⟨X, List.mem_append_left _ hX, rfl⟩
      · exact .inl (by simpa using z)
    · obtain ⟨X, hX, rfl⟩ := List.mem_map.mp z
      exact .inr ⟨X, List.mem_append_right _ (List.mem_cons_of_mem _ hX), rfl⟩
  · intro ys
    have e : A.map (elF p j (leadF p b R)) ++ [leadF p b R] ++ (B ++ C).map (elF p j (leadF p b R)) = A.map (elF p j (leadF p b R)) ++ leadF p b R :: (B ++ C).map (elF p j (leadF p b R)) := by simp
    rw [e, Kr_clear (fun X hX => (hrow X hX).2) hb, ← h.ker]
    exact ⟨fun z X hX => z X ((hmem X).mpr hX), fun z X hX => z X ((hmem X).mp hX)⟩
  · simp [h.al]
  · intro t ht
    rcases List.mem_append.mp ht with z | z
    · have := h.tin t z; omega
    · simp at z; omega
  · refine List.pairwise_append.mpr ⟨h.inc, by simp, fun s hs t ht => ?_⟩
    have := h.tin s hs
    simp at ht; omega
  · intro i k X t hX ht
    have al := h.al
    by_cases ck : k < tied.length
    · rw [List.getElem?_append_left ck] at ht
      have h9 := tlt t (List.mem_of_getElem? ht)
      by_cases ci : i < A.length
      · rw [List.getElem?_append_left (by simpa using ci), List.getElem?_map] at hX
        obtain ⟨Y, hY, rfl⟩ := Option.map_eq_some_iff.mp hX
        have hr := h.row Y (List.mem_append_left _ (List.mem_of_getElem? hY))
        rw [el_lo Y hr.1 hr.2 _ h9.1]
        exact h.one i k Y t hY ht
      · rw [List.getElem?_append_right (by simp; omega), List.length_map] at hX
        have e0 : i - A.length = 0 := by
          have := (List.getElem?_eq_some_iff.mp hX).1
          simpa using this
        rw [e0] at hX
        simp at hX
        subst hX
        rw [l0 _ h9.1, if_neg (by omega)]
    · rw [List.getElem?_append_right (by omega)] at ht
      have e0 : k - tied.length = 0 := by
        have := (List.getElem?_eq_some_iff.mp ht).1
        simpa using this
      rw [e0] at ht
      simp at ht
      subst ht
      rw [Int.toNat_natCast]
      by_cases ci : i < A.length
      · rw [List.getElem?_append_left (by simpa using ci), List.getElem?_map] at hX
        obtain ⟨Y, hY, rfl⟩ := Option.map_eq_some_iff.mp hX
        have hr := h.row Y (List.mem_append_left _ (List.mem_of_getElem? hY))
        rw [el_j Y hr.2, if_neg (by omega)]
      · rw [List.getElem?_append_right (by simp; omega), List.length_map] at hX
        have e1 : i - A.length = 0 := by
          have := (List.getElem?_eq_some_iff.mp hX).1
          simpa using this
        rw [e1] at hX
        simp at hX
        subst hX
        rw [l1, if_pos (by omega)]
  · intro Y hY c hc
    obtain ⟨X, hX, rfl⟩ := List.mem_map.mp hY
    have hX' : X ∈ B ++ R :: C := by
      rcases List.mem_append.mp hX with z | z <;> simp [z]
    have hr := h.row X (List.mem_append_right _ hX')
    by_cases e : c = j
    · subst e; exact el_j X hr.2
    · rw [el_lo X hr.1 hr.2 c (by omega)]; exact h.zero X hX' c (by omega)
  · intro i X t hX ht c hc
    have al := h.al
    by_cases ci : i < A.length
    · rw [List.getElem?_append_left (by simpa using ci), List.getElem?_map] at hX
      rw [List.getElem?_append_left (by omega)] at ht
      obtain ⟨Y, hY, rfl⟩ := Option.map_eq_some_iff.mp hX
      have hr := h.row Y (List.mem_append_left _ (List.mem_of_getElem? hY))
      have := tlt t (List.mem_of_getElem? ht)
      rw [el_lo Y hr.1 hr.2 c (by omega)]
      exact h.ech i Y t hY ht c hc
    · rw [List.getElem?_append_right (by simp; omega), List.length_map] at hX
      have e1 : i - A.length = 0 := by
        have := (List.getElem?_eq_some_iff.mp hX).1
        simpa using this
      rw [e1] at hX
      simp at hX
      subst hX
      rw [List.getElem?_append_right (by omega), show i - tied.length = 0 by omega] at ht
      simp at ht
      subst ht
      exact l0 c (by omega)
theorem reduced_ok {p : Int} {N n : Nat} {rows0 : List (List Int)} (hp : PrP p) (hN : N ≤ 1000) (hn : n ≤ N) (hm : rows0.length ≤ 1000) (h : ∀ X ∈ rows0, Rst p X ∧ X.length = N) :
    Sat (XR2.F_reduced rows0 (n : Int) p) (fun q => ∃ A D, q.1 = A ++ D ∧ Red p N rows0 n A D q.2) fun _ => False := by
  unfold XR2.F_reduced
  sleep 11
  refine s_for n rfl (by omega) (fun j q => ∃ A D, q.1 = A ++ D ∧ Red p N rows0 j A D q.2) ⟨[], rows0, rfl, .start h⟩ (fun j q hj hI => ?_) fun q hI => hI
  obtain ⟨rows, tied⟩ := q
  obtain ⟨A, D, e, hR⟩ := hI
  simp only at e hR
  subst e
  have hlen := hR.len
  have hA : A.length + D.length ≤ 1000 := by rw [List.length_append] at hlen; omega
  sleep 11
  rw [← hR.al]
  refine s_F (first_row_ok (N := N) (fun X hX => (hR.row X hX).2) (by omega) (by omega)) fun o ho => ?_
  rcases ho with ⟨rfl, hz⟩ | ⟨B, R, C, rfl, rfl, h0, hB⟩
  · simp only [Option.isNone_none, Bool.not_true, Bool.false_eq_true, if_false]
    sleep 11
    exact ⟨A, D, rfl, hR.skip hz⟩
  · simp only [Option.isNone_some, Bool.not_false, if_true]
    sleep 11
    have hBl : B.length + 1 + C.length = (B ++ R :: C).length := by simp; omega
    have e1 : atI (A ++ (B ++ R :: C)) ((A.length + B.length : Nat) : Int) = some R := atI_nat' (by rw [← List.append_assoc, List.getElem?_append_right (by simp)]; simp)
    have e2 : cutL (A ++ (B ++ R :: C)) none (some (A.length : Int)) = A := by rw [cutL_to]; simp
    have e3 : cutL (A ++ (B ++ R :: C)) (some (A.length : Int)) (some ((A.length + B.length : Nat) : Int)) = B := by
      rw [cutL_mid _ _ _ (by simp), ← List.append_assoc, List.take_left' (by simp), List.drop_left]
    have e4 : cutL (A ++ (B ++ R :: C)) (some (((A.length + B.length : Nat) : Int) + 1)) none = C := by
      rw [show (((A.length + B.length : Nat) : Int) + 1) = ((A.length + B.length + 1 : Nat) : Int) by omega, cutL_from _ _ (by simp; omega), show A ++ (B ++ R :: C) = (A ++ B ++ [R]) ++ C by simp, List.drop_left' (by simp; omega)]
    rw [e1, e2, e3, e4]
    sleep 11
    refine s_cat (by simp; omega) ?_
    refine s_cat (by simp; omega) ?_
    refine s_cat (by simp; omega) ?_
    have er : A ++ [R] ++ B ++ C = A ++ R :: (B ++ C) := by simp
    rw [er]
    have hmem : ∀ X ∈ A ++ R :: (B ++ C), X ∈ A ++ (B ++ R :: C) := fun X z => by
      simp only [List.mem_append, List.mem_cons] at z ⊢
      rcases z with z | z | z | z <;> simp [z]
    refine s_F (cleared_ok (N := N) hp hN (by simp; omega) (fun X hX => hR.row X (hmem X hX)) (by omega) h0) fun rows2 ⟨b, b0, b1, b2, hb⟩ => ?_
    have al := hR.al
    refine s_app (by omega) ?_
    refine ⟨_, _, ?_, hR.step hp.ge (by omega) b2⟩
    rw [hb]; simp
end VL
set_option maxRecDepth 100000
set_option maxHeartbeats 1000000
namespace VL
open PySem PySem.Spec PyProof.Rows L2
local macro_rules | `(tactic| sleep 11) => `(tactic| simp only [Out.bind_ok, Out.bind_exn, noX_ok, lift_some, flowT_ret, flowT_nxt, flowF_ret, flowF_nxt, sat_bind, sat_ok, sat_exn, sat_noX, eta2, Out.bind_id])
def putL (g : List Int × Int → Int) (V : List Int) (L : List (List Int × Int)) : List Int := L.foldl (fun V x => V.set x.2.toNat (g x)) V
theorem putL_len (g : List Int × Int → Int) : ∀ (L : List (List Int × Int)) (V : List Int), (putL g V L).length = V.length
  | [], _ => rfl
  | x :: L, V => by
    show (putL g (V.set x.2.toNat (g x)) L).length = _
    rw [putL_len g L]; simp
theorem putL_off (g : List Int × Int → Int) {c : Nat} : ∀ (L : List (List Int × Int)) (V : List Int), (∀ x ∈ L, x.2.toNat < V.length) → (∀ x ∈ L, x.2.toNat ≠ c) → nt (putL g V L) c = nt V c
  | [], _, _, _ => rfl
  | x :: L, V, h, hn => by
    show nt (putL g (V.set x.2.toNat (g x)) L) c = _
    rw [putL_off g L _ (fun y hy => by rw [List.length_set]; exact h y (List.mem_cons_of_mem _ hy)) fun y hy => hn y (List.mem_cons_of_mem _ hy), nt_set (h x List.mem_cons_self), if_neg (Ne.symm (hn x List.mem_cons_self))]
theorem putL_on (g : List Int × Int → Int) : ∀ (L : List (List Int × Int)) (V : List Int), (∀ x ∈ L, x.2.toNat < V.length) → L.Pairwise (fun a b => a.2.toNat ≠ b.2.toNat) → ∀ x ∈ L, nt (putL g V L) x.2.toNat = g x
  | [], _, _, _, x, hx => by cases hx
  | y :: L, V, h, hp, x, hx => by
    obtain ⟨h1, h2⟩ := List.pairwise_cons.mp hp
    have h' : ∀ z ∈ L, z.2.toNat < (V.set y.2.toNat (g y)).length := fun z hz => by rw [List.length_set]; exact h z (List.mem_cons_of_mem _ hz)
    show nt (putL g (V.set y.2.toNat (g y)) L) x.2.toNat = _
    rcases List.mem_cons.mp hx with e | z
    · subst e
      rw [putL_off g L _ h' (fun z hz => (h1 z hz).symm), nt_set (h x List.mem_cons_self), if_pos rfl]
    · exact putL_on g L _ h' h2 x z
theorem putL_dot (g : List Int × Int → Int) (X : List Int) : ∀ (L : List (List Int × Int)) (V : List Int), (∀ x ∈ L, x.2.toNat < V.length) → L.Pairwise (fun a b => a.2.toNat ≠ b.2.toNat) → dot (putL g V L) X = dot V X + (L.map fun x => (g x - nt V x.2.toNat) * nt X x.2.toNat).sum
  | [], V, _, _ => by simp [putL]
  | y :: L, V, h, hp => by
    obtain ⟨h1, h2⟩ := List.pairwise_cons.mp hp
    have h' : ∀ z ∈ L, z.2.toNat < (V.set y.2.toNat (g y)).length := fun z hz => by rw [List.length_set]; exact h z (List.mem_cons_of_mem _ hz)
    show dot (putL g (V.set y.2.toNat (g y)) L) X = _
    rw [putL_dot g X L _ h' h2, dot_set (h y List.mem_cons_self), List.map_cons, List.sum_cons]
    have e : (L.map fun x => (g x - nt (V.set y.2.toNat (g y)) x.2.toNat) * nt X x.2.toNat) = L.map fun x => (g x - nt V x.2.toNat) * nt X x.2.toNat := List.map_congr_left fun x hx => by
      rw [nt_set (h y List.mem_cons_self), if_neg (h1 x hx).symm]
    rw [e]; omega
theorem sum_delta {α : Type} (g w : α → Int) (i : Nat) : ∀ (L : List α) (k0 : Nat), (∀ k x, L[k]? = some x → w x = if i = k0 + k then 1 else 0) → (L.map fun x => g x * w x).sum = if k0 ≤ i then ((L[i - k0]?).map g).getD 0 else 0
  | [], k0, _ => by simp
  | x :: L, k0, h => by
    have h0 := h 0 x rfl
    have ih := sum_delta g w i L (k0 + 1) fun k y hy => by rw [h (k + 1) y (by simpa using hy)]; congr 1; simp; omega
    rw [List.map_cons, List.sum_cons, ih, h0]
    by_cases c : i = k0
    · subst c
      rw [if_pos (by omega), if_neg (by omega), if_pos (by omega)]; simp
    · rw [if_neg (by omega)]
      by_cases c2 : k0 ≤ i
      · rw [if_pos (by omega), if_pos c2, show i - k0 = (i - (k0 + 1)) + 1 by omega]; simp
      · rw [if_neg (by omega), if_neg c2]; simp
def unitL (m i : Nat) : List Int := (List.range m).map fun q => if q = i then 1 else 0
def augR (E : List (List Int)) (i : Nat) : List Int := (E[i]?).getD [] ++ unitL E.length i
def augF (E : List (List Int)) : List (List Int) := (List.range E.length).map (augR E)
theorem augF_mem {E : List (List Int)} {X : List Int} (h : X ∈ augF E) : ∃ i R, E[i]? = some R ∧ X = R ++ unitL E.length i := by
  obtain ⟨i, hi, rfl⟩ := List.mem_map.mp h
  have := List.mem_range.mp hi
  exact ⟨i, E[i], List.getElem?_eq_getElem this, by rw [augR, List.getElem?_eq_getElem this]; rfl⟩
theorem augF_of {E : List (List Int)} {i : Nat} {R : List Int} (h : E[i]? = some R) : R ++ unitL E.length i ∈ augF E :=
  List.mem_map.mpr ⟨i, List.mem_range.mpr (List.getElem?_eq_some_iff.mp h).1, by rw [augR, h]; rfl⟩
theorem augF_row {p : Int} {n : Nat} {E : List (List Int)} (hp : 2 ≤ p) (h : ∀ R ∈ E, Rst p R ∧ R.length = n) : ∀ X ∈ augF E, Rst p X ∧ X.length = n + E.length := fun X hX => by
  obtain ⟨i, R, hR, rfl⟩ := augF_mem hX
  have h1 := h R (List.mem_of_getElem? hR)
  refine ⟨fun x hx => ?_, by simp [unitL, h1.2]⟩
  rcases List.mem_append.mp hx with z | z
  · exact h1.1 x z
  · obtain ⟨q, _, rfl⟩ := List.mem_map.mp z
    split <;> omega
theorem augF_ker {p : Int} {n : Nat} {E : List (List Int)} (h : ∀ R ∈ E, Rst p R ∧ R.length = n) {ys : List Int} (hy : ys.length = n) : Kr p (augF E) ys ↔ Kr p E ys := by
  have key : ∀ R ∈ E, ∀ u, dot (R ++ u) ys = dot R ys := fun R hR u => by
    have := dot_app R u ys [] (by rw [hy, (h R hR).2])
    rw [List.append_nil, dot_nil] at this
    omega
  constructor
  · intro hk R hR
    obtain ⟨i, hi⟩ := List.getElem?_of_mem hR
    have := hk _ (augF_of hi)
    rwa [key R hR] at this
  · intro hk X hX
    obtain ⟨i, R, hR, rfl⟩ := augF_mem hX
    rw [key R (List.mem_of_getElem? hR)]
    exact hk R (List.mem_of_getElem? hR)
def freeF (n : Nat) (tied : List Int) : List Int := ((List.range n).filter fun c : Nat => !decide ((c : Int) ∈ tied)).map fun c : Nat => (c : Int)
def basF (p : Int) (n : Nat) (L : List (List Int × Int)) (fr : Int) : List Int := putL (fun x => (-nt x.1 fr.toNat) % p) ((List.replicate n 0).set fr.toNat 1) L
theorem freeF_mem {n : Nat} {tied : List Int} {t : Int} : t ∈ freeF n tied ↔ 0 ≤ t ∧ t < (n : Int) ∧ t ∉ tied := by
  unfold freeF
  rw [List.mem_map]
  constructor
  · rintro ⟨c, hc, rfl⟩
    rw [List.mem_filter, List.mem_range] at hc
    have : (c : Int) ∉ tied := by simpa using hc.2
    exact ⟨by omega, by omega, this⟩
  · rintro ⟨h1, h2, h3⟩
    refine ⟨t.toNat, List.mem_filter.mpr ⟨List.mem_range.mpr (by omega), ?_⟩, by omega⟩
    rw [show ((t.toNat : Nat) : Int) = t by omega]; simpa using h3
theorem Red.lt {p : Int} {N j : Nat} {rows0 A D : List (List Int)} {tied : List Int} (h : Red p N rows0 j A D tied) : (A.zip tied).Pairwise (fun a b => a.2.toNat ≠ b.2.toNat) := by
  have h1 : ((A.zip tied).map (·.2)).Pairwise (· < ·) := by
    rw [List.map_snd_zip (by rw [h.al]; exact Nat.le_refl _)]; exact h.inc
  rw [List.pairwise_map] at h1
  refine List.Pairwise.imp_of_mem (fun {a b} ha hb hab => ?_) h1
  have := h.tin a.2 (List.of_mem_zip (a := a.1) (b := a.2) ha).2
  have := h.tin b.2 (List.of_mem_zip (a := b.1) (b := b.2) hb).2
  omega
theorem Red.in' {p : Int} {N j : Nat} {rows0 A D : List (List Int)} {tied : List Int} (h : Red p N rows0 j A D tied) {x : List Int × Int} (hx : x ∈ A.zip tied) : x.1 ∈ A ∧ x.2 ∈ tied ∧ 0 ≤ x.2 ∧ x.2 < (j : Int) := by
  have := List.of_mem_zip (a := x.1) (b := x.2) hx
  exact ⟨this.1, this.2, h.tin _ this.2⟩
theorem solved_ok {most : Nat} {d : Dr} {p f : Int} (h : DrS most d) (hm : most ≤ 40) (hp : PrP p) (hf : f % p ≠ 0) :
    Sat (XR2.F_solved d p f) (fun s => ∃ A D tied, Red p (cntN d.1 + (eqsF p f d).length) (augF (eqsF p f d)) (cntN d.1) A D tied ∧ s = (freeF (cntN d.1) tied, (freeF (cntN d.1) tied).map (basF p (cntN d.1) (A.zip tied)), (A.zip tied).map fun q => (q.2, q.1.drop (cntN d.1)))) fun _ => False := by
  have hw := h.wl
  have h2 := h.cnt_le
  have hl : ∀ w ∈ d.1, w.length ≤ 1000 := fun w hw => by have := h.row hw; omega
  have p0 := hp.ge
  have hs := h.sl
  have hE : (eqsF p f d).length ≤ 40 := by simp [eqsF, meetsF]; omega
  have hEr : ∀ R ∈ eqsF p f d, Rst p R ∧ R.length = cntN d.1 := fun R hR => eqs_rst (by omega) hR
  unfold XR2.F_solved
  rw [equations_ok h hm hp hf, arc_count_ok hl, cnt_N, Int.zero_add]
  sleep 11
  generalize eqsF p f d = E at hE hEr
  generalize cntN d.1 = n at *
  refine s_for E.length rfl (by omega) (fun k V => V = (List.range E.length).map fun i => if i < k then augR E i else (E[i]?).getD []) ?_ (fun k V hk hV => ?_) fun V hV => ?_
  · apply List.ext_getElem?
    intro i
    by_cases c : i < E.length
    · rw [rangeMap_get c, if_neg (by omega), List.getElem?_eq_getElem c]; rfl
    · rw [List.getElem?_eq_none (by omega), List.getElem?_eq_none (by simp; omega)]
  · subst hV
    sleep 11
    refine s_atE (x := (E[k]?).getD []) (by rw [atI_nat' (rangeMap_get (f := fun i => if i < k then augR E i else (E[i]?).getD []) hk)]; simp) ?_
    have hk2 := hEr E[k] (List.getElem_mem hk)
    have el : ((E[k]?).getD []).length = n := by rw [List.getElem?_eq_getElem hk]; exact hk2.2
    refine s_mapR (g := fun q : Int => if q = (k : Int) then 1 else 0) E.length rfl (by omega) (fun q hq => by simp only [decide_eq_true_iff]) ?_
    refine s_cat (by rw [el]; simp; omega) ?_
    refine s_set (by omega) (by simp; omega) ?_
    have eu : ((List.range E.length).map fun q : Nat => if (q : Int) = (k : Int) then (1 : Int) else 0) = unitL E.length k := by
      unfold unitL
      refine List.map_congr_left fun q _ => ?_
      by_cases c : q = k
      · rw [if_pos (by omega), if_pos c]
      · rw [if_neg (by omega), if_neg c]
    rw [eu, Int.toNat_natCast]
    have := rangeMap_set (n := E.length) (k := k) (f := fun i => if i < k then augR E i else (E[i]?).getD []) (g := fun i => if i < k + 1 then augR E i else (E[i]?).getD []) (fun j hj hjk => by
      by_cases c : j < k
      · rw [if_pos (by omega), if_pos c]
      · rw [if_neg (by omega), if_neg c])
    rw [if_pos (by omega)] at this
    exact this
  · have eV : V = augF E := by
      rw [hV]
      unfold augF
      exact List.map_congr_left fun i hi => by rw [if_pos (List.mem_range.mp hi)]
    subst eV
    have hrows := augF_row p0 hEr
    have hal : (augF E).length = E.length := by simp [augF]
    refine s_F (reduced_ok hp (N := n + E.length) (by omega) (by omega) (by omega) hrows) fun q ⟨A, D, hq, hR⟩ => ?_
    obtain ⟨rows, tied⟩ := q
    simp only at hq hR
    subst hq
    have hlen := hR.len
    rw [List.length_append] at hlen
    have al := hR.al
    have hz : (A ++ D).zip tied = A.zip tied := by
      rw [← List.append_nil tied, List.zip_append al, List.append_nil]; simp
    simp only
    rw [hz]
    refine s_fmapR (q := fun c => !decide (c ∈ tied)) (g := fun c => c) n rfl (by omega) (fun k hk => by simp only [noX_ok]) (fun k hk _ => by simp only [noX_ok]) ?_
    have hfr : (freeF n tied).length ≤ n := by
      unfold freeF
      rw [List.length_map]
      exact Nat.le_trans (List.length_filter_le _ _) (by simp)
    show Sat (forO _ [] (freeF n tied)) _ _
    rw [s_forApp (g := basF p n (A.zip tied)) (freeF n tied) [] (fun t fr hfr2 ht => ?_) (by simp; omega)]
    · sleep 11
      rw [mapL_ok (g := fun q : List Int × Int => (q.2, q.1.drop n)) (by simp only [List.length_zip]; omega) fun x hx => ?_]
      · sleep 11
        exact ⟨A, D, tied, hR, rfl⟩
      · have := (hR.row x.1 (List.mem_append_left _ (hR.in' hx).1)).2
        rw [cutL_from _ _ (by omega)]
        sleep 11
    · obtain ⟨f1, f2, f3⟩ := freeF_mem.mp hfr2
      rw [rep1_ok (by omega) (by omega), lift_some, Int.toNat_natCast]
      sleep 11
      rw [setO_ok f1 (by simp; omega)]
      sleep 11
      have loop : ∀ (L : List (List Int × Int)) (V : List Int), V.length = n → (∀ x ∈ L, x ∈ A.zip tied) → forO (fun (V459 : List Int) (x460 : List Int × Int) => ((((lift (atI x460.1 fr)).bind fun t1 => .ok (-t1)).bind fun t1 => lift (modO t1 p)).bind fun v => lift (setO V459 x460.2 v))) V L = .ok (putL (fun x => (-nt x.1 fr.toNat) % p) V L) := by
        intro L
        induction L with
        | nil => intro V _ _; rfl
        | cons x L ih =>
          intro V hV hx
          obtain ⟨x1, x2, x3, x4⟩ := hR.in' (hx x List.mem_cons_self)
          have hxl := (hR.row x.1 (List.mem_append_left _ x1)).2
          rw [forO, show atI x.1 fr = some (nt x.1 fr.toNat) by rw [show fr = ((fr.toNat : Nat) : Int) by omega, Int.toNat_natCast]; exact nt_atI (by omega)]
          sleep 11
          rw [modO_ok (by omega), lift_some, Out.bind_ok, setO_ok x3 (by omega), lift_some, Out.bind_ok]
          have := ih (V.set x.2.toNat ((-nt x.1 fr.toNat) % p)) (by rw [List.length_set]; exact hV) fun y hy => hx y (List.mem_cons_of_mem _ hy)
          sleep 11
          exact this
      have := loop (A.zip tied) ((List.replicate n 0).set fr.toNat 1) (by simp) fun x hx => hx
      simp only [Out.bind_assoc, Out.bind_ok] at this ⊢
      rw [this]
      sleep 11
      rw [appO_ok (by omega)]
      rfl
end VL
set_option maxRecDepth 100000
set_option maxHeartbeats 1000000
namespace VL
open PySem PySem.Spec PyProof.Rows L2
theorem dot_zero : ∀ {X ys : List Int}, (∀ c, c < ys.length → nt X c = 0) → dot X ys = 0
  | [], ys, _ => by cases ys <;> rfl
  | x :: X, [], _ => rfl
  | x :: X, y :: ys, h => by
    have h0 : x = 0 := h 0 (by simp)
    have ih := dot_zero (X := X) (ys := ys) fun c hc => h (c + 1) (by simpa using hc)
    rw [dot, h0, ih]; omega
section
variable {p : Int} {N n : Nat} {E rows0 A D : List (List Int)} {tied : List Int}
theorem Red.pair (h : Red p N rows0 n A D tied) {i : Nat} {x : List Int × Int} (hx : (A.zip tied)[i]? = some x) : A[i]? = some x.1 ∧ tied[i]? = some x.2 := List.getElem?_zip_eq_some.mp hx
theorem Red.zeroed (h : Red p N rows0 n A D tied) {i : Nat} {x : List Int × Int} (hx : (A.zip tied)[i]? = some x) {w : List Int} (hw : w.length = n) :
    dot x.1 w = nt w x.2.toNat + dot x.1 (putL (fun _ => 0) w (A.zip tied)) := by
  have hin : ∀ y ∈ A.zip tied, y.2.toNat < w.length := fun y hy => by have := h.in' hy; omega
  have h1 := putL_dot (fun _ => 0) x.1 (A.zip tied) w hin h.lt
  have h2 := sum_delta (fun y : List Int × Int => 0 - nt w y.2.toNat) (fun y => nt x.1 y.2.toNat) i (A.zip tied) 0 fun k y hy => by
    rw [Nat.zero_add]
    exact h.one i k x.1 y.2 (h.pair hx).1 (h.pair hy).2
  rw [h2, if_pos (Nat.zero_le _), Nat.sub_zero, hx, dot_comm _ x.1, dot_comm w] at h1
  simp only [Option.map_some, Option.getD_some] at h1
  omega
theorem Red.zeroed_nt (h : Red p N rows0 n A D tied) {w : List Int} (hw : w.length = n) {c : Nat} : nt (putL (fun _ => 0) w (A.zip tied)) c = if (c : Int) ∈ tied then 0 else nt w c := by
  have hin : ∀ y ∈ A.zip tied, y.2.toNat < w.length := fun y hy => by have := h.in' hy; omega
  split
  · rename_i hc
    obtain ⟨k, hk⟩ := List.getElem?_of_mem hc
    have hkl := (List.getElem?_eq_some_iff.mp hk).1
    have hz : (A.zip tied)[k]? = some (A[k]'(by rw [h.al]; exact hkl), (c : Int)) := List.getElem?_zip_eq_some.mpr ⟨List.getElem?_eq_getElem _, hk⟩
    have := putL_on (fun _ => 0) (A.zip tied) w hin h.lt _ (List.mem_of_getElem? hz)
    simpa using this
  · rename_i hc
    refine putL_off _ _ _ hin fun y hy e => hc ?_
    have := h.in' hy
    rw [show (c : Int) = y.2 by omega]; exact this.2.1
theorem Red.sol (h : Red p N (augF E) n A D tied) (hE : ∀ R ∈ E, Rst p R ∧ R.length = n) {ys : List Int} (hy : ys.length = n) : Kr p E ys ↔ ∀ X ∈ A, Cg p (dot X ys) 0 := by
  rw [← augF_ker hE hy, ← h.ker]
  refine ⟨fun hk X hX => hk X (List.mem_append_left _ hX), fun hk X hX => ?_⟩
  rcases List.mem_append.mp hX with z | z
  · exact hk X z
  · rw [dot_zero fun c hc => h.zero X z c (by omega)]; exact .rfl'
theorem Red.uniq (h : Red p N rows0 n A D tied) {w : List Int} (hw : w.length = n) (hs : ∀ X ∈ A, Cg p (dot X w) 0) (hf : ∀ t ∈ freeF n tied, Cg p (nt w t.toNat) 0) : ∀ c, c < n → Cg p (nt w c) 0 := by
  have hoff : ∀ c : Nat, c < n → (c : Int) ∉ tied → Cg p (nt w c) 0 := fun c hc hn => by
    have := hf (c : Int) (freeF_mem.mpr ⟨by omega, by omega, hn⟩)
    rwa [Int.toNat_natCast] at this
  intro c hc
  by_cases hm : (c : Int) ∈ tied
  · obtain ⟨k, hk⟩ := List.getElem?_of_mem hm
    have hkl := (List.getElem?_eq_some_iff.mp hk).1
    have hz : (A.zip tied)[k]? = some (A[k]'(by rw [h.al]; exact hkl), (c : Int)) := List.getElem?_zip_eq_some.mpr ⟨List.getElem?_eq_getElem _, hk⟩
    have hkA : k < A.length := by rw [h.al]; exact hkl
    have h1 := h.zeroed hz hw
    simp only [Int.toNat_natCast] at h1
    have hA := hs A[k] (List.getElem_mem _)
    have h0 : Cg p (dot A[k] (putL (fun _ => 0) w (A.zip tied))) 0 := by
      rw [dot_comm]
      have := dot_cg (p := p) (xs := putL (fun _ => 0) w (A.zip tied)) (xs' := List.replicate n 0) A[k] (by rw [putL_len, hw]; simp) fun c hc => by
        rw [putL_len, hw] at hc
        rw [h.zeroed_nt hw, nt_rep0]
        split
        · exact .rfl'
        · rename_i hn; exact hoff c hc hn
      rwa [dot_rep0] at this
    obtain ⟨k1, e1⟩ := hA
    obtain ⟨k2, e2⟩ := h0
    exact ⟨k1 - k2, by rw [Int.mul_sub]; omega⟩
  · exact hoff c hc hm
theorem bas_len (L : List (List Int × Int)) (fr : Int) : (basF p n L fr).length = n := by unfold basF; rw [putL_len]; simp
theorem Red.bas_at (h : Red p N rows0 n A D tied) {fr : Int} (hf : fr ∈ freeF n tied) {c : Nat} (hc : c < n) (hn : (c : Int) ∉ tied) : nt (basF p n (A.zip tied) fr) c = if (c : Int) = fr then 1 else 0 := by
  obtain ⟨f1, f2, f3⟩ := freeF_mem.mp hf
  unfold basF
  have hin : ∀ y ∈ A.zip tied, y.2.toNat < ((List.replicate n (0 : Int)).set fr.toNat 1).length := fun y hy => by have := h.in' hy; simp; omega
  rw [putL_off _ _ _ hin fun y hy e => hn (by have := h.in' hy; rw [show (c : Int) = y.2 by omega]; exact this.2.1), nt_set (by simp; omega), nt_rep0]
  by_cases e : c = fr.toNat
  · rw [if_pos e, if_pos (by omega)]
  · rw [if_neg e, if_neg (by omega)]
theorem Red.bas_tied (h : Red p N rows0 n A D tied) {fr : Int} (hf : fr ∈ freeF n tied) {x : List Int × Int} (hx : x ∈ A.zip tied) : nt (basF p n (A.zip tied) fr) x.2.toNat = (-nt x.1 fr.toNat) % p := by
  unfold basF
  have hin : ∀ y ∈ A.zip tied, y.2.toNat < ((List.replicate n (0 : Int)).set fr.toNat 1).length := fun y hy => by have := h.in' hy; simp; omega
  exact putL_on _ _ _ hin h.lt x hx
theorem Red.bas_sol (h : Red p N rows0 n A D tied) {fr : Int} (hf : fr ∈ freeF n tied) : ∀ X ∈ A, Cg p (dot X (basF p n (A.zip tied) fr)) 0 := fun X hX => by
  obtain ⟨f1, f2, f3⟩ := freeF_mem.mp hf
  obtain ⟨k, hk⟩ := List.getElem?_of_mem hX
  have hkl := (List.getElem?_eq_some_iff.mp hk).1
  have hz : (A.zip tied)[k]? = some (X, tied[k]'(by rw [← h.al]; exact hkl)) := List.getElem?_zip_eq_some.mpr ⟨hk, List.getElem?_eq_getElem _⟩
  have h1 := h.zeroed hz (bas_len (p := p) (A.zip tied) fr)
  have h2 := h.bas_tied hf (List.mem_of_getElem? hz)
  simp only at h1 h2
  have h3 : putL (fun _ => 0) (basF p n (A.zip tied) fr) (A.zip tied) = addAt (List.replicate n 0) fr.toNat 1 := by
    refine nt_ext (by rw [putL_len, bas_len, addAt_len]; simp) fun c hc => ?_
    rw [putL_len, bas_len] at hc
    rw [h.zeroed_nt (bas_len _ _)]
    unfold addAt
    rw [nt_set (by simp; omega), nt_rep0, nt_rep0]
    by_cases hm : (c : Int) ∈ tied
    · rw [if_pos hm, if_neg]
      intro e; exact f3 (by rw [show fr = (c : Int) by omega]; exact hm)
    · rw [if_neg hm, h.bas_at hf hc hm]
      by_cases e : c = fr.toNat
      · rw [if_pos e, if_pos (by omega)]; rfl
      · rw [if_neg e, if_neg (by omega)]
  rw [h3, dot_comm X (addAt _ _ _), dot_addAt (by simp; omega), dot_rep0, h2] at h1
  rw [h1]
  refine ((Cg.mod p (-nt X fr.toNat)).add .rfl').trans ⟨0, by grind⟩
end
theorem freeF_inc (n : Nat) (tied : List Int) : (freeF n tied).Pairwise (· < ·) := by
  unfold freeF
  rw [List.pairwise_map]
  exact (List.pairwise_lt_range.filter _).imp fun h => by omega
theorem inc_inj {xs : List Int} (h : xs.Pairwise (· < ·)) {i j : Nat} {x : Int} (hi : xs[i]? = some x) (hj : xs[j]? = some x) : i = j := by
  obtain ⟨a, b⟩ := List.getElem?_eq_some_iff.mp hi
  obtain ⟨a', b'⟩ := List.getElem?_eq_some_iff.mp hj
  have h1 := List.pairwise_iff_getElem.mp h
  by_cases c : i < j
  · have := h1 i j a a' c; omega
  · by_cases c2 : j < i
    · have := h1 j i a' a c2; omega
    · omega
end VL
set_option maxRecDepth 100000
set_option maxHeartbeats 1000000
namespace VL
open PySem PySem.Spec PyProof.Rows L2
theorem inc_ext : ∀ {xs ys : List Int}, xs.Pairwise (· < ·) → ys.Pairwise (· < ·) → (∀ t, t ∈ xs ↔ t ∈ ys) → xs = ys
  | [], [], _, _, _ => rfl
  | [], y :: ys, _, _, h => by have := (h y).mpr List.mem_cons_self; cases this
  | x :: xs, [], _, _, h => by have := (h x).mp List.mem_cons_self; cases this
  | x :: xs, y :: ys, hx, hy, h => by
    obtain ⟨a1, a2⟩ := List.pairwise_cons.mp hx
    obtain ⟨b1, b2⟩ := List.pairwise_cons.mp hy
    have e : x = y := by
      rcases List.mem_cons.mp ((h x).mp List.mem_cons_self) with z | z
      · exact z
      · rcases List.mem_cons.mp ((h y).mpr List.mem_cons_self) with w | w
        · exact w.symm
        · have := b1 x z; have := a1 y w; omega
    subst e
    congr 1
    refine inc_ext a2 b2 fun t => ⟨fun z => ?_, fun z => ?_⟩
    · rcases List.mem_cons.mp ((h t).mp (List.mem_cons_of_mem _ z)) with w | w
      · have := a1 t z; omega
      · exact w
    · rcases List.mem_cons.mp ((h t).mpr (List.mem_cons_of_mem _ z)) with w | w
      · have := b1 t z; omega
      · exact w
end VL
set_option maxRecDepth 100000
set_option maxHeartbeats 1000000
namespace VL
open PySem PySem.Spec PyProof.Rows L2
local macro_rules | `(tactic| sleep 11) => `(tactic| simp only [Out.bind_ok, Out.bind_exn, noX_ok, lift_some, flowT_ret, flowT_nxt, flowF_ret, flowF_nxt, sat_bind, sat_ok, sat_exn, sat_noX, eta2, Out.bind_id])
theorem pow_loop {p : Int} (hp : 0 ≤ p ∧ p ≤ 100000) : ∀ (xs : List Int) (a : Int), forO (fun (V464 : Int) (free_ : Int) => (lift (mulO V464 p))) a xs = .ok (a * p ^ xs.length)
  | [], a => by simp [forO]
  | x :: xs, a => by
    rw [forO, mulO_ok (.inl (.inr ⟨by omega, by omega⟩)), lift_some, Out.bind_ok, pow_loop hp xs]
    rw [List.length_cons, Int.pow_succ, Int.mul_assoc, Int.mul_comm p]
theorem solved_eq {most : Nat} {d : Dr} {p f : Int} (h : DrS most d) (hm : most ≤ 40) (hp : PrP p) (hf : f % p ≠ 0) :
    ∃ A D tied, Red p (cntN d.1 + (eqsF p f d).length) (augF (eqsF p f d)) (cntN d.1) A D tied ∧ XR2.F_solved d p f = .ok (freeF (cntN d.1) tied, (freeF (cntN d.1) tied).map (basF p (cntN d.1) (A.zip tied)), (A.zip tied).map fun q => (q.2, q.1.drop (cntN d.1))) := by
  have hs := solved_ok h hm hp hf
  cases e : XR2.F_solved d p f with
  | ok s =>
    rw [e] at hs
    obtain ⟨A, D, tied, hR, rfl⟩ := hs
    exact ⟨A, D, tied, hR, rfl⟩
  | exn x => rw [e] at hs; exact hs.elim
  | stuck => rw [e] at hs; exact hs.elim
theorem straight_eq {d : Dr} {p f : Int} {s : List Int × List (List Int) × List (Int × List Int)} (hp : PrP p) (h : XR2.F_solved d p f = .ok s) : XR2.F_straight_many d p f = .ok (p ^ s.1.length) := by
  have := hp.ge
  have := hp.le
  unfold XR2.F_straight_many
  rw [h]
  simp only [Out.bind_ok, Out.bind_id]
  rw [pow_loop ⟨by omega, by omega⟩, Int.one_mul]
end VL
set_option maxRecDepth 100000
set_option maxHeartbeats 1000000
namespace VL
open PySem PySem.Spec PyProof.Rows L2
theorem free_len {n : Nat} {tied : List Int} (hinc : tied.Pairwise (· < ·)) (hin : ∀ t ∈ tied, 0 ≤ t ∧ t < (n : Int)) : tied.length + (freeF n tied).length = n := by
  have e : ((List.range n).filter fun c : Nat => decide ((c : Int) ∈ tied)).map (fun c : Nat => (c : Int)) = tied := by
    refine inc_ext ?_ hinc fun t => ?_
    · rw [List.pairwise_map]
      exact (List.pairwise_lt_range.filter _).imp fun h => by omega
    · rw [List.mem_map]
      constructor
      · rintro ⟨c, hc, rfl⟩
        rw [List.mem_filter] at hc
        simpa using hc.2
      · intro ht
        have := hin t ht
        exact ⟨t.toNat, List.mem_filter.mpr ⟨List.mem_range.mpr (by omega), by rw [show ((t.toNat : Nat) : Int) = t by omega]; simpa using ht⟩, by omega⟩
  have h1 : tied.length = ((List.range n).filter fun c : Nat => decide ((c : Int) ∈ tied)).length := by
    have := congrArg List.length e
    rw [List.length_map] at this
    exact this.symm
  have h2 : (freeF n tied).length = ((List.range n).filter fun c : Nat => !decide ((c : Int) ∈ tied)).length := by unfold freeF; rw [List.length_map]
  rw [h1, h2]
  have h3 := List.length_eq_countP_add_countP (p := fun c : Nat => decide ((c : Int) ∈ tied)) (l := List.range n)
  rw [List.length_range, List.countP_eq_length_filter, List.countP_eq_length_filter] at h3
  have e3 : (fun a : Nat => decide ¬decide ((a : Int) ∈ tied) = true) = fun c : Nat => !decide ((c : Int) ∈ tied) := by
    funext c; by_cases h : (c : Int) ∈ tied <;> simp [h]
  rw [e3] at h3
  omega
def allT (p k : Nat) : List (List Int) := colsF [] p [] k
theorem allT_succ (p k : Nat) : allT p (k + 1) = (allT p k).flatMap fun cs => (List.range p).map fun c : Nat => cs ++ [(c : Int)] := by
  unfold allT
  rw [colsF]
  congr 1
  funext cs
  unfold extP
  rw [List.filter_eq_self.mpr (by simp)]
theorem allT_mem {p k : Nat} {cs : List Int} : cs ∈ allT p k ↔ Cs p k cs := by
  unfold allT
  rw [colsF_iff (by simp)]
  simp
theorem allT_nodup (p k : Nat) : (allT p k).Nodup := lex_nodup (colsF_sorted k)
theorem flatMap_lenE {α β : Type} {f : α → List β} {n : Nat} (h : ∀ x, (f x).length = n) : ∀ xs : List α, (xs.flatMap f).length = n * xs.length
  | [] => by simp
  | x :: xs => by
    rw [List.flatMap_cons, List.length_append, List.length_cons, Nat.mul_add, Nat.mul_one, flatMap_lenE h xs, h x]
    omega
theorem allT_len (p : Nat) : ∀ k, (allT p k).length = p ^ k
  | 0 => rfl
  | k + 1 => by
    rw [allT_succ, flatMap_lenE (n := p) (by simp), allT_len p k, Nat.pow_succ, Nat.mul_comm]
def comboL (n : Nat) : List (List Int) → List Int → List Int
  | [], _ => List.replicate n 0
  | _ :: _, [] => List.replicate n 0
  | b :: bs, v :: vs => comb (fun x z => x - (-v) * z) (comboL n bs vs) b
theorem comboL_len {n : Nat} : ∀ {bs : List (List Int)} {vs : List Int}, (∀ b ∈ bs, b.length = n) → (comboL n bs vs).length = n
  | [], _, _ => by simp [comboL]
  | _ :: _, [], _ => by simp [comboL]
  | b :: bs, v :: vs, h => by
    have ih := comboL_len (bs := bs) (vs := vs) fun b hb => h b (List.mem_cons_of_mem _ hb)
    rw [comboL, comb_len (by rw [ih, h b List.mem_cons_self]), ih]
theorem comboL_dot {p : Int} {n : Nat} (X : List Int) : ∀ {bs : List (List Int)} {vs : List Int}, (∀ b ∈ bs, b.length = n) → (∀ b ∈ bs, Cg p (dot X b) 0) → Cg p (dot X (comboL n bs vs)) 0
  | [], _, _, _ => by rw [comboL, dot_comm, dot_rep0]; exact .rfl'
  | _ :: _, [], _, _ => by rw [comboL, dot_comm, dot_rep0]; exact .rfl'
  | b :: bs, v :: vs, h, hd => by
    have hl := comboL_len (bs := bs) (vs := vs) fun b hb => h b (List.mem_cons_of_mem _ hb)
    have ih := comboL_dot X (vs := vs) (fun b hb => h b (List.mem_cons_of_mem _ hb)) fun b hb => hd b (List.mem_cons_of_mem _ hb)
    rw [comboL, dot_comm, dot_lin _ _ (by rw [hl, h b List.mem_cons_self]), dot_comm _ X, dot_comm b X]
    exact (ih.sub (Cg.rfl'.mul (hd b List.mem_cons_self))).trans ⟨0, by grind⟩
theorem comboL_at {n c j : Nat} (hc : c < n) : ∀ {bs : List (List Int)} {vs : List Int} (k0 : Nat), (∀ b ∈ bs, b.length = n) → bs.length ≤ vs.length → (∀ i b, bs[i]? = some b → nt b c = if j = k0 + i then 1 else 0) → nt (comboL n bs vs) c = if k0 ≤ j ∧ j < k0 + bs.length then nt vs (j - k0) else 0
  | [], _, k0, _, _, _ => by rw [comboL, nt_rep0, if_neg (by simp)]
  | _ :: _, [], _, _, hl, _ => by simp at hl
  | b :: bs, v :: vs, k0, h, hl, hd => by
    have hbl := h b List.mem_cons_self
    have hcl := comboL_len (bs := bs) (vs := vs) fun b hb => h b (List.mem_cons_of_mem _ hb)
    have ih := comboL_at hc (bs := bs) (vs := vs) (k0 + 1) (fun b hb => h b (List.mem_cons_of_mem _ hb)) (by simpa using hl) fun i b hb => by rw [hd (i + 1) b (by simpa using hb), show k0 + (i + 1) = k0 + 1 + i by omega]
    rw [comboL, nt_comb (by omega) (by omega), ih, hd 0 b rfl]
    simp only [List.length_cons, Nat.add_zero]
    by_cases e : j = k0
    · subst e
      rw [if_neg (by omega), if_pos rfl, if_pos (by omega), Nat.sub_self]
      show 0 - -v * 1 = v
      omega
    · rw [if_neg e]
      by_cases e2 : k0 + 1 ≤ j ∧ j < k0 + 1 + bs.length
      · rw [if_pos e2, if_pos (by omega), show j - k0 = (j - (k0 + 1)) + 1 by omega]
        show nt vs _ - -v * 0 = nt vs _
        omega
      · rw [if_neg e2, if_neg (by omega)]; omega
theorem Cs.nt {p n : Nat} {cs : List Int} (h : Cs p n cs) {c : Nat} (hc : c < n) : 0 ≤ VL.nt cs c ∧ VL.nt cs c < p := h.rng _ (List.mem_of_getElem? (nt_at (by rw [h.len]; exact hc)))
theorem sol_count {p n : Nat} {N : Nat} {E A D : List (List Int)} {tied : List Int} (hp : 2 ≤ p) (h : Red (p : Int) N (augF E) n A D tied) (hE : ∀ R ∈ E, Rst (p : Int) R ∧ R.length = n) : ((allT p n).filter fun cs => keepB (p : Int) E cs).length = p ^ (freeF n tied).length := by
  have hbas : ∀ b ∈ (freeF n tied).map (basF (p : Int) n (A.zip tied)), b.length = n := fun b hb => by
    obtain ⟨fr, h1, rfl⟩ := List.mem_map.mp hb
    exact bas_len _ _
  have hbs : ∀ X ∈ A, ∀ b ∈ (freeF n tied).map (basF (p : Int) n (A.zip tied)), Cg (p : Int) (dot X b) 0 := fun X hX b hb => by
    obtain ⟨fr, h1, rfl⟩ := List.mem_map.mp hb
    exact h.bas_sol h1 X hX
  have hS : ∀ cs, cs ∈ (allT p n).filter (fun cs => keepB (p : Int) E cs) ↔ Cs p n cs ∧ ∀ X ∈ A, Cg (p : Int) (dot X cs) 0 := fun cs => by
    rw [List.mem_filter, allT_mem]
    constructor
    · rintro ⟨h1, h2⟩
      exact ⟨h1, (h.sol hE h1.len).mp (keepB_iff.mp h2)⟩
    · rintro ⟨h1, h2⟩
      exact ⟨h1, keepB_iff.mpr ((h.sol hE h1.len).mpr h2)⟩
  have hnd : ((allT p n).filter fun cs => keepB (p : Int) E cs).Nodup := (allT_nodup p n).filter _
  rw [← allT_len p (freeF n tied).length]
  apply Nat.le_antisymm
  · have := sub_len (a := ((allT p n).filter fun cs => keepB (p : Int) E cs).map fun cs => (freeF n tied).map fun t => nt cs t.toNat) (b := allT p (freeF n tied).length) ?_ ?_
    · rwa [List.length_map] at this
    · refine (List.pairwise_map.mpr ((List.Pairwise.and_mem.mp hnd).imp ?_))
      rintro cs cs' ⟨m1, m2, ne⟩ e
      obtain ⟨c1, s1⟩ := (hS cs).mp m1
      obtain ⟨c2, s2⟩ := (hS cs').mp m2
      apply ne
      have hl : cs.length = cs'.length := by rw [c1.len, c2.len]
      refine nt_ext hl fun c hc => ?_
      rw [c1.len] at hc
      have h0 := h.uniq (w := comb (fun x z => x - 1 * z) cs cs') (by rw [comb_len hl, c1.len]) (fun X hX => by
        rw [dot_comm, dot_lin 1 X hl, dot_comm cs, dot_comm cs']
        exact ((s1 X hX).sub (Cg.rfl'.mul (s2 X hX))).trans ⟨0, by grind⟩) (fun t ht => by
        obtain ⟨f1, f2, f3⟩ := freeF_mem.mp ht
        have := List.map_inj_left.mp e t ht
        rw [nt_comb (by rw [c1.len]; omega) (by rw [c2.len]; omega), this]
        exact ⟨0, by grind⟩) c hc
      rw [nt_comb (by rw [c1.len]; omega) (by rw [c2.len]; omega)] at h0
      have h1 : Cg (p : Int) (nt cs c) (nt cs' c) := by
        obtain ⟨k, hk⟩ := h0
        exact ⟨k, by omega⟩
      exact h1.same (c1.nt hc).1 (c1.nt hc).2 (c2.nt hc).1 (c2.nt hc).2
    · intro x hx
      obtain ⟨cs, hcs, rfl⟩ := List.mem_map.mp hx
      obtain ⟨c1, s1⟩ := (hS cs).mp hcs
      rw [allT_mem]
      refine ⟨by simp, fun v hv => ?_⟩
      obtain ⟨t, ht, rfl⟩ := List.mem_map.mp hv
      obtain ⟨f1, f2, f3⟩ := freeF_mem.mp ht
      exact c1.nt (by omega)
  · have hlen : ∀ vs, (mp (p : Int) (comboL n ((freeF n tied).map (basF (p : Int) n (A.zip tied))) vs)).length = n := fun vs => by rw [mp_len, comboL_len hbas]
    have hat : ∀ vs : List Int, vs.length = (freeF n tied).length → ∀ j t, (freeF n tied)[j]? = some t → nt (mp (p : Int) (comboL n ((freeF n tied).map (basF (p : Int) n (A.zip tied))) vs)) t.toNat = nt vs j % (p : Int) := fun vs hv j t hj => by
      obtain ⟨f1, f2, f3⟩ := freeF_mem.mp (List.mem_of_getElem? hj)
      have hjl := (List.getElem?_eq_some_iff.mp hj).1
      rw [nt_mp (by rw [comboL_len hbas]; omega), comboL_at (j := j) (by omega) 0 hbas (by simp; omega) (fun i b hb => by
        rw [List.getElem?_map] at hb
        obtain ⟨fr, hfr, rfl⟩ := Option.map_eq_some_iff.mp hb
        rw [h.bas_at (List.mem_of_getElem? hfr) (by omega) (by rw [show ((t.toNat : Nat) : Int) = t by omega]; exact f3)]
        by_cases e : j = i
        · subst e
          rw [hj] at hfr; cases hfr
          rw [if_pos (by omega), if_pos (by omega)]
        · rw [if_neg, if_neg (by omega)]
          intro e2
          exact e (inc_inj (freeF_inc n tied) hj (by rw [hfr]; congr 1; omega))), if_pos (by simpa using hjl)]
      rfl
    have := sub_len (a := (allT p (freeF n tied).length).map fun vs => mp (p : Int) (comboL n ((freeF n tied).map (basF (p : Int) n (A.zip tied))) vs)) (b := (allT p n).filter fun cs => keepB (p : Int) E cs) ?_ ?_
    · rwa [List.length_map] at this
    · refine (List.pairwise_map.mpr ((List.Pairwise.and_mem.mp (allT_nodup _ _)).imp ?_))
      rintro vs vs' ⟨m1, m2, ne⟩ e
      rw [allT_mem] at m1 m2
      apply ne
      refine nt_ext (by rw [m1.len, m2.len]) fun j hj => ?_
      rw [m1.len] at hj
      have hjt : (freeF n tied)[j]? = some (freeF n tied)[j] := List.getElem?_eq_getElem hj
      have e1 := hat vs m1.len j _ hjt
      have e2 := hat vs' m2.len j _ hjt
      rw [e, e2] at e1
      have a1 := m1.nt hj
      have a2 := m2.nt hj
      rw [Int.emod_eq_of_lt a1.1 a1.2, Int.emod_eq_of_lt a2.1 a2.2] at e1
      exact e1.symm
    · intro x hx
      obtain ⟨vs, hvs, rfl⟩ := List.mem_map.mp hx
      rw [hS]
      refine ⟨⟨hlen vs, mp_rst (by omega) _⟩, fun X hX => ?_⟩
      rw [dot_comm]
      refine (dot_mp _ _ X).trans ?_
      rw [dot_comm]
      exact comboL_dot X hbas (hbs X hX)
end VL
set_option maxRecDepth 100000
set_option maxHeartbeats 4000000
namespace XG
open PySem PySem.Spec PyProof.Rows L2 VL
end XG
set_option maxRecDepth 100000
set_option maxHeartbeats 1000000
namespace VL
open PySem PySem.Spec PyProof.Rows L2
local macro_rules | `(tactic| sleep 11) => `(tactic| simp only [Out.bind_ok, noX_ok, lift_some, flowT_ret, flowT_nxt, flowF_ret, flowF_nxt, sat_bind, sat_ok, sat_exn, sat_noX, eta2, Out.bind_id])
structure Grp (n : Nat) (m : Nat → Nat → Nat) : Prop where
  pos : 0 < n
  rng : ∀ a b, a < n → b < n → m a b < n
  l0 : ∀ a, a < n → m 0 a = a
  r0 : ∀ a, a < n → m a 0 = a
  inv : ∀ a, a < n → ∃ b, b < n ∧ m a b = 0
  assoc : ∀ a b c, a < n → b < n → c < n → m (m a b) c = m a (m b c)
theorem Grp.congr {n : Nat} {m m' : Nat → Nat → Nat} (g : Grp n m) (h : ∀ a b, a < n → b < n → m a b = m' a b) : Grp n m' := by
  have r : ∀ a b, a < n → b < n → m' a b < n := fun a b ha hb => by rw [← h a b ha hb]; exact g.rng a b ha hb
  refine ⟨g.pos, r, fun a ha => by rw [← h 0 a g.pos ha]; exact g.l0 a ha, fun a ha => by rw [← h a 0 ha g.pos]; exact g.r0 a ha, fun a ha => ?_, fun a b c ha hb hc => ?_⟩
  · obtain ⟨b, hb, e⟩ := g.inv a ha
    exact ⟨b, hb, by rw [← h a b ha hb]; exact e⟩
  · rw [← h _ c (r a b ha hb) hc, ← h a b ha hb, ← h a _ ha (r b c hb hc), ← h b c hb hc]
    exact g.assoc a b c ha hb hc
theorem Grp.cyc {s : Nat} (h : 0 < s) : Grp s fun a b => (a + b) % s := by
  refine ⟨h, fun a b _ _ => Nat.mod_lt _ h, fun a ha => by simp [Nat.mod_eq_of_lt ha], fun a ha => by simp [Nat.mod_eq_of_lt ha], fun a ha => ?_, fun a b c _ _ _ => ?_⟩
  · refine ⟨(s - a) % s, Nat.mod_lt _ h, ?_⟩
    show (a + (s - a) % s) % s = 0
    rw [Nat.add_mod_mod, show a + (s - a) = s by omega, Nat.mod_self]
  · show ((a + b) % s + c) % s = (a + (b + c) % s) % s
    rw [Nat.mod_add_mod, Nat.add_mod_mod, Nat.add_assoc]
section
variable {s e : Nat} (hs : 0 < s)
include hs
end
def comp (one other : List Nat) : List Nat := one.map fun k => (other[k]?).getD 0
def idxM (E : List (List Nat)) (i j : Nat) : Nat := idxD E (comp ((E[i]?).getD []) ((E[j]?).getD []))
theorem comp_assoc {a b c : List Nat} {m : Nat} (ha : ∀ x ∈ a, x < m) (hb : b.length = m) : comp (comp a b) c = comp a (comp b c) := by
  unfold comp
  rw [List.map_map]
  refine List.map_congr_left fun k hk => ?_
  have := ha k hk
  simp only [Function.comp, List.getElem?_map, List.getElem?_eq_getElem (show k < b.length by omega)]
  rfl
def okE (E : List (List Nat)) (m : Nat) : Bool :=
  decide (0 < E.length) && decide E.Nodup && E.all (fun a => decide (a.length = m) && a.all fun x => decide (x < m)) && decide (E[0]? = some (List.range m)) &&
  E.all fun a => E.all (fun b => decide (comp a b ∈ E)) && E.any fun b => decide (comp a b = List.range m)
theorem comp_id {a : List Nat} {m : Nat} (ha : ∀ x ∈ a, x < m) : comp a (List.range m) = a := by
  unfold comp
  conv => rhs; rw [← List.map_id a]
  refine List.map_congr_left fun k hk => ?_
  rw [List.getElem?_range (ha k hk)]; rfl
theorem id_comp {a : List Nat} {m : Nat} (ha : a.length = m) : comp (List.range m) a = a := by
  unfold comp
  refine list_ext (n := m) (by simp) ha fun k hk => ?_
  rw [rangeMap_get hk, List.getElem?_eq_getElem (by omega)]; rfl
theorem Grp.set {E : List (List Nat)} {m : Nat} (h : okE E m = true) : Grp E.length (idxM E) := by
  unfold okE at h
  simp only [Bool.and_eq_true, decide_eq_true_eq, List.all_eq_true, List.any_eq_true] at h
  obtain ⟨⟨⟨⟨h1, h2⟩, h3⟩, h4⟩, h5⟩ := h
  have gt : ∀ i, i < E.length → E[i]? = some ((E[i]?).getD []) ∧ ((E[i]?).getD []) ∈ E := fun i hi => by
    rw [List.getElem?_eq_getElem hi]
    exact ⟨rfl, List.getElem_mem hi⟩
  have cl : ∀ i j, i < E.length → j < E.length → comp ((E[i]?).getD []) ((E[j]?).getD []) ∈ E := fun i j hi hj => (h5 _ (gt i hi).2).1 _ (gt j hj).2
  have at_ : ∀ i j, i < E.length → j < E.length → (E[idxM E i j]?).getD [] = comp ((E[i]?).getD []) ((E[j]?).getD []) := fun i j hi hj => by
    unfold idxM
    have := cl i j hi hj
    rw [idxD_get this]; rfl
  have rng : ∀ i j, i < E.length → j < E.length → idxM E i j < E.length := fun i j hi hj => idxD_lt (cl i j hi hj)
  have inj : ∀ i, i < E.length → idxD E ((E[i]?).getD []) = i := fun i hi => by
    rw [List.getElem?_eq_getElem hi]
    exact idxD_nd h2 hi
  have e0 : (E[0]?).getD [] = List.range m := by rw [h4]; rfl
  refine ⟨h1, rng, fun a ha => ?_, fun a ha => ?_, fun a ha => ?_, fun a b c ha hb hc => ?_⟩
  · have := (h3 _ (gt a ha).2).1
    unfold idxM
    rw [e0, id_comp this]
    exact inj a ha
  · have := (h3 _ (gt a ha).2).2
    unfold idxM
    rw [e0, comp_id this]
    exact inj a ha
  · obtain ⟨b, hb, e⟩ := (h5 _ (gt a ha).2).2
    refine ⟨idxD E b, idxD_lt hb, ?_⟩
    unfold idxM
    rw [idxD_get hb, Option.getD_some, e, ← e0]
    exact inj 0 h1
  · show idxD E (comp ((E[idxM E a b]?).getD []) _) = idxD E (comp _ ((E[idxM E b c]?).getD []))
    rw [at_ a b ha hb, at_ b c hb hc, comp_assoc (m := m) (h3 _ (gt a ha).2).2 (h3 _ (gt b hb).2).1]
end VL
set_option maxRecDepth 100000
set_option maxHeartbeats 1000000
namespace VL
open PySem PySem.Spec PyProof.Rows L2
local macro_rules | `(tactic| sleep 11) => `(tactic| simp only [Out.bind_ok, noX_ok, lift_some, flowT_ret, flowT_nxt, flowF_ret, flowF_nxt, sat_bind, sat_ok, sat_exn, sat_noX, eta2, Out.bind_id])
end VL
set_option maxRecDepth 100000
set_option maxHeartbeats 1000000
namespace VL
open PySem PySem.Spec PyProof.Rows L2
local macro_rules | `(tactic| sleep 11) => `(tactic| simp only [Out.bind_ok, noX_ok, lift_some, flowT_ret, flowT_nxt, flowF_ret, flowF_nxt, sat_bind, sat_ok, sat_exn, sat_noX, eta2, Out.bind_id])
end VL
set_option maxRecDepth 100000
set_option maxHeartbeats 1000000
namespace VL
open PySem PySem.Spec PyProof.Rows L2
local macro_rules | `(tactic| sleep 11) => `(tactic| simp only [Out.bind_ok, noX_ok, lift_some, flowT_ret, flowT_nxt, flowF_ret, flowF_nxt, sat_bind, sat_ok, sat_exn, sat_noX, eta2, Out.bind_id])
end VL
set_option maxRecDepth 100000
set_option maxHeartbeats 1000000
namespace VL
open PySem PySem.Spec PyProof.Rows L2
local macro_rules | `(tactic| sleep 11) => `(tactic| simp only [Out.bind_ok, Out.bind_exn, noX_ok, lift_some, flowT_ret, flowT_nxt, flowF_ret, flowF_nxt, sat_bind, sat_ok, sat_exn, sat_noX, eta2, Out.bind_id])
end VL
set_option maxRecDepth 100000
set_option maxHeartbeats 1000000
namespace LK85
open PySem PySem.Spec PyProof.Rows L2 VL VB
local macro_rules | `(tactic| sleep 11) => `(tactic| simp only [Out.bind_ok, Out.bind_exn, noX_ok, lift_some, flowT_ret, flowT_nxt, flowF_ret, flowF_nxt, sat_bind, sat_ok, sat_exn, sat_noX, eta2, Out.bind_id])
theorem solved_is (d : Dr) (p f : Int) : XR3.F_solved d p f = XR2.F_solved d p f := by
  unfold XR3.F_solved XR2.F_solved
  rfl
theorem straight_is (d : Dr) (p f : Int) : XR3.F_straight_many d p f = XR2.F_straight_many d p f := by
  unfold XR3.F_straight_many XR2.F_straight_many
  rw [solved_is]
def scT (p : Nat) (f : Int) : List (List Int) := (List.range p).map fun a : Nat => (List.range p).map fun b : Nat => (f * (a : Int) + (1 - f) * (b : Int)) % (p : Int)
theorem scT_ent {p : Nat} {f a b : Int} (ha : 0 ≤ a ∧ a < p) (hb : 0 ≤ b ∧ b < p) : ent (scT p f) a b = (f * a + (1 - f) * b) % (p : Int) := by
  unfold ent scT
  rw [rangeMap_get (show a.toNat < p by omega)]
  simp only [Option.getD_some]
  rw [rangeMap_get (show b.toNat < p by omega)]
  simp only [Option.getD_some]
  rw [show ((a.toNat : Nat) : Int) = a by omega, show ((b.toNat : Nat) : Int) = b by omega]
theorem agree_eq {p n : Nat} {f : Int} {m : Mt} {cs : List Int} (hp : 2 ≤ p) (hm : MtIn n m) (hc : Cs p n cs) : agreeP (scT p f) cs m = decide (dot (eqR n p f m) cs % (p : Int) = 0) := by
  obtain ⟨h1, h2, h3⟩ := hm.ab
  have a1 := hc.nt (c := (inA m).toNat) (by omega)
  have a2 := hc.nt (c := m.2.2.1.toNat) (by omega)
  have a3 := hc.nt (c := (outA m).toNat) (by omega)
  have e : ∀ i : Int, atR cs i = nt cs i.toNat := fun i => rfl
  have hd := eqR_dot (p := (p : Int)) (f := f) hm cs
  unfold agreeP
  rw [e, e, e, scT_ent a1 a2, decide_eq_decide]
  constructor
  · intro h
    refine Cg.zero.mp (hd.trans ?_)
    have := (Cg.mod (p : Int) (f * nt cs (inA m).toNat + (1 - f) * nt cs m.2.2.1.toNat)).symm
    rw [h] at this
    exact (this.sub .rfl').trans ⟨0, by grind⟩
  · intro h
    have h0 := hd.symm.trans (Cg.zero.mpr h)
    have h1 : Cg (p : Int) ((f * nt cs (inA m).toNat + (1 - f) * nt cs m.2.2.1.toNat) % (p : Int)) (nt cs (outA m).toNat) := by
      refine (Cg.mod _ _).trans ?_
      obtain ⟨k, hk⟩ := h0
      exact ⟨k, by omega⟩
    exact h1.same (Int.emod_nonneg _ (by omega)) (Int.emod_lt_of_pos _ (by omega)) a3.1 a3.2
theorem cols_iff {p most : Nat} {f : Int} {d : Dr} (h : DrS most d) (hp : 2 ≤ p) (cs : List Int) : cs ∈ colsF (scT p f) p (meetsF d) (cntN d.1) ↔ cs ∈ (allT p (cntN d.1)).filter fun cs => keepB (p : Int) (eqsF p f d) cs := by
  have hin : ∀ m ∈ meetsF d, MtIn (cntN d.1) m := fun m hm => meet_in h hm
  rw [colsF_iff fun m hm => ⟨_, hin m hm⟩, List.mem_filter, allT_mem]
  refine and_congr_right fun hc => ?_
  unfold keepB eqsF
  rw [List.all_map, List.all_eq_true]
  constructor
  · intro hk m hm
    have := hk m hm (topA_in (hin m hm)).2.1
    rw [agree_eq hp (hin m hm) hc] at this
    exact this
  · intro hk m hm _
    rw [agree_eq hp (hin m hm) hc]
    exact hk m hm
theorem cols_len {p most : Nat} {f : Int} {d : Dr} (h : DrS most d) (hp : 2 ≤ p) : (colsF (scT p f) p (meetsF d) (cntN d.1)).length = ((allT p (cntN d.1)).filter fun cs => keepB (p : Int) (eqsF p f d) cs).length :=
  Nat.le_antisymm (sub_len (lex_nodup (colsF_sorted _)) fun x hx => (cols_iff h hp x).mp hx) (sub_len ((allT_nodup _ _).filter _) fun x hx => (cols_iff h hp x).mpr hx)
theorem straight_count {d : Dr} {p : Nat} {f : Int} (h : DrS 40 d) (hp : PrP (p : Int)) (hf : f % (p : Int) ≠ 0) : ∃ k, k ≤ 52 ∧ XR3.F_straight_many d p f = .ok ((p ^ k : Nat) : Int) ∧ (colsD p (scT p f) d).length = p ^ k := by
  have hc9 := h.cnt_le
  have p2 := hp.ge
  obtain ⟨A, D, tied, hR, hs⟩ := solved_eq h (by decide) hp hf
  have hE : ∀ R ∈ eqsF p f d, Rst (p : Int) R ∧ R.length = cntN d.1 := fun R hR => eqs_rst (by omega) hR
  have hfl := free_len hR.inc hR.tin
  have hcount := sol_count (by omega) hR hE
  refine ⟨(freeF (cntN d.1) tied).length, by omega, ?_, ?_⟩
  · rw [straight_is, straight_eq hp hs]
    simp
  · rw [← hcount]
    exact cols_len h (by omega)
def qS (p : Nat) (f g : Int) (h2 : 2 ≤ p) (hg : Cg (p : Int) (g * f) 1) : Qn (Cc p) where
  op a b := ⟨(f * a.1 + (1 - f) * b.1) % (p : Int), Int.emod_nonneg _ (by omega), Int.emod_lt_of_pos _ (by omega)⟩
  iv a b := ⟨(g * (a.1 - (1 - f) * b.1)) % (p : Int), Int.emod_nonneg _ (by omega), Int.emod_lt_of_pos _ (by omega)⟩
  l a b := Subtype.ext (by
    show (g * ((f * a.1 + (1 - f) * b.1) % (p : Int) - (1 - f) * b.1)) % (p : Int) = a.1
    have h1 : Cg (p : Int) (g * ((f * a.1 + (1 - f) * b.1) % (p : Int) - (1 - f) * b.1)) a.1 :=
      (Cg.rfl'.mul ((Cg.mod _ _).sub .rfl')).trans ((show Cg (p : Int) _ ((g * f) * a.1) from ⟨0, by grind⟩).trans ((hg.mul .rfl').trans ⟨0, by grind⟩))
    rw [h1.eq, Int.emod_eq_of_lt a.2.1 a.2.2])
  r a b := Subtype.ext (by
    show (f * ((g * (a.1 - (1 - f) * b.1)) % (p : Int)) + (1 - f) * b.1) % (p : Int) = a.1
    have h1 : Cg (p : Int) (f * ((g * (a.1 - (1 - f) * b.1)) % (p : Int)) + (1 - f) * b.1) a.1 :=
      ((Cg.rfl'.mul (Cg.mod _ _)).add .rfl').trans ((show Cg (p : Int) _ ((g * f) * (a.1 - (1 - f) * b.1) + (1 - f) * b.1) from ⟨0, by grind⟩).trans (((hg.mul .rfl').add .rfl').trans ⟨0, by grind⟩))
    rw [h1.eq, Int.emod_eq_of_lt a.2.1 a.2.2])
  id a := Subtype.ext (by
    show (f * a.1 + (1 - f) * a.1) % (p : Int) = a.1
    rw [show f * a.1 + (1 - f) * a.1 = a.1 by grind, Int.emod_eq_of_lt a.2.1 a.2.2])
  d a b c := Subtype.ext (by
    show (f * ((f * a.1 + (1 - f) * b.1) % (p : Int)) + (1 - f) * c.1) % (p : Int) = (f * ((f * a.1 + (1 - f) * c.1) % (p : Int)) + (1 - f) * ((f * b.1 + (1 - f) * c.1) % (p : Int))) % (p : Int)
    refine Cg.eq ?_
    refine ((Cg.rfl'.mul (Cg.mod _ _)).add .rfl').trans (Cg.symm ?_)
    exact ((Cg.rfl'.mul (Cg.mod _ _)).add (Cg.rfl'.mul (Cg.mod _ _))).trans ⟨0, by grind⟩)
theorem back_ex {p f : Int} (hp : PrP p) (hf : f % p ≠ 0) : ∃ g, Cg p (g * f) 1 := by
  have p2 := hp.ge
  have h := way_back_ok hp (a := f % p) (by have := Int.emod_nonneg f (show p ≠ 0 by omega); omega) (Int.emod_lt_of_pos f (by omega))
  cases e : XR2.F_way_back (f % p) p with
  | ok b => rw [e] at h; exact ⟨b, (Cg.rfl'.mul (Cg.mod p f).symm).trans h.2.2⟩
  | exn x => rw [e] at h; exact h.elim
  | stuck => rw [e] at h; exact h.elim
theorem WOk.inW {n : Int} {W : List (Int × Int)} (h : WOk n W) : InW n W := fun p hp => (h p hp).1
theorem WOk.app {n : Int} {a b : List (Int × Int)} (h : WOk n a) (g : WOk n b) : WOk n (a ++ b) := fun p hp => (List.mem_append.mp hp).elim (h p) (g p)
theorem act_ls {C : Type} (q : Qn C) {n step : Int} {W : List (Int × Int)} (h : WOk n W) (hst : 0 ≤ step) (x : Int → C) : act q (lsO step W) x = act q W x := by
  refine act_sign ?_ x
  refine List.ext_getElem? fun k => ?_
  rw [List.getElem?_map, List.getElem?_map]
  by_cases hk : k < W.length
  · have hg : W[k]? = some W[k] := List.getElem?_eq_getElem hk
    unfold lsO lsU
    rw [List.getElem?_map, List.getElem?_range hk]
    simp only [Option.map_some, Option.some.injEq]
    unfold lsF
    rw [hg]
    have hs := (h _ (List.mem_of_getElem? hg)).2
    have h0 : 0 ≤ (k : Int) * step := Int.mul_nonneg (by omega) hst
    simp only [Option.getD_some, Option.map_some, Option.some.injEq, Prod.mk.injEq, true_and, decide_eq_decide]
    rcases hs with e | e <;> rw [e] <;> omega
  · rw [List.getElem?_eq_none (by rw [lsU_len]; omega), List.getElem?_eq_none (by omega)]
theorem mp_ls {C : Type} {q : Qn C} {n n' s s' : Int} {W W' : List (Int × Int)} (h : WOk n W) (h' : WOk n' W') (hs : 0 ≤ s) (hs' : 0 ≤ s') (hM : Mp q n W n' W') : Mp q n (lsO s W) n' (lsO s' W') := by
  have e : act q (lsO s W) = act q W := funext (act_ls q h hs)
  have e' : act q (lsO s' W') = act q W' := funext (act_ls q h' hs')
  unfold Mp Fx at hM ⊢
  rw [e, e']
  exact hM
def Besd (n : Int) (W : List (Int × Int)) (n' : Int) (W' : List (Int × Int)) : Prop :=
  WOk n W ∧ WOk n' W' ∧ W.length ≤ 40 ∧ W'.length ≤ 40 ∧ (2 ≤ n' ∧ n' ≤ 6) ∧ ∀ (p : Nat) (q : Qn (Cc p)), Mp q n W n' W' ∧ Mp q n' W' n W
theorem threes_ok {low s : Int} : Sat (F_law_threes low s) (fun r => ∃ a b c : Int, (a = 1 ∨ a = -1) ∧ (b = 1 ∨ b = -1) ∧ (c = 1 ∨ c = -1) ∧ (a = c → b = a) ∧ r.1 = [(low, a), (low + 1, b), (low, c)] ∧ r.2 = [(low + 1, c), (low, b), (low + 1, a)]) fun _ => False := by
  unfold F_law_threes
  sleep 11
  have h1 : 2 * (s % 2) - 1 = 1 ∨ 2 * (s % 2) - 1 = -1 := by omega
  have h2 : 2 * (s / 2 % 2) - 1 = 1 ∨ 2 * (s / 2 % 2) - 1 = -1 := by omega
  have h3 : 2 * (s / 4 % 2) - 1 = 1 ∨ 2 * (s / 4 % 2) - 1 = -1 := by omega
  generalize 2 * (s % 2) - 1 = a at *
  generalize 2 * (s / 2 % 2) - 1 = b at *
  generalize 2 * (s / 4 % 2) - 1 = c at *
  by_cases e : a = c
  · rw [decide_eq_true e]
    simp only [if_true]
    sleep 11
    exact ⟨a, a, c, h1, h1, h3, fun _ => rfl, rfl, rfl⟩
  · rw [decide_eq_false e]
    simp only [Bool.false_eq_true, if_false]
    sleep 11
    exact ⟨a, b, c, h1, h2, h3, fun z => absurd z e, rfl, rfl⟩
theorem beside_ok {n : Int} {W : List (Int × Int)} {sm : List Int} {v at_ low sg : Int} (hn : 2 ≤ n ∧ n ≤ 5) (hw : WOk n W) (hl : W.length ≤ 18) (e0 : atI sm 0 = some v) (e1 : atI sm 1 = some at_) (e2 : atI sm 2 = some low) (e3 : atI sm 3 = some sg) :
    Sat (F_law_beside W n sm) (fun r => Besd n r.1 r.2.2 r.2.1) fun _ => False := by
  unfold F_law_beside
  rw [e0, e1, e2, e3]
  sleep 11
  refine s_modB (by omega) fun a ha a0 a1 => ?_
  refine s_modB (by omega) fun lo hlo l0 l1 => ?_
  clear ha hlo
  obtain ⟨k, rfl⟩ : ∃ k : Nat, a = (k : Int) := ⟨a.toNat, by omega⟩
  have hs : 2 * (sg % 2) - 1 = 1 ∨ 2 * (sg % 2) - 1 = -1 := by omega
  rw [cutL_to, cutL_from W k (by omega)]
  generalize 2 * (sg % 2) - 1 = s at hs
  have hlen : (W.take k).length + (W.drop k).length = W.length := by rw [List.length_take, List.length_drop]; omega
  have wl : WOk n (W.take k) := fun p hp => hw p (List.mem_of_mem_take hp)
  have wr : WOk n (W.drop k) := fun p hp => hw p (List.mem_of_mem_drop hp)
  have eW : W.take k ++ W.drop k = W := List.take_append_drop k W
  generalize W.take k = L at *
  generalize W.drop k = R at *
  have mid : ∀ {A : List (Int × Int)}, WOk n A → WOk n (L ++ A ++ R) := fun h => (wl.app h).app wr
  refine s_ite (fun _ => ?_) (fun _ => ?_)
  · sleep 11
    refine s_cat (by simp; omega) ?_
    refine s_cat (by simp; omega) ?_
    have wa : WOk n [(lo, s), (lo, -s)] := fun p hp => by
      simp only [List.mem_cons, List.not_mem_nil, or_false] at hp
      rcases hp with rfl | rfl <;> exact ⟨⟨by show 0 ≤ lo; omega, by show lo + 1 < n; omega⟩, by first | omega | (simp only; omega)⟩
    refine ⟨hw, mid wa, by omega, by simp; omega, by omega, fun p q => ?_⟩
    have h1 := mp_mid (n := n) (u := L) (v := R) (put_same (q := q) lo hs)
    have h2 := mp_mid (n := n) (u := L) (v := R) fun x => (put_same (q := q) lo hs x).symm
    rw [List.append_nil, eW] at h1 h2
    exact ⟨h2, h1⟩
  · refine s_ite (fun _ => ?_) (fun _ => ?_)
    · sleep 11
      refine s_cat (by omega) ?_
      refine ⟨hw, wr.app wl, by omega, by simp; omega, by omega, fun p q => ?_⟩
      have h1 := mp_turn (q := q) (n := n) wl.inW wr.inW
      have h2 := mp_turn (q := q) (n := n) wr.inW wl.inW
      rw [eW] at h1 h2
      exact ⟨h1, h2⟩
    · have last : Sat (lift (catO W [((n - 1), s)])) (fun x => Besd n W (n + 1) x) fun _ => False := by
        refine s_cat (by simp; omega) ?_
        have wb : WOk (n + 1) (W ++ [(n - 1, s)]) := fun p hp => by
          rcases List.mem_append.mp hp with h | h
          · have := hw p h
            exact ⟨by omega, this.2⟩
          · rw [List.mem_singleton.mp h]
            exact ⟨⟨by show 0 ≤ n - 1; omega, by show n - 1 + 1 < n + 1; omega⟩, hs⟩
        exact ⟨hw, wb, by omega, by simp; omega, by omega, fun p q => ⟨mp_more (by omega) hw.inW hs, mp_less (by omega) hw.inW hs⟩⟩
      by_cases c2 : v = 2
      · rw [decide_eq_true c2]
        simp only [if_true]
        sleep 11
        refine s_ite (fun hq => ?_) (fun hq => ?_)
        · sleep 11
          refine s_modB (by omega) fun lo2 h2 g0 g1 => ?_
          refine s_F threes_ok fun r ⟨a, b, c, ha, hb, hc, hh, r1, r2⟩ => ?_
          obtain ⟨ra, rb⟩ := r
          simp only at r1 r2
          subst r1; subst r2
          refine s_cat (by simp; omega) ?_
          refine s_cat (by simp; omega) ?_
          refine s_cat (by simp; omega) ?_
          refine s_cat (by simp; omega) ?_
          have w1 : WOk n [(lo2, a), (lo2 + 1, b), (lo2, c)] := fun p hp => by
            simp only [List.mem_cons, List.not_mem_nil, or_false] at hp
            rcases hp with rfl | rfl | rfl <;> refine ⟨⟨?_, ?_⟩, ?_⟩ <;> simp only <;> omega
          have w2 : WOk n [(lo2 + 1, c), (lo2, b), (lo2 + 1, a)] := fun p hp => by
            simp only [List.mem_cons, List.not_mem_nil, or_false] at hp
            rcases hp with rfl | rfl | rfl <;> refine ⟨⟨?_, ?_⟩, ?_⟩ <;> simp only <;> omega
          exact ⟨mid w1, mid w2, by simp; omega, by simp; omega, by omega, fun p q => ⟨mp_mid (threes_same lo2 ha hb hc hh), mp_mid fun x => (threes_same lo2 ha hb hc hh x).symm⟩⟩
        · sleep 11
          have c3 : ¬ v = 3 := by omega
          rw [decide_eq_false c3]
          simp only [Bool.false_eq_true, if_false]
          sleep 11
          simp only [Bool.false_eq_true, if_false]
          sleep 11
          exact last
      · rw [decide_eq_false c2]
        simp only [Bool.false_eq_true, if_false]
        sleep 11
        simp only [Bool.false_eq_true, if_false]
        by_cases c3 : v = 3
        · rw [decide_eq_true c3]
          simp only [if_true]
          sleep 11
          refine s_ite (fun hq => ?_) (fun hq => ?_)
          · sleep 11
            refine s_modB (by omega) fun f hf g0 g1 => ?_
            refine s_cat (by simp; omega) ?_
            refine s_cat (by simp; omega) ?_
            refine s_cat (by simp; omega) ?_
            refine s_cat (by simp; omega) ?_
            have w1 : WOk n [(0, s), (2 + f, 1)] := fun p hp => by
              simp only [List.mem_cons, List.not_mem_nil, or_false] at hp
              rcases hp with rfl | rfl <;> refine ⟨⟨?_, ?_⟩, ?_⟩ <;> first | omega | exact hs | exact Or.inl rfl | (dsimp only; omega)
            have w2 : WOk n [(2 + f, 1), (0, s)] := fun p hp => by
              simp only [List.mem_cons, List.not_mem_nil, or_false] at hp
              rcases hp with rfl | rfl <;> refine ⟨⟨?_, ?_⟩, ?_⟩ <;> first | omega | exact hs | exact Or.inl rfl | (dsimp only; omega)
            exact ⟨mid w1, mid w2, by simp; omega, by simp; omega, by omega, fun p q => ⟨mp_mid (far_same (by omega) s 1), mp_mid fun x => (far_same (by omega) s 1 x).symm⟩⟩
          · sleep 11
            exact last
        · rw [decide_eq_false c3]
          simp only [Bool.false_eq_true, if_false]
          sleep 11
          simp only [Bool.false_eq_true, if_false]
          sleep 11
          exact last
theorem prime_ok {some_ : List Int} {a b c : Int} (h0 : atI some_ 0 = some a) (h1 : atI some_ 1 = some b) (h2 : atI some_ 2 = some c) (ha : 0 ≤ a ∧ a < 10) (hb : 0 ≤ b ∧ b < 99990) (hc : 0 ≤ c ∧ c < 5) :
    Sat (F_law_prime some_) (fun q => PrP q.1 ∧ q.1 ≤ 99991 ∧ q.2 % q.1 ≠ 0) fun _ => False := by
  unfold F_law_prime
  rw [h0, h1, h2]
  sleep 11
  refine s_at (by omega) (by simp; omega) fun p hp => ?_
  have pp : PrP p ∧ p ≤ 99991 := by
    have z := List.mem_of_getElem? hp
    simp only [List.mem_cons, List.not_mem_nil, or_false] at z
    rcases z with rfl | rfl | rfl | rfl | rfl | rfl | rfl | rfl | rfl | rfl <;> exact ⟨pr_by _ (by decide) (by decide) (by decide +kernel), by decide⟩
  have := pp.1.ge
  have e : maxF 1 (p - 1) = p - 1 := by unfold maxF; omega
  rw [e]
  refine s_mod (by omega) ?_
  refine s_at (by omega) (by simp; omega) fun k hk => ?_
  refine s_mulS (.inl ⟨by omega, by omega⟩) ?_
  refine ⟨pp.1, pp.2, ?_⟩
  rw [Int.add_mul_emod_self_left]
  have h8 := Int.emod_nonneg b (show p - 1 ≠ 0 by omega)
  have h9 := Int.emod_lt_of_pos b (show 0 < p - 1 by omega)
  rw [Int.emod_eq_of_lt (by omega) (by omega)]
  omega
theorem down_ok {p : Nat} (hp : 2 ≤ p ∧ p ≤ 100000) : ∀ (j n : Nat), j < n →
    whileO (fun (V300 : Int) => (lift (modO V300 (p : Int))).bind fun t1 => .ok (decide (t1 = 0))) (fun (V300 : Int) => lift (fdO V300 (p : Int))) n ((p ^ j : Nat) : Int) = .ok 1
  | 0, 0, h => absurd h (by omega)
  | 0, n + 1, _ => by
    unfold whileO
    rw [modO_ok (by omega)]
    simp only [lift_some, Out.bind_ok]
    have e : ((p ^ 0 : Nat) : Int) % (p : Int) = 1 := by rw [Nat.pow_zero]; exact Int.emod_eq_of_lt (by decide) (by omega)
    rw [e]
    simp
  | j + 1, 0, h => absurd h (by omega)
  | j + 1, n + 1, h => by
    unfold whileO
    rw [modO_ok (by omega)]
    simp only [lift_some, Out.bind_ok]
    have e2 : ((p ^ (j + 1) : Nat) : Int) = ((p ^ j : Nat) : Int) * (p : Int) := by rw [Nat.pow_succ]; push_cast; rfl
    have e : ((p ^ (j + 1) : Nat) : Int) % (p : Int) = 0 := by rw [e2]; exact Int.mul_emod_left _ _
    rw [e]
    simp only [decide_true, if_true]
    rw [fdO_ok (divW (by omega) 5000 (by
      have : (100000 : Nat) < 2 ^ 5001 := by decide +kernel
      omega) (by decide)), e2, Int.mul_ediv_cancel _ (by omega)]
    simp only [lift_some, Out.bind_ok]
    exact down_ok hp j n (by omega)
theorem law_ok (ns : List Int) (hl : ns.length ≤ 63) (hb : ∀ z ∈ ns, Builtin.Int.intBits z ≤ 1048576) : Sat (F_law ns) (fun b => b = true) fun _ => False := by
  unfold F_law
  sleep 11
  refine s_repL (by decide) (by decide) (by decide) ?_
  refine s_cat (by decide) ?_
  have hz : ∀ k, k < 18 → ([19, 4, 5, 60, 60, 8, 4] ++ (List.replicate (Int.toNat 18) [4, (2 : Int)]).flatten)[7 + 2 * k]? = some 4 ∧ ([19, 4, 5, 60, 60, 8, 4] ++ (List.replicate (Int.toNat 18) [4, (2 : Int)]).flatten)[8 + 2 * k]? = some 2 := by decide
  have hsz : ∀ s ∈ ([19, 4, 5, 60, 60, 8, 4] ++ (List.replicate (Int.toNat 18) [4, (2 : Int)]).flatten), 0 < s ∧ s < 2 ^ 5000 := by
    intro s hs
    have : 0 < s ∧ s < 100 := (show ∀ s ∈ ([19, 4, 5, 60, 60, 8, 4] ++ (List.replicate (Int.toNat 18) [4, (2 : Int)]).flatten), 0 < s ∧ s < 100 by decide) s hs
    have : (100 : Int) < 2 ^ 5000 := by decide +kernel
    omega
  refine s_F (row_ok (by decide) (by decide) hsz) fun r hr => ?_
  obtain ⟨rl, rg⟩ := hr.get
  have rl : r.length = 43 := rl
  obtain ⟨x0, y0, z0, w0⟩ := hr.at (i := 0) (s := 19) (by decide) rfl
  obtain ⟨x1, y1, z1, w1⟩ := hr.at (i := 1) (s := 4) (by decide) rfl
  obtain ⟨x6, y6, z6, w6⟩ := hr.at (i := 6) (s := 4) (by decide) rfl
  obtain ⟨x2, g2, z2, w2⟩ := rg 2 5 rfl
  obtain ⟨x3, g3, z3, w3⟩ := rg 3 60 rfl
  obtain ⟨x4, g4, z4, w4⟩ := rg 4 60 rfl
  obtain ⟨x5, g5, z5, w5⟩ := rg 5 8 rfl
  have hk : ∀ k : Nat, k < 18 → ∃ a b, atI r (7 + 2 * (k : Int)) = some a ∧ atI r (8 + 2 * (k : Int)) = some b ∧ 0 ≤ a ∧ (b = 0 ∨ b = 1) := fun k hk => by
    obtain ⟨a, a1, a2, a3⟩ := rg (7 + 2 * k) 4 (hz k hk).1
    obtain ⟨b, b1, b2, b3⟩ := rg (8 + 2 * k) 2 (hz k hk).2
    refine ⟨a, b, ?_, ?_, a2, by omega⟩
    · have := VL.atI_nat a1
      rwa [show ((7 + 2 * k : Nat) : Int) = 7 + 2 * (k : Int) by omega] at this
    · have := VL.atI_nat b1
      rwa [show ((8 + 2 * k : Nat) : Int) = 8 + 2 * (k : Int) by omega] at this
  clear hz hsz
  refine s_atE y1 ?_
  refine s_atE y0 ?_
  obtain ⟨m, rfl⟩ : ∃ m : Nat, x0 = (m : Int) := ⟨x0.toNat, by omega⟩
  obtain ⟨n, hn⟩ : ∃ n : Nat, 2 + x1 = (n : Int) := ⟨(2 + x1).toNat, by omega⟩
  rw [hn]
  refine s_for m rfl (by omega) (fun k V => V.length = k ∧ WOk n V) ⟨rfl, fun p hp => by cases hp⟩ (fun k V hkm hV => ?_) fun V hV => ?_
  · obtain ⟨a, b, h1, h2, h3, h4⟩ := hk k (by omega)
    obtain ⟨v1, v2⟩ := hV
    sleep 11
    refine s_atE h1 ?_
    refine s_modB (by omega) fun lo hlo l0 l1 => ?_
    refine s_atE h2 ?_
    refine s_app (by omega) ?_
    refine ⟨by simp; omega, v2.app fun p hp => ?_⟩
    rw [List.mem_singleton.mp hp]
    exact ⟨⟨by show 0 ≤ lo; omega, by show lo + 1 < n; omega⟩, by first | omega | (simp only; omega)⟩
  · obtain ⟨v1, v2⟩ := hV
    sleep 11
    refine s_F (row_ok (by decide) (by decide) fun s hs => ?_) fun pr hpr => ?_
    · have : 0 < s ∧ s < 100000 := (show ∀ s ∈ [10, 99990, (5 : Int)], 0 < s ∧ s < 100000 by decide) s hs
      have : (100000 : Int) < 2 ^ 5000 := by decide +kernel
      omega
    obtain ⟨p0, q0, s0, t0⟩ := hpr.at (i := 0) (s := 10) (by decide) rfl
    obtain ⟨p1, q1, s1, t1⟩ := hpr.at (i := 1) (s := 99990) (by decide) rfl
    obtain ⟨p2, q2, s2, t2⟩ := hpr.at (i := 2) (s := 5) (by decide) rfl
    refine s_F (prime_ok q0 q1 q2 ⟨s0, t0⟩ ⟨s1, t1⟩ ⟨s2, t2⟩) fun pf ⟨hp, hp9, hf⟩ => ?_
    obtain ⟨p', f⟩ := pf
    simp only at hp hp9 hf ⊢
    have hge := hp.ge
    obtain ⟨p, rfl⟩ : ∃ p : Nat, p' = (p : Int) := ⟨p'.toNat, by omega⟩
    have dr : ∀ (i : Nat) {x : Int}, r[2 + i]? = some x → atI (cutL r (some (2 : Int)) none) (i : Int) = some x := fun i x h => by
      rw [show cutL r (some (2 : Int)) none = r.drop 2 from cutL_from r 2 (by omega)]
      exact VL.atI_nat (by rw [List.getElem?_drop]; exact h)
    refine s_F (beside_ok (n := n) ⟨by omega, by omega⟩ v2 (by omega) (dr 0 g2) (dr 1 g3) (dr 2 g4) (dr 3 g5)) fun B hB => ?_
    obtain ⟨W, W', n'⟩ := B
    obtain ⟨b1, b2, b3, b4, b5, b6⟩ := hB
    simp only at b1 b2 b3 b4 b5 b6 ⊢
    obtain ⟨m', rfl⟩ : ∃ m' : Nat, n' = (m' : Int) := ⟨n'.toNat, by omega⟩
    refine s_atE y6 ?_
    refine s_at (by omega) (by simp; omega) fun step hstep => ?_
    have hst : 1 ≤ step ∧ step ≤ 1000000000 := by
      have z := List.mem_of_getElem? hstep
      simp only [List.mem_cons, List.not_mem_nil, or_false] at z
      rcases z with rfl | rfl | rfl | rfl <;> decide
    refine s_F (closed_ok ⟨by omega, by omega⟩ b1 (by omega) ⟨by decide, by decide⟩) fun d ⟨hd, Rs, hP⟩ => ?_
    obtain ⟨k, k9, e1, c1⟩ := straight_count hd hp hf
    rw [e1]
    sleep 11
    rw [whole_ok]
    sleep 11
    simp only [Bool.not_true, Bool.false_eq_true, if_false]
    refine sat_bind.mpr ?_
    refine sat_bind.mpr ?_
    sleep 11
    refine s_F (closed_ok ⟨by omega, by omega⟩ b2 (by omega) hst) fun d' ⟨hd', Rs', hP'⟩ => ?_
    obtain ⟨k', k9', e2, c2⟩ := straight_count hd' hp hf
    rw [e2]
    sleep 11
    obtain ⟨g, hg⟩ := back_ex hp hf
    have ht : ∀ a b : Cc p, ent (scT p f) a.1 b.1 = ((qS p f g (by omega) hg).op a b).1 := fun a b => scT_ent a.2 b.2
    obtain ⟨M1, M2⟩ := b6 p (qS p f g (by omega) hg)
    have c0 : Cc p := ⟨0, by omega, by omega⟩
    have l1 := cols_le c0 ht hd hd' hP hP' (mp_ls b1 b2 (by decide) (by omega) M1)
    have l2 := cols_le c0 ht hd' hd hP' hP (mp_ls b2 b1 (by omega) (by decide) M2)
    have e : p ^ k' = p ^ k := by rw [← c1, ← c2]; omega
    rw [e]
    have hpos : 0 < p ^ k := Nat.pow_pos (by omega)
    simp only [decide_true, Bool.not_true, Bool.false_or]
    rw [decide_eq_false (by omega)]
    simp only [Bool.false_eq_true, if_false]
    rw [down_ok (p := p) ⟨by omega, by omega⟩ k fuel (by unfold fuel; omega)]
    sleep 11
    rfl
end LK85
set_option maxRecDepth 100000
set_option maxHeartbeats 4000000
namespace LK85
open PySem PySem.Spec PyProof.Rows L2 VL
def topS (i : Nat) : Stmt := PySem.Challenge.pw_plait_k85_whole_words_of_plaits.main.body.getD i (.Pass ⟨0, 0, 0, 0⟩)
structure Ev (K : PySem.W.Frag) (mg : Str → Option Value) (cl : Str → Option Addr) : Prop where
  m_bool : mg "bool" = none
  m_enumerate : mg "enumerate" = none
  m_int : mg "int" = none
  m_isinstance : mg "isinstance" = none
  m_len : mg "len" = none
  m_max : mg "max" = none
  m_range : mg "range" = none
  m_zip : mg "zip" = none
  c_GREATEST : ∃ t, mg "GREATEST" = some (.int 100000 t)
  x_NoCrossing : ∃ C, Err K mg cl "NoCrossing" C
  x_NoPrime : ∃ C, Err K mg cl "NoPrime" C
  x_NoUnit : ∃ C, Err K mg cl "NoUnit" C
section
variable {P : Program} {w : World} {K : PySem.W.Frag} {mg : Str → Option Value} {base : Heap} {cl : Str → Option Addr}
abbrev s_law_cell : Stmt := topS 25
abbrev N_law_cell : List Str := ["_law_script", "_law_place", "_law_seed", "_law_cell_here"]
abbrev lv_law_cell : Nat := 1
theorem sc_law_cell : FnScope N_law_cell ["_law_script", "_law_place"] (defScope s_law_cell) := ⟨rfl, rfl, rfl, by decide +kernel, rfl, by decide +kernel, by decide +kernel⟩
def w_law_cell : WS := (wSeq (wIf (wTest (wBin woLt (wVar 1) (wCB wLen (wCons (wVar 0) wNil)))) (wSeq (wRet (wBin wIxS (wMv 0) (wVar 1)))
  wNext) wNext)
  (wSeq (wSet 2 (wC (.int 5)))
  (wSeq (wCut (wFor (tgN 3) (wSl (wVar 0) wNoP (wPt (wC (.int 63))))
  (wSeq (wSet 2 (wBin woMod (wBin woAdd (wBin woAdd (wBin woMul (wVar 2) (wC (.int 48271))) (wBin woMod (wVar 3) (wC (.int 1000003)))) (wC (.int 1))) (wC (.int 2147483647))))
  wNext)))
  (wSeq (wRet (wBin woMod (wBin woAdd (wVar 2) (wBin woMul (wC (.int 7919)) (wVar 1))) (wC (.int 1000003))))
  wNext))))
theorem st_law_cell (x0 x1 : D) : startE N_law_cell [x0, x1] = [argS x0, argS x1, none, none] := rfl
theorem d_law_cell (E : Ev K mg cl)  (f : Addr) (cdv : Value) (A : Around) (outer : List Env) (s : Shared) (H : Hp) (E0 : XK) (P0 : Addr → Prop) (hr : Room 0 (cxV P w K mg base N_law_cell "_law_cell" s_law_cell f cdv A outer s H E0).A) :
    PSs (cxV P w K mg base N_law_cell "_law_cell" s_law_cell f cdv A outer s H E0) (defBody s_law_cell) (rdS (cnOf K cl P0 H) (WXE E0) w_law_cell) := by
  have nd := sc_law_cell.nd
  exact (vss_cons (vs_if (vt_c c_lt (ve_var 1) (ve_len1 E.m_len (va_cons (ve_var 0) va_nil))) (vss_cons (vs_ret (ve_ixS (ve_mv 0) (ve_var 1)))
  vss_nil) vss_nil)
  (vss_cons (vs_set (i := 2) ve_int nd)
  (vss_cons (vs_cut (vs_for (passes_of rfl) rfl (ve_slice (ve_var 0) vo_none (vo_some ve_int)) (tg_name nd)
  (fun _ => (vss_cons (vs_set (i := 2) (ve_mod (ve_add (ve_add (ve_mul (ve_var 2) ve_int) (ve_mod (ve_var 3) ve_int)) ve_int) ve_int) nd)
  vss_nil))))
  (vss_cons (vs_ret (ve_mod (ve_add (ve_var 2) (ve_mul ve_int (ve_var 1))) ve_int))
  vss_nil))))
theorem b_law_cell (kV doc pm : Value) (an : Option Addr) (cdv ct : Value) (us : List Value) (h : us.length = 2) : bindArgs (PySem.W.fnOf "_law_cell" "_law_cell" (defArgs s_law_cell) (defBody s_law_cell) (defScope s_law_cell) .none kV doc pm an cdv ct) ⟨us, []⟩ = pure ((["_law_script", "_law_place"] : List Str).zip us) := match us, h with | [_, _], _ => rfl
theorem spec_law_cell : ∀ ds Qv Xv, XD.sp_law_cell ds Qv Xv → ds.length = 2 ∧ w_law_cell (startE N_law_cell ds) ⟨fun _ => Qv ⟨.none, mA⟩, fun r _ => Qv r, fun ex _ => Xv ex⟩ := by
  rintro ds Qv Xv ⟨script_, place_, rfl, h⟩
  refine ⟨rfl, ?_⟩
  have he : startE N_law_cell [eScr script_, eI place_] = [some (eScr script_, mS), some (eI place_, mA), none, none] := by
    rw [st_law_cell]
    try simp only [argS_F, argS_N]
  rw [he]
  have hr : RB (fun _ => True) w_law_cell [some (eScr script_, mS), some (eI place_, mA), none, none] (XD.F_law_cell script_ place_) (KT eI mA) := by
    unfold XD.F_law_cell w_law_cell
    exact (rs_ifRP kt_kt (rt_eq (rt_val (re_2P xo_lt (re_vF 1 eI (place_)) (re_cbP ((script_.length : Int)) (ra_consP (re_vS 0 eScr (script_)) ra_nil) (len_Scr (script_)))))) (rb_retI (re_eq (re_2Q xo_ixS (re_mO 0 eScr (script_)) (re_vF 1 eI (place_))))) (rs_set (re_eq (re_c (.int 5) eI (5))) (fun seed_ => [some (eScr (script_), mS), some (eI (place_), mA), some (eI (seed_), mA), none]) (fun seed_ => (rs_seqN (s := (fun (V3 : Int) => [some (eScr (script_), mS), some (eI (place_), mA), some (eI (V3), mA), none])) (rb_forP (s := (fun (V3 : Int) => [some (eScr (script_), mS), some (eI (place_), mA), some (eI (V3), mA), none])) (a := eI) seed_ (re_eq (re_slScr (re_vS 0 eScr (script_)) ro_no (ro_ptP (re_c (.int 63) eI (63))))) (el_c sl_o (el_c sl_o (el_c sl_o (el_c sl_n el_nil)))) (fun V3 cell_here_ => [some (eScr (script_), mS), some (eI (place_), mA), some (eI (V3), mA), some (eI (cell_here_), mA)]) (fun V3 cell_here_ => (rs_set (re_eq (re_modC 2147483647 (re_2P xo_add (re_2P xo_add (re_mulR 48271 (re_vF 2 eI (V3)) (re_c (.int 48271) eI (48271))) (re_modC 1000003 (re_vF 3 eI (cell_here_)) (re_c (.int 1000003) eI (1000003)))) (re_c (.int 1) eI (1))) (re_c (.int 2147483647) eI (2147483647)))) (fun seed_ => [some (eScr (script_), mS), some (eI (place_), mA), some (eI (seed_), mA), some (eI (cell_here_), mA)]) (fun seed_ => (rb_next (V := seed_) (el_c sl_o (el_c sl_o (el_c sl_o (el_c sl_n el_nil))))))))) (fun V3 => (rb_retP' (e := eI) ((V3 + (7919 * place_)) % 1000003) (re_eq (re_modC 1000003 (re_2P xo_add (re_vF 2 eI (V3)) (re_mulL 7919 (re_c (.int 7919) eI (7919)) (re_vF 1 eI (place_)))) (re_c (.int 1000003) eI (1000003))))))))))
  exact of_KT hr h
abbrev s_law_mix : Stmt := topS 26
abbrev N_law_mix : List Str := ["_law_cell_here", "_law_k", "_law_one", "_law_two"]
abbrev lv_law_mix : Nat := 1
theorem sc_law_mix : FnScope N_law_mix ["_law_cell_here", "_law_k"] (defScope s_law_mix) := ⟨rfl, rfl, rfl, by decide +kernel, rfl, by decide +kernel, by decide +kernel⟩
def w_law_mix : WS := (wSeq (wSet 2 (wBin woMod (wBin woPow (wBin woAdd (wBin woAdd (wBin woMod (wVar 0) (wC (.int 2147483629))) (wBin woMul (wC (.int 1013)) (wVar 1))) (wC (.int 7919))) (wC (.int 3))) (wC (.int 2147483647))))
  (wSeq (wSet 3 (wBin woMod (wBin woAdd (wBin woAdd (wBin woMul (wVar 2) (wC (.int 40699))) (wBin woMul (wBin woMul (wC (.int 3793)) (wVar 1)) (wVar 1))) (wC (.int 11))) (wC (.int 2147483399))))
  (wSeq (wRet (wBin woFd (wVar 3) (wC (.int 101))))
  wNext)))
theorem st_law_mix (x0 x1 : D) : startE N_law_mix [x0, x1] = [argS x0, argS x1, none, none] := rfl
theorem d_law_mix (E : Ev K mg cl)  (f : Addr) (cdv : Value) (A : Around) (outer : List Env) (s : Shared) (H : Hp) (E0 : XK) (P0 : Addr → Prop) (hr : Room 0 (cxV P w K mg base N_law_mix "_law_mix" s_law_mix f cdv A outer s H E0).A) :
    PSs (cxV P w K mg base N_law_mix "_law_mix" s_law_mix f cdv A outer s H E0) (defBody s_law_mix) (rdS (cnOf K cl P0 H) (WXE E0) w_law_mix) := by
  have nd := sc_law_mix.nd
  exact (vss_cons (vs_set (i := 2) (ve_mod (ve_pow (ve_add (ve_add (ve_mod (ve_var 0) ve_int) (ve_mul ve_int (ve_var 1))) ve_int) ve_int) ve_int) nd)
  (vss_cons (vs_set (i := 3) (ve_mod (ve_add (ve_add (ve_mul (ve_var 2) ve_int) (ve_mul (ve_mul ve_int (ve_var 1)) (ve_var 1))) ve_int) ve_int) nd)
  (vss_cons (vs_ret (ve_fd (ve_var 3) ve_int))
  vss_nil)))
theorem b_law_mix (kV doc pm : Value) (an : Option Addr) (cdv ct : Value) (us : List Value) (h : us.length = 2) : bindArgs (PySem.W.fnOf "_law_mix" "_law_mix" (defArgs s_law_mix) (defBody s_law_mix) (defScope s_law_mix) .none kV doc pm an cdv ct) ⟨us, []⟩ = pure ((["_law_cell_here", "_law_k"] : List Str).zip us) := match us, h with | [_, _], _ => rfl
theorem spec_law_mix : ∀ ds Qv Xv, XD.sp_law_mix ds Qv Xv → ds.length = 2 ∧ w_law_mix (startE N_law_mix ds) ⟨fun _ => Qv ⟨.none, mA⟩, fun r _ => Qv r, fun ex _ => Xv ex⟩ := by
  rintro ds Qv Xv ⟨cell_here_, k_, rfl, h⟩
  refine ⟨rfl, ?_⟩
  have he : startE N_law_mix [eI cell_here_, eI k_] = [some (eI cell_here_, mA), some (eI k_, mA), none, none] := by
    rw [st_law_mix]
    try simp only [argS_F, argS_N]
  rw [he]
  have hr : RB (fun _ => True) w_law_mix [some (eI cell_here_, mA), some (eI k_, mA), none, none] (XD.F_law_mix cell_here_ k_) (KT eI mA) := by
    unfold XD.F_law_mix w_law_mix
    exact (rs_set (re_eq (re_modCO 2147483647 (re_2Q xo_pow (re_2P xo_add (re_2P xo_add (re_modC 2147483629 (re_vF 0 eI (cell_here_)) (re_c (.int 2147483629) eI (2147483629))) (re_mulL 1013 (re_c (.int 1013) eI (1013)) (re_vF 1 eI (k_)))) (re_c (.int 7919) eI (7919))) (re_c (.int 3) eI (3))) (re_c (.int 2147483647) eI (2147483647)))) (fun one_ => [some (eI (cell_here_), mA), some (eI (k_), mA), some (eI (one_), mA), none]) (fun one_ => (rs_set (re_eq (re_modCO 2147483399 (re_2 (opP_out xo_add) (re_2 (opP_out xo_add) (re_mulR 40699 (re_vF 2 eI (one_)) (re_c (.int 40699) eI (40699))) (re_2Q xo_mul (re_mulL 3793 (re_c (.int 3793) eI (3793)) (re_vF 1 eI (k_))) (re_vF 1 eI (k_)))) (re_c (.int 11) eI (11))) (re_c (.int 2147483399) eI (2147483399)))) (fun two_ => [some (eI (cell_here_), mA), some (eI (k_), mA), some (eI (one_), mA), some (eI (two_), mA)]) (fun two_ => (rb_retP' (e := eI) (two_ / 101) (re_eq (re_fdC 101 (re_vF 3 eI (two_)) (re_c (.int 101) eI (101)))))))))
  exact of_KT hr h
abbrev s_law_row : Stmt := topS 27
abbrev N_law_row : List Str := ["_law_script", "_law_place", "_law_sizes", "_law_cell_here", "_law_left", "_law_some", "_law_k", "_law_other"]
abbrev lv_law_row : Nat := 2
theorem sc_law_row : FnScope N_law_row ["_law_script", "_law_place", "_law_sizes"] (defScope s_law_row) := ⟨rfl, rfl, rfl, by decide +kernel, rfl, by decide +kernel, by decide +kernel⟩
def w_law_row : WS := (wSeq (wSet 3 (wCall XD.sp_law_cell (wCons (wVar 0) (wCons (wVar 1) wNil))))
  (wSeq (wSet 4 (wVar 3))
  (wSeq (wSet 5 (wCB wLst wNil))
  (wSeq (wCut (wForR 1 6 (wCons (wCB wLen (wCons (wVar 2) wNil)) wNil)
  (wSeq (wCut (wIf (wTest (wBin woLt (wVar 3) (wBin woPow (wC (.int 10)) (wC (.int 18))))) (wSeq (wApp (wPVar 5) (wBin woMod (wCall XD.sp_law_mix (wCons (wVar 3) (wCons (wVar 6) wNil))) (wBin wIx (wVar 2) (wVar 6))))
  wNext) (wSeq (wCut (wIf (wTest (wBin woGt (wVar 4) (wC (.int 0)))) (wSeq (wApp (wPVar 5) (wBin woMod (wVar 4) (wBin wIx (wVar 2) (wVar 6))))
  (wSeq (wSet 4 (wBin woFd (wVar 4) (wBin wIx (wVar 2) (wVar 6))))
  wNext)) (wSeq (wSet 7 (wCall XD.sp_law_cell (wCons (wVar 0) (wCons (wBin woMod (wBin woAdd (wBin woAdd (wVar 1) (wC (.int 1))) (wVar 6)) (wC (.int 63))) wNil))))
  (wSeq (wApp (wPVar 5) (wBin woMod (wCall XD.sp_law_mix (wCons (wMv 7) (wCons (wVar 6) wNil))) (wBin wIx (wVar 2) (wVar 6))))
  wNext))))
  wNext)))
  wNext)))
  (wSeq (wRet (wMv 5))
  wNext)))))
theorem st_law_row (x0 x1 x2 : D) : startE N_law_row [x0, x1, x2] = [argS x0, argS x1, argS x2, none, none, none, none, none] := rfl
theorem d_law_row (E : Ev K mg cl) (G_law_cell : Def P w K mg base cl "_law_cell" 2 XD.sp_law_cell lv_law_cell) (G_law_mix : Def P w K mg base cl "_law_mix" 2 XD.sp_law_mix lv_law_mix) (f : Addr) (cdv : Value) (A : Around) (outer : List Env) (s : Shared) (H : Hp) (E0 : XK) (P0 : Addr → Prop) (hr : Room 1 (cxV P w K mg base N_law_row "_law_row" s_law_row f cdv A outer s H E0).A) :
    PSs (cxV P w K mg base N_law_row "_law_row" s_law_row f cdv A outer s H E0) (defBody s_law_row) (rdS (cnOf K cl P0 H) (WXE E0) w_law_row) := by
  have nd := sc_law_row.nd
  exact (vss_cons (vs_set (i := 3) (ve_call (k := lv_law_cell) G_law_cell (hr.mono (by decide)) (takes_of rfl rfl rfl rfl) (va_cons (ve_var 0) (va_cons (ve_var 1) va_nil))) nd)
  (vss_cons (vs_set (i := 4) (ve_var 3) nd)
  (vss_cons (vs_set (i := 5) (ve_lst va_nil) nd)
  (vss_cons (vs_cut (vs_forR1 (i := 6) (passes_of rfl) rfl E.m_range (va_cons (ve_len1 E.m_len (va_cons (ve_var 2) va_nil)) va_nil)
  (vss_cons (vs_cut (vs_if (vt_c c_lt (ve_var 3) (ve_pow ve_int ve_int)) (vss_cons (vs_app (vp_var 5) (ve_mod (ve_call (k := lv_law_mix) G_law_mix (hr.mono (by decide)) (takes_of rfl rfl rfl rfl) (va_cons (ve_var 3) (va_cons (ve_var 6) va_nil))) (ve_ix (ve_var 2) (ve_var 6))))
  vss_nil) (vss_cons (vs_cut (vs_if (vt_c c_gt (ve_var 4) ve_int) (vss_cons (vs_app (vp_var 5) (ve_mod (ve_var 4) (ve_ix (ve_var 2) (ve_var 6))))
  (vss_cons (vs_set (i := 4) (ve_fd (ve_var 4) (ve_ix (ve_var 2) (ve_var 6))) nd)
  vss_nil)) (vss_cons (vs_set (i := 7) (ve_call (k := lv_law_cell) G_law_cell (hr.mono (by decide)) (takes_of rfl rfl rfl rfl) (va_cons (ve_var 0) (va_cons (ve_mod (ve_add (ve_add (ve_var 1) ve_int) (ve_var 6)) ve_int) va_nil))) nd)
  (vss_cons (vs_app (vp_var 5) (ve_mod (ve_call (k := lv_law_mix) G_law_mix (hr.mono (by decide)) (takes_of rfl rfl rfl rfl) (va_cons (ve_mv 7) (va_cons (ve_var 6) va_nil))) (ve_ix (ve_var 2) (ve_var 6))))
  vss_nil))))
  vss_nil)))
  vss_nil) nd))
  (vss_cons (vs_ret (ve_mv 5))
  vss_nil)))))
theorem b_law_row (kV doc pm : Value) (an : Option Addr) (cdv ct : Value) (us : List Value) (h : us.length = 3) : bindArgs (PySem.W.fnOf "_law_row" "_law_row" (defArgs s_law_row) (defBody s_law_row) (defScope s_law_row) .none kV doc pm an cdv ct) ⟨us, []⟩ = pure ((["_law_script", "_law_place", "_law_sizes"] : List Str).zip us) := match us, h with | [_, _, _], _ => rfl
theorem spec_law_row : ∀ ds Qv Xv, XD.sp_law_row ds Qv Xv → ds.length = 3 ∧ w_law_row (startE N_law_row ds) ⟨fun _ => Qv ⟨.none, mA⟩, fun r _ => Qv r, fun ex _ => Xv ex⟩ := by
  rintro ds Qv Xv ⟨script_, place_, sizes_, rfl, h⟩
  refine ⟨rfl, ?_⟩
  have he : startE N_law_row [eScr script_, eI place_, (eL eI) sizes_] = [some (eScr script_, mS), some (eI place_, mA), some ((eL eI) sizes_, mS), none, none, none, none, none] := by
    rw [st_law_row]
    try simp only [argS_F, argS_N]
  rw [he]
  have hr : RB (fun _ => True) w_law_row [some (eScr script_, mS), some (eI place_, mA), some ((eL eI) sizes_, mS), none, none, none, none, none] (XD.F_law_row script_ place_ sizes_) (KT (eL eI) mA) := by
    unfold XD.F_law_row w_law_row
    exact (rs_set (re_eq (re_callP (b := eI) (M := (XD.F_law_cell script_ place_)) (ra_consP (re_vS 0 eScr (script_)) (ra_consP (re_vF 1 eI (place_)) ra_nil)) (fun Q X h => ⟨script_, place_, rfl, h⟩))) (fun cell_here_ => [some (eScr (script_), mS), some (eI (place_), mA), some ((eL eI) (sizes_), mS), some (eI (cell_here_), mA), none, none, none, none]) (fun cell_here_ => (rs_set (re_eq (re_vF 3 eI (cell_here_))) (fun left_ => [some (eScr (script_), mS), some (eI (place_), mA), some ((eL eI) (sizes_), mS), some (eI (cell_here_), mA), some (eI (left_), mA), none, none, none]) (fun left_ => (rs_set (re_eq (re_lstP (a := eI) [] ra_nil)) (fun some_ => [some (eScr (script_), mS), some (eI (place_), mA), some ((eL eI) (sizes_), mS), some (eI (cell_here_), mA), some (eI (left_), mA), some ((eL eI) (some_), mA), none, none]) (fun some_ => (rs_seqN (s := (fun (V18 : (List Int) × Int) => [some (eScr (script_), mS), some (eI (place_), mA), some ((eL eI) (sizes_), mS), some (eI (cell_here_), mA), some (eI (V18.2), mA), some ((eL eI) (V18.1), mA), none, none])) (rb_forRP (s := (fun (V18 : (List Int) × Int) => [some (eScr (script_), mS), some (eI (place_), mA), some ((eL eI) (sizes_), mS), some (eI (cell_here_), mA), some (eI (V18.2), mA), some ((eL eI) (V18.1), mA), none, none])) 0 (sizes_.length : Int) (some_, left_) (ra_consP (re_cbP ((sizes_.length : Int)) (ra_consP (re_vS 2 (eL eI) (sizes_)) ra_nil) (len_L (a := eI) (sizes_))) ra_nil) ⟨rfl, rfl⟩ (el_c sl_o (el_c sl_o (el_c sl_o (el_c sl_o (el_c sl_o (el_c sl_o (el_c sl_n (el_c sl_n el_nil)))))))) (fun V18 k_ => [some (eScr (script_), mS), some (eI (place_), mA), some ((eL eI) (sizes_), mS), some (eI (cell_here_), mA), some (eI (V18.2), mA), some ((eL eI) (V18.1), mA), some (eI (k_), mA), none]) (fun V18 k_ => (rs_seqN (s := (fun (V23 : (List Int) × Int) => [some (eScr (script_), mS), some (eI (place_), mA), some ((eL eI) (sizes_), mS), some (eI (cell_here_), mA), some (eI (V23.2), mA), some ((eL eI) (V23.1), mA), some (eI (k_), mA), none])) (rb_ifP (rt_eq (rt_val (re_2P xo_lt (re_vF 3 eI (cell_here_)) (re_powC 10 18 (re_c (.int 10) eI (10)) (re_c (.int 18) eI (18)))))) (rs_app (a := eI) (xs := V18.1) (re_eq (re_2 (opO_out xo_mod) (re_callP (b := eI) (M := (XD.F_law_mix cell_here_ k_)) (ra_consP (re_vF 3 eI (cell_here_)) (ra_consP (re_vF 6 eI (k_)) ra_nil)) (fun Q X h => ⟨cell_here_, k_, rfl, h⟩)) (re_2Q (xo_ixF (a := eI)) (re_vS 2 (eL eI) (sizes_)) (re_vF 6 eI (k_))))) (fun some_ => [some (eScr (script_), mS), some (eI (place_), mA), some ((eL eI) (sizes_), mS), some (eI (cell_here_), mA), some (eI (V18.2), mA), some ((eL eI) (some_), mA), some (eI (k_), mA), none]) (fun some_ => (rb_next (V := (some_, V18.2)) (el_c sl_o (el_c sl_o (el_c sl_o (el_c sl_o (el_c sl_o (el_c sl_o (el_c sl_o (el_c sl_n el_nil))))))))))) (rs_seqN (s := (fun (V24 : (List Int) × Int) => [some (eScr (script_), mS), some (eI (place_), mA), some ((eL eI) (sizes_), mS), some (eI (cell_here_), mA), some (eI (V24.2), mA), some ((eL eI) (V24.1), mA), some (eI (k_), mA), none])) (rb_ifP (rt_eq (rt_val (re_2P xo_gt (re_vF 4 eI (V18.2)) (re_c (.int 0) eI (0))))) (rs_app (a := eI) (xs := V18.1) (re_eq (re_2 (opO_out xo_mod) (re_vF 4 eI (V18.2)) (re_2Q (xo_ixF (a := eI)) (re_vS 2 (eL eI) (sizes_)) (re_vF 6 eI (k_))))) (fun some_ => [some (eScr (script_), mS), some (eI (place_), mA), some ((eL eI) (sizes_), mS), some (eI (cell_here_), mA), some (eI (V18.2), mA), some ((eL eI) (some_), mA), some (eI (k_), mA), none]) (fun some_ => (rs_set (re_eq (re_2 (opO_out xo_fd) (re_vF 4 eI (V18.2)) (re_2Q (xo_ixF (a := eI)) (re_vS 2 (eL eI) (sizes_)) (re_vF 6 eI (k_))))) (fun left_ => [some (eScr (script_), mS), some (eI (place_), mA), some ((eL eI) (sizes_), mS), some (eI (cell_here_), mA), some (eI (left_), mA), some ((eL eI) (some_), mA), some (eI (k_), mA), none]) (fun left_ => (rb_next (V := (some_, left_)) (el_c sl_o (el_c sl_o (el_c sl_o (el_c sl_o (el_c sl_o (el_c sl_o (el_c sl_o (el_c sl_n el_nil))))))))))))) (rs_set (re_eq (re_callP (b := eI) (M := (XD.F_law_cell script_ (((place_ + 1) + k_) % 63))) (ra_consP (re_vS 0 eScr (script_)) (ra_consP (re_modC 63 (re_2P xo_add (re_2P xo_add (re_vF 1 eI (place_)) (re_c (.int 1) eI (1))) (re_vF 6 eI (k_))) (re_c (.int 63) eI (63))) ra_nil)) (fun Q X h => ⟨script_, (((place_ + 1) + k_) % 63), rfl, h⟩))) (fun other_ => [some (eScr (script_), mS), some (eI (place_), mA), some ((eL eI) (sizes_), mS), some (eI (cell_here_), mA), some (eI (V18.2), mA), some ((eL eI) (V18.1), mA), some (eI (k_), mA), some (eI (other_), mA)]) (fun other_ => (rs_app (a := eI) (xs := V18.1) (re_eq (re_2 (opO_out xo_mod) (re_callP (b := eI) (M := (XD.F_law_mix other_ k_)) (ra_consP (re_mF 7 eI (other_)) (ra_consP (re_vF 6 eI (k_)) ra_nil)) (fun Q X h => ⟨other_, k_, rfl, h⟩)) (re_2Q (xo_ixF (a := eI)) (re_vS 2 (eL eI) (sizes_)) (re_vF 6 eI (k_))))) (fun some_ => [some (eScr (script_), mS), some (eI (place_), mA), some ((eL eI) (sizes_), mS), some (eI (cell_here_), mA), some (eI (V18.2), mA), some ((eL eI) (some_), mA), some (eI (k_), mA), some (eI (other_), mA)]) (fun some_ => (rb_next (V := (some_, V18.2)) (el_c sl_o (el_c sl_o (el_c sl_o (el_c sl_o (el_c sl_o (el_c sl_o (el_c sl_o (el_c sl_n el_nil)))))))))))))) (fun V24 => (rb_next (V := (V24.1, V24.2)) (el_c sl_o (el_c sl_o (el_c sl_o (el_c sl_o (el_c sl_o (el_c sl_o (el_c sl_o (el_c sl_n el_nil)))))))))))) (fun V23 => (rb_next (V := (V23.1, V23.2)) (el_c sl_o (el_c sl_o (el_c sl_o (el_c sl_o (el_c sl_o (el_c sl_o (el_c sl_n (el_c sl_n el_nil))))))))))))) (fun V18 => (rb_retP' (e := (eL eI)) V18.1 (re_eq (re_mO 5 (eL eI) (V18.1))))))))))))
  exact of_KT hr h
abbrev s_law_prime : Stmt := topS 29
abbrev N_law_prime : List Str := ["_law_some", "_law_primes", "_law_prime_here", "_law_factor"]
abbrev lv_law_prime : Nat := 1
theorem sc_law_prime : FnScope N_law_prime ["_law_some"] (defScope s_law_prime) := ⟨rfl, rfl, rfl, by decide +kernel, rfl, by decide +kernel, by decide +kernel⟩
def w_law_prime : WS := (wSeq (wSet 1 (wCB wLst (wCons (wC (.int 2)) (wCons (wC (.int 3)) (wCons (wC (.int 5)) (wCons (wC (.int 7)) (wCons (wC (.int 11)) (wCons (wC (.int 13)) (wCons (wC (.int 23)) (wCons (wC (.int 97)) (wCons (wC (.int 65537)) (wCons (wC (.int 99991)) wNil))))))))))))
  (wSeq (wSet 2 (wBin wIx (wMv 1) (wBin wIx (wVar 0) (wC (.int 0)))))
  (wSeq (wSet 3 (wBin woAdd (wC (.int 1)) (wBin woMod (wBin wIx (wVar 0) (wC (.int 1))) (wCB wMax2 (wCons (wC (.int 1)) (wCons (wBin woSub (wVar 2) (wC (.int 1))) wNil))))))
  (wSeq (wRet (wCB wTup (wCons (wVar 2) (wCons (wBin woAdd (wVar 3) (wBin woMul (wVar 2) (wBin wIx (wCB wLst (wCons (wC (.int 0)) (wCons (wC (.int 0)) (wCons (wNeg (wC (.int 3))) (wCons (wC (.int 1)) (wCons (wBin woPow (wC (.int 10)) (wC (.int 50))) wNil)))))) (wBin wIx (wVar 0) (wC (.int 2)))))) wNil))))
  wNext))))
theorem st_law_prime (x0 : D) : startE N_law_prime [x0] = [argS x0, none, none, none] := rfl
theorem d_law_prime (E : Ev K mg cl)  (f : Addr) (cdv : Value) (A : Around) (outer : List Env) (s : Shared) (H : Hp) (E0 : XK) (P0 : Addr → Prop) (hr : Room 0 (cxV P w K mg base N_law_prime "_law_prime" s_law_prime f cdv A outer s H E0).A) :
    PSs (cxV P w K mg base N_law_prime "_law_prime" s_law_prime f cdv A outer s H E0) (defBody s_law_prime) (rdS (cnOf K cl P0 H) (WXE E0) w_law_prime) := by
  have nd := sc_law_prime.nd
  exact (vss_cons (vs_set (i := 1) (ve_lst (va_cons ve_int (va_cons ve_int (va_cons ve_int (va_cons ve_int (va_cons ve_int (va_cons ve_int (va_cons ve_int (va_cons ve_int (va_cons ve_int (va_cons ve_int va_nil))))))))))) nd)
  (vss_cons (vs_set (i := 2) (ve_ix (ve_mv 1) (ve_ix (ve_var 0) ve_int)) nd)
  (vss_cons (vs_set (i := 3) (ve_add ve_int (ve_mod (ve_ix (ve_var 0) ve_int) (ve_max2 rfl E.m_max (va_cons ve_int (va_cons (ve_sub (ve_var 2) ve_int) va_nil))))) nd)
  (vss_cons (vs_ret (ve_tup (va_cons (ve_var 2) (va_cons (ve_add (ve_var 3) (ve_mul (ve_var 2) (ve_ix (ve_lst (va_cons ve_int (va_cons ve_int (va_cons (ve_neg ve_int) (va_cons ve_int (va_cons (ve_pow ve_int ve_int) va_nil)))))) (ve_ix (ve_var 0) ve_int)))) va_nil))))
  vss_nil))))
theorem b_law_prime (kV doc pm : Value) (an : Option Addr) (cdv ct : Value) (us : List Value) (h : us.length = 1) : bindArgs (PySem.W.fnOf "_law_prime" "_law_prime" (defArgs s_law_prime) (defBody s_law_prime) (defScope s_law_prime) .none kV doc pm an cdv ct) ⟨us, []⟩ = pure ((["_law_some"] : List Str).zip us) := match us, h with | [_], _ => rfl
theorem spec_law_prime : ∀ ds Qv Xv, sp_law_prime ds Qv Xv → ds.length = 1 ∧ w_law_prime (startE N_law_prime ds) ⟨fun _ => Qv ⟨.none, mA⟩, fun r _ => Qv r, fun ex _ => Xv ex⟩ := by
  rintro ds Qv Xv ⟨some_, rfl, h⟩
  refine ⟨rfl, ?_⟩
  have he : startE N_law_prime [(eL eI) some_] = [some ((eL eI) some_, mS), none, none, none] := by
    rw [st_law_prime]
    try simp only [argS_F, argS_N]
  rw [he]
  have hr : RB (fun _ => True) w_law_prime [some ((eL eI) some_, mS), none, none, none] (F_law_prime some_) (KT (e2 eI eI) mA) := by
    unfold F_law_prime w_law_prime
    exact (rs_set (re_eq (re_lstFP (a := eI) [2, 3, 5, 7, 11, 13, 23, 97, 65537, 99991] (ra_consP (re_c (.int 2) eI (2)) (ra_consP (re_c (.int 3) eI (3)) (ra_consP (re_c (.int 5) eI (5)) (ra_consP (re_c (.int 7) eI (7)) (ra_consP (re_c (.int 11) eI (11)) (ra_consP (re_c (.int 13) eI (13)) (ra_consP (re_c (.int 23) eI (23)) (ra_consP (re_c (.int 97) eI (97)) (ra_consP (re_c (.int 65537) eI (65537)) (ra_consP (re_c (.int 99991) eI (99991)) ra_nil)))))))))))) (fun primes_ => [some ((eL eI) (some_), mS), some ((eL eI) (primes_), mA), none, none]) (fun primes_ => (rs_set (re_eq (re_2 (opO_out (xo_ixF (a := eI))) (re_mO 1 (eL eI) (primes_)) (re_2Q (xo_ixF (a := eI)) (re_vS 0 (eL eI) (some_)) (re_c (.int 0) eI (0))))) (fun prime_here_ => [some ((eL eI) (some_), mS), none, some (eI (prime_here_), mA), none]) (fun prime_here_ => (rs_set (re_eq (re_2 (opP_out xo_add) (re_c (.int 1) eI (1)) (re_2 (opO_out xo_mod) (re_2Q (xo_ixF (a := eI)) (re_vS 0 (eL eI) (some_)) (re_c (.int 1) eI (1))) (re_cbP (maxF 1 (prime_here_ - 1)) (ra_consP (re_c (.int 1) eI (1)) (ra_consP (re_2P xo_sub (re_vF 2 eI (prime_here_)) (re_c (.int 1) eI (1))) ra_nil)) (bi_max (1) ((prime_here_ - 1))))))) (fun factor_ => [some ((eL eI) (some_), mS), none, some (eI (prime_here_), mA), some (eI (factor_), mA)]) (fun factor_ => (rb_retI (re_eq (re_tupF (a := (e2 eI eI)) (fun (t : Int × Int × Unit) => (t.1, t.2.1)) (ra_cons (re_vF 2 eI (prime_here_)) (ra_cons (re_2 (opP_out xo_add) (re_vF 3 eI (factor_)) (re_2 (opO_out xo_mul) (re_vF 2 eI (prime_here_)) (re_2 (opO_out (xo_ixF (a := eI))) (re_lstFP (a := eI) [0, 0, -(3), 1, (10 ^ ((50 : Int).toNat) : Int)] (ra_consP (re_c (.int 0) eI (0)) (ra_consP (re_c (.int 0) eI (0)) (ra_consP (re_neg (re_c (.int 3) eI (3))) (ra_consP (re_c (.int 1) eI (1)) (ra_consP (re_powC 10 50 (re_c (.int 10) eI (10)) (re_c (.int 50) eI (50))) ra_nil)))))) (re_2Q (xo_ixF (a := eI)) (re_vS 0 (eL eI) (some_)) (re_c (.int 2) eI (2)))))) ra_nil)))))))))))
  exact of_KT hr h
abbrev s_law_threes : Stmt := topS 32
abbrev N_law_threes : List Str := ["_law_low", "_law_some", "_law_first", "_law_mid", "_law_last", "_law_one"]
abbrev lv_law_threes : Nat := 1
theorem sc_law_threes : FnScope N_law_threes ["_law_low", "_law_some"] (defScope s_law_threes) := ⟨rfl, rfl, rfl, by decide +kernel, rfl, by decide +kernel, by decide +kernel⟩
def w_law_threes : WS := (wSeq (wSet 2 (wBin woSub (wBin woMul (wC (.int 2)) (wBin woMod (wVar 1) (wC (.int 2)))) (wC (.int 1))))
  (wSeq (wSet 3 (wBin woSub (wBin woMul (wC (.int 2)) (wBin woMod (wBin woFd (wVar 1) (wC (.int 2))) (wC (.int 2)))) (wC (.int 1))))
  (wSeq (wSet 4 (wBin woSub (wBin woMul (wC (.int 2)) (wBin woMod (wBin woFd (wVar 1) (wC (.int 4))) (wC (.int 2)))) (wC (.int 1))))
  (wSeq (wCut (wIf (wTest (wBin woEq (wVar 2) (wVar 4))) (wSeq (wSet 3 (wVar 2))
  wNext) wNext))
  (wSeq (wSet 5 (wCB wLst (wCons (wCB wTup (wCons (wVar 0) (wCons (wVar 2) wNil))) (wCons (wCB wTup (wCons (wBin woAdd (wVar 0) (wC (.int 1))) (wCons (wVar 3) wNil))) (wCons (wCB wTup (wCons (wVar 0) (wCons (wVar 4) wNil))) wNil)))))
  (wSeq (wRet (wCB wTup (wCons (wMv 5) (wCons (wCB wLst (wCons (wCB wTup (wCons (wBin woAdd (wVar 0) (wC (.int 1))) (wCons (wMv 4) wNil))) (wCons (wCB wTup (wCons (wVar 0) (wCons (wMv 3) wNil))) (wCons (wCB wTup (wCons (wBin woAdd (wVar 0) (wC (.int 1))) (wCons (wMv 2) wNil))) wNil)))) wNil))))
  wNext))))))
theorem st_law_threes (x0 x1 : D) : startE N_law_threes [x0, x1] = [argS x0, argS x1, none, none, none, none] := rfl
theorem d_law_threes (E : Ev K mg cl)  (f : Addr) (cdv : Value) (A : Around) (outer : List Env) (s : Shared) (H : Hp) (E0 : XK) (P0 : Addr → Prop) (hr : Room 0 (cxV P w K mg base N_law_threes "_law_threes" s_law_threes f cdv A outer s H E0).A) :
    PSs (cxV P w K mg base N_law_threes "_law_threes" s_law_threes f cdv A outer s H E0) (defBody s_law_threes) (rdS (cnOf K cl P0 H) (WXE E0) w_law_threes) := by
  have nd := sc_law_threes.nd
  exact (vss_cons (vs_set (i := 2) (ve_sub (ve_mul ve_int (ve_mod (ve_var 1) ve_int)) ve_int) nd)
  (vss_cons (vs_set (i := 3) (ve_sub (ve_mul ve_int (ve_mod (ve_fd (ve_var 1) ve_int) ve_int)) ve_int) nd)
  (vss_cons (vs_set (i := 4) (ve_sub (ve_mul ve_int (ve_mod (ve_fd (ve_var 1) ve_int) ve_int)) ve_int) nd)
  (vss_cons (vs_cut (vs_if (vt_c (c_eq hr) (ve_var 2) (ve_var 4)) (vss_cons (vs_set (i := 3) (ve_var 2) nd)
  vss_nil) vss_nil))
  (vss_cons (vs_set (i := 5) (ve_lst (va_cons (ve_tup (va_cons (ve_var 0) (va_cons (ve_var 2) va_nil))) (va_cons (ve_tup (va_cons (ve_add (ve_var 0) ve_int) (va_cons (ve_var 3) va_nil))) (va_cons (ve_tup (va_cons (ve_var 0) (va_cons (ve_var 4) va_nil))) va_nil)))) nd)
  (vss_cons (vs_ret (ve_tup (va_cons (ve_mv 5) (va_cons (ve_lst (va_cons (ve_tup (va_cons (ve_add (ve_var 0) ve_int) (va_cons (ve_mv 4) va_nil))) (va_cons (ve_tup (va_cons (ve_var 0) (va_cons (ve_mv 3) va_nil))) (va_cons (ve_tup (va_cons (ve_add (ve_var 0) ve_int) (va_cons (ve_mv 2) va_nil))) va_nil)))) va_nil))))
  vss_nil))))))
theorem b_law_threes (kV doc pm : Value) (an : Option Addr) (cdv ct : Value) (us : List Value) (h : us.length = 2) : bindArgs (PySem.W.fnOf "_law_threes" "_law_threes" (defArgs s_law_threes) (defBody s_law_threes) (defScope s_law_threes) .none kV doc pm an cdv ct) ⟨us, []⟩ = pure ((["_law_low", "_law_some"] : List Str).zip us) := match us, h with | [_, _], _ => rfl
theorem spec_law_threes : ∀ ds Qv Xv, sp_law_threes ds Qv Xv → ds.length = 2 ∧ w_law_threes (startE N_law_threes ds) ⟨fun _ => Qv ⟨.none, mA⟩, fun r _ => Qv r, fun ex _ => Xv ex⟩ := by
  rintro ds Qv Xv ⟨low_, some_, rfl, h⟩
  refine ⟨rfl, ?_⟩
  have he : startE N_law_threes [eI low_, eI some_] = [some (eI low_, mA), some (eI some_, mA), none, none, none, none] := by
    rw [st_law_threes]
    try simp only [argS_F, argS_N]
  rw [he]
  have hr : RB (fun _ => True) w_law_threes [some (eI low_, mA), some (eI some_, mA), none, none, none, none] (F_law_threes low_ some_) (KT (e2 (eL (e2 eI eI)) (eL (e2 eI eI))) mA) := by
    unfold F_law_threes w_law_threes
    exact (rs_set (re_eq (re_2P xo_sub (re_mulL 2 (re_c (.int 2) eI (2)) (re_modC 2 (re_vF 1 eI (some_)) (re_c (.int 2) eI (2)))) (re_c (.int 1) eI (1)))) (fun first_ => [some (eI (low_), mA), some (eI (some_), mA), some (eI (first_), mA), none, none, none]) (fun first_ => (rs_set (re_eq (re_2P xo_sub (re_mulL 2 (re_c (.int 2) eI (2)) (re_modC 2 (re_fdC 2 (re_vF 1 eI (some_)) (re_c (.int 2) eI (2))) (re_c (.int 2) eI (2)))) (re_c (.int 1) eI (1)))) (fun mid_ => [some (eI (low_), mA), some (eI (some_), mA), some (eI (first_), mA), some (eI (mid_), mA), none, none]) (fun mid_ => (rs_set (re_eq (re_2P xo_sub (re_mulL 2 (re_c (.int 2) eI (2)) (re_modC 2 (re_fdC 4 (re_vF 1 eI (some_)) (re_c (.int 4) eI (4))) (re_c (.int 2) eI (2)))) (re_c (.int 1) eI (1)))) (fun last_ => [some (eI (low_), mA), some (eI (some_), mA), some (eI (first_), mA), some (eI (mid_), mA), some (eI (last_), mA), none]) (fun last_ => (rs_seqN (s := (fun (V30 : Int) => [some (eI (low_), mA), some (eI (some_), mA), some (eI (first_), mA), some (eI (V30), mA), some (eI (last_), mA), none])) (rb_ifP (rt_eq (rt_val (re_2P xo_eqI (re_vF 2 eI (first_)) (re_vF 4 eI (last_))))) (rs_set (re_eq (re_vF 2 eI (first_))) (fun mid_ => [some (eI (low_), mA), some (eI (some_), mA), some (eI (first_), mA), some (eI (mid_), mA), some (eI (last_), mA), none]) (fun mid_ => (rb_next (V := mid_) (el_c sl_o (el_c sl_o (el_c sl_o (el_c sl_o (el_c sl_o (el_c sl_n el_nil))))))))) (rb_next (V := mid_) (el_c sl_o (el_c sl_o (el_c sl_o (el_c sl_o (el_c sl_o (el_c sl_n el_nil)))))))) (fun V30 => (rs_set (re_eq (re_lstFP (a := (e2 eI eI)) [(low_, first_), ((low_ + 1), V30), (low_, last_)] (ra_consP (re_tupFP (a := (e2 eI eI)) (low_, first_) (ra_consP (re_vF 0 eI (low_)) (ra_consP (re_vF 2 eI (first_)) ra_nil))) (ra_consP (re_tupFP (a := (e2 eI eI)) ((low_ + 1), V30) (ra_consP (re_2P xo_add (re_vF 0 eI (low_)) (re_c (.int 1) eI (1))) (ra_consP (re_vF 3 eI (V30)) ra_nil))) (ra_consP (re_tupFP (a := (e2 eI eI)) (low_, last_) (ra_consP (re_vF 0 eI (low_)) (ra_consP (re_vF 4 eI (last_)) ra_nil))) ra_nil))))) (fun one_ => [some (eI (low_), mA), some (eI (some_), mA), some (eI (first_), mA), some (eI (V30), mA), some (eI (last_), mA), some ((eL (e2 eI eI)) (one_), mA)]) (fun one_ => (rb_retP' (e := (e2 (eL (e2 eI eI)) (eL (e2 eI eI)))) (one_, [((low_ + 1), last_), (low_, V30), ((low_ + 1), first_)]) (re_eq (re_tupP (a := (e2 (eL (e2 eI eI)) (eL (e2 eI eI)))) (one_, [((low_ + 1), last_), (low_, V30), ((low_ + 1), first_)]) (ra_consP (re_mO 5 (eL (e2 eI eI)) (one_)) (ra_consP (re_lstFP (a := (e2 eI eI)) [((low_ + 1), last_), (low_, V30), ((low_ + 1), first_)] (ra_consP (re_tupFP (a := (e2 eI eI)) ((low_ + 1), last_) (ra_consP (re_2P xo_add (re_vF 0 eI (low_)) (re_c (.int 1) eI (1))) (ra_consP (re_mF 4 eI (last_)) ra_nil))) (ra_consP (re_tupFP (a := (e2 eI eI)) (low_, V30) (ra_consP (re_vF 0 eI (low_)) (ra_consP (re_mF 3 eI (V30)) ra_nil))) (ra_consP (re_tupFP (a := (e2 eI eI)) ((low_ + 1), first_) (ra_consP (re_2P xo_add (re_vF 0 eI (low_)) (re_c (.int 1) eI (1))) (ra_consP (re_mF 2 eI (first_)) ra_nil))) ra_nil)))) ra_nil)))))))))))))))
  exact of_KT hr h
abbrev s_law_beside : Stmt := topS 33
abbrev N_law_beside : List Str := ["_law_word", "_law_strands", "_law_some", "_law_at", "_law_low", "_law_sign", "_law_left", "_law_right", "_law_one", "_law_other", "_law_far"]
abbrev lv_law_beside : Nat := 2
theorem sc_law_beside : FnScope N_law_beside ["_law_word", "_law_strands", "_law_some"] (defScope s_law_beside) := ⟨rfl, rfl, rfl, by decide +kernel, rfl, by decide +kernel, by decide +kernel⟩
def w_law_beside : WS := (wSeq (wSet 3 (wBin woMod (wBin wIx (wVar 2) (wC (.int 1))) (wBin woAdd (wCB wLen (wCons (wVar 0) wNil)) (wC (.int 1)))))
  (wSeq (wSet 4 (wBin woMod (wBin wIx (wVar 2) (wC (.int 2))) (wBin woSub (wVar 1) (wC (.int 1)))))
  (wSeq (wSet 5 (wBin woSub (wBin woMul (wC (.int 2)) (wBin woMod (wBin wIx (wVar 2) (wC (.int 3))) (wC (.int 2)))) (wC (.int 1))))
  (wSeq (wPar [6, 7] (wCons (wSl (wVar 0) wNoP (wPt (wVar 3))) (wCons (wSl (wVar 0) (wPt (wVar 3)) wNoP) wNil)))
  (wSeq (wIf (wTest (wBin woEq (wBin wIx (wVar 2) (wC (.int 0))) (wC (.int 0)))) (wSeq (wRet (wCB wTup (wCons (wMv 0) (wCons (wBin woAdd (wBin woAdd (wVar 6) (wCB wLst (wCons (wCB wTup (wCons (wVar 4) (wCons (wVar 5) wNil))) (wCons (wCB wTup (wCons (wVar 4) (wCons (wNeg (wVar 5)) wNil))) wNil)))) (wVar 7)) (wCons (wMv 1) wNil)))))
  wNext) wNext)
  (wSeq (wIf (wTest (wBin woEq (wBin wIx (wVar 2) (wC (.int 0))) (wC (.int 1)))) (wSeq (wRet (wCB wTup (wCons (wMv 0) (wCons (wBin woAdd (wVar 7) (wVar 6)) (wCons (wMv 1) wNil)))))
  wNext) wNext)
  (wSeq (wIf (wAnd (wTest (wBin woEq (wBin wIx (wVar 2) (wC (.int 0))) (wC (.int 2)))) (wTest (wBin woGt (wVar 1) (wC (.int 2))))) (wSeq (wAsg (tgT [8, 9]) (wCall sp_law_threes (wCons (wBin woMod (wBin wIx (wVar 2) (wC (.int 2))) (wBin woSub (wVar 1) (wC (.int 2)))) (wCons (wBin wIx (wVar 2) (wC (.int 3))) wNil))))
  (wSeq (wRet (wWs (wCB wTup (wCons (wBin woAdd (wBin woAdd (wVar 6) (wVar 8)) (wVar 7)) (wCons (wBin woAdd (wBin woAdd (wVar 6) (wVar 9)) (wVar 7)) (wCons (wMv 1) wNil))))))
  wNext)) wNext)
  (wSeq (wIf (wAnd (wTest (wBin woEq (wBin wIx (wVar 2) (wC (.int 0))) (wC (.int 3)))) (wTest (wBin woGt (wVar 1) (wC (.int 3))))) (wSeq (wSet 10 (wCB wLst (wCons (wCB wTup (wCons (wC (.int 0)) (wCons (wMv 5) wNil))) (wCons (wCB wTup (wCons (wBin woAdd (wC (.int 2)) (wBin woMod (wBin wIx (wVar 2) (wC (.int 2))) (wBin woSub (wVar 1) (wC (.int 3))))) (wCons (wC (.int 1)) wNil))) wNil))))
  (wSeq (wRet (wWs (wCB wTup (wCons (wBin woAdd (wBin woAdd (wVar 6) (wVar 10)) (wVar 7)) (wCons (wBin woAdd (wBin woAdd (wVar 6) (wRev (wVar 10))) (wVar 7)) (wCons (wMv 1) wNil))))))
  wNext)) wNext)
  (wSeq (wRet (wCB wTup (wCons (wVar 0) (wCons (wBin woAdd (wVar 0) (wCB wLst (wCons (wCB wTup (wCons (wBin woSub (wVar 1) (wC (.int 1))) (wCons (wVar 5) wNil))) wNil))) (wCons (wBin woAdd (wVar 1) (wC (.int 1))) wNil)))))
  wNext)))))))))
theorem st_law_beside (x0 x1 x2 : D) : startE N_law_beside [x0, x1, x2] = [argS x0, argS x1, argS x2, none, none, none, none, none, none, none, none] := rfl
theorem d_law_beside (E : Ev K mg cl) (G_law_threes : Def P w K mg base cl "_law_threes" 2 sp_law_threes lv_law_threes) (f : Addr) (cdv : Value) (A : Around) (outer : List Env) (s : Shared) (H : Hp) (E0 : XK) (P0 : Addr → Prop) (hr : Room 1 (cxV P w K mg base N_law_beside "_law_beside" s_law_beside f cdv A outer s H E0).A) :
    PSs (cxV P w K mg base N_law_beside "_law_beside" s_law_beside f cdv A outer s H E0) (defBody s_law_beside) (rdS (cnOf K cl P0 H) (WXE E0) w_law_beside) := by
  have nd := sc_law_beside.nd
  exact (vss_cons (vs_set (i := 3) (ve_mod (ve_ix (ve_var 2) ve_int) (ve_add (ve_len1 E.m_len (va_cons (ve_var 0) va_nil)) ve_int)) nd)
  (vss_cons (vs_set (i := 4) (ve_mod (ve_ix (ve_var 2) ve_int) (ve_sub (ve_var 1) ve_int)) nd)
  (vss_cons (vs_set (i := 5) (ve_sub (ve_mul ve_int (ve_mod (ve_ix (ve_var 2) ve_int) ve_int)) ve_int) nd)
  (vss_cons (vs_par (i := 6) (j := 7) (va_cons (ve_slice (ve_var 0) vo_none (vo_some (ve_var 3))) (va_cons (ve_slice (ve_var 0) (vo_some (ve_var 3)) vo_none) va_nil)) rfl nd)
  (vss_cons (vs_if (vt_c (c_eq hr) (ve_ix (ve_var 2) ve_int) ve_int) (vss_cons (vs_ret (ve_tup (va_cons (ve_mv 0) (va_cons (ve_add (ve_add (ve_var 6) (ve_lst (va_cons (ve_tup (va_cons (ve_var 4) (va_cons (ve_var 5) va_nil))) (va_cons (ve_tup (va_cons (ve_var 4) (va_cons (ve_neg (ve_var 5)) va_nil))) va_nil)))) (ve_var 7)) (va_cons (ve_mv 1) va_nil)))))
  vss_nil) vss_nil)
  (vss_cons (vs_if (vt_c (c_eq hr) (ve_ix (ve_var 2) ve_int) ve_int) (vss_cons (vs_ret (ve_tup (va_cons (ve_mv 0) (va_cons (ve_add (ve_var 7) (ve_var 6)) (va_cons (ve_mv 1) va_nil)))))
  vss_nil) vss_nil)
  (vss_cons (vs_if (PW.pt (vw_and (vt_c (c_eq hr) (ve_ix (ve_var 2) ve_int) ve_int) (vw_and1 (vt_c c_gt (ve_var 1) ve_int)))) (vss_cons (vs_asg (ve_call (k := lv_law_threes) G_law_threes (hr.mono (by decide)) (takes_of rfl rfl rfl rfl) (va_cons (ve_mod (ve_ix (ve_var 2) ve_int) (ve_sub (ve_var 1) ve_int)) (va_cons (ve_ix (ve_var 2) ve_int) va_nil))) (tg_tup rfl (na_cons (na_cons na_nil nd) nd)))
  (vss_cons (vs_ret (ve_ws (ve_tup (va_cons (ve_add (ve_add (ve_var 6) (ve_var 8)) (ve_var 7)) (va_cons (ve_add (ve_add (ve_var 6) (ve_var 9)) (ve_var 7)) (va_cons (ve_mv 1) va_nil))))))
  vss_nil)) vss_nil)
  (vss_cons (vs_if (PW.pt (vw_and (vt_c (c_eq hr) (ve_ix (ve_var 2) ve_int) ve_int) (vw_and1 (vt_c c_gt (ve_var 1) ve_int)))) (vss_cons (vs_set (i := 10) (ve_lst (va_cons (ve_tup (va_cons ve_int (va_cons (ve_mv 5) va_nil))) (va_cons (ve_tup (va_cons (ve_add ve_int (ve_mod (ve_ix (ve_var 2) ve_int) (ve_sub (ve_var 1) ve_int))) (va_cons ve_int va_nil))) va_nil))) nd)
  (vss_cons (vs_ret (ve_ws (ve_tup (va_cons (ve_add (ve_add (ve_var 6) (ve_var 10)) (ve_var 7)) (va_cons (ve_add (ve_add (ve_var 6) (ve_rev (ve_var 10))) (ve_var 7)) (va_cons (ve_mv 1) va_nil))))))
  vss_nil)) vss_nil)
  (vss_cons (vs_ret (ve_tup (va_cons (ve_var 0) (va_cons (ve_add (ve_var 0) (ve_lst (va_cons (ve_tup (va_cons (ve_sub (ve_var 1) ve_int) (va_cons (ve_var 5) va_nil))) va_nil))) (va_cons (ve_add (ve_var 1) ve_int) va_nil)))))
  vss_nil)))))))))
theorem b_law_beside (kV doc pm : Value) (an : Option Addr) (cdv ct : Value) (us : List Value) (h : us.length = 3) : bindArgs (PySem.W.fnOf "_law_beside" "_law_beside" (defArgs s_law_beside) (defBody s_law_beside) (defScope s_law_beside) .none kV doc pm an cdv ct) ⟨us, []⟩ = pure ((["_law_word", "_law_strands", "_law_some"] : List Str).zip us) := match us, h with | [_, _, _], _ => rfl
theorem spec_law_beside : ∀ ds Qv Xv, sp_law_beside ds Qv Xv → ds.length = 3 ∧ w_law_beside (startE N_law_beside ds) ⟨fun _ => Qv ⟨.none, mA⟩, fun r _ => Qv r, fun ex _ => Xv ex⟩ := by
  rintro ds Qv Xv ⟨word_, strands_, some_, rfl, h⟩
  refine ⟨rfl, ?_⟩
  have he : startE N_law_beside [(eL (e2 eI eI)) word_, eI strands_, (eL eI) some_] = [some ((eL (e2 eI eI)) word_, mS), some (eI strands_, mA), some ((eL eI) some_, mS), none, none, none, none, none, none, none, none] := by
    rw [st_law_beside]
    try simp only [argS_F, argS_N]
  rw [he]
  have hr : RB (fun _ => True) w_law_beside [some ((eL (e2 eI eI)) word_, mS), some (eI strands_, mA), some ((eL eI) some_, mS), none, none, none, none, none, none, none, none] (F_law_beside word_ strands_ some_) (KT (e3 (eL (e2 eI eI)) (eL (e2 eI eI)) eI) mS) := by
    unfold F_law_beside w_law_beside
    exact (rs_set (re_eq (re_2 (opO_out xo_mod) (re_2Q (xo_ixF (a := eI)) (re_vS 2 (eL eI) (some_)) (re_c (.int 1) eI (1))) (re_2P xo_add (re_cbP ((word_.length : Int)) (ra_consP (re_vS 0 (eL (e2 eI eI)) (word_)) ra_nil) (len_L (a := (e2 eI eI)) (word_))) (re_c (.int 1) eI (1))))) (fun at_ => [some ((eL (e2 eI eI)) (word_), mS), some (eI (strands_), mA), some ((eL eI) (some_), mS), some (eI (at_), mA), none, none, none, none, none, none, none]) (fun at_ => (rs_set (re_eq (re_2 (opO_out xo_mod) (re_2Q (xo_ixF (a := eI)) (re_vS 2 (eL eI) (some_)) (re_c (.int 2) eI (2))) (re_2P xo_sub (re_vF 1 eI (strands_)) (re_c (.int 1) eI (1))))) (fun low_ => [some ((eL (e2 eI eI)) (word_), mS), some (eI (strands_), mA), some ((eL eI) (some_), mS), some (eI (at_), mA), some (eI (low_), mA), none, none, none, none, none, none]) (fun low_ => (rs_set (re_eq (re_2 (opP_out xo_sub) (re_mulLO 2 (re_c (.int 2) eI (2)) (re_modCO 2 (re_2Q (xo_ixF (a := eI)) (re_vS 2 (eL eI) (some_)) (re_c (.int 3) eI (3))) (re_c (.int 2) eI (2)))) (re_c (.int 1) eI (1)))) (fun sign_ => [some ((eL (e2 eI eI)) (word_), mS), some (eI (strands_), mA), some ((eL eI) (some_), mS), some (eI (at_), mA), some (eI (low_), mA), some (eI (sign_), mA), none, none, none, none, none]) (fun sign_ => (rs_par (ra_consP (re_slF (a := (e2 eI eI)) (re_vS 0 (eL (e2 eI eI)) (word_)) ro_no (ro_ptP (re_vF 3 eI (at_)))) (ra_consP (re_slF (a := (e2 eI eI)) (re_vS 0 (eL (e2 eI eI)) (word_)) (ro_ptP (re_vF 3 eI (at_))) ro_no) ra_nil)) (fun p35 => [some ((eL (e2 eI eI)) (word_), mS), some (eI (strands_), mA), some ((eL eI) (some_), mS), some (eI (at_), mA), some (eI (low_), mA), some (eI (sign_), mA), some ((eL (e2 eI eI)) (p35.1), mA), some ((eL (e2 eI eI)) (p35.2.1), mA), none, none, none]) (fun p35 => (rs_ifR kt_kt (rt_eq (rt_val (re_2 (opP_out xo_eqI) (re_2Q (xo_ixF (a := eI)) (re_vS 2 (eL eI) (some_)) (re_c (.int 0) eI (0))) (re_c (.int 0) eI (0))))) (rb_retI (re_eq (re_tup (a := (e3 (eL (e2 eI eI)) (eL (e2 eI eI)) eI)) (fun (t : (List (Int × Int)) × (List (Int × Int)) × Int × Unit) => (t.1, t.2.1, t.2.2.1)) (ra_cons (re_mO 0 (eL (e2 eI eI)) (word_)) (ra_cons (re_2 (opO_out (xo_catF (a := (e2 eI eI)))) (re_2Q (xo_catF (a := (e2 eI eI))) (re_vA 6 (eL (e2 eI eI)) (p35.1)) (re_lstFP (a := (e2 eI eI)) [(low_, sign_), (low_, -sign_)] (ra_consP (re_tupFP (a := (e2 eI eI)) (low_, sign_) (ra_consP (re_vF 4 eI (low_)) (ra_consP (re_vF 5 eI (sign_)) ra_nil))) (ra_consP (re_tupFP (a := (e2 eI eI)) (low_, -sign_) (ra_consP (re_vF 4 eI (low_)) (ra_consP (re_neg (re_vF 5 eI (sign_))) ra_nil))) ra_nil)))) (re_vA 7 (eL (e2 eI eI)) (p35.2.1))) (ra_consP (re_mF 1 eI (strands_)) ra_nil)))))) (rs_ifR kt_kt (rt_eq (rt_val (re_2 (opP_out xo_eqI) (re_2Q (xo_ixF (a := eI)) (re_vS 2 (eL eI) (some_)) (re_c (.int 0) eI (0))) (re_c (.int 1) eI (1))))) (rb_retI (re_eq (re_tup (a := (e3 (eL (e2 eI eI)) (eL (e2 eI eI)) eI)) (fun (t : (List (Int × Int)) × (List (Int × Int)) × Int × Unit) => (t.1, t.2.1, t.2.2.1)) (ra_cons (re_mO 0 (eL (e2 eI eI)) (word_)) (ra_cons (re_2Q (xo_catF (a := (e2 eI eI))) (re_vA 7 (eL (e2 eI eI)) (p35.2.1)) (re_vA 6 (eL (e2 eI eI)) (p35.1))) (ra_consP (re_mF 1 eI (strands_)) ra_nil)))))) (rs_ifR kt_kt (rt_eq (rt_and (rt_val (re_2 (opP_out xo_eqI) (re_2Q (xo_ixF (a := eI)) (re_vS 2 (eL eI) (some_)) (re_c (.int 0) eI (0))) (re_c (.int 2) eI (2)))) (rt_val (re_2P xo_gt (re_vF 1 eI (strands_)) (re_c (.int 2) eI (2)))))) (rs_asg (a := (e2 (eL (e2 eI eI)) (eL (e2 eI eI)))) (re_eq (re_call (b := (e2 (eL (e2 eI eI)) (eL (e2 eI eI)))) (M := fun (t : Int × Int × Unit) => F_law_threes t.1 t.2.1) (ra_cons (re_2 (opO_out xo_mod) (re_2Q (xo_ixF (a := eI)) (re_vS 2 (eL eI) (some_)) (re_c (.int 2) eI (2))) (re_2P xo_sub (re_vF 1 eI (strands_)) (re_c (.int 2) eI (2)))) (ra_cons (re_2Q (xo_ixF (a := eI)) (re_vS 2 (eL eI) (some_)) (re_c (.int 3) eI (3))) ra_nil)) (fun (t : Int × Int × Unit) Q X h => ⟨t.1, t.2.1, rfl, h⟩))) (fun p36 => [some ((eL (e2 eI eI)) (word_), mS), some (eI (strands_), mA), some ((eL eI) (some_), mS), some (eI (at_), mA), some (eI (low_), mA), some (eI (sign_), mA), some ((eL (e2 eI eI)) (p35.1), mA), some ((eL (e2 eI eI)) (p35.2.1), mA), some ((eL (e2 eI eI)) (p36.1), mA), some ((eL (e2 eI eI)) (p36.2), mA), none]) (fun p36 => (rb_retI (re_eq (re_ws (re_tup (a := (e3 (eL (e2 eI eI)) (eL (e2 eI eI)) eI)) (fun (t : (List (Int × Int)) × (List (Int × Int)) × Int × Unit) => (t.1, t.2.1, t.2.2.1)) (ra_cons (re_2 (opO_out (xo_catF (a := (e2 eI eI)))) (re_2Q (xo_catF (a := (e2 eI eI))) (re_vA 6 (eL (e2 eI eI)) (p35.1)) (re_vA 8 (eL (e2 eI eI)) (p36.1))) (re_vA 7 (eL (e2 eI eI)) (p35.2.1))) (ra_cons (re_2 (opO_out (xo_catF (a := (e2 eI eI)))) (re_2Q (xo_catF (a := (e2 eI eI))) (re_vA 6 (eL (e2 eI eI)) (p35.1)) (re_vA 9 (eL (e2 eI eI)) (p36.2))) (re_vA 7 (eL (e2 eI eI)) (p35.2.1))) (ra_consP (re_mF 1 eI (strands_)) ra_nil))))))))) (rs_ifR kt_kt (rt_eq (rt_and (rt_val (re_2 (opP_out xo_eqI) (re_2Q (xo_ixF (a := eI)) (re_vS 2 (eL eI) (some_)) (re_c (.int 0) eI (0))) (re_c (.int 3) eI (3)))) (rt_val (re_2P xo_gt (re_vF 1 eI (strands_)) (re_c (.int 3) eI (3)))))) (rs_set (re_eq (re_lstF (a := (e2 eI eI)) (fun (t : (Int × Int) × (Int × Int) × Unit) => [t.1, t.2.1]) (ra_cons (re_tupFP (a := (e2 eI eI)) (0, sign_) (ra_consP (re_c (.int 0) eI (0)) (ra_consP (re_mF 5 eI (sign_)) ra_nil))) (ra_cons (re_tupF (a := (e2 eI eI)) (fun (t : Int × Int × Unit) => (t.1, t.2.1)) (ra_cons (re_2 (opP_out xo_add) (re_c (.int 2) eI (2)) (re_2 (opO_out xo_mod) (re_2Q (xo_ixF (a := eI)) (re_vS 2 (eL eI) (some_)) (re_c (.int 2) eI (2))) (re_2P xo_sub (re_vF 1 eI (strands_)) (re_c (.int 3) eI (3))))) (ra_consP (re_c (.int 1) eI (1)) ra_nil))) ra_nil)))) (fun far_ => [some ((eL (e2 eI eI)) (word_), mS), some (eI (strands_), mA), some ((eL eI) (some_), mS), some (eI (at_), mA), some (eI (low_), mA), some (eI (sign_), mA), some ((eL (e2 eI eI)) (p35.1), mA), some ((eL (e2 eI eI)) (p35.2.1), mA), none, none, some ((eL (e2 eI eI)) (far_), mA)]) (fun far_ => (rb_retI (re_eq (re_ws (re_tup (a := (e3 (eL (e2 eI eI)) (eL (e2 eI eI)) eI)) (fun (t : (List (Int × Int)) × (List (Int × Int)) × Int × Unit) => (t.1, t.2.1, t.2.2.1)) (ra_cons (re_2 (opO_out (xo_catF (a := (e2 eI eI)))) (re_2Q (xo_catF (a := (e2 eI eI))) (re_vA 6 (eL (e2 eI eI)) (p35.1)) (re_vA 10 (eL (e2 eI eI)) (far_))) (re_vA 7 (eL (e2 eI eI)) (p35.2.1))) (ra_cons (re_2 (opO_out (xo_catF (a := (e2 eI eI)))) (re_2Q (xo_catF (a := (e2 eI eI))) (re_vA 6 (eL (e2 eI eI)) (p35.1)) (re_eq (re_revF (a := (e2 eI eI)) (re_vA 10 (eL (e2 eI eI)) (far_))))) (re_vA 7 (eL (e2 eI eI)) (p35.2.1))) (ra_consP (re_mF 1 eI (strands_)) ra_nil))))))))) (rb_retI (re_eq (re_tup (a := (e3 (eL (e2 eI eI)) (eL (e2 eI eI)) eI)) (fun (t : (List (Int × Int)) × (List (Int × Int)) × Int × Unit) => (t.1, t.2.1, t.2.2.1)) (ra_cons (re_vS 0 (eL (e2 eI eI)) (word_)) (ra_cons (re_2Q (xo_catF (a := (e2 eI eI))) (re_vS 0 (eL (e2 eI eI)) (word_)) (re_lstFP (a := (e2 eI eI)) [((strands_ - 1), sign_)] (ra_consP (re_tupFP (a := (e2 eI eI)) ((strands_ - 1), sign_) (ra_consP (re_2P xo_sub (re_vF 1 eI (strands_)) (re_c (.int 1) eI (1))) (ra_consP (re_vF 5 eI (sign_)) ra_nil))) ra_nil))) (ra_consP (re_2P xo_add (re_vF 1 eI (strands_)) (re_c (.int 1) eI (1))) ra_nil))))))))))))))))))
  exact of_KT hr h
abbrev s_arc_count : Stmt := topS 10
abbrev N_arc_count : List Str := ["drawing", "count", "walk", "unders", "passage"]
abbrev lv_arc_count : Nat := 1
theorem sc_arc_count : FnScope N_arc_count ["drawing"] (defScope s_arc_count) := ⟨rfl, rfl, rfl, by decide +kernel, rfl, by decide +kernel, by decide +kernel⟩
def w_arc_count : WS := (wSeq (wSet 1 (wC (.int 0)))
  (wSeq (wCut (wFor (tgN 2) (wBin wIx (wMv 0) (wC (.int 0)))
  (wSeq (wSet 3 (wCB wLen (wCons (wLc [4] (tgN 4) (wVar 2) (wTest (wBin woLt (wVar 4) (wC (.int 0)))) (wVar 4)) wNil)))
  (wSeq (wSet 1 (wBin woAdd (wVar 1) (wCB wMax2 (wCons (wC (.int 1)) (wCons (wVar 3) wNil)))))
  wNext))))
  (wSeq (wRet (wMv 1))
  wNext)))
theorem st_arc_count (x0 : D) : startE N_arc_count [x0] = [argS x0, none, none, none, none] := rfl
theorem d_arc_count (E : Ev K mg cl)  (f : Addr) (cdv : Value) (A : Around) (outer : List Env) (s : Shared) (H : Hp) (E0 : XK) (P0 : Addr → Prop) (hr : Room 0 (cxV P w K mg base N_arc_count "arc_count" s_arc_count f cdv A outer s H E0).A) :
    PSs (cxV P w K mg base N_arc_count "arc_count" s_arc_count f cdv A outer s H E0) (defBody s_arc_count) (rdS (cnOf K cl P0 H) (WXE E0) w_arc_count) := by
  have nd := sc_arc_count.nd
  exact (vss_cons (vs_set (i := 1) ve_int nd)
  (vss_cons (vs_cut (vs_for (passes_of rfl) rfl (ve_ix (ve_mv 0) ve_int) (tg_name nd)
  (fun _ => (vss_cons (vs_set (i := 3) (ve_len1 E.m_len (va_cons (ve_lcN rfl nd [("passage", 4)] (ve_var 2) (fun _ _ _ _ _ => pg_name nd rfl (by first | exact .inl rfl | exact .inr rfl)) (fun _ _ _ _ _ => vts_one (vt_c c_lt (ve_var 4) ve_int)) (fun _ _ _ _ _ => (ve_var 4))) va_nil)) nd)
  (vss_cons (vs_set (i := 1) (ve_add (ve_var 1) (ve_max2 rfl E.m_max (va_cons ve_int (va_cons (ve_var 3) va_nil)))) nd)
  vss_nil)))))
  (vss_cons (vs_ret (ve_mv 1))
  vss_nil)))
theorem b_arc_count (kV doc pm : Value) (an : Option Addr) (cdv ct : Value) (us : List Value) (h : us.length = 1) : bindArgs (PySem.W.fnOf "arc_count" "arc_count" (defArgs s_arc_count) (defBody s_arc_count) (defScope s_arc_count) .none kV doc pm an cdv ct) ⟨us, []⟩ = pure ((["drawing"] : List Str).zip us) := match us, h with | [_], _ => rfl
theorem spec_arc_count : ∀ ds Qv Xv, XC.sp_arc_count ds Qv Xv → ds.length = 1 ∧ w_arc_count (startE N_arc_count ds) ⟨fun _ => Qv ⟨.none, mA⟩, fun r _ => Qv r, fun ex _ => Xv ex⟩ := by
  rintro ds Qv Xv ⟨drawing_, rfl, h⟩
  refine ⟨rfl, ?_⟩
  have he : startE N_arc_count [(e2 (eL (eL eI)) (eL (e2 eI eI))) drawing_] = [some ((e2 (eL (eL eI)) (eL (e2 eI eI))) drawing_, mS), none, none, none, none] := by
    rw [st_arc_count]
    try simp only [argS_F, argS_N]
  rw [he]
  have hr : RB (fun _ => True) w_arc_count [some ((e2 (eL (eL eI)) (eL (e2 eI eI))) drawing_, mS), none, none, none, none] (XC.F_arc_count drawing_) (KT eI mA) := by
    unfold XC.F_arc_count w_arc_count
    exact (rs_set (re_eq (re_c (.int 0) eI (0))) (fun count_ => [some ((e2 (eL (eL eI)) (eL (e2 eI eI))) (drawing_), mS), some (eI (count_), mA), none, none, none]) (fun count_ => (rs_seqN (s := (fun (V106 : Int) => [none, some (eI (V106), mA), none, none, none])) (rb_forP (s := (fun (V106 : Int) => [none, some (eI (V106), mA), none, none, none])) (a := (eL eI)) count_ (re_eq (re_tN (e := (eL (eL eI))) (b := (e2 (eL (eL eI)) (eL (e2 eI eI)))) 0 (drawing_.1) (re_mO 0 (e2 (eL (eL eI)) (eL (e2 eI eI))) (drawing_)) (re_c (.int 0) eI (0)))) (el_c sl_n (el_c sl_o (el_c sl_n (el_c sl_n (el_c sl_n el_nil))))) (fun V106 walk_ => [none, some (eI (V106), mA), some ((eL eI) (walk_), mS), none, none]) (fun V106 walk_ => (rs_set (re_eq (re_cb (M := fun (t : (List Int) × Unit) => .ok ((t.1.length : Int))) (ra_cons (re_lcP none mA (a := eI) (ent := (fun passage_ => [none, some (eI (V106), mA), some ((eL eI) (walk_), mS), none, some (eI (passage_), mA)])) (P := (fun passage_ : Int => (Out.ok (decide (passage_ < 0))))) (F := (fun passage_ : Int => (Out.ok (passage_)))) (re_eq (re_vS 2 (eL eI) (walk_))) (fun _ => ⟨_, rfl, rfl⟩) (fun passage_ => rt_eq (rt_val (re_2P xo_lt (re_vF 4 eI (passage_)) (re_c (.int 0) eI (0))))) (fun passage_ => ⟨_, re_eq (re_vF 4 eI (passage_))⟩) (kid_F (c := eI))) ra_nil) (fun (t : (List Int) × Unit) _ _ h => len_L (a := eI) (t.1) _ h))) (fun unders_ => [none, some (eI (V106), mA), some ((eL eI) (walk_), mS), some (eI (unders_), mA), none]) (fun unders_ => (rs_set (re_eq (re_2P xo_add (re_vF 1 eI (V106)) (re_cbP (maxF 1 unders_) (ra_consP (re_c (.int 1) eI (1)) (ra_consP (re_vF 3 eI (unders_)) ra_nil)) (bi_max (1) (unders_))))) (fun count_ => [none, some (eI (count_), mA), some ((eL eI) (walk_), mS), some (eI (unders_), mA), none]) (fun count_ => (rb_next (V := count_) (el_c sl_n (el_c sl_o (el_c sl_n (el_c sl_n (el_c sl_n el_nil)))))))))))) (fun V106 => (rb_retP' (e := eI) V106 (re_eq (re_mF 1 eI (V106))))))))
  exact of_KT hr h
abbrev s_is_prime : Stmt := topS 14
abbrev N_is_prime : List Str := ["number", "step"]
abbrev lv_is_prime : Nat := 1
theorem sc_is_prime : FnScope N_is_prime ["number"] (defScope s_is_prime) := ⟨rfl, rfl, rfl, by decide +kernel, rfl, by decide +kernel, by decide +kernel⟩
def w_is_prime : WS := (wSeq (wIf (wOr (wTest (wBin woLt (wVar 0) (wC (.int 2)))) (wTest (wBin woGt (wVar 0) (wC (.int 100000))))) (wSeq (wRet (wC (.bool false)))
  wNext) wNext)
  (wSeq (wSet 1 (wC (.int 2)))
  (wSeq (wCut (wWhile (wTest (wBin woLe (wBin woMul (wVar 1) (wVar 1)) (wVar 0))) (wSeq (wIf (wTest (wBin woEq (wBin woMod (wVar 0) (wVar 1)) (wC (.int 0)))) (wSeq (wRet (wC (.bool false)))
  wNext) wNext)
  (wSeq (wSet 1 (wBin woAdd (wVar 1) (wC (.int 1))))
  wNext))))
  (wSeq (wRet (wC (.bool true)))
  wNext))))
theorem st_is_prime (x0 : D) : startE N_is_prime [x0] = [argS x0, none] := rfl
theorem d_is_prime (E : Ev K mg cl)  (f : Addr) (cdv : Value) (A : Around) (outer : List Env) (s : Shared) (H : Hp) (E0 : XK) (P0 : Addr → Prop) (hr : Room 0 (cxV P w K mg base N_is_prime "is_prime" s_is_prime f cdv A outer s H E0).A) :
    PSs (cxV P w K mg base N_is_prime "is_prime" s_is_prime f cdv A outer s H E0) (defBody s_is_prime) (rdS (cnOf K cl P0 H) (WXE E0) w_is_prime) := by
  have nd := sc_is_prime.nd
  exact (vss_cons (vs_if (PW.pt (vw_or (vt_c c_lt (ve_var 0) ve_int) (vw_or1 (vt_c c_gt (ve_var 0) (ve_gintE E.c_GREATEST))))) (vss_cons (vs_ret ve_bl)
  vss_nil) vss_nil)
  (vss_cons (vs_set (i := 1) ve_int nd)
  (vss_cons (vs_cut (vs_while (passes_of rfl) (vt_c c_le (ve_mul (ve_var 1) (ve_var 1)) (ve_var 0)) (vss_cons (vs_if (vt_c (c_eq hr) (ve_mod (ve_var 0) (ve_var 1)) ve_int) (vss_cons (vs_ret ve_bl)
  vss_nil) vss_nil)
  (vss_cons (vs_set (i := 1) (ve_add (ve_var 1) ve_int) nd)
  vss_nil))))
  (vss_cons (vs_ret ve_bl)
  vss_nil))))
theorem b_is_prime (kV doc pm : Value) (an : Option Addr) (cdv ct : Value) (us : List Value) (h : us.length = 1) : bindArgs (PySem.W.fnOf "is_prime" "is_prime" (defArgs s_is_prime) (defBody s_is_prime) (defScope s_is_prime) .none kV doc pm an cdv ct) ⟨us, []⟩ = pure ((["number"] : List Str).zip us) := match us, h with | [_], _ => rfl
theorem spec_is_prime : ∀ ds Qv Xv, XR.sp_is_prime ds Qv Xv → ds.length = 1 ∧ w_is_prime (startE N_is_prime ds) ⟨fun _ => Qv ⟨.none, mA⟩, fun r _ => Qv r, fun ex _ => Xv ex⟩ := by
  rintro ds Qv Xv ⟨number_, rfl, h⟩
  refine ⟨rfl, ?_⟩
  have he : startE N_is_prime [eI number_] = [some (eI number_, mA), none] := by
    rw [st_is_prime]
    try simp only [argS_F, argS_N]
  rw [he]
  have hr : RB (fun _ => True) w_is_prime [some (eI number_, mA), none] (XR.F_is_prime number_) (KT eB mA) := by
    unfold XR.F_is_prime w_is_prime
    exact (rs_ifRP kt_kt (rt_eq (rt_orP (rt_val (re_2P xo_lt (re_vF 0 eI (number_)) (re_c (.int 2) eI (2)))) (rt_val (re_2P xo_gt (re_vF 0 eI (number_)) (re_c (.int 100000) eI 100000))))) (rb_retP' (e := eB) false (re_eq (re_c (.bool false) eB (false)))) (rs_set (re_eq (re_c (.int 2) eI (2))) (fun step_ => [some (eI (number_), mA), some (eI (step_), mA)]) (fun step_ => (rs_seqT (s := (fun (V109 : Int) => [some (eI (number_), mA), some (eI (V109), mA)])) (rb_whileF (s := (fun (V109 : Int) => [some (eI (number_), mA), some (eI (V109), mA)])) step_ (el_c sl_o (el_c sl_o el_nil)) (fun V109 => rt_eq (rt_val (re_2 (opP_out xo_le) (re_2Q xo_mul (re_vF 1 eI (V109)) (re_vF 1 eI (V109))) (re_vF 0 eI (number_))))) (fun V109 => (rs_ifR kf_kr (rt_eq (rt_val (re_2 (opP_out xo_eqI) (re_2Q xo_mod (re_vF 0 eI (number_)) (re_vF 1 eI (V109))) (re_c (.int 0) eI (0))))) (rb_retRP (e := eB) false (re_eq (re_c (.bool false) eB (false)))) (rs_set (re_eq (re_2P xo_add (re_vF 1 eI (V109)) (re_c (.int 1) eI (1)))) (fun step_ => [some (eI (number_), mA), some (eI (step_), mA)]) (fun step_ => (rb_nextF (V := step_) (el_c sl_o (el_c sl_o el_nil)))))))) (fun V109 => (rb_retP' (e := eB) true (re_eq (re_c (.bool true) eB (true)))))))))
  exact of_KT hr h
abbrev s_asked_prime : Stmt := topS 15
abbrev N_asked_prime : List Str := ["prime", "factor"]
abbrev lv_asked_prime : Nat := 2
theorem sc_asked_prime : FnScope N_asked_prime ["prime", "factor"] (defScope s_asked_prime) := ⟨rfl, rfl, rfl, by decide +kernel, rfl, by decide +kernel, by decide +kernel⟩
def w_asked_prime : WS := (wSeq (wIf (wNot (wTest (wCall XR.sp_is_prime (wCons (wVar 0) wNil)))) (wSeq (wRaise "NoPrime")
  wNext) wNext)
  (wSeq (wIf (wTest (wBin woEq (wBin woMod (wVar 1) (wVar 0)) (wC (.int 0)))) (wSeq (wRaise "NoUnit")
  wNext) wNext)
  wNext))
theorem st_asked_prime (x0 x1 : D) : startE N_asked_prime [x0, x1] = [argS x0, argS x1] := rfl
theorem d_asked_prime (E : Ev K mg cl) (G_is_prime : Def P w K mg base cl "is_prime" 1 XR.sp_is_prime lv_is_prime) (f : Addr) (cdv : Value) (A : Around) (outer : List Env) (s : Shared) (H : Hp) (E0 : XK) (P0 : Addr → Prop) (hr : Room 1 (cxV P w K mg base N_asked_prime "asked_prime" s_asked_prime f cdv A outer s H E0).A) :
    PSs (cxV P w K mg base N_asked_prime "asked_prime" s_asked_prime f cdv A outer s H E0) (defBody s_asked_prime) (rdS (cnOf K cl P0 H) (WXE E0) w_asked_prime) := by
  have nd := sc_asked_prime.nd
  exact (vss_cons (vs_if (vt_not (vt_val (ve_call (k := lv_is_prime) G_is_prime (hr.mono (by decide)) (takes_of rfl rfl rfl rfl) (va_cons (ve_var 0) va_nil)))) (vss_cons (vs_raiseE E.x_NoPrime rfl (takes_of rfl rfl rfl rfl))
  vss_nil) vss_nil)
  (vss_cons (vs_if (vt_c (c_eq hr) (ve_mod (ve_var 1) (ve_var 0)) ve_int) (vss_cons (vs_raiseE E.x_NoUnit rfl (takes_of rfl rfl rfl rfl))
  vss_nil) vss_nil)
  vss_nil))
theorem b_asked_prime (kV doc pm : Value) (an : Option Addr) (cdv ct : Value) (us : List Value) (h : us.length = 2) : bindArgs (PySem.W.fnOf "asked_prime" "asked_prime" (defArgs s_asked_prime) (defBody s_asked_prime) (defScope s_asked_prime) .none kV doc pm an cdv ct) ⟨us, []⟩ = pure ((["prime", "factor"] : List Str).zip us) := match us, h with | [_, _], _ => rfl
theorem spec_asked_prime : ∀ ds Qv Xv, XR.sp_asked_prime ds Qv Xv → ds.length = 2 ∧ w_asked_prime (startE N_asked_prime ds) ⟨fun _ => Qv ⟨.none, mA⟩, fun r _ => Qv r, fun ex _ => Xv ex⟩ := by
  rintro ds Qv Xv ⟨prime_, factor_, rfl, h⟩
  refine ⟨rfl, ?_⟩
  have he : startE N_asked_prime [eI prime_, eI factor_] = [some (eI prime_, mA), some (eI factor_, mA)] := by
    rw [st_asked_prime]
    try simp only [argS_F, argS_N]
  rw [he]
  have hr : RB (fun _ => True) w_asked_prime [some (eI prime_, mA), some (eI factor_, mA)] (XR.F_asked_prime prime_ factor_) KP := by
    unfold XR.F_asked_prime w_asked_prime
    exact (rs_ifR kp_kt (rt_eq (rt_not (rt_val (re_callP (b := eB) (M := (XR.F_is_prime prime_)) (ra_consP (re_vF 0 eI (prime_)) ra_nil) (fun Q X h => ⟨prime_, rfl, h⟩))))) (rb_raise) (rs_ifR kp_kt (rt_eq (rt_val (re_2 (opP_out xo_eqI) (re_2Q xo_mod (re_vF 1 eI (factor_)) (re_vF 0 eI (prime_))) (re_c (.int 0) eI (0))))) (rb_raise) rb_nextP))
  exact of_KP hr h
abbrev s_walk_arcs : Stmt := topS 8
abbrev N_walk_arcs : List Str := ["walk", "count", "unders", "found", "now", "place", "last"]
abbrev lv_walk_arcs : Nat := 1
theorem sc_walk_arcs : FnScope N_walk_arcs ["walk", "count"] (defScope s_walk_arcs) := ⟨rfl, rfl, rfl, by decide +kernel, rfl, by decide +kernel, by decide +kernel⟩
def w_walk_arcs : WS := (wSeq (wSet 2 (wLcR 1 [5] 5 (wCons (wCB wLen (wCons (wVar 0) wNil)) wNil) (wTest (wBin woLt (wBin wIx (wVar 0) (wVar 5)) (wC (.int 0)))) (wVar 5)))
  (wSeq (wIf (wTest (wBin woEq (wCB wLen (wCons (wVar 2) wNil)) (wC (.int 0)))) (wSeq (wRet (wCB wTup (wCons (wBin woMul (wCB wLst (wCons (wVar 1) wNil)) (wCB wMax2 (wCons (wC (.int 1)) (wCons (wCB wLen (wCons (wVar 0) wNil)) wNil)))) (wCons (wBin woAdd (wVar 1) (wC (.int 1))) wNil))))
  wNext) wNext)
  (wSeq (wSet 3 (wCB wLst wNil))
  (wSeq (wSet 4 (wVar 1))
  (wSeq (wCut (wForR 1 5 (wCons (wCB wLen (wCons (wVar 0) wNil)) wNil)
  (wSeq (wApp (wPVar 3) (wVar 4))
  (wSeq (wCut (wIf (wTest (wBin woLt (wBin wIx (wVar 0) (wVar 5)) (wC (.int 0)))) (wSeq (wSet 4 (wBin woAdd (wVar 4) (wC (.int 1))))
  wNext) wNext))
  wNext))))
  (wSeq (wSet 6 (wMv 4))
  (wSeq (wCut (wForR 1 5 (wCons (wCB wLen (wCons (wVar 0) wNil)) wNil)
  (wSeq (wCut (wIf (wTest (wBin woEq (wBin wIx (wVar 3) (wVar 5)) (wVar 6))) (wSeq (wPut (wPVar 3) (wVar 5) (wVar 1))
  wNext) wNext))
  wNext)))
  (wSeq (wRet (wCB wTup (wCons (wMv 3) (wCons (wMv 6) wNil))))
  wNext))))))))
theorem st_walk_arcs (x0 x1 : D) : startE N_walk_arcs [x0, x1] = [argS x0, argS x1, none, none, none, none, none] := rfl
theorem d_walk_arcs (E : Ev K mg cl)  (f : Addr) (cdv : Value) (A : Around) (outer : List Env) (s : Shared) (H : Hp) (E0 : XK) (P0 : Addr → Prop) (hr : Room 0 (cxV P w K mg base N_walk_arcs "walk_arcs" s_walk_arcs f cdv A outer s H E0).A) :
    PSs (cxV P w K mg base N_walk_arcs "walk_arcs" s_walk_arcs f cdv A outer s H E0) (defBody s_walk_arcs) (rdS (cnOf K cl P0 H) (WXE E0) w_walk_arcs) := by
  have nd := sc_walk_arcs.nd
  exact (vss_cons (vs_setLcR1 (n := 2) rfl nd [("place", 5)] E.m_range (va_cons (ve_len1 E.m_len (va_cons (ve_var 0) va_nil)) va_nil) (fun _ _ _ _ _ => pg_name nd rfl (by first | exact .inl rfl | exact .inr rfl)) (fun _ _ _ _ _ => vts_one (vt_c c_lt (ve_ix (ve_var 0) (ve_var 5)) ve_int)) (fun _ _ _ _ _ => (ve_var 5)))
  (vss_cons (vs_if (vt_c (c_eq hr) (ve_len1 E.m_len (va_cons (ve_var 2) va_nil)) ve_int) (vss_cons (vs_ret (ve_tup (va_cons (ve_mul (ve_lst (va_cons (ve_var 1) va_nil)) (ve_max2 rfl E.m_max (va_cons ve_int (va_cons (ve_len1 E.m_len (va_cons (ve_var 0) va_nil)) va_nil)))) (va_cons (ve_add (ve_var 1) ve_int) va_nil))))
  vss_nil) vss_nil)
  (vss_cons (vs_set (i := 3) (ve_lst va_nil) nd)
  (vss_cons (vs_set (i := 4) (ve_var 1) nd)
  (vss_cons (vs_cut (vs_forR1 (i := 5) (passes_of rfl) rfl E.m_range (va_cons (ve_len1 E.m_len (va_cons (ve_var 0) va_nil)) va_nil)
  (vss_cons (vs_app (vp_var 3) (ve_var 4))
  (vss_cons (vs_cut (vs_if (vt_c c_lt (ve_ix (ve_var 0) (ve_var 5)) ve_int) (vss_cons (vs_set (i := 4) (ve_add (ve_var 4) ve_int) nd)
  vss_nil) vss_nil))
  vss_nil)) nd))
  (vss_cons (vs_set (i := 6) (ve_mv 4) nd)
  (vss_cons (vs_cut (vs_forR1 (i := 5) (passes_of rfl) rfl E.m_range (va_cons (ve_len1 E.m_len (va_cons (ve_var 0) va_nil)) va_nil)
  (vss_cons (vs_cut (vs_if (vt_c (c_eq hr) (ve_ix (ve_var 3) (ve_var 5)) (ve_var 6)) (vss_cons (vs_put (vp_var 3) (ve_var 5) (ve_var 1))
  vss_nil) vss_nil))
  vss_nil) nd))
  (vss_cons (vs_ret (ve_tup (va_cons (ve_mv 3) (va_cons (ve_mv 6) va_nil))))
  vss_nil))))))))
theorem b_walk_arcs (kV doc pm : Value) (an : Option Addr) (cdv ct : Value) (us : List Value) (h : us.length = 2) : bindArgs (PySem.W.fnOf "walk_arcs" "walk_arcs" (defArgs s_walk_arcs) (defBody s_walk_arcs) (defScope s_walk_arcs) .none kV doc pm an cdv ct) ⟨us, []⟩ = pure ((["walk", "count"] : List Str).zip us) := match us, h with | [_, _], _ => rfl
theorem spec_walk_arcs : ∀ ds Qv Xv, XA.sp_walk_arcs ds Qv Xv → ds.length = 2 ∧ w_walk_arcs (startE N_walk_arcs ds) ⟨fun _ => Qv ⟨.none, mA⟩, fun r _ => Qv r, fun ex _ => Xv ex⟩ := by
  rintro ds Qv Xv ⟨walk_, count_, rfl, h⟩
  refine ⟨rfl, ?_⟩
  have he : startE N_walk_arcs [(eL eI) walk_, eI count_] = [some ((eL eI) walk_, mS), some (eI count_, mA), none, none, none, none, none] := by
    rw [st_walk_arcs]
    try simp only [argS_F, argS_N]
  rw [he]
  have hr : RB (fun _ => True) w_walk_arcs [some ((eL eI) walk_, mS), some (eI count_, mA), none, none, none, none, none] (XA.F_walk_arcs walk_ count_) (KT (e2 (eL eI) eI) mA) := by
    unfold XA.F_walk_arcs w_walk_arcs
    exact (rs_set (re_eq (re_lcRP none mA 0 (walk_.length : Int) (ent := (fun place_ => [some ((eL eI) (walk_), mS), some (eI (count_), mA), none, none, none, some (eI (place_), mA), none])) (P := (fun place_ : Int => ((lift (atI walk_ place_)).bind fun t1 => (Out.ok (0)).bind fun t2 => .ok (decide (t1 < t2))))) (F := (fun place_ : Int => (Out.ok (place_)))) (ra_consP (re_cbP ((walk_.length : Int)) (ra_consP (re_vS 0 (eL eI) (walk_)) ra_nil) (len_L (a := eI) (walk_))) ra_nil) ⟨rfl, rfl⟩ (fun _ => rfl) (fun place_ => rt_eq (rt_val (re_2 (opP_out xo_lt) (re_2Q (xo_ixF (a := eI)) (re_vS 0 (eL eI) (walk_)) (re_vF 5 eI (place_))) (re_c (.int 0) eI (0))))) (fun place_ => ⟨_, re_eq (re_vF 5 eI (place_))⟩) (kid_F (c := eI)))) (fun unders_ => [some ((eL eI) (walk_), mS), some (eI (count_), mA), some ((eL eI) (unders_), mA), none, none, none, none]) (fun unders_ => (rs_ifRP kt_kt (rt_eq (rt_val (re_2P xo_eqI (re_cbP ((unders_.length : Int)) (ra_consP (re_vA 2 (eL eI) (unders_)) ra_nil) (len_L (a := eI) (unders_))) (re_c (.int 0) eI (0))))) (rb_retI (re_eq (re_tup (a := (e2 (eL eI) eI)) (fun (t : (List Int) × Int × Unit) => (t.1, t.2.1)) (ra_cons (re_2Q (xo_rep (a := eI)) (re_lstFP (a := eI) [count_] (ra_consP (re_vF 1 eI (count_)) ra_nil)) (re_cbP (maxF 1 (walk_.length : Int)) (ra_consP (re_c (.int 1) eI (1)) (ra_consP (re_cbP ((walk_.length : Int)) (ra_consP (re_vS 0 (eL eI) (walk_)) ra_nil) (len_L (a := eI) (walk_))) ra_nil)) (bi_max (1) ((walk_.length : Int))))) (ra_consP (re_2P xo_add (re_vF 1 eI (count_)) (re_c (.int 1) eI (1))) ra_nil))))) (rs_set (re_eq (re_lstP (a := eI) [] ra_nil)) (fun found_ => [some ((eL eI) (walk_), mS), some (eI (count_), mA), some ((eL eI) (unders_), mA), some ((eL eI) (found_), mA), none, none, none]) (fun found_ => (rs_set (re_eq (re_vF 1 eI (count_))) (fun now_ => [some ((eL eI) (walk_), mS), some (eI (count_), mA), some ((eL eI) (unders_), mA), some ((eL eI) (found_), mA), some (eI (now_), mA), none, none]) (fun now_ => (rs_seqN (s := (fun (V123 : (List Int) × Int) => [some ((eL eI) (walk_), mS), some (eI (count_), mA), some ((eL eI) (unders_), mA), some ((eL eI) (V123.1), mA), some (eI (V123.2), mA), none, none])) (rb_forRP (s := (fun (V123 : (List Int) × Int) => [some ((eL eI) (walk_), mS), some (eI (count_), mA), some ((eL eI) (unders_), mA), some ((eL eI) (V123.1), mA), some (eI (V123.2), mA), none, none])) 0 (walk_.length : Int) (found_, now_) (ra_consP (re_cbP ((walk_.length : Int)) (ra_consP (re_vS 0 (eL eI) (walk_)) ra_nil) (len_L (a := eI) (walk_))) ra_nil) ⟨rfl, rfl⟩ (el_c sl_o (el_c sl_o (el_c sl_o (el_c sl_o (el_c sl_o (el_c sl_n (el_c sl_n el_nil))))))) (fun V123 place_ => [some ((eL eI) (walk_), mS), some (eI (count_), mA), some ((eL eI) (unders_), mA), some ((eL eI) (V123.1), mA), some (eI (V123.2), mA), some (eI (place_), mA), none]) (fun V123 place_ => (rs_app (a := eI) (xs := V123.1) (re_eq (re_vF 4 eI (V123.2))) (fun found_ => [some ((eL eI) (walk_), mS), some (eI (count_), mA), some ((eL eI) (unders_), mA), some ((eL eI) (found_), mA), some (eI (V123.2), mA), some (eI (place_), mA), none]) (fun found_ => (rs_seqN (s := (fun (V125 : Int) => [some ((eL eI) (walk_), mS), some (eI (count_), mA), some ((eL eI) (unders_), mA), some ((eL eI) (found_), mA), some (eI (V125), mA), some (eI (place_), mA), none])) (rb_if (rt_eq (rt_val (re_2 (opP_out xo_lt) (re_2Q (xo_ixF (a := eI)) (re_vS 0 (eL eI) (walk_)) (re_vF 5 eI (place_))) (re_c (.int 0) eI (0))))) (rs_set (re_eq (re_2P xo_add (re_vF 4 eI (V123.2)) (re_c (.int 1) eI (1)))) (fun now_ => [some ((eL eI) (walk_), mS), some (eI (count_), mA), some ((eL eI) (unders_), mA), some ((eL eI) (found_), mA), some (eI (now_), mA), some (eI (place_), mA), none]) (fun now_ => (rb_next (V := now_) (el_c sl_o (el_c sl_o (el_c sl_o (el_c sl_o (el_c sl_o (el_c sl_o (el_c sl_n el_nil)))))))))) (rb_next (V := V123.2) (el_c sl_o (el_c sl_o (el_c sl_o (el_c sl_o (el_c sl_o (el_c sl_o (el_c sl_n el_nil))))))))) (fun V125 => (rb_next (V := (found_, V125)) (el_c sl_o (el_c sl_o (el_c sl_o (el_c sl_o (el_c sl_o (el_c sl_n (el_c sl_n el_nil)))))))))))))) (fun V123 => (rs_set (re_eq (re_mF 4 eI (V123.2))) (fun last_ => [some ((eL eI) (walk_), mS), some (eI (count_), mA), some ((eL eI) (unders_), mA), some ((eL eI) (V123.1), mA), some (eI (V123.2), mA), none, some (eI (last_), mA)]) (fun last_ => (rs_seqN (s := (fun (V126 : (List Int)) => [some ((eL eI) (walk_), mS), some (eI (count_), mA), some ((eL eI) (unders_), mA), some ((eL eI) (V126), mA), some (eI (V123.2), mA), none, some (eI (last_), mA)])) (rb_forRP (s := (fun (V126 : (List Int)) => [some ((eL eI) (walk_), mS), some (eI (count_), mA), some ((eL eI) (unders_), mA), some ((eL eI) (V126), mA), some (eI (V123.2), mA), none, some (eI (last_), mA)])) 0 (walk_.length : Int) V123.1 (ra_consP (re_cbP ((walk_.length : Int)) (ra_consP (re_vS 0 (eL eI) (walk_)) ra_nil) (len_L (a := eI) (walk_))) ra_nil) ⟨rfl, rfl⟩ (el_c sl_o (el_c sl_o (el_c sl_o (el_c sl_o (el_c sl_o (el_c sl_n (el_c sl_o el_nil))))))) (fun V126 place_ => [some ((eL eI) (walk_), mS), some (eI (count_), mA), some ((eL eI) (unders_), mA), some ((eL eI) (V126), mA), some (eI (V123.2), mA), some (eI (place_), mA), some (eI (last_), mA)]) (fun V126 place_ => (rs_seqN (s := (fun (V128 : (List Int)) => [some ((eL eI) (walk_), mS), some (eI (count_), mA), some ((eL eI) (unders_), mA), some ((eL eI) (V128), mA), some (eI (V123.2), mA), some (eI (place_), mA), some (eI (last_), mA)])) (rb_if (rt_eq (rt_val (re_2 (opP_out xo_eqI) (re_2Q (xo_ixF (a := eI)) (re_vA 3 (eL eI) (V126)) (re_vF 5 eI (place_))) (re_vF 6 eI (last_))))) (rs_put (a := eI) (xs := V126) (re_eq (re_vF 1 eI (count_))) (re_eq (re_vF 5 eI (place_))) (fun found_ => [some ((eL eI) (walk_), mS), some (eI (count_), mA), some ((eL eI) (unders_), mA), some ((eL eI) (found_), mA), some (eI (V123.2), mA), some (eI (place_), mA), some (eI (last_), mA)]) (fun found_ => (rb_next (V := found_) (el_c sl_o (el_c sl_o (el_c sl_o (el_c sl_o (el_c sl_o (el_c sl_o (el_c sl_o el_nil)))))))))) (rb_next (V := V126) (el_c sl_o (el_c sl_o (el_c sl_o (el_c sl_o (el_c sl_o (el_c sl_o (el_c sl_o el_nil))))))))) (fun V128 => (rb_next (V := V128) (el_c sl_o (el_c sl_o (el_c sl_o (el_c sl_o (el_c sl_o (el_c sl_n (el_c sl_o el_nil)))))))))))) (fun V126 => (rb_retP' (e := (e2 (eL eI) eI)) (V126, last_) (re_eq (re_tupP (a := (e2 (eL eI) eI)) (V126, last_) (ra_consP (re_mO 3 (eL eI) (V126)) (ra_consP (re_mF 6 eI (last_)) ra_nil))))))))))))))))))
  exact of_KT hr h
abbrev s_arcs : Stmt := topS 9
abbrev N_arcs : List Str := ["drawing", "told", "count", "walk", "found"]
abbrev lv_arcs : Nat := 2
theorem sc_arcs : FnScope N_arcs ["drawing"] (defScope s_arcs) := ⟨rfl, rfl, rfl, by decide +kernel, rfl, by decide +kernel, by decide +kernel⟩
def w_arcs : WS := (wSeq (wSet 1 (wCB wLst wNil))
  (wSeq (wSet 2 (wC (.int 0)))
  (wSeq (wCut (wFor (tgN 3) (wBin wIx (wMv 0) (wC (.int 0)))
  (wSeq (wAsg (tgT [4, 2]) (wCall XA.sp_walk_arcs (wCons (wMv 3) (wCons (wVar 2) wNil))))
  (wSeq (wApp (wPVar 1) (wMv 4))
  wNext))))
  (wSeq (wRet (wMv 1))
  wNext))))
theorem st_arcs (x0 : D) : startE N_arcs [x0] = [argS x0, none, none, none, none] := rfl
theorem d_arcs (E : Ev K mg cl) (G_walk_arcs : Def P w K mg base cl "walk_arcs" 2 XA.sp_walk_arcs lv_walk_arcs) (f : Addr) (cdv : Value) (A : Around) (outer : List Env) (s : Shared) (H : Hp) (E0 : XK) (P0 : Addr → Prop) (hr : Room 1 (cxV P w K mg base N_arcs "arcs" s_arcs f cdv A outer s H E0).A) :
    PSs (cxV P w K mg base N_arcs "arcs" s_arcs f cdv A outer s H E0) (defBody s_arcs) (rdS (cnOf K cl P0 H) (WXE E0) w_arcs) := by
  have nd := sc_arcs.nd
  exact (vss_cons (vs_set (i := 1) (ve_lst va_nil) nd)
  (vss_cons (vs_set (i := 2) ve_int nd)
  (vss_cons (vs_cut (vs_for (passes_of rfl) rfl (ve_ix (ve_mv 0) ve_int) (tg_name nd)
  (fun _ => (vss_cons (vs_asg (ve_call (k := lv_walk_arcs) G_walk_arcs (hr.mono (by decide)) (takes_of rfl rfl rfl rfl) (va_cons (ve_mv 3) (va_cons (ve_var 2) va_nil))) (tg_tup rfl (na_cons (na_cons na_nil nd) nd)))
  (vss_cons (vs_app (vp_var 1) (ve_mv 4))
  vss_nil)))))
  (vss_cons (vs_ret (ve_mv 1))
  vss_nil))))
theorem b_arcs (kV doc pm : Value) (an : Option Addr) (cdv ct : Value) (us : List Value) (h : us.length = 1) : bindArgs (PySem.W.fnOf "arcs" "arcs" (defArgs s_arcs) (defBody s_arcs) (defScope s_arcs) .none kV doc pm an cdv ct) ⟨us, []⟩ = pure ((["drawing"] : List Str).zip us) := match us, h with | [_], _ => rfl
theorem spec_arcs : ∀ ds Qv Xv, XA.sp_arcs ds Qv Xv → ds.length = 1 ∧ w_arcs (startE N_arcs ds) ⟨fun _ => Qv ⟨.none, mA⟩, fun r _ => Qv r, fun ex _ => Xv ex⟩ := by
  rintro ds Qv Xv ⟨drawing_, rfl, h⟩
  refine ⟨rfl, ?_⟩
  have he : startE N_arcs [(e2 (eL (eL eI)) (eL (e2 eI eI))) drawing_] = [some ((e2 (eL (eL eI)) (eL (e2 eI eI))) drawing_, mS), none, none, none, none] := by
    rw [st_arcs]
    try simp only [argS_F, argS_N]
  rw [he]
  have hr : RB (fun _ => True) w_arcs [some ((e2 (eL (eL eI)) (eL (e2 eI eI))) drawing_, mS), none, none, none, none] (XA.F_arcs drawing_) (KT (eL (eL eI)) mA) := by
    unfold XA.F_arcs w_arcs
    exact (rs_set (re_eq (re_lstP (a := (eL eI)) [] ra_nil)) (fun told_ => [some ((e2 (eL (eL eI)) (eL (e2 eI eI))) (drawing_), mS), some ((eL (eL eI)) (told_), mA), none, none, none]) (fun told_ => (rs_set (re_eq (re_c (.int 0) eI (0))) (fun count_ => [some ((e2 (eL (eL eI)) (eL (e2 eI eI))) (drawing_), mS), some ((eL (eL eI)) (told_), mA), some (eI (count_), mA), none, none]) (fun count_ => (rs_seqN (s := (fun (V134 : Int × (List (List Int))) => [none, some ((eL (eL eI)) (V134.2), mA), some (eI (V134.1), mA), none, none])) (rb_forP (s := (fun (V134 : Int × (List (List Int))) => [none, some ((eL (eL eI)) (V134.2), mA), some (eI (V134.1), mA), none, none])) (a := (eL eI)) (count_, told_) (re_eq (re_tN (e := (eL (eL eI))) (b := (e2 (eL (eL eI)) (eL (e2 eI eI)))) 0 (drawing_.1) (re_mO 0 (e2 (eL (eL eI)) (eL (e2 eI eI))) (drawing_)) (re_c (.int 0) eI (0)))) (el_c sl_n (el_c sl_o (el_c sl_o (el_c sl_n (el_c sl_n el_nil))))) (fun V134 walk_ => [none, some ((eL (eL eI)) (V134.2), mA), some (eI (V134.1), mA), some ((eL eI) (walk_), mS), none]) (fun V134 walk_ => (rs_asg (a := (e2 (eL eI) eI)) (re_eq (re_callP (b := (e2 (eL eI) eI)) (M := (XA.F_walk_arcs walk_ V134.1)) (ra_consP (re_mO 3 (eL eI) (walk_)) (ra_consP (re_vF 2 eI (V134.1)) ra_nil)) (fun Q X h => ⟨walk_, V134.1, rfl, h⟩))) (fun p136 => [none, some ((eL (eL eI)) (V134.2), mA), some (eI (p136.2), mA), none, some ((eL eI) (p136.1), mA)]) (fun p136 => (rs_app (a := (eL eI)) (xs := V134.2) (re_eq (re_mO 4 (eL eI) (p136.1))) (fun told_ => [none, some ((eL (eL eI)) (told_), mA), some (eI (p136.2), mA), none, none]) (fun told_ => (rb_next (V := (p136.2, told_)) (el_c sl_n (el_c sl_o (el_c sl_o (el_c sl_n (el_c sl_n el_nil)))))))))))) (fun V134 => (rb_retP' (e := (eL (eL eI))) V134.2 (re_eq (re_mO 1 (eL (eL eI)) (V134.2))))))))))
  exact of_KT hr h
abbrev s_spot : Stmt := topS 6
abbrev N_spot : List Str := ["drawing", "passage", "at", "walk"]
abbrev lv_spot : Nat := 1
theorem sc_spot : FnScope N_spot ["drawing", "passage"] (defScope s_spot) := ⟨rfl, rfl, rfl, by decide +kernel, rfl, by decide +kernel, by decide +kernel⟩
def w_spot : WS := (wSeq (wCut (wFor_enumerate (tgT [2, 3]) (wCons (wBin wIx (wVar 0) (wC (.int 0))) wNil)
  (wSeq (wIf (wTest (wBin woIn (wVar 1) (wVar 3))) (wSeq (wRet (wCB wTup (wCons (wMv 2) (wCons (wIndex1 (wVar 3) (wVar 1)) wNil))))
  wNext) wNext)
  wNext)))
  (wSeq (wRaise "NoCrossing")
  wNext))
theorem st_spot (x0 x1 : D) : startE N_spot [x0, x1] = [argS x0, argS x1, none, none] := rfl
theorem d_spot (E : Ev K mg cl)  (f : Addr) (cdv : Value) (A : Around) (outer : List Env) (s : Shared) (H : Hp) (E0 : XK) (P0 : Addr → Prop) (hr : Room 0 (cxV P w K mg base N_spot "spot" s_spot f cdv A outer s H E0).A) :
    PSs (cxV P w K mg base N_spot "spot" s_spot f cdv A outer s H E0) (defBody s_spot) (rdS (cnOf K cl P0 H) (WXE E0) w_spot) := by
  have nd := sc_spot.nd
  exact (vss_cons (vs_cut (vs_for_enumerate (passes_of rfl) rfl E.m_enumerate (va_cons (ve_ix (ve_var 0) ve_int) va_nil) (tg_tup rfl (na_cons (na_cons na_nil nd) nd))
  (fun _ => (vss_cons (vs_if (vt_c (c_in hr) (ve_var 1) (ve_var 3)) (vss_cons (vs_ret (ve_tup (va_cons (ve_mv 2) (va_cons (ve_index1 hr (ve_var 3) (ve_var 1)) va_nil))))
  vss_nil) vss_nil)
  vss_nil))))
  (vss_cons (vs_raiseE E.x_NoCrossing rfl (takes_of rfl rfl rfl rfl))
  vss_nil))
theorem b_spot (kV doc pm : Value) (an : Option Addr) (cdv ct : Value) (us : List Value) (h : us.length = 2) : bindArgs (PySem.W.fnOf "spot" "spot" (defArgs s_spot) (defBody s_spot) (defScope s_spot) .none kV doc pm an cdv ct) ⟨us, []⟩ = pure ((["drawing", "passage"] : List Str).zip us) := match us, h with | [_, _], _ => rfl
theorem spec_spot : ∀ ds Qv Xv, XA.sp_spot ds Qv Xv → ds.length = 2 ∧ w_spot (startE N_spot ds) ⟨fun _ => Qv ⟨.none, mA⟩, fun r _ => Qv r, fun ex _ => Xv ex⟩ := by
  rintro ds Qv Xv ⟨drawing_, passage_, rfl, h⟩
  refine ⟨rfl, ?_⟩
  have he : startE N_spot [(e2 (eL (eL eI)) (eL (e2 eI eI))) drawing_, eI passage_] = [some ((e2 (eL (eL eI)) (eL (e2 eI eI))) drawing_, mS), some (eI passage_, mA), none, none] := by
    rw [st_spot]
    try simp only [argS_F, argS_N]
  rw [he]
  have hr : RB (fun _ => True) w_spot [some ((e2 (eL (eL eI)) (eL (e2 eI eI))) drawing_, mS), some (eI passage_, mA), none, none] (XA.F_spot drawing_ passage_) (KT (e2 eI eI) mA) := by
    unfold XA.F_spot w_spot
    exact (rs_seqT (s := (fun (V143 : Unit) => [some ((e2 (eL (eL eI)) (eL (e2 eI eI))) (drawing_), mS), some (eI (passage_), mA), none, none])) (rb_forEFP (s := (fun (V143 : Unit) => [some ((e2 (eL (eL eI)) (eL (e2 eI eI))) (drawing_), mS), some (eI (passage_), mA), none, none])) (a := (eL eI)) () (re_eq (re_tN (e := (eL (eL eI))) (b := (e2 (eL (eL eI)) (eL (e2 eI eI)))) 0 (drawing_.1) (re_vS 0 (e2 (eL (eL eI)) (eL (e2 eI eI))) (drawing_)) (re_c (.int 0) eI (0)))) (el_c sl_o (el_c sl_o (el_c sl_n (el_c sl_n el_nil)))) (fun V143 x144 => [some ((e2 (eL (eL eI)) (eL (e2 eI eI))) (drawing_), mS), some (eI (passage_), mA), some (eI (x144.1), mA), some ((eL eI) (x144.2), mS)]) (fun V143 x144 => (rs_ifRP kf_kr (rt_eq (rt_val (re_2P (xo_in (a := eI)) (re_vF 1 eI (passage_)) (re_vS 3 (eL eI) (x144.2))))) (rb_retR (e := (e2 eI eI)) (fun x => x) (re_eq (re_tupF (a := (e2 eI eI)) (fun (t : Int × Int × Unit) => (t.1, t.2.1)) (ra_cons (re_mF 2 eI (x144.1)) (ra_cons (re_eq (re_idx (a := eI) (re_vS 3 (eL eI) (x144.2)) (re_vF 1 eI (passage_)))) ra_nil))))) (rb_nextF (V := ()) (el_c sl_o (el_c sl_o (el_c sl_n (el_c sl_n el_nil)))))))) (fun V143 => (rb_raise)))
  exact of_KT hr h
abbrev s_meets : Stmt := topS 11
abbrev N_meets : List Str := ["drawing", "numbers", "told", "crossing", "sign", "over", "place", "above", "under", "ways"]
abbrev lv_meets : Nat := 3
theorem sc_meets : FnScope N_meets ["drawing"] (defScope s_meets) := ⟨rfl, rfl, rfl, by decide +kernel, rfl, by decide +kernel, by decide +kernel⟩
def w_meets : WS := (wSeq (wSet 1 (wCall XA.sp_arcs (wCons (wVar 0) wNil)))
  (wSeq (wSet 2 (wCB wLst wNil))
  (wSeq (wCut (wFor (tgT [3, 4]) (wBin wIx (wVar 0) (wC (.int 1)))
  (wSeq (wAsg (tgT [5, 6]) (wCall XA.sp_spot (wCons (wVar 0) (wCons (wVar 3) wNil))))
  (wSeq (wSet 7 (wBin wIx (wBin wIx (wVar 1) (wVar 5)) (wVar 6)))
  (wSeq (wAsg (tgT [8, 6]) (wCall XA.sp_spot (wCons (wVar 0) (wCons (wNeg (wVar 3)) wNil))))
  (wSeq (wSet 9 (wBin wIx (wVar 1) (wVar 8)))
  (wSeq (wApp (wPVar 2) (wCB wTup (wCons (wMv 3) (wCons (wMv 4) (wCons (wMv 7) (wCons (wBin wIx (wVar 9) (wVar 6)) (wCons (wBin wIx (wVar 9) (wBin woMod (wBin woAdd (wVar 6) (wC (.int 1))) (wCB wLen (wCons (wVar 9) wNil)))) wNil)))))))
  wNext)))))))
  (wSeq (wRet (wMv 2))
  wNext))))
theorem st_meets (x0 : D) : startE N_meets [x0] = [argS x0, none, none, none, none, none, none, none, none, none] := rfl
theorem d_meets (E : Ev K mg cl) (G_arcs : Def P w K mg base cl "arcs" 1 XA.sp_arcs lv_arcs) (G_spot : Def P w K mg base cl "spot" 2 XA.sp_spot lv_spot) (f : Addr) (cdv : Value) (A : Around) (outer : List Env) (s : Shared) (H : Hp) (E0 : XK) (P0 : Addr → Prop) (hr : Room 2 (cxV P w K mg base N_meets "meets" s_meets f cdv A outer s H E0).A) :
    PSs (cxV P w K mg base N_meets "meets" s_meets f cdv A outer s H E0) (defBody s_meets) (rdS (cnOf K cl P0 H) (WXE E0) w_meets) := by
  have nd := sc_meets.nd
  exact (vss_cons (vs_set (i := 1) (ve_call (k := lv_arcs) G_arcs (hr.mono (by decide)) (takes_of rfl rfl rfl rfl) (va_cons (ve_var 0) va_nil)) nd)
  (vss_cons (vs_set (i := 2) (ve_lst va_nil) nd)
  (vss_cons (vs_cut (vs_for (passes_of rfl) rfl (ve_ix (ve_var 0) ve_int) (tg_tup rfl (na_cons (na_cons na_nil nd) nd))
  (fun _ => (vss_cons (vs_asg (ve_call (k := lv_spot) G_spot (hr.mono (by decide)) (takes_of rfl rfl rfl rfl) (va_cons (ve_var 0) (va_cons (ve_var 3) va_nil))) (tg_tup rfl (na_cons (na_cons na_nil nd) nd)))
  (vss_cons (vs_set (i := 7) (ve_ix (ve_ix (ve_var 1) (ve_var 5)) (ve_var 6)) nd)
  (vss_cons (vs_asg (ve_call (k := lv_spot) G_spot (hr.mono (by decide)) (takes_of rfl rfl rfl rfl) (va_cons (ve_var 0) (va_cons (ve_neg (ve_var 3)) va_nil))) (tg_tup rfl (na_cons (na_cons na_nil nd) nd)))
  (vss_cons (vs_set (i := 9) (ve_ix (ve_var 1) (ve_var 8)) nd)
  (vss_cons (vs_app (vp_var 2) (ve_tup (va_cons (ve_mv 3) (va_cons (ve_mv 4) (va_cons (ve_mv 7) (va_cons (ve_ix (ve_var 9) (ve_var 6)) (va_cons (ve_ix (ve_var 9) (ve_mod (ve_add (ve_var 6) ve_int) (ve_len1 E.m_len (va_cons (ve_var 9) va_nil)))) va_nil)))))))
  vss_nil))))))))
  (vss_cons (vs_ret (ve_mv 2))
  vss_nil))))
theorem b_meets (kV doc pm : Value) (an : Option Addr) (cdv ct : Value) (us : List Value) (h : us.length = 1) : bindArgs (PySem.W.fnOf "meets" "meets" (defArgs s_meets) (defBody s_meets) (defScope s_meets) .none kV doc pm an cdv ct) ⟨us, []⟩ = pure ((["drawing"] : List Str).zip us) := match us, h with | [_], _ => rfl
theorem spec_meets : ∀ ds Qv Xv, XA.sp_meets ds Qv Xv → ds.length = 1 ∧ w_meets (startE N_meets ds) ⟨fun _ => Qv ⟨.none, mA⟩, fun r _ => Qv r, fun ex _ => Xv ex⟩ := by
  rintro ds Qv Xv ⟨drawing_, rfl, h⟩
  refine ⟨rfl, ?_⟩
  have he : startE N_meets [(e2 (eL (eL eI)) (eL (e2 eI eI))) drawing_] = [some ((e2 (eL (eL eI)) (eL (e2 eI eI))) drawing_, mS), none, none, none, none, none, none, none, none, none] := by
    rw [st_meets]
    try simp only [argS_F, argS_N]
  rw [he]
  have hr : RB (fun _ => True) w_meets [some ((e2 (eL (eL eI)) (eL (e2 eI eI))) drawing_, mS), none, none, none, none, none, none, none, none, none] (XA.F_meets drawing_) (KT (eL (e5 eI eI eI eI eI)) mA) := by
    unfold XA.F_meets w_meets
    exact (rs_set (re_eq (re_callP (b := (eL (eL eI))) (M := (XA.F_arcs drawing_)) (ra_consP (re_vS 0 (e2 (eL (eL eI)) (eL (e2 eI eI))) (drawing_)) ra_nil) (fun Q X h => ⟨drawing_, rfl, h⟩))) (fun numbers_ => [some ((e2 (eL (eL eI)) (eL (e2 eI eI))) (drawing_), mS), some ((eL (eL eI)) (numbers_), mA), none, none, none, none, none, none, none, none]) (fun numbers_ => (rs_set (re_eq (re_lstP (a := (e5 eI eI eI eI eI)) [] ra_nil)) (fun told_ => [some ((e2 (eL (eL eI)) (eL (e2 eI eI))) (drawing_), mS), some ((eL (eL eI)) (numbers_), mA), some ((eL (e5 eI eI eI eI eI)) (told_), mA), none, none, none, none, none, none, none]) (fun told_ => (rs_seqN (s := (fun (V159 : (List (Int × Int × Int × Int × Int))) => [some ((e2 (eL (eL eI)) (eL (e2 eI eI))) (drawing_), mS), some ((eL (eL eI)) (numbers_), mS), some ((eL (e5 eI eI eI eI eI)) (V159), mA), none, none, none, none, none, none, none])) (rb_forP (s := (fun (V159 : (List (Int × Int × Int × Int × Int))) => [some ((e2 (eL (eL eI)) (eL (e2 eI eI))) (drawing_), mS), some ((eL (eL eI)) (numbers_), mS), some ((eL (e5 eI eI eI eI eI)) (V159), mA), none, none, none, none, none, none, none])) (a := (e2 eI eI)) told_ (re_eq (re_tN (e := (eL (e2 eI eI))) (b := (e2 (eL (eL eI)) (eL (e2 eI eI)))) 1 (drawing_.2) (re_vS 0 (e2 (eL (eL eI)) (eL (e2 eI eI))) (drawing_)) (re_c (.int 1) eI (1)))) (el_c sl_o (el_c sl_o (el_c sl_o (el_c sl_n (el_c sl_n (el_c sl_n (el_c sl_n (el_c sl_n (el_c sl_n (el_c sl_n el_nil)))))))))) (fun V159 x160 => [some ((e2 (eL (eL eI)) (eL (e2 eI eI))) (drawing_), mS), some ((eL (eL eI)) (numbers_), mS), some ((eL (e5 eI eI eI eI eI)) (V159), mA), some (eI (x160.1), mA), some (eI (x160.2), mA), none, none, none, none, none]) (fun V159 x160 => (rs_asg (a := (e2 eI eI)) (re_eq (re_callP (b := (e2 eI eI)) (M := (XA.F_spot drawing_ x160.1)) (ra_consP (re_vS 0 (e2 (eL (eL eI)) (eL (e2 eI eI))) (drawing_)) (ra_consP (re_vF 3 eI (x160.1)) ra_nil)) (fun Q X h => ⟨drawing_, x160.1, rfl, h⟩))) (fun p165 => [some ((e2 (eL (eL eI)) (eL (e2 eI eI))) (drawing_), mS), some ((eL (eL eI)) (numbers_), mS), some ((eL (e5 eI eI eI eI eI)) (V159), mA), some (eI (x160.1), mA), some (eI (x160.2), mA), some (eI (p165.1), mA), some (eI (p165.2), mA), none, none, none]) (fun p165 => (rs_set (re_eq (re_2 (opO_out (xo_ixF (a := eI))) (re_2Q (xo_ixN (a := (eL eI))) (re_vS 1 (eL (eL eI)) (numbers_)) (re_vF 5 eI (p165.1))) (re_vF 6 eI (p165.2)))) (fun above_ => [some ((e2 (eL (eL eI)) (eL (e2 eI eI))) (drawing_), mS), some ((eL (eL eI)) (numbers_), mS), some ((eL (e5 eI eI eI eI eI)) (V159), mA), some (eI (x160.1), mA), some (eI (x160.2), mA), some (eI (p165.1), mA), some (eI (p165.2), mA), some (eI (above_), mA), none, none]) (fun above_ => (rs_asg (a := (e2 eI eI)) (re_eq (re_callP (b := (e2 eI eI)) (M := (XA.F_spot drawing_ (-(x160.1)))) (ra_consP (re_vS 0 (e2 (eL (eL eI)) (eL (e2 eI eI))) (drawing_)) (ra_consP (re_neg (re_vF 3 eI (x160.1))) ra_nil)) (fun Q X h => ⟨drawing_, (-(x160.1)), rfl, h⟩))) (fun p166 => [some ((e2 (eL (eL eI)) (eL (e2 eI eI))) (drawing_), mS), some ((eL (eL eI)) (numbers_), mS), some ((eL (e5 eI eI eI eI eI)) (V159), mA), some (eI (x160.1), mA), some (eI (x160.2), mA), some (eI (p165.1), mA), some (eI (p166.2), mA), some (eI (above_), mA), some (eI (p166.1), mA), none]) (fun p166 => (rs_set (re_eq (re_2Q (xo_ixN (a := (eL eI))) (re_vS 1 (eL (eL eI)) (numbers_)) (re_vF 8 eI (p166.1)))) (fun ways_ => [some ((e2 (eL (eL eI)) (eL (e2 eI eI))) (drawing_), mS), some ((eL (eL eI)) (numbers_), mS), some ((eL (e5 eI eI eI eI eI)) (V159), mA), some (eI (x160.1), mA), some (eI (x160.2), mA), some (eI (p165.1), mA), some (eI (p166.2), mA), some (eI (above_), mA), some (eI (p166.1), mA), some ((eL eI) (ways_), mS)]) (fun ways_ => (rs_app (a := (e5 eI eI eI eI eI)) (xs := V159) (re_eq (re_tupF (a := (e5 eI eI eI eI eI)) (fun (t : Int × Int × Int × Int × Int × Unit) => (t.1, t.2.1, t.2.2.1, t.2.2.2.1, t.2.2.2.2.1)) (ra_cons (re_mF 3 eI (x160.1)) (ra_cons (re_mF 4 eI (x160.2)) (ra_cons (re_mF 7 eI (above_)) (ra_cons (re_2Q (xo_ixF (a := eI)) (re_vS 9 (eL eI) (ways_)) (re_vF 6 eI (p166.2))) (ra_cons (re_2 (opO_out (xo_ixF (a := eI))) (re_vS 9 (eL eI) (ways_)) (re_2Q xo_mod (re_2P xo_add (re_vF 6 eI (p166.2)) (re_c (.int 1) eI (1))) (re_cbP ((ways_.length : Int)) (ra_consP (re_vS 9 (eL eI) (ways_)) ra_nil) (len_L (a := eI) (ways_))))) ra_nil))))))) (fun told_ => [some ((e2 (eL (eL eI)) (eL (e2 eI eI))) (drawing_), mS), some ((eL (eL eI)) (numbers_), mS), some ((eL (e5 eI eI eI eI eI)) (told_), mA), some (eI (x160.1), mA), some (eI (x160.2), mA), some (eI (p165.1), mA), some (eI (p166.2), mA), some (eI (above_), mA), some (eI (p166.1), mA), some ((eL eI) (ways_), mS)]) (fun told_ => (rb_next (V := told_) (el_c sl_o (el_c sl_o (el_c sl_o (el_c sl_n (el_c sl_n (el_c sl_n (el_c sl_n (el_c sl_n (el_c sl_n (el_c sl_n el_nil))))))))))))))))))))))) (fun V159 => (rb_retP' (e := (eL (e5 eI eI eI eI eI))) V159 (re_eq (re_mO 2 (eL (e5 eI eI eI eI eI)) (V159))))))))))
  exact of_KT hr h
abbrev s_equations : Stmt := topS 16
abbrev N_equations : List Str := ["drawing", "prime", "factor", "told", "crossing", "sign", "above", "inward", "outward", "row", "arc", "number"]
abbrev lv_equations : Nat := 4
theorem sc_equations : FnScope N_equations ["drawing", "prime", "factor"] (defScope s_equations) := ⟨rfl, rfl, rfl, by decide +kernel, rfl, by decide +kernel, by decide +kernel⟩
def w_equations : WS := (wSeq (wExpr (wCall XR.sp_asked_prime (wCons (wVar 1) (wCons (wVar 2) wNil))))
  (wSeq (wSet 3 (wCB wLst wNil))
  (wSeq (wCut (wFor (tgT [4, 5, 6, 7, 8]) (wCall XA.sp_meets (wCons (wVar 0) wNil))
  (wSeq (wCut (wIf (wTest (wBin woLt (wVar 5) (wC (.int 0)))) (wSeq (wPar [7, 8] (wCons (wVar 8) (wCons (wVar 7) wNil)))
  wNext) wNext))
  (wSeq (wSet 9 (wBin woMul (wCB wLst (wCons (wC (.int 0)) wNil)) (wCall XC.sp_arc_count (wCons (wVar 0) wNil))))
  (wSeq (wCut (wFor (tgT [10, 11]) (wCB wLst (wCons (wCB wTup (wCons (wMv 7) (wCons (wVar 2) wNil))) (wCons (wCB wTup (wCons (wMv 6) (wCons (wBin woSub (wC (.int 1)) (wVar 2)) wNil))) (wCons (wCB wTup (wCons (wMv 8) (wCons (wNeg (wC (.int 1))) wNil))) wNil))))
  (wSeq (wPut (wPVar 9) (wVar 10) (wBin woMod (wBin woAdd (wBin wIx (wVar 9) (wVar 10)) (wVar 11)) (wVar 1)))
  wNext)))
  (wSeq (wApp (wPVar 3) (wMv 9))
  wNext))))))
  (wSeq (wRet (wMv 3))
  wNext))))
theorem st_equations (x0 x1 x2 : D) : startE N_equations [x0, x1, x2] = [argS x0, argS x1, argS x2, none, none, none, none, none, none, none, none, none] := rfl
theorem d_equations (E : Ev K mg cl) (G_arc_count : Def P w K mg base cl "arc_count" 1 XC.sp_arc_count lv_arc_count) (G_asked_prime : Def P w K mg base cl "asked_prime" 2 XR.sp_asked_prime lv_asked_prime) (G_meets : Def P w K mg base cl "meets" 1 XA.sp_meets lv_meets) (f : Addr) (cdv : Value) (A : Around) (outer : List Env) (s : Shared) (H : Hp) (E0 : XK) (P0 : Addr → Prop) (hr : Room 3 (cxV P w K mg base N_equations "equations" s_equations f cdv A outer s H E0).A) :
    PSs (cxV P w K mg base N_equations "equations" s_equations f cdv A outer s H E0) (defBody s_equations) (rdS (cnOf K cl P0 H) (WXE E0) w_equations) := by
  have nd := sc_equations.nd
  exact (vss_cons (vs_expr (ve_call (k := lv_asked_prime) G_asked_prime (hr.mono (by decide)) (takes_of rfl rfl rfl rfl) (va_cons (ve_var 1) (va_cons (ve_var 2) va_nil))))
  (vss_cons (vs_set (i := 3) (ve_lst va_nil) nd)
  (vss_cons (vs_cut (vs_for (passes_of rfl) rfl (ve_call (k := lv_meets) G_meets (hr.mono (by decide)) (takes_of rfl rfl rfl rfl) (va_cons (ve_var 0) va_nil)) (tg_tup rfl (na_cons (na_cons (na_cons (na_cons (na_cons na_nil nd) nd) nd) nd) nd))
  (fun _ => (vss_cons (vs_cut (vs_if (vt_c c_lt (ve_var 5) ve_int) (vss_cons (vs_par (i := 7) (j := 8) (va_cons (ve_var 8) (va_cons (ve_var 7) va_nil)) rfl nd)
  vss_nil) vss_nil))
  (vss_cons (vs_set (i := 9) (ve_mul (ve_lst (va_cons ve_int va_nil)) (ve_call (k := lv_arc_count) G_arc_count (hr.mono (by decide)) (takes_of rfl rfl rfl rfl) (va_cons (ve_var 0) va_nil))) nd)
  (vss_cons (vs_cut (vs_for (passes_of rfl) rfl (ve_lst (va_cons (ve_tup (va_cons (ve_mv 7) (va_cons (ve_var 2) va_nil))) (va_cons (ve_tup (va_cons (ve_mv 6) (va_cons (ve_sub ve_int (ve_var 2)) va_nil))) (va_cons (ve_tup (va_cons (ve_mv 8) (va_cons (ve_neg ve_int) va_nil))) va_nil)))) (tg_tup rfl (na_cons (na_cons na_nil nd) nd))
  (fun _ => (vss_cons (vs_put (vp_var 9) (ve_var 10) (ve_mod (ve_add (ve_ix (ve_var 9) (ve_var 10)) (ve_var 11)) (ve_var 1)))
  vss_nil))))
  (vss_cons (vs_app (vp_var 3) (ve_mv 9))
  vss_nil)))))))
  (vss_cons (vs_ret (ve_mv 3))
  vss_nil))))
theorem b_equations (kV doc pm : Value) (an : Option Addr) (cdv ct : Value) (us : List Value) (h : us.length = 3) : bindArgs (PySem.W.fnOf "equations" "equations" (defArgs s_equations) (defBody s_equations) (defScope s_equations) .none kV doc pm an cdv ct) ⟨us, []⟩ = pure ((["drawing", "prime", "factor"] : List Str).zip us) := match us, h with | [_, _, _], _ => rfl
theorem spec_equations : ∀ ds Qv Xv, XR.sp_equations ds Qv Xv → ds.length = 3 ∧ w_equations (startE N_equations ds) ⟨fun _ => Qv ⟨.none, mA⟩, fun r _ => Qv r, fun ex _ => Xv ex⟩ := by
  rintro ds Qv Xv ⟨drawing_, prime_, factor_, rfl, h⟩
  refine ⟨rfl, ?_⟩
  have he : startE N_equations [(e2 (eL (eL eI)) (eL (e2 eI eI))) drawing_, eI prime_, eI factor_] = [some ((e2 (eL (eL eI)) (eL (e2 eI eI))) drawing_, mS), some (eI prime_, mA), some (eI factor_, mA), none, none, none, none, none, none, none, none, none] := by
    rw [st_equations]
    try simp only [argS_F, argS_N]
  rw [he]
  have hr : RB (fun _ => True) w_equations [some ((e2 (eL (eL eI)) (eL (e2 eI eI))) drawing_, mS), some (eI prime_, mA), some (eI factor_, mA), none, none, none, none, none, none, none, none, none] (XR.F_equations drawing_ prime_ factor_) (KT (eL (eL eI)) mA) := by
    unfold XR.F_equations w_equations
    exact (rs_expr (re_eq (re_callP (b := eN) (M := (XR.F_asked_prime prime_ factor_)) (ra_consP (re_vF 1 eI (prime_)) (ra_consP (re_vF 2 eI (factor_)) ra_nil)) (fun Q X h => ⟨prime_, factor_, rfl, h⟩))) (fun _ => (rs_set (re_eq (re_lstP (a := (eL eI)) [] ra_nil)) (fun told_ => [some ((e2 (eL (eL eI)) (eL (e2 eI eI))) (drawing_), mS), some (eI (prime_), mA), some (eI (factor_), mA), some ((eL (eL eI)) (told_), mA), none, none, none, none, none, none, none, none]) (fun told_ => (rs_seqN (s := (fun (V191 : (List (List Int))) => [some ((e2 (eL (eL eI)) (eL (e2 eI eI))) (drawing_), mS), some (eI (prime_), mA), some (eI (factor_), mA), some ((eL (eL eI)) (V191), mA), none, none, none, none, none, none, none, none])) (rb_for (s := (fun (V191 : (List (List Int))) => [some ((e2 (eL (eL eI)) (eL (e2 eI eI))) (drawing_), mS), some (eI (prime_), mA), some (eI (factor_), mA), some ((eL (eL eI)) (V191), mA), none, none, none, none, none, none, none, none])) (a := (e5 eI eI eI eI eI)) told_ (re_eq (re_callP (b := (eL (e5 eI eI eI eI eI))) (M := (XA.F_meets drawing_)) (ra_consP (re_vS 0 (e2 (eL (eL eI)) (eL (e2 eI eI))) (drawing_)) ra_nil) (fun Q X h => ⟨drawing_, rfl, h⟩))) (el_c sl_o (el_c sl_o (el_c sl_o (el_c sl_o (el_c sl_n (el_c sl_n (el_c sl_n (el_c sl_n (el_c sl_n (el_c sl_n (el_c sl_n (el_c sl_n el_nil)))))))))))) (fun V191 x192 => [some ((e2 (eL (eL eI)) (eL (e2 eI eI))) (drawing_), mS), some (eI (prime_), mA), some (eI (factor_), mA), some ((eL (eL eI)) (V191), mA), some (eI (x192.1), mA), some (eI (x192.2.1), mA), some (eI (x192.2.2.1), mA), some (eI (x192.2.2.2.1), mA), some (eI (x192.2.2.2.2), mA), none, none, none]) (fun V191 x192 => (rs_seqN (s := (fun (V199 : Int × Int) => [some ((e2 (eL (eL eI)) (eL (e2 eI eI))) (drawing_), mS), some (eI (prime_), mA), some (eI (factor_), mA), some ((eL (eL eI)) (V191), mA), some (eI (x192.1), mA), some (eI (x192.2.1), mA), some (eI (x192.2.2.1), mA), some (eI (V199.1), mA), some (eI (V199.2), mA), none, none, none])) (rb_ifP (rt_eq (rt_val (re_2P xo_lt (re_vF 5 eI (x192.2.1)) (re_c (.int 0) eI (0))))) (rs_par (ra_consP (re_vF 8 eI (x192.2.2.2.2)) (ra_consP (re_vF 7 eI (x192.2.2.2.1)) ra_nil)) (fun p200 => [some ((e2 (eL (eL eI)) (eL (e2 eI eI))) (drawing_), mS), some (eI (prime_), mA), some (eI (factor_), mA), some ((eL (eL eI)) (V191), mA), some (eI (x192.1), mA), some (eI (x192.2.1), mA), some (eI (x192.2.2.1), mA), some (eI (p200.1), mA), some (eI (p200.2.1), mA), none, none, none]) (fun p200 => (rb_next (V := (p200.1, p200.2.1)) (el_c sl_o (el_c sl_o (el_c sl_o (el_c sl_o (el_c sl_o (el_c sl_o (el_c sl_o (el_c sl_o (el_c sl_o (el_c sl_n (el_c sl_n (el_c sl_n el_nil))))))))))))))) (rb_next (V := (x192.2.2.2.1, x192.2.2.2.2)) (el_c sl_o (el_c sl_o (el_c sl_o (el_c sl_o (el_c sl_o (el_c sl_o (el_c sl_o (el_c sl_o (el_c sl_o (el_c sl_n (el_c sl_n (el_c sl_n el_nil)))))))))))))) (fun V199 => (rs_set (re_eq (re_2 (opO_out (xo_rep (a := eI))) (re_lstFP (a := eI) [0] (ra_consP (re_c (.int 0) eI (0)) ra_nil)) (re_callP (b := eI) (M := (XC.F_arc_count drawing_)) (ra_consP (re_vS 0 (e2 (eL (eL eI)) (eL (e2 eI eI))) (drawing_)) ra_nil) (fun Q X h => ⟨drawing_, rfl, h⟩)))) (fun row_ => [some ((e2 (eL (eL eI)) (eL (e2 eI eI))) (drawing_), mS), some (eI (prime_), mA), some (eI (factor_), mA), some ((eL (eL eI)) (V191), mA), some (eI (x192.1), mA), some (eI (x192.2.1), mA), some (eI (x192.2.2.1), mA), some (eI (V199.1), mA), some (eI (V199.2), mA), some ((eL eI) (row_), mA), none, none]) (fun row_ => (rs_seqN (s := (fun (V201 : (List Int)) => [some ((e2 (eL (eL eI)) (eL (e2 eI eI))) (drawing_), mS), some (eI (prime_), mA), some (eI (factor_), mA), some ((eL (eL eI)) (V191), mA), some (eI (x192.1), mA), some (eI (x192.2.1), mA), some (eI (x192.2.2.1), mA), some (eI (V199.1), mA), some (eI (V199.2), mA), some ((eL eI) (V201), mA), none, none])) (rb_forP (s := (fun (V201 : (List Int)) => [some ((e2 (eL (eL eI)) (eL (e2 eI eI))) (drawing_), mS), some (eI (prime_), mA), some (eI (factor_), mA), some ((eL (eL eI)) (V191), mA), some (eI (x192.1), mA), some (eI (x192.2.1), mA), some (eI (x192.2.2.1), mA), some (eI (V199.1), mA), some (eI (V199.2), mA), some ((eL eI) (V201), mA), none, none])) (a := (e2 eI eI)) row_ (re_eq (re_lstFP (a := (e2 eI eI)) [(V199.1, factor_), (x192.2.2.1, (1 - factor_)), (V199.2, -(1))] (ra_consP (re_tupFP (a := (e2 eI eI)) (V199.1, factor_) (ra_consP (re_mF 7 eI (V199.1)) (ra_consP (re_vF 2 eI (factor_)) ra_nil))) (ra_consP (re_tupFP (a := (e2 eI eI)) (x192.2.2.1, (1 - factor_)) (ra_consP (re_mF 6 eI (x192.2.2.1)) (ra_consP (re_2P xo_sub (re_c (.int 1) eI (1)) (re_vF 2 eI (factor_))) ra_nil))) (ra_consP (re_tupFP (a := (e2 eI eI)) (V199.2, -(1)) (ra_consP (re_mF 8 eI (V199.2)) (ra_consP (re_neg (re_c (.int 1) eI (1))) ra_nil))) ra_nil))))) (el_c sl_o (el_c sl_o (el_c sl_o (el_c sl_o (el_c sl_o (el_c sl_o (el_c sl_o (el_c sl_o (el_c sl_o (el_c sl_o (el_c sl_n (el_c sl_n el_nil)))))))))))) (fun V201 x202 => [some ((e2 (eL (eL eI)) (eL (e2 eI eI))) (drawing_), mS), some (eI (prime_), mA), some (eI (factor_), mA), some ((eL (eL eI)) (V191), mA), some (eI (x192.1), mA), some (eI (x192.2.1), mA), some (eI (x192.2.2.1), mA), some (eI (V199.1), mA), some (eI (V199.2), mA), some ((eL eI) (V201), mA), some (eI (x202.1), mA), some (eI (x202.2), mA)]) (fun V201 x202 => (rs_put (a := eI) (xs := V201) (re_eq (re_2 (opO_out xo_mod) (re_2 (opP_out xo_add) (re_2Q (xo_ixF (a := eI)) (re_vA 9 (eL eI) (V201)) (re_vF 10 eI (x202.1))) (re_vF 11 eI (x202.2))) (re_vF 1 eI (prime_)))) (re_eq (re_vF 10 eI (x202.1))) (fun row_ => [some ((e2 (eL (eL eI)) (eL (e2 eI eI))) (drawing_), mS), some (eI (prime_), mA), some (eI (factor_), mA), some ((eL (eL eI)) (V191), mA), some (eI (x192.1), mA), some (eI (x192.2.1), mA), some (eI (x192.2.2.1), mA), some (eI (V199.1), mA), some (eI (V199.2), mA), some ((eL eI) (row_), mA), some (eI (x202.1), mA), some (eI (x202.2), mA)]) (fun row_ => (rb_next (V := row_) (el_c sl_o (el_c sl_o (el_c sl_o (el_c sl_o (el_c sl_o (el_c sl_o (el_c sl_o (el_c sl_o (el_c sl_o (el_c sl_o (el_c sl_n (el_c sl_n el_nil))))))))))))))))) (fun V201 => (rs_app (a := (eL eI)) (xs := V191) (re_eq (re_mO 9 (eL eI) (V201))) (fun told_ => [some ((e2 (eL (eL eI)) (eL (e2 eI eI))) (drawing_), mS), some (eI (prime_), mA), some (eI (factor_), mA), some ((eL (eL eI)) (told_), mA), some (eI (x192.1), mA), some (eI (x192.2.1), mA), some (eI (x192.2.2.1), mA), some (eI (V199.1), mA), some (eI (V199.2), mA), none, none, none]) (fun told_ => (rb_next (V := told_) (el_c sl_o (el_c sl_o (el_c sl_o (el_c sl_o (el_c sl_n (el_c sl_n (el_c sl_n (el_c sl_n (el_c sl_n (el_c sl_n (el_c sl_n (el_c sl_n el_nil))))))))))))))))))))))) (fun V191 => (rb_retP' (e := (eL (eL eI))) V191 (re_eq (re_mO 3 (eL (eL eI)) (V191))))))))))
  exact of_KT hr h
abbrev s_first_row : Stmt := topS 20
abbrev N_first_row : List Str := ["rows", "start", "arc", "at"]
abbrev lv_first_row : Nat := 1
theorem sc_first_row : FnScope N_first_row ["rows", "start", "arc"] (defScope s_first_row) := ⟨rfl, rfl, rfl, by decide +kernel, rfl, by decide +kernel, by decide +kernel⟩
def w_first_row : WS := (wSeq (wCut (wForR 2 3 (wCons (wVar 1) (wCons (wCB wLen (wCons (wVar 0) wNil)) wNil))
  (wSeq (wIf (wTest (wBin woNe (wBin wIx (wBin wIx (wVar 0) (wVar 3)) (wVar 2)) (wC (.int 0)))) (wSeq (wRet (wMv 3))
  wNext) wNext)
  wNext)))
  (wSeq (wRet (wC .none))
  wNext))
theorem st_first_row (x0 x1 x2 : D) : startE N_first_row [x0, x1, x2] = [argS x0, argS x1, argS x2, none] := rfl
theorem d_first_row (E : Ev K mg cl)  (f : Addr) (cdv : Value) (A : Around) (outer : List Env) (s : Shared) (H : Hp) (E0 : XK) (P0 : Addr → Prop) (hr : Room 0 (cxV P w K mg base N_first_row "first_row" s_first_row f cdv A outer s H E0).A) :
    PSs (cxV P w K mg base N_first_row "first_row" s_first_row f cdv A outer s H E0) (defBody s_first_row) (rdS (cnOf K cl P0 H) (WXE E0) w_first_row) := by
  have nd := sc_first_row.nd
  exact (vss_cons (vs_cut (vs_forR2 (i := 3) (passes_of rfl) rfl E.m_range (va_cons (ve_var 1) (va_cons (ve_len1 E.m_len (va_cons (ve_var 0) va_nil)) va_nil))
  (vss_cons (vs_if (vt_c (c_ne hr) (ve_ix (ve_ix (ve_var 0) (ve_var 3)) (ve_var 2)) ve_int) (vss_cons (vs_ret (ve_mv 3))
  vss_nil) vss_nil)
  vss_nil) nd))
  (vss_cons (vs_ret ve_non)
  vss_nil))
theorem b_first_row (kV doc pm : Value) (an : Option Addr) (cdv ct : Value) (us : List Value) (h : us.length = 3) : bindArgs (PySem.W.fnOf "first_row" "first_row" (defArgs s_first_row) (defBody s_first_row) (defScope s_first_row) .none kV doc pm an cdv ct) ⟨us, []⟩ = pure ((["rows", "start", "arc"] : List Str).zip us) := match us, h with | [_, _, _], _ => rfl
theorem spec_first_row : ∀ ds Qv Xv, XR2.sp_first_row ds Qv Xv → ds.length = 3 ∧ w_first_row (startE N_first_row ds) ⟨fun _ => Qv ⟨.none, mA⟩, fun r _ => Qv r, fun ex _ => Xv ex⟩ := by
  rintro ds Qv Xv ⟨rows_, start_, arc_, rfl, h⟩
  refine ⟨rfl, ?_⟩
  have he : startE N_first_row [(eL (eL eI)) rows_, eI start_, eI arc_] = [some ((eL (eL eI)) rows_, mS), some (eI start_, mA), some (eI arc_, mA), none] := by
    rw [st_first_row]
    try simp only [argS_F, argS_N]
  rw [he]
  have hr : RB (fun _ => True) w_first_row [some ((eL (eL eI)) rows_, mS), some (eI start_, mA), some (eI arc_, mA), none] (XR2.F_first_row rows_ start_ arc_) (KT (eO eI) mA) := by
    unfold XR2.F_first_row w_first_row
    exact (rs_seqT (s := (fun (V207 : Unit) => [some ((eL (eL eI)) (rows_), mS), some (eI (start_), mA), some (eI (arc_), mA), none])) (rb_forRFP (s := (fun (V207 : Unit) => [some ((eL (eL eI)) (rows_), mS), some (eI (start_), mA), some (eI (arc_), mA), none])) start_ (rows_.length : Int) () (ra_consP (re_vF 1 eI (start_)) (ra_consP (re_cbP ((rows_.length : Int)) (ra_consP (re_vS 0 (eL (eL eI)) (rows_)) ra_nil) (len_L (a := (eL eI)) (rows_))) ra_nil)) ⟨rfl, rfl⟩ (el_c sl_o (el_c sl_o (el_c sl_o (el_c sl_n el_nil)))) (fun V207 at_ => [some ((eL (eL eI)) (rows_), mS), some (eI (start_), mA), some (eI (arc_), mA), some (eI (at_), mA)]) (fun V207 at_ => (rs_ifR kf_kr (rt_eq (rt_val (re_2 (opP_out xo_neI) (re_2 (opO_out (xo_ixF (a := eI))) (re_2Q (xo_ixN (a := (eL eI))) (re_vS 0 (eL (eL eI)) (rows_)) (re_vF 3 eI (at_))) (re_vF 2 eI (arc_))) (re_c (.int 0) eI (0))))) (rb_retRP (e := (eO eI)) (some (at_)) (re_eq (re_mF 3 eI (at_)))) (rb_nextF (V := ()) (el_c sl_o (el_c sl_o (el_c sl_o (el_c sl_n el_nil)))))))) (fun V207 => (rb_retP' (e := (eO eI)) none (re_eq (re_c .none eN (()))))))
  exact of_KT hr h
abbrev s_way_back : Stmt := topS 17
abbrev N_way_back : List Str := ["number", "prime", "one", "other", "left", "right", "whole"]
abbrev lv_way_back : Nat := 1
theorem sc_way_back : FnScope N_way_back ["number", "prime"] (defScope s_way_back) := ⟨rfl, rfl, rfl, by decide +kernel, rfl, by decide +kernel, by decide +kernel⟩
def w_way_back : WS := (wSeq (wPar [2, 3] (wCons (wVar 1) (wCons (wBin woMod (wVar 0) (wVar 1)) wNil)))
  (wSeq (wAsg (tgT [4, 5]) (wCB wTup (wCons (wC (.int 0)) (wCons (wC (.int 1)) wNil))))
  (wSeq (wCut (wWhile (wTest (wBin woGt (wVar 3) (wC (.int 0)))) (wSeq (wSet 6 (wBin woFd (wVar 2) (wVar 3)))
  (wSeq (wPar [2, 3] (wCons (wVar 3) (wCons (wBin woSub (wVar 2) (wBin woMul (wVar 6) (wVar 3))) wNil)))
  (wSeq (wPar [4, 5] (wCons (wVar 5) (wCons (wBin woSub (wVar 4) (wBin woMul (wVar 6) (wVar 5))) wNil)))
  wNext)))))
  (wSeq (wRet (wBin woMod (wVar 4) (wVar 1)))
  wNext))))
theorem st_way_back (x0 x1 : D) : startE N_way_back [x0, x1] = [argS x0, argS x1, none, none, none, none, none] := rfl
theorem d_way_back (E : Ev K mg cl)  (f : Addr) (cdv : Value) (A : Around) (outer : List Env) (s : Shared) (H : Hp) (E0 : XK) (P0 : Addr → Prop) (hr : Room 0 (cxV P w K mg base N_way_back "way_back" s_way_back f cdv A outer s H E0).A) :
    PSs (cxV P w K mg base N_way_back "way_back" s_way_back f cdv A outer s H E0) (defBody s_way_back) (rdS (cnOf K cl P0 H) (WXE E0) w_way_back) := by
  have nd := sc_way_back.nd
  exact (vss_cons (vs_par (i := 2) (j := 3) (va_cons (ve_var 1) (va_cons (ve_mod (ve_var 0) (ve_var 1)) va_nil)) rfl nd)
  (vss_cons (vs_asg (ve_tup (va_cons ve_int (va_cons ve_int va_nil))) (tg_tup rfl (na_cons (na_cons na_nil nd) nd)))
  (vss_cons (vs_cut (vs_while (passes_of rfl) (vt_c c_gt (ve_var 3) ve_int) (vss_cons (vs_set (i := 6) (ve_fd (ve_var 2) (ve_var 3)) nd)
  (vss_cons (vs_par (i := 2) (j := 3) (va_cons (ve_var 3) (va_cons (ve_sub (ve_var 2) (ve_mul (ve_var 6) (ve_var 3))) va_nil)) rfl nd)
  (vss_cons (vs_par (i := 4) (j := 5) (va_cons (ve_var 5) (va_cons (ve_sub (ve_var 4) (ve_mul (ve_var 6) (ve_var 5))) va_nil)) rfl nd)
  vss_nil)))))
  (vss_cons (vs_ret (ve_mod (ve_var 4) (ve_var 1)))
  vss_nil))))
theorem b_way_back (kV doc pm : Value) (an : Option Addr) (cdv ct : Value) (us : List Value) (h : us.length = 2) : bindArgs (PySem.W.fnOf "way_back" "way_back" (defArgs s_way_back) (defBody s_way_back) (defScope s_way_back) .none kV doc pm an cdv ct) ⟨us, []⟩ = pure ((["number", "prime"] : List Str).zip us) := match us, h with | [_, _], _ => rfl
theorem spec_way_back : ∀ ds Qv Xv, XR2.sp_way_back ds Qv Xv → ds.length = 2 ∧ w_way_back (startE N_way_back ds) ⟨fun _ => Qv ⟨.none, mA⟩, fun r _ => Qv r, fun ex _ => Xv ex⟩ := by
  rintro ds Qv Xv ⟨number_, prime_, rfl, h⟩
  refine ⟨rfl, ?_⟩
  have he : startE N_way_back [eI number_, eI prime_] = [some (eI number_, mA), some (eI prime_, mA), none, none, none, none, none] := by
    rw [st_way_back]
    try simp only [argS_F, argS_N]
  rw [he]
  have hr : RB (fun _ => True) w_way_back [some (eI number_, mA), some (eI prime_, mA), none, none, none, none, none] (XR2.F_way_back number_ prime_) (KT eI mA) := by
    unfold XR2.F_way_back w_way_back
    exact (rs_par (ra_cons (re_vF 1 eI (prime_)) (ra_cons (re_2Q xo_mod (re_vF 0 eI (number_)) (re_vF 1 eI (prime_))) ra_nil)) (fun p222 => [some (eI (number_), mA), some (eI (prime_), mA), some (eI (p222.1), mA), some (eI (p222.2.1), mA), none, none, none]) (fun p222 => (rs_asg (a := (e2 eI eI)) (re_eq (re_tupFP (a := (e2 eI eI)) (0, 1) (ra_consP (re_c (.int 0) eI (0)) (ra_consP (re_c (.int 1) eI (1)) ra_nil)))) (fun p223 => [some (eI (number_), mA), some (eI (prime_), mA), some (eI (p222.1), mA), some (eI (p222.2.1), mA), some (eI (p223.1), mA), some (eI (p223.2), mA), none]) (fun p223 => (rs_seqN (s := (fun (V224 : Int × Int × Int × Int) => [some (eI (number_), mA), some (eI (prime_), mA), some (eI (V224.1), mA), some (eI (V224.2.1), mA), some (eI (V224.2.2.1), mA), some (eI (V224.2.2.2), mA), none])) (rb_while (s := (fun (V224 : Int × Int × Int × Int) => [some (eI (number_), mA), some (eI (prime_), mA), some (eI (V224.1), mA), some (eI (V224.2.1), mA), some (eI (V224.2.2.1), mA), some (eI (V224.2.2.2), mA), none])) (p222.1, p222.2.1, p223.1, p223.2) (el_c sl_o (el_c sl_o (el_c sl_o (el_c sl_o (el_c sl_o (el_c sl_o (el_c sl_n el_nil))))))) (fun V224 => rt_eq (rt_val (re_2P xo_gt (re_vF 3 eI (V224.2.1)) (re_c (.int 0) eI (0))))) (fun V224 => (rs_set (re_eq (re_2Q xo_fd (re_vF 2 eI (V224.1)) (re_vF 3 eI (V224.2.1)))) (fun whole_ => [some (eI (number_), mA), some (eI (prime_), mA), some (eI (V224.1), mA), some (eI (V224.2.1), mA), some (eI (V224.2.2.1), mA), some (eI (V224.2.2.2), mA), some (eI (whole_), mA)]) (fun whole_ => (rs_par (ra_cons (re_vF 3 eI (V224.2.1)) (ra_cons (re_2 (opP_out xo_sub) (re_vF 2 eI (V224.1)) (re_2Q xo_mul (re_vF 6 eI (whole_)) (re_vF 3 eI (V224.2.1)))) ra_nil)) (fun p227 => [some (eI (number_), mA), some (eI (prime_), mA), some (eI (p227.1), mA), some (eI (p227.2.1), mA), some (eI (V224.2.2.1), mA), some (eI (V224.2.2.2), mA), some (eI (whole_), mA)]) (fun p227 => (rs_par (ra_cons (re_vF 5 eI (V224.2.2.2)) (ra_cons (re_2 (opP_out xo_sub) (re_vF 4 eI (V224.2.2.1)) (re_2Q xo_mul (re_vF 6 eI (whole_)) (re_vF 5 eI (V224.2.2.2)))) ra_nil)) (fun p228 => [some (eI (number_), mA), some (eI (prime_), mA), some (eI (p227.1), mA), some (eI (p227.2.1), mA), some (eI (p228.1), mA), some (eI (p228.2.1), mA), some (eI (whole_), mA)]) (fun p228 => (rb_next (V := (p227.1, p227.2.1, p228.1, p228.2.1)) (el_c sl_o (el_c sl_o (el_c sl_o (el_c sl_o (el_c sl_o (el_c sl_o (el_c sl_n el_nil)))))))))))))))) (fun V224 => (rb_retI (re_eq (re_2Q xo_mod (re_vF 4 eI (V224.2.2.1)) (re_vF 1 eI (prime_)))))))))))
  exact of_KT hr h
abbrev s_made_less : Stmt := topS 18
abbrev N_made_less : List Str := ["row", "by", "other", "prime", "one", "two"]
abbrev lv_made_less : Nat := 1
theorem sc_made_less : FnScope N_made_less ["row", "by", "other", "prime"] (defScope s_made_less) := ⟨rfl, rfl, rfl, by decide +kernel, rfl, by decide +kernel, by decide +kernel⟩
def w_made_less : WS := (wSeq (wRet (wLcZ [4, 5] (tgT [4, 5]) (wCons (wVar 0) (wCons (wVar 2) wNil)) wYes (wBin woMod (wBin woSub (wVar 4) (wBin woMul (wVar 1) (wVar 5))) (wVar 3))))
  wNext)
theorem st_made_less (x0 x1 x2 x3 : D) : startE N_made_less [x0, x1, x2, x3] = [argS x0, argS x1, argS x2, argS x3, none, none] := rfl
theorem d_made_less (E : Ev K mg cl)  (f : Addr) (cdv : Value) (A : Around) (outer : List Env) (s : Shared) (H : Hp) (E0 : XK) (P0 : Addr → Prop) (hr : Room 0 (cxV P w K mg base N_made_less "made_less" s_made_less f cdv A outer s H E0).A) :
    PSs (cxV P w K mg base N_made_less "made_less" s_made_less f cdv A outer s H E0) (defBody s_made_less) (rdS (cnOf K cl P0 H) (WXE E0) w_made_less) := by
  have nd := sc_made_less.nd
  exact (vss_cons (vs_ret (ve_lcZ (is := [4, 5]) rfl nd [("one", 4), ("two", 5)] E.m_zip (va_cons (ve_var 0) (va_cons (ve_var 2) va_nil)) (fun _ _ _ _ _ => pg_tup rfl (pgs_cons (pg_name nd rfl (by first | exact .inl rfl | exact .inr rfl)) (pgs_cons (pg_name nd rfl (by first | exact .inl rfl | exact .inr rfl)) pgs_nil))) (fun _ _ _ _ _ => vts_nil) (fun _ _ _ _ _ => (ve_mod (ve_sub (ve_var 4) (ve_mul (ve_var 1) (ve_var 5))) (ve_var 3)))))
  vss_nil)
theorem b_made_less (kV doc pm : Value) (an : Option Addr) (cdv ct : Value) (us : List Value) (h : us.length = 4) : bindArgs (PySem.W.fnOf "made_less" "made_less" (defArgs s_made_less) (defBody s_made_less) (defScope s_made_less) .none kV doc pm an cdv ct) ⟨us, []⟩ = pure ((["row", "by", "other", "prime"] : List Str).zip us) := match us, h with | [_, _, _, _], _ => rfl
theorem spec_made_less : ∀ ds Qv Xv, XR2.sp_made_less ds Qv Xv → ds.length = 4 ∧ w_made_less (startE N_made_less ds) ⟨fun _ => Qv ⟨.none, mA⟩, fun r _ => Qv r, fun ex _ => Xv ex⟩ := by
  rintro ds Qv Xv ⟨row_, by_, other_, prime_, rfl, h⟩
  refine ⟨rfl, ?_⟩
  have he : startE N_made_less [(eL eI) row_, eI by_, (eL eI) other_, eI prime_] = [some ((eL eI) row_, mS), some (eI by_, mA), some ((eL eI) other_, mS), some (eI prime_, mA), none, none] := by
    rw [st_made_less]
    try simp only [argS_F, argS_N]
  rw [he]
  have hr : RB (fun _ => True) w_made_less [some ((eL eI) row_, mS), some (eI by_, mA), some ((eL eI) other_, mS), some (eI prime_, mA), none, none] (XR2.F_made_less row_ by_ other_ prime_) (KT (eL eI) mA) := by
    unfold XR2.F_made_less w_made_less
    exact (rb_retI (re_eq (re_lcZ1P none mA (a := eI) (b := eI) (ent := (fun p233 => [some ((eL eI) (row_), mS), some (eI (by_), mA), some ((eL eI) (other_), mS), some (eI (prime_), mA), some (eI (p233.1), mA), some (eI (p233.2), mA)])) (F := (fun p233 : (Int × Int) => (((Out.ok (p233.1)).bind fun t1 => (lift (mulO by_ p233.2)).bind fun t2 => .ok ((t1 - t2))).bind fun t1 => (Out.ok (prime_)).bind fun t2 => lift (modO t1 t2)))) (re_eq (re_vS 0 (eL eI) (row_))) (re_eq (re_vS 2 (eL eI) (other_))) (fun _ => ⟨_, rfl, rfl⟩) (fun p233 => ⟨_, re_eq (re_2 (opO_out xo_mod) (re_2 (opP_out xo_sub) (re_vF 4 eI (p233.1)) (re_2Q xo_mul (re_vF 1 eI (by_)) (re_vF 5 eI (p233.2)))) (re_vF 3 eI (prime_)))⟩) (kid_F (c := eI)))))
  exact of_KT hr h
abbrev s_cleared : Stmt := topS 19
abbrev N_cleared : List Str := ["rows", "at", "arc", "prime", "number", "lead", "told", "place", "row", "one"]
abbrev lv_cleared : Nat := 2
theorem sc_cleared : FnScope N_cleared ["rows", "at", "arc", "prime"] (defScope s_cleared) := ⟨rfl, rfl, rfl, by decide +kernel, rfl, by decide +kernel, by decide +kernel⟩
def w_cleared : WS := (wSeq (wSet 4 (wCall XR2.sp_way_back (wCons (wBin wIx (wBin wIx (wVar 0) (wVar 1)) (wVar 2)) (wCons (wVar 3) wNil))))
  (wSeq (wSet 5 (wLc [9] (tgN 9) (wBin wIx (wVar 0) (wVar 1)) wYes (wBin woMod (wBin woMul (wVar 4) (wVar 9)) (wVar 3))))
  (wSeq (wSet 6 (wCB wLst wNil))
  (wSeq (wCut (wFor_enumerate (tgT [7, 8]) (wCons (wVar 0) wNil)
  (wSeq (wCut (wIf (wTest (wBin woEq (wVar 7) (wVar 1))) (wSeq (wApp (wPVar 6) (wVar 5))
  wNext) (wSeq (wApp (wPVar 6) (wCall XR2.sp_made_less (wCons (wVar 8) (wCons (wBin wIx (wVar 8) (wVar 2)) (wCons (wVar 5) (wCons (wVar 3) wNil))))))
  wNext)))
  wNext)))
  (wSeq (wRet (wWs (wMv 6)))
  wNext)))))
theorem st_cleared (x0 x1 x2 x3 : D) : startE N_cleared [x0, x1, x2, x3] = [argS x0, argS x1, argS x2, argS x3, none, none, none, none, none, none] := rfl
theorem d_cleared (E : Ev K mg cl) (G_way_back : Def P w K mg base cl "way_back" 2 XR2.sp_way_back lv_way_back) (G_made_less : Def P w K mg base cl "made_less" 4 XR2.sp_made_less lv_made_less) (f : Addr) (cdv : Value) (A : Around) (outer : List Env) (s : Shared) (H : Hp) (E0 : XK) (P0 : Addr → Prop) (hr : Room 1 (cxV P w K mg base N_cleared "cleared" s_cleared f cdv A outer s H E0).A) :
    PSs (cxV P w K mg base N_cleared "cleared" s_cleared f cdv A outer s H E0) (defBody s_cleared) (rdS (cnOf K cl P0 H) (WXE E0) w_cleared) := by
  have nd := sc_cleared.nd
  exact (vss_cons (vs_set (i := 4) (ve_call (k := lv_way_back) G_way_back (hr.mono (by decide)) (takes_of rfl rfl rfl rfl) (va_cons (ve_ix (ve_ix (ve_var 0) (ve_var 1)) (ve_var 2)) (va_cons (ve_var 3) va_nil))) nd)
  (vss_cons (vs_setLcN (n := 5) rfl nd [("one", 9)] (ve_ix (ve_var 0) (ve_var 1)) (fun _ _ _ _ _ => pg_name nd rfl (by first | exact .inl rfl | exact .inr rfl)) (fun _ _ _ _ _ => vts_nil) (fun _ _ _ _ _ => (ve_mod (ve_mul (ve_var 4) (ve_var 9)) (ve_var 3))))
  (vss_cons (vs_set (i := 6) (ve_lst va_nil) nd)
  (vss_cons (vs_cut (vs_for_enumerate (passes_of rfl) rfl E.m_enumerate (va_cons (ve_var 0) va_nil) (tg_tup rfl (na_cons (na_cons na_nil nd) nd))
  (fun _ => (vss_cons (vs_cut (vs_if (vt_c (c_eq hr) (ve_var 7) (ve_var 1)) (vss_cons (vs_app (vp_var 6) (ve_var 5))
  vss_nil) (vss_cons (vs_app (vp_var 6) (ve_call (k := lv_made_less) G_made_less (hr.mono (by decide)) (takes_of rfl rfl rfl rfl) (va_cons (ve_var 8) (va_cons (ve_ix (ve_var 8) (ve_var 2)) (va_cons (ve_var 5) (va_cons (ve_var 3) va_nil))))))
  vss_nil)))
  vss_nil))))
  (vss_cons (vs_ret (ve_ws (ve_mv 6)))
  vss_nil)))))
theorem b_cleared (kV doc pm : Value) (an : Option Addr) (cdv ct : Value) (us : List Value) (h : us.length = 4) : bindArgs (PySem.W.fnOf "cleared" "cleared" (defArgs s_cleared) (defBody s_cleared) (defScope s_cleared) .none kV doc pm an cdv ct) ⟨us, []⟩ = pure ((["rows", "at", "arc", "prime"] : List Str).zip us) := match us, h with | [_, _, _, _], _ => rfl
theorem spec_cleared : ∀ ds Qv Xv, XR2.sp_cleared ds Qv Xv → ds.length = 4 ∧ w_cleared (startE N_cleared ds) ⟨fun _ => Qv ⟨.none, mA⟩, fun r _ => Qv r, fun ex _ => Xv ex⟩ := by
  rintro ds Qv Xv ⟨rows_, at_, arc_, prime_, rfl, h⟩
  refine ⟨rfl, ?_⟩
  have he : startE N_cleared [(eL (eL eI)) rows_, eI at_, eI arc_, eI prime_] = [some ((eL (eL eI)) rows_, mS), some (eI at_, mA), some (eI arc_, mA), some (eI prime_, mA), none, none, none, none, none, none] := by
    rw [st_cleared]
    try simp only [argS_F, argS_N]
  rw [he]
  have hr : RB (fun _ => True) w_cleared [some ((eL (eL eI)) rows_, mS), some (eI at_, mA), some (eI arc_, mA), some (eI prime_, mA), none, none, none, none, none, none] (XR2.F_cleared rows_ at_ arc_ prime_) (KT (eL (eL eI)) mS) := by
    unfold XR2.F_cleared w_cleared
    exact (rs_set (re_eq (re_call (b := eI) (M := fun (t : Int × Int × Unit) => XR2.F_way_back t.1 t.2.1) (ra_cons (re_2 (opO_out (xo_ixF (a := eI))) (re_2Q (xo_ixN (a := (eL eI))) (re_vS 0 (eL (eL eI)) (rows_)) (re_vF 1 eI (at_))) (re_vF 2 eI (arc_))) (ra_consP (re_vF 3 eI (prime_)) ra_nil)) (fun (t : Int × Int × Unit) Q X h => ⟨t.1, t.2.1, rfl, h⟩))) (fun number_ => [some ((eL (eL eI)) (rows_), mS), some (eI (at_), mA), some (eI (arc_), mA), some (eI (prime_), mA), some (eI (number_), mA), none, none, none, none, none]) (fun number_ => (rs_set (re_eq (re_lc1M none mA (a := eI) (ent := (fun one_ => [some ((eL (eL eI)) (rows_), mS), some (eI (at_), mA), some (eI (arc_), mA), some (eI (prime_), mA), some (eI (number_), mA), none, none, none, none, some (eI (one_), mA)])) (F := (fun one_ : Int => ((lift (mulO number_ one_)).bind fun t1 => (Out.ok (prime_)).bind fun t2 => lift (modO t1 t2)))) (re_eq (re_2Q (xo_ixN (a := (eL eI))) (re_vS 0 (eL (eL eI)) (rows_)) (re_vF 1 eI (at_)))) (fun _ => ⟨_, rfl, rfl⟩) (fun one_ => ⟨_, re_eq (re_2 (opO_out xo_mod) (re_2Q xo_mul (re_vF 4 eI (number_)) (re_vF 9 eI (one_))) (re_vF 3 eI (prime_)))⟩) (kid_F (c := eI)))) (fun lead_ => [some ((eL (eL eI)) (rows_), mS), some (eI (at_), mA), some (eI (arc_), mA), some (eI (prime_), mA), some (eI (number_), mA), some ((eL eI) (lead_), mA), none, none, none, none]) (fun lead_ => (rs_set (re_eq (re_lstP (a := (eL eI)) [] ra_nil)) (fun told_ => [some ((eL (eL eI)) (rows_), mS), some (eI (at_), mA), some (eI (arc_), mA), some (eI (prime_), mA), some (eI (number_), mA), some ((eL eI) (lead_), mA), some ((eL (eL eI)) (told_), mA), none, none, none]) (fun told_ => (rs_seqN (s := (fun (V247 : (List (List Int))) => [some ((eL (eL eI)) (rows_), mS), some (eI (at_), mA), some (eI (arc_), mA), some (eI (prime_), mA), some (eI (number_), mA), some ((eL eI) (lead_), mS), some ((eL (eL eI)) (V247), (.o (some 1))), none, none, none])) (rb_forEP (s := (fun (V247 : (List (List Int))) => [some ((eL (eL eI)) (rows_), mS), some (eI (at_), mA), some (eI (arc_), mA), some (eI (prime_), mA), some (eI (number_), mA), some ((eL eI) (lead_), mS), some ((eL (eL eI)) (V247), (.o (some 1))), none, none, none])) (a := (eL eI)) told_ (re_eq (re_vS 0 (eL (eL eI)) (rows_))) (el_c sl_o (el_c sl_o (el_c sl_o (el_c sl_o (el_c sl_o (el_c sl_o (el_c sl_o (el_c sl_n (el_c sl_n (el_c sl_n el_nil)))))))))) (fun V247 x248 => [some ((eL (eL eI)) (rows_), mS), some (eI (at_), mA), some (eI (arc_), mA), some (eI (prime_), mA), some (eI (number_), mA), some ((eL eI) (lead_), mS), some ((eL (eL eI)) (V247), (.o (some 1))), some (eI (x248.1), mA), some ((eL eI) (x248.2), mS), none]) (fun V247 x248 => (rs_seqN (s := (fun (V251 : (List (List Int))) => [some ((eL (eL eI)) (rows_), mS), some (eI (at_), mA), some (eI (arc_), mA), some (eI (prime_), mA), some (eI (number_), mA), some ((eL eI) (lead_), mS), some ((eL (eL eI)) (V251), (.o (some 1))), some (eI (x248.1), mA), some ((eL eI) (x248.2), mS), none])) (rb_ifP (rt_eq (rt_val (re_2P xo_eqI (re_vF 7 eI (x248.1)) (re_vF 1 eI (at_))))) (rs_app (a := (eL eI)) (xs := V247) (re_eq (re_vS 5 (eL eI) (lead_))) (fun told_ => [some ((eL (eL eI)) (rows_), mS), some (eI (at_), mA), some (eI (arc_), mA), some (eI (prime_), mA), some (eI (number_), mA), some ((eL eI) (lead_), mS), some ((eL (eL eI)) (told_), (.o (some 1))), some (eI (x248.1), mA), some ((eL eI) (x248.2), mS), none]) (fun told_ => (rb_next (V := told_) (el_c sl_o (el_c sl_o (el_c sl_o (el_c sl_o (el_c sl_o (el_c sl_o (el_c sl_o (el_c sl_o (el_c sl_o (el_c sl_n el_nil))))))))))))) (rs_app (a := (eL eI)) (xs := V247) (re_eq (re_call (b := (eL eI)) (M := fun (t : (List Int) × Int × (List Int) × Int × Unit) => XR2.F_made_less t.1 t.2.1 t.2.2.1 t.2.2.2.1) (ra_cons (re_vS 8 (eL eI) (x248.2)) (ra_cons (re_2Q (xo_ixF (a := eI)) (re_vS 8 (eL eI) (x248.2)) (re_vF 2 eI (arc_))) (ra_consP (re_vS 5 (eL eI) (lead_)) (ra_consP (re_vF 3 eI (prime_)) ra_nil)))) (fun (t : (List Int) × Int × (List Int) × Int × Unit) Q X h => ⟨t.1, t.2.1, t.2.2.1, t.2.2.2.1, rfl, h⟩))) (fun told_ => [some ((eL (eL eI)) (rows_), mS), some (eI (at_), mA), some (eI (arc_), mA), some (eI (prime_), mA), some (eI (number_), mA), some ((eL eI) (lead_), mS), some ((eL (eL eI)) (told_), (.o (some 1))), some (eI (x248.1), mA), some ((eL eI) (x248.2), mS), none]) (fun told_ => (rb_next (V := told_) (el_c sl_o (el_c sl_o (el_c sl_o (el_c sl_o (el_c sl_o (el_c sl_o (el_c sl_o (el_c sl_o (el_c sl_o (el_c sl_n el_nil)))))))))))) (hk := kid_le))) (fun V251 => (rb_next (V := V251) (el_c sl_o (el_c sl_o (el_c sl_o (el_c sl_o (el_c sl_o (el_c sl_o (el_c sl_o (el_c sl_n (el_c sl_n (el_c sl_n el_nil))))))))))))))) (fun V247 => (rb_retP' (e := (eL (eL eI))) V247 (re_eq (re_ws (re_mO 6 (eL (eL eI)) (V247)))))))))))))
  exact of_KT hr h
abbrev s_reduced : Stmt := topS 21
abbrev N_reduced : List Str := ["rows", "count", "prime", "tied", "arc", "at"]
abbrev lv_reduced : Nat := 3
theorem sc_reduced : FnScope N_reduced ["rows", "count", "prime"] (defScope s_reduced) := ⟨rfl, rfl, rfl, by decide +kernel, rfl, by decide +kernel, by decide +kernel⟩
def w_reduced : WS := (wSeq (wSet 3 (wCB wLst wNil))
  (wSeq (wCut (wForR 1 4 (wCons (wVar 1) wNil)
  (wSeq (wSet 5 (wCall XR2.sp_first_row (wCons (wVar 0) (wCons (wCB wLen (wCons (wVar 3) wNil)) (wCons (wVar 4) wNil)))))
  (wSeq (wCut (wIf (wTest (wBin woNotN (wVar 5) (wC .none))) (wSeq (wSet 0 (wWk 0 (wBin woAdd (wWk 0 (wBin woAdd (wWk 0 (wBin woAdd (wWk 0 (wSl (wVar 0) wNoP (wPt (wCB wLen (wCons (wVar 3) wNil))))) (wCB wLst (wCons (wBin wIx (wVar 0) (wVar 5)) wNil)))) (wWk 0 (wSl (wVar 0) (wPt (wCB wLen (wCons (wVar 3) wNil))) (wPt (wVar 5)))))) (wWk 0 (wSl (wVar 0) (wPt (wBin woAdd (wVar 5) (wC (.int 1)))) wNoP)))))
  (wSeq (wPre (wSet 0 (wCall XR2.sp_cleared (wCons (wVar 0) (wCons (wCB wLen (wCons (wVar 3) wNil)) (wCons (wVar 4) (wCons (wVar 2) wNil)))))))
  (wSeq (wApp (wPVar 3) (wMv 4))
  wNext))) wNext))
  wNext))))
  (wSeq (wRet (wCB wTup (wCons (wMv 0) (wCons (wMv 3) wNil))))
  wNext)))
theorem st_reduced (x0 x1 x2 : D) : startE N_reduced [x0, x1, x2] = [argS x0, argS x1, argS x2, none, none, none] := rfl
theorem d_reduced (E : Ev K mg cl) (G_first_row : Def P w K mg base cl "first_row" 3 XR2.sp_first_row lv_first_row) (G_cleared : Def P w K mg base cl "cleared" 4 XR2.sp_cleared lv_cleared) (f : Addr) (cdv : Value) (A : Around) (outer : List Env) (s : Shared) (H : Hp) (E0 : XK) (P0 : Addr → Prop) (hr : Room 2 (cxV P w K mg base N_reduced "reduced" s_reduced f cdv A outer s H E0).A) :
    PSs (cxV P w K mg base N_reduced "reduced" s_reduced f cdv A outer s H E0) (defBody s_reduced) (rdS (cnOf K cl P0 H) (WXE E0) w_reduced) := by
  have nd := sc_reduced.nd
  exact (vss_cons (vs_set (i := 3) (ve_lst va_nil) nd)
  (vss_cons (vs_cut (vs_forR1 (i := 4) (passes_of rfl) rfl E.m_range (va_cons (ve_var 1) va_nil)
  (vss_cons (vs_set (i := 5) (ve_call (k := lv_first_row) G_first_row (hr.mono (by decide)) (takes_of rfl rfl rfl rfl) (va_cons (ve_var 0) (va_cons (ve_len1 E.m_len (va_cons (ve_var 3) va_nil)) (va_cons (ve_var 4) va_nil)))) nd)
  (vss_cons (vs_cut (vs_if (vt_c c_notN (ve_var 5) ve_non) (vss_cons (vs_set (i := 0) (ve_wk 0 (ve_add (ve_wk 0 (ve_add (ve_wk 0 (ve_add (ve_wk 0 (ve_slice (ve_var 0) vo_none (vo_some (ve_len1 E.m_len (va_cons (ve_var 3) va_nil))))) (ve_lst (va_cons (ve_ix (ve_var 0) (ve_var 5)) va_nil)))) (ve_wk 0 (ve_slice (ve_var 0) (vo_some (ve_len1 E.m_len (va_cons (ve_var 3) va_nil))) (vo_some (ve_var 5)))))) (ve_wk 0 (ve_slice (ve_var 0) (vo_some (ve_add (ve_var 5) ve_int)) vo_none)))) nd)
  (vss_cons (vs_pre (vs_set (i := 0) (ve_call (k := lv_cleared) G_cleared (hr.mono (by decide)) (takes_of rfl rfl rfl rfl) (va_cons (ve_var 0) (va_cons (ve_len1 E.m_len (va_cons (ve_var 3) va_nil)) (va_cons (ve_var 4) (va_cons (ve_var 2) va_nil))))) nd))
  (vss_cons (vs_app (vp_var 3) (ve_mv 4))
  vss_nil))) vss_nil))
  vss_nil)) nd))
  (vss_cons (vs_ret (ve_tup (va_cons (ve_mv 0) (va_cons (ve_mv 3) va_nil))))
  vss_nil)))
theorem b_reduced (kV doc pm : Value) (an : Option Addr) (cdv ct : Value) (us : List Value) (h : us.length = 3) : bindArgs (PySem.W.fnOf "reduced" "reduced" (defArgs s_reduced) (defBody s_reduced) (defScope s_reduced) .none kV doc pm an cdv ct) ⟨us, []⟩ = pure ((["rows", "count", "prime"] : List Str).zip us) := match us, h with | [_, _, _], _ => rfl
theorem spec_reduced : ∀ ds Qv Xv, XR2.sp_reduced ds Qv Xv → ds.length = 3 ∧ w_reduced (startE N_reduced ds) ⟨fun _ => Qv ⟨.none, mA⟩, fun r _ => Qv r, fun ex _ => Xv ex⟩ := by
  rintro ds Qv Xv ⟨rows_, count_, prime_, rfl, h⟩
  refine ⟨rfl, ?_⟩
  have he : startE N_reduced [(eL (eL eI)) rows_, eI count_, eI prime_] = [some ((eL (eL eI)) rows_, mS), some (eI count_, mA), some (eI prime_, mA), none, none, none] := by
    rw [st_reduced]
    try simp only [argS_F, argS_N]
  rw [he]
  have hr : RB (fun _ => True) w_reduced [some ((eL (eL eI)) rows_, mS), some (eI count_, mA), some (eI prime_, mA), none, none, none] (XR2.F_reduced rows_ count_ prime_) (KT (e2 (eL (eL eI)) (eL eI)) mS) := by
    unfold XR2.F_reduced w_reduced
    exact (rs_set (re_eq (re_lstP (a := eI) [] ra_nil)) (fun tied_ => [some ((eL (eL eI)) (rows_), mS), some (eI (count_), mA), some (eI (prime_), mA), some ((eL eI) (tied_), mA), none, none]) (fun tied_ => (rs_seqN (s := (fun (V260 : (List (List Int)) × (List Int)) => [some ((eL (eL eI)) (V260.1), mS), some (eI (count_), mA), some (eI (prime_), mA), some ((eL eI) (V260.2), mA), none, none])) (rb_forRP (s := (fun (V260 : (List (List Int)) × (List Int)) => [some ((eL (eL eI)) (V260.1), mS), some (eI (count_), mA), some (eI (prime_), mA), some ((eL eI) (V260.2), mA), none, none])) 0 count_ (rows_, tied_) (ra_consP (re_vF 1 eI (count_)) ra_nil) ⟨rfl, rfl⟩ (el_c sl_o (el_c sl_o (el_c sl_o (el_c sl_o (el_c sl_n (el_c sl_n el_nil)))))) (fun V260 arc_ => [some ((eL (eL eI)) (V260.1), mS), some (eI (count_), mA), some (eI (prime_), mA), some ((eL eI) (V260.2), mA), some (eI (arc_), mA), none]) (fun V260 arc_ => (rs_set (re_eq (re_callP (b := (eO eI)) (M := (XR2.F_first_row V260.1 (V260.2.length : Int) arc_)) (ra_consP (re_vS 0 (eL (eL eI)) (V260.1)) (ra_consP (re_cbP ((V260.2.length : Int)) (ra_consP (re_vA 3 (eL eI) (V260.2)) ra_nil) (len_L (a := eI) (V260.2))) (ra_consP (re_vF 4 eI (arc_)) ra_nil))) (fun Q X h => ⟨V260.1, (V260.2.length : Int), arc_, rfl, h⟩))) (fun at_ => [some ((eL (eL eI)) (V260.1), mS), some (eI (count_), mA), some (eI (prime_), mA), some ((eL eI) (V260.2), mA), some (eI (arc_), mA), some ((eO eI) (at_), mA)]) (fun at_ => (rs_seqN (s := (fun (V262 : (List (List Int)) × (List Int)) => [some ((eL (eL eI)) (V262.1), mS), some (eI (count_), mA), some (eI (prime_), mA), some ((eL eI) (V262.2), mA), some (eI (arc_), mA), some ((eO eI) (at_), mA)])) (rb_ifP (rt_eq (rt_val (re_2P (xo_notNO (a := eI) (fun _ => rfl)) (re_vF 5 (eO eI) (at_)) (re_c .none eN (()))))) (rs_set (re_eq (re_catN (re_catN (re_catN (re_slN (a := (eL eI)) (re_vS 0 (eL (eL eI)) (V260.1)) ro_no (ro_ptP (re_cbP ((V260.2.length : Int)) (ra_consP (re_vA 3 (eL eI) (V260.2)) ra_nil) (len_L (a := eI) (V260.2))))) (re_lst (a := (eL eI)) (fun (t : (List Int) × Unit) => [t.1]) (ra_cons (re_2 (opO_out (xo_ixN (a := (eL eI)))) (re_vS 0 (eL (eL eI)) (V260.1)) (re_someP (a := eI) (re_vF 5 (eO eI) (at_)))) ra_nil))) (re_slNM (a := (eL eI)) (re_vS 0 (eL (eL eI)) (V260.1)) (ro_ptP (re_cbP ((V260.2.length : Int)) (ra_consP (re_vA 3 (eL eI) (V260.2)) ra_nil) (len_L (a := eI) (V260.2)))) (ro_pt (re_someP (a := eI) (re_vF 5 (eO eI) (at_)))))) (re_slNM (a := (eL eI)) (re_vS 0 (eL (eL eI)) (V260.1)) (ro_pt (re_2 (opP_out xo_add) (re_someP (a := eI) (re_vF 5 (eO eI) (at_))) (re_c (.int 1) eI (1)))) ro_no))) (fun rows_ => [some ((eL (eL eI)) (rows_), (.o (some 1))), some (eI (count_), mA), some (eI (prime_), mA), some ((eL eI) (V260.2), mA), some (eI (arc_), mA), some ((eO eI) (at_), mA)]) (fun rows_ => (rs_pre [some ((eL (eL eI)) (rows_), mS), some (eI (count_), mA), some (eI (prime_), mA), some ((eL eI) (V260.2), mA), some (eI (arc_), mA), some ((eO eI) (at_), mA)] (el_c sl_o (el_c sl_o (el_c sl_o (el_c sl_o (el_c sl_o (el_c sl_o el_nil)))))) (rs_set (re_eq (re_callPS (b := (eL (eL eI))) (M := (XR2.F_cleared rows_ (V260.2.length : Int) arc_ prime_)) (ra_consP (re_vS 0 (eL (eL eI)) (rows_)) (ra_consP (re_cbP ((V260.2.length : Int)) (ra_consP (re_vA 3 (eL eI) (V260.2)) ra_nil) (len_L (a := eI) (V260.2))) (ra_consP (re_vF 4 eI (arc_)) (ra_consP (re_vF 2 eI (prime_)) ra_nil)))) (fun Q X h => ⟨rows_, (V260.2.length : Int), arc_, prime_, rfl, h⟩))) (fun rows_ => [some ((eL (eL eI)) (rows_), mS), some (eI (count_), mA), some (eI (prime_), mA), some ((eL eI) (V260.2), mA), some (eI (arc_), mA), some ((eO eI) (at_), mA)]) (fun rows_ => (rs_app (a := eI) (xs := V260.2) (re_eq (re_mF 4 eI (arc_))) (fun tied_ => [some ((eL (eL eI)) (rows_), mS), some (eI (count_), mA), some (eI (prime_), mA), some ((eL eI) (tied_), mA), some (eI (arc_), mA), some ((eO eI) (at_), mA)]) (fun tied_ => (rb_next (V := (rows_, tied_)) (el_c sl_o (el_c sl_o (el_c sl_o (el_c sl_o (el_c sl_o (el_c sl_o el_nil)))))))))))))) (rb_next (V := (V260.1, V260.2)) (el_c sl_o (el_c sl_o (el_c sl_o (el_c sl_o (el_c sl_o (el_c sl_o el_nil)))))))) (fun V262 => (rb_next (V := (V262.1, V262.2)) (el_c sl_o (el_c sl_o (el_c sl_o (el_c sl_o (el_c sl_n (el_c sl_n el_nil))))))))))))) (fun V260 => (rb_retP' (e := (e2 (eL (eL eI)) (eL eI))) (V260.1, V260.2) (re_eq (re_tupP (a := (e2 (eL (eL eI)) (eL eI))) (V260.1, V260.2) (ra_consP (re_mO 0 (eL (eL eI)) (V260.1)) (ra_consP (re_mO 3 (eL eI) (V260.2)) ra_nil)))))))))
  exact of_KT hr h
abbrev s_solved : Stmt := topS 22
abbrev N_solved : List Str := ["drawing", "prime", "factor", "count", "rows", "many", "at", "tied", "frees", "basis", "free", "colours", "row", "arc", "ties", "place"]
abbrev lv_solved : Nat := 5
theorem sc_solved : FnScope N_solved ["drawing", "prime", "factor"] (defScope s_solved) := ⟨rfl, rfl, rfl, by decide +kernel, rfl, by decide +kernel, by decide +kernel⟩
def w_solved : WS := (wSeq (wSet 3 (wCall XC.sp_arc_count (wCons (wVar 0) wNil)))
  (wSeq (wSet 4 (wCall XR.sp_equations (wCons (wMv 0) (wCons (wVar 1) (wCons (wMv 2) wNil)))))
  (wSeq (wSet 5 (wCB wLen (wCons (wVar 4) wNil)))
  (wSeq (wCut (wForR 1 6 (wCons (wVar 5) wNil)
  (wSeq (wPut (wPVar 4) (wVar 6) (wBin woAdd (wBin wIx (wVar 4) (wVar 6)) (wLcR 1 [15] 15 (wCons (wVar 5) wNil) wYes (wCB wInt (wCons (wBin woEq (wVar 15) (wVar 6)) wNil)))))
  wNext)))
  (wSeq (wPre (wAsg (tgT [4, 7]) (wCall XR2.sp_reduced (wCons (wVar 4) (wCons (wVar 3) (wCons (wVar 1) wNil))))))
  (wSeq (wSet 8 (wLcR 1 [13] 13 (wCons (wVar 3) wNil) (wTest (wBin woNotIn (wVar 13) (wVar 7))) (wVar 13)))
  (wSeq (wSet 9 (wCB wLst wNil))
  (wSeq (wCut (wForV (tgN 10) 8
  (wSeq (wSet 11 (wBin woMul (wCB wLst (wCons (wC (.int 0)) wNil)) (wVar 3)))
  (wSeq (wPut (wPVar 11) (wVar 10) (wC (.int 1)))
  (wSeq (wCut (wFor_zip (tgT [12, 13]) (wCons (wVar 4) (wCons (wVar 7) wNil))
  (wSeq (wPut (wPVar 11) (wVar 13) (wBin woMod (wNeg (wBin wIx (wVar 12) (wVar 10))) (wVar 1)))
  wNext)))
  (wSeq (wApp (wPVar 9) (wMv 11))
  wNext))))))
  (wSeq (wSet 14 (wLcZ [12, 13] (tgT [12, 13]) (wCons (wVar 4) (wCons (wVar 7) wNil)) wYes (wCB wTup (wCons (wVar 13) (wCons (wSl (wVar 12) (wPt (wVar 3)) wNoP) wNil)))))
  (wSeq (wRet (wCB wTup (wCons (wMv 8) (wCons (wMv 9) (wCons (wMv 14) wNil)))))
  wNext))))))))))
theorem st_solved (x0 x1 x2 : D) : startE N_solved [x0, x1, x2] = [argS x0, argS x1, argS x2, none, none, none, none, none, none, none, none, none, none, none, none, none] := rfl
theorem d_solved (E : Ev K mg cl) (G_arc_count : Def P w K mg base cl "arc_count" 1 XC.sp_arc_count lv_arc_count) (G_equations : Def P w K mg base cl "equations" 3 XR.sp_equations lv_equations) (G_reduced : Def P w K mg base cl "reduced" 3 XR2.sp_reduced lv_reduced) (f : Addr) (cdv : Value) (A : Around) (outer : List Env) (s : Shared) (H : Hp) (E0 : XK) (P0 : Addr → Prop) (hr : Room 4 (cxV P w K mg base N_solved "solved" s_solved f cdv A outer s H E0).A) :
    PSs (cxV P w K mg base N_solved "solved" s_solved f cdv A outer s H E0) (defBody s_solved) (rdS (cnOf K cl P0 H) (WXE E0) w_solved) := by
  have nd := sc_solved.nd
  exact (vss_cons (vs_set (i := 3) (ve_call (k := lv_arc_count) G_arc_count (hr.mono (by decide)) (takes_of rfl rfl rfl rfl) (va_cons (ve_var 0) va_nil)) nd)
  (vss_cons (vs_set (i := 4) (ve_call (k := lv_equations) G_equations (hr.mono (by decide)) (takes_of rfl rfl rfl rfl) (va_cons (ve_mv 0) (va_cons (ve_var 1) (va_cons (ve_mv 2) va_nil)))) nd)
  (vss_cons (vs_set (i := 5) (ve_len1 E.m_len (va_cons (ve_var 4) va_nil)) nd)
  (vss_cons (vs_cut (vs_forR1 (i := 6) (passes_of rfl) rfl E.m_range (va_cons (ve_var 5) va_nil)
  (vss_cons (vs_put (vp_var 4) (ve_var 6) (ve_add (ve_ix (ve_var 4) (ve_var 6)) (ve_lcR1 rfl nd [("place", 15)] E.m_range (va_cons (ve_var 5) va_nil) (fun _ _ _ _ _ => pg_name nd rfl (by first | exact .inl rfl | exact .inr rfl)) (fun _ _ _ _ _ => vts_nil) (fun _ _ _ _ _ => (ve_int1 E.m_int (va_cons (ve_c (c_eq hr) (ve_var 15) (ve_var 6)) va_nil))))))
  vss_nil) nd))
  (vss_cons (vs_pre (vs_asg (ve_call (k := lv_reduced) G_reduced (hr.mono (by decide)) (takes_of rfl rfl rfl rfl) (va_cons (ve_var 4) (va_cons (ve_var 3) (va_cons (ve_var 1) va_nil)))) (tg_tup rfl (na_cons (na_cons na_nil nd) nd))))
  (vss_cons (vs_setLcR1 (n := 8) rfl nd [("arc", 13)] E.m_range (va_cons (ve_var 3) va_nil) (fun _ _ _ _ _ => pg_name nd rfl (by first | exact .inl rfl | exact .inr rfl)) (fun _ _ _ _ _ => vts_one (vt_c (c_notIn hr) (ve_var 13) (ve_var 7))) (fun _ _ _ _ _ => (ve_var 13)))
  (vss_cons (vs_set (i := 9) (ve_lst va_nil) nd)
  (vss_cons (vs_cut (vs_forV 8 (passes_of rfl) rfl (tg_name nd)
  (fun _ => (vss_cons (vs_set (i := 11) (ve_mul (ve_lst (va_cons ve_int va_nil)) (ve_var 3)) nd)
  (vss_cons (vs_put (vp_var 11) (ve_var 10) ve_int)
  (vss_cons (vs_cut (vs_for_zip (passes_of rfl) rfl E.m_zip (va_cons (ve_var 4) (va_cons (ve_var 7) va_nil)) (tg_tup rfl (na_cons (na_cons na_nil nd) nd))
  (fun _ => (vss_cons (vs_put (vp_var 11) (ve_var 13) (ve_mod (ve_neg (ve_ix (ve_var 12) (ve_var 10))) (ve_var 1)))
  vss_nil))))
  (vss_cons (vs_app (vp_var 9) (ve_mv 11))
  vss_nil)))))))
  (vss_cons (vs_setLcZ (n := 14) (is := [12, 13]) rfl nd [("row", 12), ("arc", 13)] E.m_zip (va_cons (ve_var 4) (va_cons (ve_var 7) va_nil)) (fun _ _ _ _ _ => pg_tup rfl (pgs_cons (pg_name nd rfl (by first | exact .inl rfl | exact .inr rfl)) (pgs_cons (pg_name nd rfl (by first | exact .inl rfl | exact .inr rfl)) pgs_nil))) (fun _ _ _ _ _ => vts_nil) (fun _ _ _ _ _ => (ve_tup (va_cons (ve_var 13) (va_cons (ve_slice (ve_var 12) (vo_some (ve_var 3)) vo_none) va_nil)))))
  (vss_cons (vs_ret (ve_tup (va_cons (ve_mv 8) (va_cons (ve_mv 9) (va_cons (ve_mv 14) va_nil)))))
  vss_nil))))))))))
theorem b_solved (kV doc pm : Value) (an : Option Addr) (cdv ct : Value) (us : List Value) (h : us.length = 3) : bindArgs (PySem.W.fnOf "solved" "solved" (defArgs s_solved) (defBody s_solved) (defScope s_solved) .none kV doc pm an cdv ct) ⟨us, []⟩ = pure ((["drawing", "prime", "factor"] : List Str).zip us) := match us, h with | [_, _, _], _ => rfl
theorem spec_solved : ∀ ds Qv Xv, XR3.sp_solved ds Qv Xv → ds.length = 3 ∧ w_solved (startE N_solved ds) ⟨fun _ => Qv ⟨.none, mA⟩, fun r _ => Qv r, fun ex _ => Xv ex⟩ := by
  rintro ds Qv Xv ⟨drawing_, prime_, factor_, rfl, h⟩
  refine ⟨rfl, ?_⟩
  have he : startE N_solved [(e2 (eL (eL eI)) (eL (e2 eI eI))) drawing_, eI prime_, eI factor_] = [some ((e2 (eL (eL eI)) (eL (e2 eI eI))) drawing_, mS), some (eI prime_, mA), some (eI factor_, mA), none, none, none, none, none, none, none, none, none, none, none, none, none] := by
    rw [st_solved]
    try simp only [argS_F, argS_N]
  rw [he]
  have hr : RB (fun _ => True) w_solved [some ((e2 (eL (eL eI)) (eL (e2 eI eI))) drawing_, mS), some (eI prime_, mA), some (eI factor_, mA), none, none, none, none, none, none, none, none, none, none, none, none, none] (XR3.F_solved drawing_ prime_ factor_) (KT (e3 (eL eI) (eL (eL eI)) (eL (e2 eI (eL eI)))) mA) := by
    unfold XR3.F_solved w_solved
    exact (rs_set (re_eq (re_callP (b := eI) (M := (XC.F_arc_count drawing_)) (ra_consP (re_vS 0 (e2 (eL (eL eI)) (eL (e2 eI eI))) (drawing_)) ra_nil) (fun Q X h => ⟨drawing_, rfl, h⟩))) (fun count_ => [some ((e2 (eL (eL eI)) (eL (e2 eI eI))) (drawing_), mS), some (eI (prime_), mA), some (eI (factor_), mA), some (eI (count_), mA), none, none, none, none, none, none, none, none, none, none, none, none]) (fun count_ => (rs_set (re_eq (re_callP (b := (eL (eL eI))) (M := (XR.F_equations drawing_ prime_ factor_)) (ra_consP (re_mO 0 (e2 (eL (eL eI)) (eL (e2 eI eI))) (drawing_)) (ra_consP (re_vF 1 eI (prime_)) (ra_consP (re_mF 2 eI (factor_)) ra_nil))) (fun Q X h => ⟨drawing_, prime_, factor_, rfl, h⟩))) (fun rows_ => [none, some (eI (prime_), mA), some (eI (factor_), mA), some (eI (count_), mA), some ((eL (eL eI)) (rows_), mA), none, none, none, none, none, none, none, none, none, none, none]) (fun rows_ => (rs_set (re_eq (re_cbP ((rows_.length : Int)) (ra_consP (re_vA 4 (eL (eL eI)) (rows_)) ra_nil) (len_L (a := (eL eI)) (rows_)))) (fun many_ => [none, some (eI (prime_), mA), some (eI (factor_), mA), some (eI (count_), mA), some ((eL (eL eI)) (rows_), mA), some (eI (many_), mA), none, none, none, none, none, none, none, none, none, none]) (fun many_ => (rs_seqN (s := (fun (V280 : (List (List Int))) => [none, some (eI (prime_), mA), some (eI (factor_), mA), some (eI (count_), mA), some ((eL (eL eI)) (V280), mA), some (eI (many_), mA), none, none, none, none, none, none, none, none, none, none])) (rb_forRP (s := (fun (V280 : (List (List Int))) => [none, some (eI (prime_), mA), some (eI (factor_), mA), some (eI (count_), mA), some ((eL (eL eI)) (V280), mA), some (eI (many_), mA), none, none, none, none, none, none, none, none, none, none])) 0 many_ rows_ (ra_consP (re_vF 5 eI (many_)) ra_nil) ⟨rfl, rfl⟩ (el_c sl_n (el_c sl_o (el_c sl_o (el_c sl_o (el_c sl_o (el_c sl_o (el_c sl_n (el_c sl_n (el_c sl_n (el_c sl_n (el_c sl_n (el_c sl_n (el_c sl_n (el_c sl_n (el_c sl_n (el_c sl_n el_nil)))))))))))))))) (fun V280 at_ => [none, some (eI (prime_), mA), some (eI (factor_), mA), some (eI (count_), mA), some ((eL (eL eI)) (V280), mA), some (eI (many_), mA), some (eI (at_), mA), none, none, none, none, none, none, none, none, none]) (fun V280 at_ => (rs_put (a := (eL eI)) (xs := V280) (re_eq (re_2 (opO_out (xo_catF (a := eI))) (re_2Q (xo_ixN (a := (eL eI))) (re_vA 4 (eL (eL eI)) (V280)) (re_vF 6 eI (at_))) (re_lcR1P none mA 0 many_ (ent := (fun place_ => [none, some (eI (prime_), mA), some (eI (factor_), mA), some (eI (count_), mA), some ((eL (eL eI)) (V280), .b), some (eI (many_), mA), some (eI (at_), mA), none, none, none, none, none, none, none, none, some (eI (place_), mA)])) (F := (fun place_ : Int => (Out.ok ((if (decide (place_ = at_)) = true then 1 else 0))))) (ra_consP (re_vF 5 eI (many_)) ra_nil) ⟨rfl, rfl⟩ (fun _ => rfl) (fun place_ => ⟨_, re_eq (re_cbP ((if (decide (place_ = at_)) = true then 1 else 0)) (ra_consP (re_2P xo_eqI (re_vF 15 eI (place_)) (re_vF 6 eI (at_))) ra_nil) (bi_intB (decide (place_ = at_))))⟩) (kid_F (c := eI))))) (re_eq (re_vF 6 eI (at_))) (fun rows_ => [none, some (eI (prime_), mA), some (eI (factor_), mA), some (eI (count_), mA), some ((eL (eL eI)) (rows_), mA), some (eI (many_), mA), some (eI (at_), mA), none, none, none, none, none, none, none, none, none]) (fun rows_ => (rb_next (V := rows_) (el_c sl_n (el_c sl_o (el_c sl_o (el_c sl_o (el_c sl_o (el_c sl_o (el_c sl_n (el_c sl_n (el_c sl_n (el_c sl_n (el_c sl_n (el_c sl_n (el_c sl_n (el_c sl_n (el_c sl_n (el_c sl_n el_nil))))))))))))))))))))) (fun V280 => (rs_pre [none, some (eI (prime_), mA), some (eI (factor_), mA), some (eI (count_), mA), some ((eL (eL eI)) (V280), mS), some (eI (many_), mA), none, none, none, none, none, none, none, none, none, none] (el_c sl_n (el_c sl_o (el_c sl_o (el_c sl_o (el_c sl_o (el_c sl_o (el_c sl_n (el_c sl_n (el_c sl_n (el_c sl_n (el_c sl_n (el_c sl_n (el_c sl_n (el_c sl_n (el_c sl_n (el_c sl_n el_nil)))))))))))))))) (rs_asg (a := (e2 (eL (eL eI)) (eL eI))) (re_eq (re_callPS (b := (e2 (eL (eL eI)) (eL eI))) (M := (XR2.F_reduced V280 count_ prime_)) (ra_consP (re_vS 4 (eL (eL eI)) (V280)) (ra_consP (re_vF 3 eI (count_)) (ra_consP (re_vF 1 eI (prime_)) ra_nil))) (fun Q X h => ⟨V280, count_, prime_, rfl, h⟩))) (fun p282 => [none, some (eI (prime_), mA), some (eI (factor_), mA), some (eI (count_), mA), some ((eL (eL eI)) (p282.1), mS), some (eI (many_), mA), none, some ((eL eI) (p282.2), mS), none, none, none, none, none, none, none, none]) (fun p282 => (rs_set (re_eq (re_lcRP none mA 0 count_ (ent := (fun arc_ => [none, some (eI (prime_), mA), some (eI (factor_), mA), some (eI (count_), mA), some ((eL (eL eI)) (p282.1), mS), some (eI (many_), mA), none, some ((eL eI) (p282.2), mS), none, none, none, none, none, some (eI (arc_), mA), none, none])) (P := (fun arc_ : Int => (Out.ok (!decide (arc_ ∈ p282.2))))) (F := (fun arc_ : Int => (Out.ok (arc_)))) (ra_consP (re_vF 3 eI (count_)) ra_nil) ⟨rfl, rfl⟩ (fun _ => rfl) (fun arc_ => rt_eq (rt_val (re_2P (xo_notIn (a := eI)) (re_vF 13 eI (arc_)) (re_vS 7 (eL eI) (p282.2))))) (fun arc_ => ⟨_, re_eq (re_vF 13 eI (arc_))⟩) (kid_F (c := eI)))) (fun frees_ => [none, some (eI (prime_), mA), some (eI (factor_), mA), some (eI (count_), mA), some ((eL (eL eI)) (p282.1), mS), some (eI (many_), mA), none, some ((eL eI) (p282.2), mS), some ((eL eI) (frees_), mA), none, none, none, none, none, none, none]) (fun frees_ => (rs_set (re_eq (re_lstP (a := (eL eI)) [] ra_nil)) (fun basis_ => [none, some (eI (prime_), mA), some (eI (factor_), mA), some (eI (count_), mA), some ((eL (eL eI)) (p282.1), mS), some (eI (many_), mA), none, some ((eL eI) (p282.2), mS), some ((eL eI) (frees_), mA), some ((eL (eL eI)) (basis_), mA), none, none, none, none, none, none]) (fun basis_ => (rs_seqN (s := (fun (V283 : (List (List Int))) => [none, some (eI (prime_), mA), some (eI (factor_), mA), some (eI (count_), mA), some ((eL (eL eI)) (p282.1), mS), some (eI (many_), mA), none, some ((eL eI) (p282.2), mS), some ((eL eI) (frees_), mA), some ((eL (eL eI)) (V283), mA), none, none, none, none, none, none])) (rb_forVN (s := (fun (V283 : (List (List Int))) => [none, some (eI (prime_), mA), some (eI (factor_), mA), some (eI (count_), mA), some ((eL (eL eI)) (p282.1), mS), some (eI (many_), mA), none, some ((eL eI) (p282.2), mS), some ((eL eI) (frees_), mA), some ((eL (eL eI)) (V283), mA), none, none, none, none, none, none])) (a := eI) 8 basis_ (el_c sl_n (el_c sl_o (el_c sl_o (el_c sl_o (el_c sl_o (el_c sl_o (el_c sl_n (el_c sl_o (el_c sl_o (el_c sl_o (el_c sl_n (el_c sl_n (el_c sl_n (el_c sl_n (el_c sl_n (el_c sl_n el_nil)))))))))))))))) (fun V283 free_ => [none, some (eI (prime_), mA), some (eI (factor_), mA), some (eI (count_), mA), some ((eL (eL eI)) (p282.1), mS), some (eI (many_), mA), none, some ((eL eI) (p282.2), mS), some ((eL eI) (frees_), mA), some ((eL (eL eI)) (V283), mA), some (eI (free_), mA), none, none, none, none, none]) (fun V283 free_ => (rs_set (re_eq (re_2Q (xo_rep (a := eI)) (re_lstFP (a := eI) [0] (ra_consP (re_c (.int 0) eI (0)) ra_nil)) (re_vF 3 eI (count_)))) (fun colours_ => [none, some (eI (prime_), mA), some (eI (factor_), mA), some (eI (count_), mA), some ((eL (eL eI)) (p282.1), mS), some (eI (many_), mA), none, some ((eL eI) (p282.2), mS), some ((eL eI) (frees_), mA), some ((eL (eL eI)) (V283), mA), some (eI (free_), mA), some ((eL eI) (colours_), mA), none, none, none, none]) (fun colours_ => (rs_put (a := eI) (xs := colours_) (re_eq (re_c (.int 1) eI (1))) (re_eq (re_vF 10 eI (free_))) (fun colours_ => [none, some (eI (prime_), mA), some (eI (factor_), mA), some (eI (count_), mA), some ((eL (eL eI)) (p282.1), mS), some (eI (many_), mA), none, some ((eL eI) (p282.2), mS), some ((eL eI) (frees_), mA), some ((eL (eL eI)) (V283), mA), some (eI (free_), mA), some ((eL eI) (colours_), mA), none, none, none, none]) (fun colours_ => (rs_seqN (s := (fun (V286 : (List Int)) => [none, some (eI (prime_), mA), some (eI (factor_), mA), some (eI (count_), mA), some ((eL (eL eI)) (p282.1), mS), some (eI (many_), mA), none, some ((eL eI) (p282.2), mS), some ((eL eI) (frees_), mA), some ((eL (eL eI)) (V283), mA), some (eI (free_), mA), some ((eL eI) (V286), mA), none, none, none, none])) (rb_forZP (s := (fun (V286 : (List Int)) => [none, some (eI (prime_), mA), some (eI (factor_), mA), some (eI (count_), mA), some ((eL (eL eI)) (p282.1), mS), some (eI (many_), mA), none, some ((eL eI) (p282.2), mS), some ((eL eI) (frees_), mA), some ((eL (eL eI)) (V283), mA), some (eI (free_), mA), some ((eL eI) (V286), mA), none, none, none, none])) (a := (eL eI)) (b := eI) colours_ (re_eq (re_vS 4 (eL (eL eI)) (p282.1))) (re_eq (re_vS 7 (eL eI) (p282.2))) (el_c sl_n (el_c sl_o (el_c sl_o (el_c sl_o (el_c sl_o (el_c sl_o (el_c sl_n (el_c sl_o (el_c sl_o (el_c sl_o (el_c sl_o (el_c sl_o (el_c sl_n (el_c sl_n (el_c sl_n (el_c sl_n el_nil)))))))))))))))) (fun V286 x287 => [none, some (eI (prime_), mA), some (eI (factor_), mA), some (eI (count_), mA), some ((eL (eL eI)) (p282.1), mS), some (eI (many_), mA), none, some ((eL eI) (p282.2), mS), some ((eL eI) (frees_), mA), some ((eL (eL eI)) (V283), mA), some (eI (free_), mA), some ((eL eI) (V286), mA), some ((eL eI) (x287.1), mS), some (eI (x287.2), mA), none, none]) (fun V286 x287 => (rs_put (a := eI) (xs := V286) (re_eq (re_2 (opO_out xo_mod) (re_negO (re_2Q (xo_ixF (a := eI)) (re_vS 12 (eL eI) (x287.1)) (re_vF 10 eI (free_)))) (re_vF 1 eI (prime_)))) (re_eq (re_vF 13 eI (x287.2))) (fun colours_ => [none, some (eI (prime_), mA), some (eI (factor_), mA), some (eI (count_), mA), some ((eL (eL eI)) (p282.1), mS), some (eI (many_), mA), none, some ((eL eI) (p282.2), mS), some ((eL eI) (frees_), mA), some ((eL (eL eI)) (V283), mA), some (eI (free_), mA), some ((eL eI) (colours_), mA), some ((eL eI) (x287.1), mS), some (eI (x287.2), mA), none, none]) (fun colours_ => (rb_next (V := colours_) (el_c sl_n (el_c sl_o (el_c sl_o (el_c sl_o (el_c sl_o (el_c sl_o (el_c sl_n (el_c sl_o (el_c sl_o (el_c sl_o (el_c sl_o (el_c sl_o (el_c sl_n (el_c sl_n (el_c sl_n (el_c sl_n el_nil))))))))))))))))))))) (fun V286 => (rs_app (a := (eL eI)) (xs := V283) (re_eq (re_mO 11 (eL eI) (V286))) (fun basis_ => [none, some (eI (prime_), mA), some (eI (factor_), mA), some (eI (count_), mA), some ((eL (eL eI)) (p282.1), mS), some (eI (many_), mA), none, some ((eL eI) (p282.2), mS), some ((eL eI) (frees_), mA), some ((eL (eL eI)) (basis_), mA), some (eI (free_), mA), none, none, none, none, none]) (fun basis_ => (rb_next (V := basis_) (el_c sl_n (el_c sl_o (el_c sl_o (el_c sl_o (el_c sl_o (el_c sl_o (el_c sl_n (el_c sl_o (el_c sl_o (el_c sl_o (el_c sl_n (el_c sl_n (el_c sl_n (el_c sl_n (el_c sl_n (el_c sl_n el_nil))))))))))))))))))))))))))) (fun V283 => (rs_set (re_eq (re_lcZ1P none mA (a := (eL eI)) (b := eI) (ent := (fun p288 => [none, some (eI (prime_), mA), some (eI (factor_), mA), some (eI (count_), mA), some ((eL (eL eI)) (p282.1), mS), some (eI (many_), mA), none, some ((eL eI) (p282.2), mS), some ((eL eI) (frees_), .b), some ((eL (eL eI)) (V283), .b), none, none, some ((eL eI) (p288.1), mS), some (eI (p288.2), mA), none, none])) (F := (fun p288 : ((List Int) × Int) => (Out.ok ((p288.2, cutL p288.1 (some (count_)) none))))) (re_eq (re_vS 4 (eL (eL eI)) (p282.1))) (re_eq (re_vS 7 (eL eI) (p282.2))) (fun _ => ⟨_, rfl, rfl⟩) (fun p288 => ⟨_, re_eq (re_tupP (a := (e2 eI (eL eI))) (p288.2, cutL p288.1 (some (count_)) none) (ra_consP (re_vF 13 eI (p288.2)) (ra_consP (re_slF (a := eI) (re_vS 12 (eL eI) (p288.1)) (ro_ptP (re_vF 3 eI (count_))) ro_no) ra_nil)))⟩) (kid_A (c := (e2 eI (eL eI)))))) (fun ties_ => [none, some (eI (prime_), mA), some (eI (factor_), mA), some (eI (count_), mA), some ((eL (eL eI)) (p282.1), mS), some (eI (many_), mA), none, some ((eL eI) (p282.2), mS), some ((eL eI) (frees_), mA), some ((eL (eL eI)) (V283), mA), none, none, none, none, some ((eL (e2 eI (eL eI))) (ties_), mA), none]) (fun ties_ => (rb_retP' (e := (e3 (eL eI) (eL (eL eI)) (eL (e2 eI (eL eI))))) (frees_, V283, ties_) (re_eq (re_tupP (a := (e3 (eL eI) (eL (eL eI)) (eL (e2 eI (eL eI))))) (frees_, V283, ties_) (ra_consP (re_mO 8 (eL eI) (frees_)) (ra_consP (re_mO 9 (eL (eL eI)) (V283)) (ra_consP (re_mO 14 (eL (e2 eI (eL eI))) (ties_)) ra_nil)))))))))))))))))))))))))
  exact of_KT hr h
abbrev s_straight_many : Stmt := topS 23
abbrev N_straight_many : List Str := ["drawing", "prime", "factor", "number", "free"]
abbrev lv_straight_many : Nat := 6
theorem sc_straight_many : FnScope N_straight_many ["drawing", "prime", "factor"] (defScope s_straight_many) := ⟨rfl, rfl, rfl, by decide +kernel, rfl, by decide +kernel, by decide +kernel⟩
def w_straight_many : WS := (wSeq (wSet 3 (wC (.int 1)))
  (wSeq (wCut (wFor (tgN 4) (wBin wIx (wCall XR3.sp_solved (wCons (wMv 0) (wCons (wVar 1) (wCons (wMv 2) wNil)))) (wC (.int 0)))
  (wSeq (wSet 3 (wBin woMul (wVar 3) (wVar 1)))
  wNext)))
  (wSeq (wRet (wMv 3))
  wNext)))
theorem st_straight_many (x0 x1 x2 : D) : startE N_straight_many [x0, x1, x2] = [argS x0, argS x1, argS x2, none, none] := rfl
theorem d_straight_many (E : Ev K mg cl) (G_solved : Def P w K mg base cl "solved" 3 XR3.sp_solved lv_solved) (f : Addr) (cdv : Value) (A : Around) (outer : List Env) (s : Shared) (H : Hp) (E0 : XK) (P0 : Addr → Prop) (hr : Room 5 (cxV P w K mg base N_straight_many "straight_many" s_straight_many f cdv A outer s H E0).A) :
    PSs (cxV P w K mg base N_straight_many "straight_many" s_straight_many f cdv A outer s H E0) (defBody s_straight_many) (rdS (cnOf K cl P0 H) (WXE E0) w_straight_many) := by
  have nd := sc_straight_many.nd
  exact (vss_cons (vs_set (i := 3) ve_int nd)
  (vss_cons (vs_cut (vs_for (passes_of rfl) rfl (ve_ix (ve_call (k := lv_solved) G_solved (hr.mono (by decide)) (takes_of rfl rfl rfl rfl) (va_cons (ve_mv 0) (va_cons (ve_var 1) (va_cons (ve_mv 2) va_nil)))) ve_int) (tg_name nd)
  (fun _ => (vss_cons (vs_set (i := 3) (ve_mul (ve_var 3) (ve_var 1)) nd)
  vss_nil))))
  (vss_cons (vs_ret (ve_mv 3))
  vss_nil)))
theorem b_straight_many (kV doc pm : Value) (an : Option Addr) (cdv ct : Value) (us : List Value) (h : us.length = 3) : bindArgs (PySem.W.fnOf "straight_many" "straight_many" (defArgs s_straight_many) (defBody s_straight_many) (defScope s_straight_many) .none kV doc pm an cdv ct) ⟨us, []⟩ = pure ((["drawing", "prime", "factor"] : List Str).zip us) := match us, h with | [_, _, _], _ => rfl
theorem spec_straight_many : ∀ ds Qv Xv, XR3.sp_straight_many ds Qv Xv → ds.length = 3 ∧ w_straight_many (startE N_straight_many ds) ⟨fun _ => Qv ⟨.none, mA⟩, fun r _ => Qv r, fun ex _ => Xv ex⟩ := by
  rintro ds Qv Xv ⟨drawing_, prime_, factor_, rfl, h⟩
  refine ⟨rfl, ?_⟩
  have he : startE N_straight_many [(e2 (eL (eL eI)) (eL (e2 eI eI))) drawing_, eI prime_, eI factor_] = [some ((e2 (eL (eL eI)) (eL (e2 eI eI))) drawing_, mS), some (eI prime_, mA), some (eI factor_, mA), none, none] := by
    rw [st_straight_many]
    try simp only [argS_F, argS_N]
  rw [he]
  have hr : RB (fun _ => True) w_straight_many [some ((e2 (eL (eL eI)) (eL (e2 eI eI))) drawing_, mS), some (eI prime_, mA), some (eI factor_, mA), none, none] (XR3.F_straight_many drawing_ prime_ factor_) (KT eI mA) := by
    unfold XR3.F_straight_many w_straight_many
    exact (rs_set (re_eq (re_c (.int 1) eI (1))) (fun number_ => [some ((e2 (eL (eL eI)) (eL (e2 eI eI))) (drawing_), mS), some (eI (prime_), mA), some (eI (factor_), mA), some (eI (number_), mA), none]) (fun number_ => (rs_seqN (s := (fun (V291 : Int) => [none, some (eI (prime_), mA), some (eI (factor_), mA), some (eI (V291), mA), none])) (rb_for (s := (fun (V291 : Int) => [none, some (eI (prime_), mA), some (eI (factor_), mA), some (eI (V291), mA), none])) (a := eI) number_ (re_eq (re_tNO (e := (eL eI)) (b := (e3 (eL eI) (eL (eL eI)) (eL (e2 eI (eL eI))))) (g := fun p => p.1) 0 (re_callP (b := (e3 (eL eI) (eL (eL eI)) (eL (e2 eI (eL eI))))) (M := (XR3.F_solved drawing_ prime_ factor_)) (ra_consP (re_mO 0 (e2 (eL (eL eI)) (eL (e2 eI eI))) (drawing_)) (ra_consP (re_vF 1 eI (prime_)) (ra_consP (re_mF 2 eI (factor_)) ra_nil))) (fun Q X h => ⟨drawing_, prime_, factor_, rfl, h⟩)) (re_c (.int 0) eI (0)))) (el_c sl_n (el_c sl_o (el_c sl_o (el_c sl_o (el_c sl_n el_nil))))) (fun V291 free_ => [none, some (eI (prime_), mA), some (eI (factor_), mA), some (eI (V291), mA), some (eI (free_), mA)]) (fun V291 free_ => (rs_set (re_eq (re_2Q xo_mul (re_vF 3 eI (V291)) (re_vF 1 eI (prime_)))) (fun number_ => [none, some (eI (prime_), mA), some (eI (factor_), mA), some (eI (number_), mA), some (eI (free_), mA)]) (fun number_ => (rb_next (V := number_) (el_c sl_n (el_c sl_o (el_c sl_o (el_c sl_o (el_c sl_n el_nil)))))))))) (fun V291 => (rb_retP' (e := eI) V291 (re_eq (re_mF 3 eI (V291))))))))
  exact of_KT hr h
abbrev s_law_ring : Stmt := topS 30
abbrev N_law_ring : List Str := ["_law_word", "_law_strands", "_law_start", "_law_step", "_law_seen", "_law_walk", "_law_at", "_law_k", "_law_low", "_law_sign"]
abbrev lv_law_ring : Nat := 1
theorem sc_law_ring : FnScope N_law_ring ["_law_word", "_law_strands", "_law_start", "_law_step", "_law_seen"] (defScope s_law_ring) := ⟨rfl, rfl, rfl, by decide +kernel, rfl, by decide +kernel, by decide +kernel⟩
def w_law_ring : WS := (wSeq (wSet 5 (wCB wLst wNil))
  (wSeq (wSet 6 (wMv 2))
  (wSeq (wCut (wWhile (wNot (wTest (wBin wIx (wVar 4) (wVar 6)))) (wSeq (wPut (wPVar 4) (wVar 6) (wC (.bool true)))
  (wSeq (wCut (wForR 1 7 (wCons (wCB wLen (wCons (wVar 0) wNil)) wNil)
  (wSeq (wAsg (tgT [8, 9]) (wBin wIx (wVar 0) (wVar 7)))
  (wSeq (wCut (wIf (wTest (wBin woEq (wVar 6) (wVar 8))) (wSeq (wApp (wPVar 5) (wBin woMul (wBin woAdd (wC (.int 1)) (wBin woMul (wVar 7) (wVar 3))) (wVar 9)))
  (wSeq (wSet 6 (wBin woAdd (wVar 8) (wC (.int 1))))
  wNext)) (wSeq (wCut (wIf (wTest (wBin woEq (wVar 6) (wBin woAdd (wVar 8) (wC (.int 1))))) (wSeq (wApp (wPVar 5) (wBin woMul (wNeg (wBin woAdd (wC (.int 1)) (wBin woMul (wVar 7) (wVar 3)))) (wVar 9)))
  (wSeq (wSet 6 (wMv 8))
  wNext)) wNext))
  wNext)))
  wNext))))
  wNext))))
  (wSeq (wRet (wMv 5))
  wNext))))
theorem st_law_ring (x0 x1 x2 x3 x4 : D) : startE N_law_ring [x0, x1, x2, x3, x4] = [argS x0, argS x1, argS x2, argS x3, argS x4, none, none, none, none, none] := rfl
theorem d_law_ring (E : Ev K mg cl)  (f : Addr) (cdv : Value) (A : Around) (outer : List Env) (s : Shared) (H : Hp) (E0 : XK) (P0 : Addr → Prop) (l0 : List Addr) (v0 : V) (hr : Room 0 (cxV P w K mg base N_law_ring "_law_ring" s_law_ring f cdv A outer s H E0).A) :
    PSs (cxV P w K mg base N_law_ring "_law_ring" s_law_ring f cdv A outer s H E0) (defBody s_law_ring) (rdS (cnM K cl P0 H l0 4 v0) (WXE E0) w_law_ring) := by
  have nd := sc_law_ring.nd
  exact (vss_cons (vs_set (i := 5) (ve_lst va_nil) nd)
  (vss_cons (vs_set (i := 6) (ve_mv 2) nd)
  (vss_cons (vs_cut (vs_while (passes_of rfl) (vt_not (vt_val (ve_ix (ve_var 4) (ve_var 6)))) (vss_cons (vs_put (vp_var 4) (ve_var 6) ve_bl)
  (vss_cons (vs_cut (vs_forR1 (i := 7) (passes_of rfl) rfl E.m_range (va_cons (ve_len1 E.m_len (va_cons (ve_var 0) va_nil)) va_nil)
  (vss_cons (vs_asg (ve_ix (ve_var 0) (ve_var 7)) (tg_tup rfl (na_cons (na_cons na_nil nd) nd)))
  (vss_cons (vs_cut (vs_if (vt_c (c_eq hr) (ve_var 6) (ve_var 8)) (vss_cons (vs_app (vp_var 5) (ve_mul (ve_add ve_int (ve_mul (ve_var 7) (ve_var 3))) (ve_var 9)))
  (vss_cons (vs_set (i := 6) (ve_add (ve_var 8) ve_int) nd)
  vss_nil)) (vss_cons (vs_cut (vs_if (vt_c (c_eq hr) (ve_var 6) (ve_add (ve_var 8) ve_int)) (vss_cons (vs_app (vp_var 5) (ve_mul (ve_neg (ve_add ve_int (ve_mul (ve_var 7) (ve_var 3)))) (ve_var 9)))
  (vss_cons (vs_set (i := 6) (ve_mv 8) nd)
  vss_nil)) vss_nil))
  vss_nil)))
  vss_nil)) nd))
  vss_nil))))
  (vss_cons (vs_ret (ve_mv 5))
  vss_nil))))
theorem b_law_ring (kV doc pm : Value) (an : Option Addr) (cdv ct : Value) (us : List Value) (h : us.length = 5) : bindArgs (PySem.W.fnOf "_law_ring" "_law_ring" (defArgs s_law_ring) (defBody s_law_ring) (defScope s_law_ring) .none kV doc pm an cdv ct) ⟨us, []⟩ = pure ((["_law_word", "_law_strands", "_law_start", "_law_step", "_law_seen"] : List Str).zip us) := match us, h with | [_, _, _, _, _], _ => rfl
theorem spec_law_ring : ∀ ds Qv Xv, sp_law_ring ds Qv Xv → ds.length = 5 ∧ w_law_ring (startEM N_law_ring ds 4) ⟨fun e => ∃ d, e[4]? = some (some (d, mA)) ∧ Qv ⟨.none, mA⟩ d, fun r e => ∃ d, e[4]? = some (some (d, mA)) ∧ Qv r d, fun ex _ => Xv ex⟩ := by
  rintro ds Qv Xv ⟨word_, strands_, start_, step_, seen_, rfl, h⟩
  refine ⟨rfl, ?_⟩
  have he : startEM N_law_ring [(eL (e2 eI eI)) word_, eI strands_, eI start_, eI step_, (eL eB) seen_] 4 = [some ((eL (e2 eI eI)) word_, mS), some (eI strands_, mA), some (eI start_, mA), some (eI step_, mA), some ((eL eB) seen_, mA), none, none, none, none, none] := by
    unfold startEM
    rw [st_law_ring]
    try simp only [argS_F, argS_N]
    rfl
  rw [he]
  have hr : RB (fun _ => True) w_law_ring [some ((eL (e2 eI eI)) word_, mS), some (eI strands_, mA), some (eI start_, mA), some (eI step_, mA), some ((eL eB) seen_, mA), none, none, none, none, none] (F_law_ring word_ strands_ start_ step_ seen_) (KTM (eL eI) mA fun (V : (List Bool)) => [none, none, none, none, some ((eL eB) V, mA), none, none, none, none, none]) := by
    unfold F_law_ring w_law_ring
    exact (rs_set (re_eq (re_lstP (a := eI) [] ra_nil)) (fun walk_ => [some ((eL (e2 eI eI)) (word_), mS), some (eI (strands_), mA), some (eI (start_), mA), some (eI (step_), mA), some ((eL eB) (seen_), mA), some ((eL eI) (walk_), mA), none, none, none, none]) (fun walk_ => (rs_set (re_eq (re_mF 2 eI (start_))) (fun at_ => [some ((eL (e2 eI eI)) (word_), mS), some (eI (strands_), mA), some (eI (start_), mA), some (eI (step_), mA), some ((eL eB) (seen_), mA), some ((eL eI) (walk_), mA), some (eI (at_), mA), none, none, none]) (fun at_ => (rs_seqN (s := (fun (V77 : (List Bool) × (List Int) × Int) => [some ((eL (e2 eI eI)) (word_), mS), some (eI (strands_), mA), some (eI (start_), mA), some (eI (step_), mA), some ((eL eB) (V77.1), mA), some ((eL eI) (V77.2.1), mA), some (eI (V77.2.2), mA), none, none, none])) (rb_while (s := (fun (V77 : (List Bool) × (List Int) × Int) => [some ((eL (e2 eI eI)) (word_), mS), some (eI (strands_), mA), some (eI (start_), mA), some (eI (step_), mA), some ((eL eB) (V77.1), mA), some ((eL eI) (V77.2.1), mA), some (eI (V77.2.2), mA), none, none, none])) (seen_, walk_, at_) (el_c sl_o (el_c sl_o (el_c sl_o (el_c sl_o (el_c sl_o (el_c sl_o (el_c sl_o (el_c sl_n (el_c sl_n (el_c sl_n el_nil)))))))))) (fun V77 => rt_eq (rt_not (rt_val (re_2Q (xo_ixF (a := eB)) (re_vA 4 (eL eB) (V77.1)) (re_vF 6 eI (V77.2.2)))))) (fun V77 => (rs_put (a := eB) (xs := V77.1) (re_eq (re_c (.bool true) eB (true))) (re_eq (re_vF 6 eI (V77.2.2))) (fun seen_ => [some ((eL (e2 eI eI)) (word_), mS), some (eI (strands_), mA), some (eI (start_), mA), some (eI (step_), mA), some ((eL eB) (seen_), mA), some ((eL eI) (V77.2.1), mA), some (eI (V77.2.2), mA), none, none, none]) (fun seen_ => (rs_seqN (s := (fun (V87 : (List Int) × Int) => [some ((eL (e2 eI eI)) (word_), mS), some (eI (strands_), mA), some (eI (start_), mA), some (eI (step_), mA), some ((eL eB) (seen_), mA), some ((eL eI) (V87.1), mA), some (eI (V87.2), mA), none, none, none])) (rb_forRP (s := (fun (V87 : (List Int) × Int) => [some ((eL (e2 eI eI)) (word_), mS), some (eI (strands_), mA), some (eI (start_), mA), some (eI (step_), mA), some ((eL eB) (seen_), mA), some ((eL eI) (V87.1), mA), some (eI (V87.2), mA), none, none, none])) 0 (word_.length : Int) (V77.2.1, V77.2.2) (ra_consP (re_cbP ((word_.length : Int)) (ra_consP (re_vS 0 (eL (e2 eI eI)) (word_)) ra_nil) (len_L (a := (e2 eI eI)) (word_))) ra_nil) ⟨rfl, rfl⟩ (el_c sl_o (el_c sl_o (el_c sl_o (el_c sl_o (el_c sl_o (el_c sl_o (el_c sl_o (el_c sl_n (el_c sl_n (el_c sl_n el_nil)))))))))) (fun V87 k_ => [some ((eL (e2 eI eI)) (word_), mS), some (eI (strands_), mA), some (eI (start_), mA), some (eI (step_), mA), some ((eL eB) (seen_), mA), some ((eL eI) (V87.1), mA), some (eI (V87.2), mA), some (eI (k_), mA), none, none]) (fun V87 k_ => (rs_asg (a := (e2 eI eI)) (re_eq (re_2Q (xo_ixF (a := (e2 eI eI))) (re_vS 0 (eL (e2 eI eI)) (word_)) (re_vF 7 eI (k_)))) (fun p92 => [some ((eL (e2 eI eI)) (word_), mS), some (eI (strands_), mA), some (eI (start_), mA), some (eI (step_), mA), some ((eL eB) (seen_), mA), some ((eL eI) (V87.1), mA), some (eI (V87.2), mA), some (eI (k_), mA), some (eI (p92.1), mA), some (eI (p92.2), mA)]) (fun p92 => (rs_seqN (s := (fun (V94 : (List Int) × Int) => [some ((eL (e2 eI eI)) (word_), mS), some (eI (strands_), mA), some (eI (start_), mA), some (eI (step_), mA), some ((eL eB) (seen_), mA), some ((eL eI) (V94.1), mA), some (eI (V94.2), mA), some (eI (k_), mA), some (eI (p92.1), mA), some (eI (p92.2), mA)])) (rb_ifP (rt_eq (rt_val (re_2P xo_eqI (re_vF 6 eI (V87.2)) (re_vF 8 eI (p92.1))))) (rs_app (a := eI) (xs := V87.1) (re_eq (re_2 (opO_out xo_mul) (re_2 (opP_out xo_add) (re_c (.int 1) eI (1)) (re_2Q xo_mul (re_vF 7 eI (k_)) (re_vF 3 eI (step_)))) (re_vF 9 eI (p92.2)))) (fun walk_ => [some ((eL (e2 eI eI)) (word_), mS), some (eI (strands_), mA), some (eI (start_), mA), some (eI (step_), mA), some ((eL eB) (seen_), mA), some ((eL eI) (walk_), mA), some (eI (V87.2), mA), some (eI (k_), mA), some (eI (p92.1), mA), some (eI (p92.2), mA)]) (fun walk_ => (rs_set (re_eq (re_2P xo_add (re_vF 8 eI (p92.1)) (re_c (.int 1) eI (1)))) (fun at_ => [some ((eL (e2 eI eI)) (word_), mS), some (eI (strands_), mA), some (eI (start_), mA), some (eI (step_), mA), some ((eL eB) (seen_), mA), some ((eL eI) (walk_), mA), some (eI (at_), mA), some (eI (k_), mA), some (eI (p92.1), mA), some (eI (p92.2), mA)]) (fun at_ => (rb_next (V := (walk_, at_)) (el_c sl_o (el_c sl_o (el_c sl_o (el_c sl_o (el_c sl_o (el_c sl_o (el_c sl_o (el_c sl_o (el_c sl_o (el_c sl_o el_nil))))))))))))))) (rs_seqN (s := (fun (V95 : (List Int) × Int) => [some ((eL (e2 eI eI)) (word_), mS), some (eI (strands_), mA), some (eI (start_), mA), some (eI (step_), mA), some ((eL eB) (seen_), mA), some ((eL eI) (V95.1), mA), some (eI (V95.2), mA), some (eI (k_), mA), some (eI (p92.1), mA), some (eI (p92.2), mA)])) (rb_ifP (rt_eq (rt_val (re_2P xo_eqI (re_vF 6 eI (V87.2)) (re_2P xo_add (re_vF 8 eI (p92.1)) (re_c (.int 1) eI (1)))))) (rs_app (a := eI) (xs := V87.1) (re_eq (re_2 (opO_out xo_mul) (re_negO (re_2 (opP_out xo_add) (re_c (.int 1) eI (1)) (re_2Q xo_mul (re_vF 7 eI (k_)) (re_vF 3 eI (step_))))) (re_vF 9 eI (p92.2)))) (fun walk_ => [some ((eL (e2 eI eI)) (word_), mS), some (eI (strands_), mA), some (eI (start_), mA), some (eI (step_), mA), some ((eL eB) (seen_), mA), some ((eL eI) (walk_), mA), some (eI (V87.2), mA), some (eI (k_), mA), some (eI (p92.1), mA), some (eI (p92.2), mA)]) (fun walk_ => (rs_set (re_eq (re_mF 8 eI (p92.1))) (fun at_ => [some ((eL (e2 eI eI)) (word_), mS), some (eI (strands_), mA), some (eI (start_), mA), some (eI (step_), mA), some ((eL eB) (seen_), mA), some ((eL eI) (walk_), mA), some (eI (at_), mA), some (eI (k_), mA), some (eI (p92.1), mA), some (eI (p92.2), mA)]) (fun at_ => (rb_next (V := (walk_, at_)) (el_c sl_o (el_c sl_o (el_c sl_o (el_c sl_o (el_c sl_o (el_c sl_o (el_c sl_o (el_c sl_o (el_c sl_o (el_c sl_o el_nil))))))))))))))) (rb_next (V := (V87.1, V87.2)) (el_c sl_o (el_c sl_o (el_c sl_o (el_c sl_o (el_c sl_o (el_c sl_o (el_c sl_o (el_c sl_o (el_c sl_o (el_c sl_o el_nil)))))))))))) (fun V95 => (rb_next (V := (V95.1, V95.2)) (el_c sl_o (el_c sl_o (el_c sl_o (el_c sl_o (el_c sl_o (el_c sl_o (el_c sl_o (el_c sl_o (el_c sl_o (el_c sl_o el_nil)))))))))))))) (fun V94 => (rb_next (V := (V94.1, V94.2)) (el_c sl_o (el_c sl_o (el_c sl_o (el_c sl_o (el_c sl_o (el_c sl_o (el_c sl_o (el_c sl_n (el_c sl_n (el_c sl_n el_nil))))))))))))))))) (fun V87 => (rb_next (V := (seen_, V87.1, V87.2)) (el_c sl_o (el_c sl_o (el_c sl_o (el_c sl_o (el_c sl_o (el_c sl_o (el_c sl_o (el_c sl_n (el_c sl_n (el_c sl_n el_nil))))))))))))))))) (fun V77 => (rb_retMP (s := fun (V : (List Bool)) => [none, none, none, none, some ((eL eB) (V), mA), none, none, none, none, none]) (e := (eL eI)) V77.1 (V77.2.1 : (List Int)) (re_eq (re_mO 5 (eL eI) (V77.2.1))) (el_c sl_n (el_c sl_n (el_c sl_n (el_c sl_n (el_c sl_o (el_c sl_n (el_c sl_n (el_c sl_n (el_c sl_n (el_c sl_n el_nil)))))))))))))))))
  exact of_KTM (et := (eL eB)) (j := 4) hr h
abbrev s_law_closed : Stmt := topS 31
abbrev N_law_closed : List Str := ["_law_word", "_law_strands", "_law_step", "_law_seen", "_law_walks", "_law_start", "_law_k"]
abbrev lv_law_closed : Nat := 2
theorem sc_law_closed : FnScope N_law_closed ["_law_word", "_law_strands", "_law_step"] (defScope s_law_closed) := ⟨rfl, rfl, rfl, by decide +kernel, rfl, by decide +kernel, by decide +kernel⟩
def w_law_closed : WS := (wSeq (wSet 3 (wBin woMul (wCB wLst (wCons (wC (.bool false)) wNil)) (wVar 1)))
  (wSeq (wSet 4 (wCB wLst wNil))
  (wSeq (wCut (wForR 1 5 (wCons (wVar 1) wNil)
  (wSeq (wCut (wIf (wNot (wTest (wBin wIx (wVar 3) (wVar 5)))) (wSeq (wAppX 4 (wCM sp_law_ring 4 3 (wCons (wVar 0) (wCons (wVar 1) (wCons (wVar 5) (wCons (wVar 2) (wCons (wMv 3) wNil)))))))
  wNext) wNext))
  wNext)))
  (wSeq (wRet (wCB wTup (wCons (wMv 4) (wCons (wLcR 1 [6] 6 (wCons (wCB wLen (wCons (wVar 0) wNil)) wNil) wYes (wCB wTup (wCons (wBin woAdd (wC (.int 1)) (wBin woMul (wVar 6) (wVar 2))) (wCons (wBin wIx (wBin wIx (wVar 0) (wVar 6)) (wC (.int 1))) wNil)))) wNil))))
  wNext))))
theorem st_law_closed (x0 x1 x2 : D) : startE N_law_closed [x0, x1, x2] = [argS x0, argS x1, argS x2, none, none, none, none] := rfl
theorem d_law_closed (E : Ev K mg cl) (G_law_ring : DefM P w K mg base cl "_law_ring" 5 4 sp_law_ring lv_law_ring) (f : Addr) (cdv : Value) (A : Around) (outer : List Env) (s : Shared) (H : Hp) (E0 : XK) (P0 : Addr → Prop) (hr : Room 1 (cxV P w K mg base N_law_closed "_law_closed" s_law_closed f cdv A outer s H E0).A) :
    PSs (cxV P w K mg base N_law_closed "_law_closed" s_law_closed f cdv A outer s H E0) (defBody s_law_closed) (rdS (cnOf K cl P0 H) (WXE E0) w_law_closed) := by
  have nd := sc_law_closed.nd
  exact (vss_cons (vs_set (i := 3) (ve_mul (ve_lst (va_cons ve_bl va_nil)) (ve_var 1)) nd)
  (vss_cons (vs_set (i := 4) (ve_lst va_nil) nd)
  (vss_cons (vs_cut (vs_forR1 (i := 5) (passes_of rfl) rfl E.m_range (va_cons (ve_var 1) va_nil)
  (vss_cons (vs_cut (vs_if (vt_not (vt_val (ve_ix (ve_var 3) (ve_var 5)))) (vss_cons (vs_appX 4 (ve_callM (k := lv_law_ring) G_law_ring (hr.mono (by decide)) (takes_of rfl rfl rfl rfl) (vam_cons (ve_var 0) (vam_cons (ve_var 1) (vam_cons (ve_var 5) (vam_cons (ve_var 2) (vam_here 3 va_nil)))))))
  vss_nil) vss_nil))
  vss_nil) nd))
  (vss_cons (vs_ret (ve_tup (va_cons (ve_mv 4) (va_cons (ve_lcR1 rfl nd [("_law_k", 6)] E.m_range (va_cons (ve_len1 E.m_len (va_cons (ve_var 0) va_nil)) va_nil) (fun _ _ _ _ _ => pg_name nd rfl (by first | exact .inl rfl | exact .inr rfl)) (fun _ _ _ _ _ => vts_nil) (fun _ _ _ _ _ => (ve_tup (va_cons (ve_add ve_int (ve_mul (ve_var 6) (ve_var 2))) (va_cons (ve_ix (ve_ix (ve_var 0) (ve_var 6)) ve_int) va_nil))))) va_nil))))
  vss_nil))))
theorem b_law_closed (kV doc pm : Value) (an : Option Addr) (cdv ct : Value) (us : List Value) (h : us.length = 3) : bindArgs (PySem.W.fnOf "_law_closed" "_law_closed" (defArgs s_law_closed) (defBody s_law_closed) (defScope s_law_closed) .none kV doc pm an cdv ct) ⟨us, []⟩ = pure ((["_law_word", "_law_strands", "_law_step"] : List Str).zip us) := match us, h with | [_, _, _], _ => rfl
theorem spec_law_closed : ∀ ds Qv Xv, sp_law_closed ds Qv Xv → ds.length = 3 ∧ w_law_closed (startE N_law_closed ds) ⟨fun _ => Qv ⟨.none, mA⟩, fun r _ => Qv r, fun ex _ => Xv ex⟩ := by
  rintro ds Qv Xv ⟨word_, strands_, step_, rfl, h⟩
  refine ⟨rfl, ?_⟩
  have he : startE N_law_closed [(eL (e2 eI eI)) word_, eI strands_, eI step_] = [some ((eL (e2 eI eI)) word_, mS), some (eI strands_, mA), some (eI step_, mA), none, none, none, none] := by
    rw [st_law_closed]
    try simp only [argS_F, argS_N]
  rw [he]
  have hr : RB (fun _ => True) w_law_closed [some ((eL (e2 eI eI)) word_, mS), some (eI strands_, mA), some (eI step_, mA), none, none, none, none] (F_law_closed word_ strands_ step_) (KT (e2 (eL (eL eI)) (eL (e2 eI eI))) mA) := by
    unfold F_law_closed w_law_closed
    exact (rs_set (re_eq (re_2Q (xo_rep (a := eB)) (re_lstFP (a := eB) [false] (ra_consP (re_c (.bool false) eB (false)) ra_nil)) (re_vF 1 eI (strands_)))) (fun seen_ => [some ((eL (e2 eI eI)) (word_), mS), some (eI (strands_), mA), some (eI (step_), mA), some ((eL eB) (seen_), mA), none, none, none]) (fun seen_ => (rs_set (re_eq (re_lstP (a := (eL eI)) [] ra_nil)) (fun walks_ => [some ((eL (e2 eI eI)) (word_), mS), some (eI (strands_), mA), some (eI (step_), mA), some ((eL eB) (seen_), mA), some ((eL (eL eI)) (walks_), mA), none, none]) (fun walks_ => (rs_seqN (s := (fun (V101 : (List (List Int)) × (List Bool)) => [some ((eL (e2 eI eI)) (word_), mS), some (eI (strands_), mA), some (eI (step_), mA), some ((eL eB) (V101.2), mA), some ((eL (eL eI)) (V101.1), mA), none, none])) (rb_forRP (s := (fun (V101 : (List (List Int)) × (List Bool)) => [some ((eL (e2 eI eI)) (word_), mS), some (eI (strands_), mA), some (eI (step_), mA), some ((eL eB) (V101.2), mA), some ((eL (eL eI)) (V101.1), mA), none, none])) 0 strands_ (walks_, seen_) (ra_consP (re_vF 1 eI (strands_)) ra_nil) ⟨rfl, rfl⟩ (el_c sl_o (el_c sl_o (el_c sl_o (el_c sl_o (el_c sl_o (el_c sl_n (el_c sl_n el_nil))))))) (fun V101 start_ => [some ((eL (e2 eI eI)) (word_), mS), some (eI (strands_), mA), some (eI (step_), mA), some ((eL eB) (V101.2), mA), some ((eL (eL eI)) (V101.1), mA), some (eI (start_), mA), none]) (fun V101 start_ => (rs_seqN (s := (fun (V103 : (List (List Int)) × (List Bool)) => [some ((eL (e2 eI eI)) (word_), mS), some (eI (strands_), mA), some (eI (step_), mA), some ((eL eB) (V103.2), mA), some ((eL (eL eI)) (V103.1), mA), some (eI (start_), mA), none])) (rb_if (rt_eq (rt_not (rt_val (re_2Q (xo_ixF (a := eB)) (re_vA 3 (eL eB) (V101.2)) (re_vF 5 eI (start_)))))) (rs_appX (xs := V101.1) (k := fun (walks_ : (List (List Int))) (seen_ : (List Bool)) => (Out.ok (walks_, seen_))) (rx_call (e := (eL eI)) (md := mA) (s := fun seen_ => [some ((eL (e2 eI eI)) (word_), mS), some (eI (strands_), mA), some (eI (step_), mA), some ((eL eB) (seen_), mA), some ((eL (eL eI)) (V101.1), mA), some (eI (start_), mA), none]) (et := (eL eB)) (F := fun (t : (List (Int × Int)) × Int × Int × Int × (List Bool) × Unit) => F_law_ring t.1 t.2.1 t.2.2.1 t.2.2.2.1 t.2.2.2.2.1) (ra_consP (re_vS 0 (eL (e2 eI eI)) (word_)) (ra_consP (re_vF 1 eI (strands_)) (ra_consP (re_vF 5 eI (start_)) (ra_consP (re_vF 2 eI (step_)) (ra_consP (re_mO 3 (eL eB) (V101.2)) ra_nil))))) (fun (t : (List (Int × Int)) × Int × Int × Int × (List Bool) × Unit) Q X h => ⟨t.1, t.2.1, t.2.2.1, t.2.2.2.1, t.2.2.2.2.1, rfl, h⟩) (fun (t : (List (Int × Int)) × Int × Int × Int × (List Bool) × Unit) => ⟨t.2.2.2.2.1, rfl⟩) (fun y => Nf.nf (e := (eL eB)) y)) (fun walks_ seen_ => [some ((eL (e2 eI eI)) (word_), mS), some (eI (strands_), mA), some (eI (step_), mA), some ((eL eB) (seen_), mA), some ((eL (eL eI)) (walks_), mA), some (eI (start_), mA), none]) (fun walks_ seen_ => (rb_next (V := (walks_, seen_)) (el_c sl_o (el_c sl_o (el_c sl_o (el_c sl_o (el_c sl_o (el_c sl_o (el_c sl_n el_nil)))))))))) (rb_next (V := (V101.1, V101.2)) (el_c sl_o (el_c sl_o (el_c sl_o (el_c sl_o (el_c sl_o (el_c sl_o (el_c sl_n el_nil))))))))) (fun V103 => (rb_next (V := (V103.1, V103.2)) (el_c sl_o (el_c sl_o (el_c sl_o (el_c sl_o (el_c sl_o (el_c sl_n (el_c sl_n el_nil)))))))))))) (fun V101 => (rb_retI (re_eq (re_tup (a := (e2 (eL (eL eI)) (eL (e2 eI eI)))) (fun (t : (List (List Int)) × (List (Int × Int)) × Unit) => (t.1, t.2.1)) (ra_cons (re_mO 4 (eL (eL eI)) (V101.1)) (ra_cons (re_lcR1P none mA 0 (word_.length : Int) (ent := (fun k_ => [some ((eL (e2 eI eI)) (word_), mS), some (eI (strands_), mA), some (eI (step_), mA), some ((eL eB) (V101.2), .b), none, none, some (eI (k_), mA)])) (F := (fun k_ : Int => ((((Out.ok (1)).bind fun t1 => (lift (mulO k_ step_)).bind fun t2 => .ok ((t1 + t2))).bind fun x => (((lift (atI word_ k_)).bind fun p => .ok (p.2)).bind fun x => (Out.ok ()).bind fun t => .ok (x, t)).bind fun t => .ok (x, t)).bind fun (t : Int × Int × Unit) => .ok (t.1, t.2.1)))) (ra_consP (re_cbP ((word_.length : Int)) (ra_consP (re_vS 0 (eL (e2 eI eI)) (word_)) ra_nil) (len_L (a := (e2 eI eI)) (word_))) ra_nil) ⟨rfl, rfl⟩ (fun _ => rfl) (fun k_ => ⟨_, re_eq (re_tupF (a := (e2 eI eI)) (fun (t : Int × Int × Unit) => (t.1, t.2.1)) (ra_cons (re_2 (opP_out xo_add) (re_c (.int 1) eI (1)) (re_2Q xo_mul (re_vF 6 eI (k_)) (re_vF 2 eI (step_)))) (ra_cons (re_tFO (e := eI) (b := (e2 eI eI)) (g := fun p => p.2) 1 (re_2Q (xo_ixF (a := (e2 eI eI))) (re_vS 0 (eL (e2 eI eI)) (word_)) (re_vF 6 eI (k_))) (re_c (.int 1) eI (1))) ra_nil)))⟩) (kid_F (c := (e2 eI eI)))) ra_nil)))))))))))
  exact of_KT hr h
abbrev s_law_is_whole : Stmt := topS 28
abbrev N_law_is_whole : List Str := ["_law_one"]
abbrev lv_law_is_whole : Nat := 1
theorem sc_law_is_whole : FnScope N_law_is_whole ["_law_one"] (defScope s_law_is_whole) := ⟨rfl, rfl, rfl, by decide +kernel, rfl, by decide +kernel, by decide +kernel⟩
def w_law_is_whole : WS := (wSeq (wRet (wAndV (wIsi "int" (wVar 0)) (wNotV (wIsi "bool" (wVar 0)))))
  wNext)
theorem st_law_is_whole (x0 : D) : startE N_law_is_whole [x0] = [argS x0] := rfl
theorem d_law_is_whole (E : Ev K mg cl)  (f : Addr) (cdv : Value) (A : Around) (outer : List Env) (s : Shared) (H : Hp) (E0 : XK) (P0 : Addr → Prop) (hr : Room 0 (cxV P w K mg base N_law_is_whole "_law_is_whole" s_law_is_whole f cdv A outer s H E0).A) :
    PSs (cxV P w K mg base N_law_is_whole "_law_is_whole" s_law_is_whole f cdv A outer s H E0) (defBody s_law_is_whole) (rdS (cnOf K cl P0 H) (WXE E0) w_law_is_whole) := by
  have nd := sc_law_is_whole.nd
  exact (vss_cons (vs_ret (ve_and (ve_isi ta_int E.m_isinstance E.m_int (by decide +kernel) (ve_var 0)) (ve_one (ve_not (ve_isi ta_bool E.m_isinstance E.m_bool (by decide +kernel) (ve_var 0))))))
  vss_nil)
theorem b_law_is_whole (kV doc pm : Value) (an : Option Addr) (cdv ct : Value) (us : List Value) (h : us.length = 1) : bindArgs (PySem.W.fnOf "_law_is_whole" "_law_is_whole" (defArgs s_law_is_whole) (defBody s_law_is_whole) (defScope s_law_is_whole) .none kV doc pm an cdv ct) ⟨us, []⟩ = pure ((["_law_one"] : List Str).zip us) := match us, h with | [_], _ => rfl
theorem spec_law_is_whole : ∀ ds Qv Xv, XD.sp_law_is_whole ds Qv Xv → ds.length = 1 ∧ w_law_is_whole (startE N_law_is_whole ds) ⟨fun _ => Qv ⟨.none, mA⟩, fun r _ => Qv r, fun ex _ => Xv ex⟩ := by
  rintro ds Qv Xv ⟨one_, rfl, h⟩
  refine ⟨rfl, ?_⟩
  have he : startE N_law_is_whole [eI one_] = [some (eI one_, mA)] := by
    rw [st_law_is_whole]
    try simp only [argS_F, argS_N]
  rw [he]
  have hr : RB (fun _ => True) w_law_is_whole [some (eI one_, mA)] (XD.F_law_is_whole one_) (KT eB mA) := by
    unfold XD.F_law_is_whole w_law_is_whole
    exact (rb_retP' (e := eB) (!(false)) (re_eq (re_andTc (re_isi true (re_vF 0 eI (one_))) (re_notP (re_isi false (re_vF 0 eI (one_)))))))
  exact of_KT hr h
abbrev s_law : Stmt := topS 34
abbrev N_law : List Str := ["_law_script", "_law_some", "_law_strands", "_law_word", "_law_k", "_law_prime_here", "_law_factor", "_law_one", "_law_other", "_law_wide", "_law_step", "_law_first", "_law_second"]
theorem sc_law : FnScope N_law ["_law_script"] (defScope s_law) := ⟨rfl, rfl, rfl, by decide +kernel, rfl, by decide +kernel, by decide +kernel⟩
def w_law : WS := (wSeq (wSet 1 (wCall XD.sp_law_row (wCons (wVar 0) (wCons (wC (.int 0)) (wCons (wBin woAdd (wCB wLst (wCons (wC (.int 19)) (wCons (wC (.int 4)) (wCons (wC (.int 5)) (wCons (wC (.int 60)) (wCons (wC (.int 60)) (wCons (wC (.int 8)) (wCons (wC (.int 4)) wNil)))))))) (wBin woMul (wCB wLst (wCons (wC (.int 4)) (wCons (wC (.int 2)) wNil))) (wC (.int 18)))) wNil)))))
  (wSeq (wSet 2 (wBin woAdd (wC (.int 2)) (wBin wIx (wVar 1) (wC (.int 1)))))
  (wSeq (wSet 3 (wCB wLst wNil))
  (wSeq (wCut (wForR 1 4 (wCons (wBin wIx (wVar 1) (wC (.int 0))) wNil)
  (wSeq (wApp (wPVar 3) (wCB wTup (wCons (wBin woMod (wBin wIx (wVar 1) (wBin woAdd (wC (.int 7)) (wBin woMul (wC (.int 2)) (wVar 4)))) (wBin woSub (wVar 2) (wC (.int 1)))) (wCons (wBin woSub (wBin woMul (wC (.int 2)) (wBin wIx (wVar 1) (wBin woAdd (wC (.int 8)) (wBin woMul (wC (.int 2)) (wVar 4))))) (wC (.int 1))) wNil))))
  wNext)))
  (wSeq (wAsg (tgT [5, 6]) (wCall sp_law_prime (wCons (wCall XD.sp_law_row (wCons (wMv 0) (wCons (wC (.int 1)) (wCons (wCB wLst (wCons (wC (.int 10)) (wCons (wC (.int 99990)) (wCons (wC (.int 5)) wNil)))) wNil)))) wNil)))
  (wSeq (wAsg (tgT [7, 8, 9]) (wCall sp_law_beside (wCons (wMv 3) (wCons (wVar 2) (wCons (wSl (wVar 1) (wPt (wC (.int 2))) wNoP) wNil)))))
  (wSeq (wSet 10 (wBin wIx (wCB wLst (wCons (wC (.int 1)) (wCons (wC (.int 2)) (wCons (wC (.int 7)) (wCons (wBin woPow (wC (.int 10)) (wC (.int 9))) wNil))))) (wBin wIx (wVar 1) (wC (.int 6)))))
  (wSeq (wSet 11 (wCall XR3.sp_straight_many (wCons (wCall sp_law_closed (wCons (wMv 7) (wCons (wMv 2) (wCons (wC (.int 1)) wNil)))) (wCons (wVar 5) (wCons (wVar 6) wNil)))))
  (wSeq (wIf (wNot (wTest (wCall XD.sp_law_is_whole (wCons (wVar 11) wNil)))) (wSeq (wRet (wC (.bool false)))
  wNext) wNext)
  (wSeq (wSet 12 (wCall XR3.sp_straight_many (wCons (wCall sp_law_closed (wCons (wMv 8) (wCons (wMv 9) (wCons (wMv 10) wNil)))) (wCons (wVar 5) (wCons (wMv 6) wNil)))))
  (wSeq (wIf (wOr (wTest (wBin woNe (wVar 12) (wVar 11))) (wTest (wBin woLt (wVar 11) (wC (.int 1))))) (wSeq (wRet (wC (.bool false)))
  wNext) wNext)
  (wSeq (wCut (wWhile (wTest (wBin woEq (wBin woMod (wVar 11) (wVar 5)) (wC (.int 0)))) (wSeq (wSet 11 (wBin woFd (wVar 11) (wVar 5)))
  wNext)))
  (wSeq (wRet (wBin woEq (wVar 11) (wC (.int 1))))
  wNext)))))))))))))
theorem st_law (x0 : D) : startE N_law [x0] = [argS x0, none, none, none, none, none, none, none, none, none, none, none, none] := rfl
theorem d_law (E : Ev K mg cl) (G_law_row : Def P w K mg base cl "_law_row" 3 XD.sp_law_row lv_law_row) (G_law_prime : Def P w K mg base cl "_law_prime" 1 sp_law_prime lv_law_prime) (G_law_beside : Def P w K mg base cl "_law_beside" 3 sp_law_beside lv_law_beside) (G_straight_many : Def P w K mg base cl "straight_many" 3 XR3.sp_straight_many lv_straight_many) (G_law_closed : Def P w K mg base cl "_law_closed" 3 sp_law_closed lv_law_closed) (G_law_is_whole : Def P w K mg base cl "_law_is_whole" 1 XD.sp_law_is_whole lv_law_is_whole) (f : Addr) (cdv : Value) (A : Around) (outer : List Env) (s : Shared) (H : Hp) (E0 : XK) (P0 : Addr → Prop) (hr : Room 6 (cxV P w K mg base N_law "law" s_law f cdv A outer s H E0).A) :
    PSs (cxV P w K mg base N_law "law" s_law f cdv A outer s H E0) (defBody s_law) (rdS (cnOf K cl P0 H) (WXE E0) w_law) := by
  have nd := sc_law.nd
  exact (vss_cons (vs_set (i := 1) (ve_call (k := lv_law_row) G_law_row (hr.mono (by decide)) (takes_of rfl rfl rfl rfl) (va_cons (ve_var 0) (va_cons ve_int (va_cons (ve_add (ve_lst (va_cons ve_int (va_cons ve_int (va_cons ve_int (va_cons ve_int (va_cons ve_int (va_cons ve_int (va_cons ve_int va_nil)))))))) (ve_mul (ve_lst (va_cons ve_int (va_cons ve_int va_nil))) ve_int)) va_nil)))) nd)
  (vss_cons (vs_set (i := 2) (ve_add ve_int (ve_ix (ve_var 1) ve_int)) nd)
  (vss_cons (vs_set (i := 3) (ve_lst va_nil) nd)
  (vss_cons (vs_cut (vs_forR1 (i := 4) (passes_of rfl) rfl E.m_range (va_cons (ve_ix (ve_var 1) ve_int) va_nil)
  (vss_cons (vs_app (vp_var 3) (ve_tup (va_cons (ve_mod (ve_ix (ve_var 1) (ve_add ve_int (ve_mul ve_int (ve_var 4)))) (ve_sub (ve_var 2) ve_int)) (va_cons (ve_sub (ve_mul ve_int (ve_ix (ve_var 1) (ve_add ve_int (ve_mul ve_int (ve_var 4))))) ve_int) va_nil))))
  vss_nil) nd))
  (vss_cons (vs_asg (ve_call (k := lv_law_prime) G_law_prime (hr.mono (by decide)) (takes_of rfl rfl rfl rfl) (va_cons (ve_call (k := lv_law_row) G_law_row (hr.mono (by decide)) (takes_of rfl rfl rfl rfl) (va_cons (ve_mv 0) (va_cons ve_int (va_cons (ve_lst (va_cons ve_int (va_cons ve_int (va_cons ve_int va_nil)))) va_nil)))) va_nil)) (tg_tup rfl (na_cons (na_cons na_nil nd) nd)))
  (vss_cons (vs_asg (ve_call (k := lv_law_beside) G_law_beside (hr.mono (by decide)) (takes_of rfl rfl rfl rfl) (va_cons (ve_mv 3) (va_cons (ve_var 2) (va_cons (ve_slice (ve_var 1) (vo_some ve_int) vo_none) va_nil)))) (tg_tup rfl (na_cons (na_cons (na_cons na_nil nd) nd) nd)))
  (vss_cons (vs_set (i := 10) (ve_ix (ve_lst (va_cons ve_int (va_cons ve_int (va_cons ve_int (va_cons (ve_pow ve_int ve_int) va_nil))))) (ve_ix (ve_var 1) ve_int)) nd)
  (vss_cons (vs_set (i := 11) (ve_call (k := lv_straight_many) G_straight_many (hr.mono (by decide)) (takes_of rfl rfl rfl rfl) (va_cons (ve_call (k := lv_law_closed) G_law_closed (hr.mono (by decide)) (takes_of rfl rfl rfl rfl) (va_cons (ve_mv 7) (va_cons (ve_mv 2) (va_cons ve_int va_nil)))) (va_cons (ve_var 5) (va_cons (ve_var 6) va_nil)))) nd)
  (vss_cons (vs_if (vt_not (vt_val (ve_call (k := lv_law_is_whole) G_law_is_whole (hr.mono (by decide)) (takes_of rfl rfl rfl rfl) (va_cons (ve_var 11) va_nil)))) (vss_cons (vs_ret ve_bl)
  vss_nil) vss_nil)
  (vss_cons (vs_set (i := 12) (ve_call (k := lv_straight_many) G_straight_many (hr.mono (by decide)) (takes_of rfl rfl rfl rfl) (va_cons (ve_call (k := lv_law_closed) G_law_closed (hr.mono (by decide)) (takes_of rfl rfl rfl rfl) (va_cons (ve_mv 8) (va_cons (ve_mv 9) (va_cons (ve_mv 10) va_nil)))) (va_cons (ve_var 5) (va_cons (ve_mv 6) va_nil)))) nd)
  (vss_cons (vs_if (PW.pt (vw_or (vt_c (c_ne hr) (ve_var 12) (ve_var 11)) (vw_or1 (vt_c c_lt (ve_var 11) ve_int)))) (vss_cons (vs_ret ve_bl)
  vss_nil) vss_nil)
  (vss_cons (vs_cut (vs_while (passes_of rfl) (vt_c (c_eq hr) (ve_mod (ve_var 11) (ve_var 5)) ve_int) (vss_cons (vs_set (i := 11) (ve_fd (ve_var 11) (ve_var 5)) nd)
  vss_nil)))
  (vss_cons (vs_ret (ve_c (c_eq hr) (ve_var 11) ve_int))
  vss_nil)))))))))))))
theorem b_law (kV doc pm : Value) (an : Option Addr) (cdv ct : Value) (us : List Value) (h : us.length = 1) : bindArgs (PySem.W.fnOf "law" "law" (defArgs s_law) (defBody s_law) (defScope s_law) .none kV doc pm an cdv ct) ⟨us, []⟩ = pure ((["_law_script"] : List Str).zip us) := match us, h with | [_], _ => rfl
end
end LK85
set_option maxRecDepth 100000
set_option maxHeartbeats 4000000
namespace LK85
open PySem PySem.Spec PyProof.Rows L2 VL
def errNames : List Str := ["PlaitError", "NoCrossing", "NoUnit", "NoPrime"]
theorem spec_law : ∀ ds Qv Xv, LawS ds Qv Xv → ds.length = 1 ∧ w_law (startE N_law ds) ⟨fun _ => Qv ⟨.none, mA⟩, fun r _ => Qv r, fun ex _ => Xv ex⟩ := by
  rintro ds Qv Xv ⟨script_, rfl, hl, hb, h⟩
  refine ⟨rfl, ?_⟩
  have he : startE N_law [scriptD script_] = [some (eScr script_, mS), none, none, none, none, none, none, none, none, none, none, none, none] := by
    rw [st_law]
    have := argS_N (e := eScr) script_
    simp only [eScr] at this ⊢
    simp only [this]
  rw [he]
  have hr : RB (fun _ => True) w_law [some (eScr script_, mS), none, none, none, none, none, none, none, none, none, none, none, none] (F_law script_) (KT eB mA) := by
    unfold F_law w_law
    exact (rs_set (re_eq (re_call (b := (eL eI)) (M := fun (t : (List Int) × Int × (List Int) × Unit) => XD.F_law_row t.1 t.2.1 t.2.2.1) (ra_cons (re_vS 0 eScr (script_)) (ra_cons (re_c (.int 0) eI (0)) (ra_cons (re_2 (opO_out (xo_catF (a := eI))) (re_lstFP (a := eI) [19, 4, 5, 60, 60, 8, 4] (ra_consP (re_c (.int 19) eI (19)) (ra_consP (re_c (.int 4) eI (4)) (ra_consP (re_c (.int 5) eI (5)) (ra_consP (re_c (.int 60) eI (60)) (ra_consP (re_c (.int 60) eI (60)) (ra_consP (re_c (.int 8) eI (8)) (ra_consP (re_c (.int 4) eI (4)) ra_nil)))))))) (re_2Q (xo_rep (a := eI)) (re_lstFP (a := eI) [4, 2] (ra_consP (re_c (.int 4) eI (4)) (ra_consP (re_c (.int 2) eI (2)) ra_nil))) (re_c (.int 18) eI (18)))) ra_nil))) (fun (t : (List Int) × Int × (List Int) × Unit) Q X h => ⟨t.1, t.2.1, t.2.2.1, rfl, h⟩))) (fun some_ => [some (eScr (script_), mS), some ((eL eI) (some_), mA), none, none, none, none, none, none, none, none, none, none, none]) (fun some_ => (rs_set (re_eq (re_2 (opP_out xo_add) (re_c (.int 2) eI (2)) (re_2Q (xo_ixF (a := eI)) (re_vA 1 (eL eI) (some_)) (re_c (.int 1) eI (1))))) (fun strands_ => [some (eScr (script_), mS), some ((eL eI) (some_), mA), some (eI (strands_), mA), none, none, none, none, none, none, none, none, none, none]) (fun strands_ => (rs_set (re_eq (re_lstP (a := (e2 eI eI)) [] ra_nil)) (fun word_ => [some (eScr (script_), mS), some ((eL eI) (some_), mA), some (eI (strands_), mA), some ((eL (e2 eI eI)) (word_), mA), none, none, none, none, none, none, none, none, none]) (fun word_ => (rs_seqN (s := (fun (V297 : (List (Int × Int))) => [some (eScr (script_), mS), some ((eL eI) (some_), mA), some (eI (strands_), mA), some ((eL (e2 eI eI)) (V297), mA), none, none, none, none, none, none, none, none, none])) (rb_forR (s := (fun (V297 : (List (Int × Int))) => [some (eScr (script_), mS), some ((eL eI) (some_), mA), some (eI (strands_), mA), some ((eL (e2 eI eI)) (V297), mA), none, none, none, none, none, none, none, none, none])) (gl := fun (t : Int × Unit) => 0) (gh := fun (t : Int × Unit) => t.1) word_ (ra_cons (re_2Q (xo_ixF (a := eI)) (re_vA 1 (eL eI) (some_)) (re_c (.int 0) eI (0))) ra_nil) (fun _ => ⟨rfl, rfl⟩) (el_c sl_o (el_c sl_o (el_c sl_o (el_c sl_o (el_c sl_n (el_c sl_n (el_c sl_n (el_c sl_n (el_c sl_n (el_c sl_n (el_c sl_n (el_c sl_n (el_c sl_n el_nil))))))))))))) (fun V297 k_ => [some (eScr (script_), mS), some ((eL eI) (some_), mA), some (eI (strands_), mA), some ((eL (e2 eI eI)) (V297), mA), some (eI (k_), mA), none, none, none, none, none, none, none, none]) (fun V297 k_ => (rs_app (a := (e2 eI eI)) (xs := V297) (re_eq (re_tupF (a := (e2 eI eI)) (fun (t : Int × Int × Unit) => (t.1, t.2.1)) (ra_cons (re_2 (opO_out xo_mod) (re_2Q (xo_ixF (a := eI)) (re_vA 1 (eL eI) (some_)) (re_2P xo_add (re_c (.int 7) eI (7)) (re_mulL 2 (re_c (.int 2) eI (2)) (re_vF 4 eI (k_))))) (re_2P xo_sub (re_vF 2 eI (strands_)) (re_c (.int 1) eI (1)))) (ra_cons (re_2 (opP_out xo_sub) (re_mulLO 2 (re_c (.int 2) eI (2)) (re_2Q (xo_ixF (a := eI)) (re_vA 1 (eL eI) (some_)) (re_2P xo_add (re_c (.int 8) eI (8)) (re_mulL 2 (re_c (.int 2) eI (2)) (re_vF 4 eI (k_)))))) (re_c (.int 1) eI (1))) ra_nil)))) (fun word_ => [some (eScr (script_), mS), some ((eL eI) (some_), mA), some (eI (strands_), mA), some ((eL (e2 eI eI)) (word_), mA), some (eI (k_), mA), none, none, none, none, none, none, none, none]) (fun word_ => (rb_next (V := word_) (el_c sl_o (el_c sl_o (el_c sl_o (el_c sl_o (el_c sl_n (el_c sl_n (el_c sl_n (el_c sl_n (el_c sl_n (el_c sl_n (el_c sl_n (el_c sl_n (el_c sl_n el_nil)))))))))))))))))) (fun V297 => (rs_asg (a := (e2 eI eI)) (re_eq (re_call (b := (e2 eI eI)) (M := fun (t : (List Int) × Unit) => F_law_prime t.1) (ra_cons (re_callP (b := (eL eI)) (M := (XD.F_law_row script_ 1 ([10, 99990, 5]))) (ra_consP (re_mO 0 eScr (script_)) (ra_consP (re_c (.int 1) eI (1)) (ra_consP (re_lstFP (a := eI) [10, 99990, 5] (ra_consP (re_c (.int 10) eI (10)) (ra_consP (re_c (.int 99990) eI (99990)) (ra_consP (re_c (.int 5) eI (5)) ra_nil)))) ra_nil))) (fun Q X h => ⟨script_, 1, ([10, 99990, 5]), rfl, h⟩)) ra_nil) (fun (t : (List Int) × Unit) Q X h => ⟨t.1, rfl, h⟩))) (fun p298 => [none, some ((eL eI) (some_), mA), some (eI (strands_), mA), some ((eL (e2 eI eI)) (V297), mA), none, some (eI (p298.1), mA), some (eI (p298.2), mA), none, none, none, none, none, none]) (fun p298 => (rs_asg (a := (e3 (eL (e2 eI eI)) (eL (e2 eI eI)) eI)) (re_eq (re_callPS (b := (e3 (eL (e2 eI eI)) (eL (e2 eI eI)) eI)) (M := (F_law_beside V297 strands_ (cutL some_ (some (2)) none))) (ra_consP (re_mO 3 (eL (e2 eI eI)) (V297)) (ra_consP (re_vF 2 eI (strands_)) (ra_consP (re_slF (a := eI) (re_vA 1 (eL eI) (some_)) (ro_ptP (re_c (.int 2) eI (2))) ro_no) ra_nil))) (fun Q X h => ⟨V297, strands_, (cutL some_ (some (2)) none), rfl, h⟩))) (fun p299 => [none, some ((eL eI) (some_), mA), some (eI (strands_), mA), none, none, some (eI (p298.1), mA), some (eI (p298.2), mA), some ((eL (e2 eI eI)) (p299.1), mS), some ((eL (e2 eI eI)) (p299.2.1), mS), some (eI (p299.2.2), mA), none, none, none]) (fun p299 => (rs_set (re_eq (re_2 (opO_out (xo_ixF (a := eI))) (re_lstFP (a := eI) [1, 2, 7, (10 ^ ((9 : Int).toNat) : Int)] (ra_consP (re_c (.int 1) eI (1)) (ra_consP (re_c (.int 2) eI (2)) (ra_consP (re_c (.int 7) eI (7)) (ra_consP (re_powC 10 9 (re_c (.int 10) eI (10)) (re_c (.int 9) eI (9))) ra_nil))))) (re_2Q (xo_ixF (a := eI)) (re_vA 1 (eL eI) (some_)) (re_c (.int 6) eI (6))))) (fun step_ => [none, some ((eL eI) (some_), mA), some (eI (strands_), mA), none, none, some (eI (p298.1), mA), some (eI (p298.2), mA), some ((eL (e2 eI eI)) (p299.1), mS), some ((eL (e2 eI eI)) (p299.2.1), mS), some (eI (p299.2.2), mA), some (eI (step_), mA), none, none]) (fun step_ => (rs_set (re_eq (re_call (b := eI) (M := fun (t : ((List (List Int)) × (List (Int × Int))) × Int × Int × Unit) => XR3.F_straight_many t.1 t.2.1 t.2.2.1) (ra_cons (re_callP (b := (e2 (eL (eL eI)) (eL (e2 eI eI)))) (M := (F_law_closed p299.1 strands_ 1)) (ra_consP (re_mO 7 (eL (e2 eI eI)) (p299.1)) (ra_consP (re_mF 2 eI (strands_)) (ra_consP (re_c (.int 1) eI (1)) ra_nil))) (fun Q X h => ⟨p299.1, strands_, 1, rfl, h⟩)) (ra_consP (re_vF 5 eI (p298.1)) (ra_consP (re_vF 6 eI (p298.2)) ra_nil))) (fun (t : ((List (List Int)) × (List (Int × Int))) × Int × Int × Unit) Q X h => ⟨t.1, t.2.1, t.2.2.1, rfl, h⟩))) (fun first_ => [none, some ((eL eI) (some_), mA), some (eI (strands_), mA), none, none, some (eI (p298.1), mA), some (eI (p298.2), mA), none, some ((eL (e2 eI eI)) (p299.2.1), mS), some (eI (p299.2.2), mA), some (eI (step_), mA), some (eI (first_), mA), none]) (fun first_ => (rs_ifR kt_kt (rt_eq (rt_not (rt_val (re_callP (b := eB) (M := (XD.F_law_is_whole first_)) (ra_consP (re_vF 11 eI (first_)) ra_nil) (fun Q X h => ⟨first_, rfl, h⟩))))) (rb_retP' (e := eB) false (re_eq (re_c (.bool false) eB (false)))) (rs_set (re_eq (re_call (b := eI) (M := fun (t : ((List (List Int)) × (List (Int × Int))) × Int × Int × Unit) => XR3.F_straight_many t.1 t.2.1 t.2.2.1) (ra_cons (re_callP (b := (e2 (eL (eL eI)) (eL (e2 eI eI)))) (M := (F_law_closed p299.2.1 p299.2.2 step_)) (ra_consP (re_mO 8 (eL (e2 eI eI)) (p299.2.1)) (ra_consP (re_mF 9 eI (p299.2.2)) (ra_consP (re_mF 10 eI (step_)) ra_nil))) (fun Q X h => ⟨p299.2.1, p299.2.2, step_, rfl, h⟩)) (ra_consP (re_vF 5 eI (p298.1)) (ra_consP (re_mF 6 eI (p298.2)) ra_nil))) (fun (t : ((List (List Int)) × (List (Int × Int))) × Int × Int × Unit) Q X h => ⟨t.1, t.2.1, t.2.2.1, rfl, h⟩))) (fun second_ => [none, some ((eL eI) (some_), mA), some (eI (strands_), mA), none, none, some (eI (p298.1), mA), some (eI (p298.2), mA), none, none, some (eI (p299.2.2), mA), some (eI (step_), mA), some (eI (first_), mA), some (eI (second_), mA)]) (fun second_ => (rs_ifRP kt_kt (rt_eq (rt_orP (rt_val (re_2P xo_neI (re_vF 12 eI (second_)) (re_vF 11 eI (first_)))) (rt_val (re_2P xo_lt (re_vF 11 eI (first_)) (re_c (.int 1) eI (1)))))) (rb_retP' (e := eB) false (re_eq (re_c (.bool false) eB (false)))) (rs_seqN (s := (fun (V300 : Int) => [none, some ((eL eI) (some_), mA), some (eI (strands_), mA), none, none, some (eI (p298.1), mA), some (eI (p298.2), mA), none, none, some (eI (p299.2.2), mA), some (eI (step_), mA), some (eI (V300), mA), some (eI (second_), mA)])) (rb_while (s := (fun (V300 : Int) => [none, some ((eL eI) (some_), mA), some (eI (strands_), mA), none, none, some (eI (p298.1), mA), some (eI (p298.2), mA), none, none, some (eI (p299.2.2), mA), some (eI (step_), mA), some (eI (V300), mA), some (eI (second_), mA)])) first_ (el_c sl_n (el_c sl_o (el_c sl_o (el_c sl_n (el_c sl_n (el_c sl_o (el_c sl_o (el_c sl_n (el_c sl_n (el_c sl_o (el_c sl_o (el_c sl_o (el_c sl_o el_nil))))))))))))) (fun V300 => rt_eq (rt_val (re_2 (opP_out xo_eqI) (re_2Q xo_mod (re_vF 11 eI (V300)) (re_vF 5 eI (p298.1))) (re_c (.int 0) eI (0))))) (fun V300 => (rs_set (re_eq (re_2Q xo_fd (re_vF 11 eI (V300)) (re_vF 5 eI (p298.1)))) (fun first_ => [none, some ((eL eI) (some_), mA), some (eI (strands_), mA), none, none, some (eI (p298.1), mA), some (eI (p298.2), mA), none, none, some (eI (p299.2.2), mA), some (eI (step_), mA), some (eI (first_), mA), some (eI (second_), mA)]) (fun first_ => (rb_next (V := first_) (el_c sl_n (el_c sl_o (el_c sl_o (el_c sl_n (el_c sl_n (el_c sl_o (el_c sl_o (el_c sl_n (el_c sl_n (el_c sl_o (el_c sl_o (el_c sl_o (el_c sl_o el_nil)))))))))))))))))) (fun V300 => (rb_retP' (e := eB) (decide (V300 = 1)) (re_eq (re_2P xo_eqI (re_vF 11 eI (V300)) (re_c (.int 1) eI (1)))))))))))))))))))))))))))
  exact of_KT hr ((law_ok script_ hl hb).mono (fun b e => by rw [e]; exact h) fun x e => e.elim)
theorem all_mk {P : Program} {w : World} {K : PySem.W.Frag} {h : Heap} {mg : Str → Option Value} {fa : Addr} (X : K.In h) (G : h.Ns mainGlobals mg) (hfa : mg "law" = some (.ref fa))
    (F_law_cell : FnAt K "_law_cell" s_law_cell)
    (F_law_mix : FnAt K "_law_mix" s_law_mix)
    (F_law_row : FnAt K "_law_row" s_law_row)
    (F_law_prime : FnAt K "_law_prime" s_law_prime)
    (F_law_threes : FnAt K "_law_threes" s_law_threes)
    (F_law_beside : FnAt K "_law_beside" s_law_beside)
    (F_arc_count : FnAt K "arc_count" s_arc_count)
    (F_is_prime : FnAt K "is_prime" s_is_prime)
    (F_asked_prime : FnAt K "asked_prime" s_asked_prime)
    (F_walk_arcs : FnAt K "walk_arcs" s_walk_arcs)
    (F_arcs : FnAt K "arcs" s_arcs)
    (F_spot : FnAt K "spot" s_spot)
    (F_meets : FnAt K "meets" s_meets)
    (F_equations : FnAt K "equations" s_equations)
    (F_first_row : FnAt K "first_row" s_first_row)
    (F_way_back : FnAt K "way_back" s_way_back)
    (F_made_less : FnAt K "made_less" s_made_less)
    (F_cleared : FnAt K "cleared" s_cleared)
    (F_reduced : FnAt K "reduced" s_reduced)
    (F_solved : FnAt K "solved" s_solved)
    (F_straight_many : FnAt K "straight_many" s_straight_many)
    (F_law_ring : FnAt K "_law_ring" s_law_ring)
    (F_law_closed : FnAt K "_law_closed" s_law_closed)
    (F_law_is_whole : FnAt K "_law_is_whole" s_law_is_whole)
    (F_law : FnAt K "law" s_law)
    (O_bool : NoAt K "bool")
    (O_enumerate : NoAt K "enumerate")
    (O_int : NoAt K "int")
    (O_isinstance : NoAt K "isinstance")
    (O_len : NoAt K "len")
    (O_max : NoAt K "max")
    (O_range : NoAt K "range")
    (O_zip : NoAt K "zip")
    (I_GREATEST : IntAt K "GREATEST" 100000)
    (R_NoCrossing : ErrAt K "NoCrossing")
    (R_NoPrime : ErrAt K "NoPrime")
    (R_NoUnit : ErrAt K "NoUnit")
    : ∃ fd : FuncData, (∀ (s : Shared) (v : Value), BindsTo s fd ⟨[v], []⟩ [("_law_script", v)]) ∧ ∀ base : Heap, K.In base → base.Ns mainGlobals mg → FnOk P w K mg base (L2.CX P w) 7 fa fd ["_law_script"] (spOf K (fun _ => none) LawS) := by
  obtain ⟨f0, oc, od, an, osl, kV, doc, pm, cdv, ct, e1, e2, e3, e4⟩ := F_law
  have e := hfa.symm.trans (PySem.W.mg_of X G e1)
  cases e
  have FF := fun_mk (st := s_law) e2 e3 e4
  refine ⟨PySem.W.fnOf "law" "law" (defArgs s_law) (defBody s_law) (defScope s_law) .none kV doc pm an cdv ct, fun s v => .of_eq (b_law kV doc pm an cdv ct [v] rfl), fun base _ _ => ?_⟩
  have E : Ev K mg (clOf errNames mg) := ⟨O_bool.out X G, O_enumerate.out X G, O_int.out X G, O_isinstance.out X G, O_len.out X G, O_max.out X G, O_range.out X G, O_zip.out X G, I_GREATEST.out X G, R_NoCrossing.err X G (by decide), R_NoPrime.err X G (by decide), R_NoUnit.err X G (by decide)⟩
  have G_law_cell : Def P w K mg base (clOf errNames mg) "_law_cell" 2 XD.sp_law_cell lv_law_cell := def_at X G F_law_cell sc_law_cell b_law_cell (d_law_cell E ) spec_law_cell
  have G_law_mix : Def P w K mg base (clOf errNames mg) "_law_mix" 2 XD.sp_law_mix lv_law_mix := def_at X G F_law_mix sc_law_mix b_law_mix (d_law_mix E ) spec_law_mix
  have G_law_row : Def P w K mg base (clOf errNames mg) "_law_row" 3 XD.sp_law_row lv_law_row := def_at X G F_law_row sc_law_row b_law_row (d_law_row E G_law_cell G_law_mix) spec_law_row
  have G_law_prime : Def P w K mg base (clOf errNames mg) "_law_prime" 1 sp_law_prime lv_law_prime := def_at X G F_law_prime sc_law_prime b_law_prime (d_law_prime E ) spec_law_prime
  have G_law_threes : Def P w K mg base (clOf errNames mg) "_law_threes" 2 sp_law_threes lv_law_threes := def_at X G F_law_threes sc_law_threes b_law_threes (d_law_threes E ) spec_law_threes
  have G_law_beside : Def P w K mg base (clOf errNames mg) "_law_beside" 3 sp_law_beside lv_law_beside := def_at X G F_law_beside sc_law_beside b_law_beside (d_law_beside E G_law_threes) spec_law_beside
  have G_arc_count : Def P w K mg base (clOf errNames mg) "arc_count" 1 XC.sp_arc_count lv_arc_count := def_at X G F_arc_count sc_arc_count b_arc_count (d_arc_count E ) spec_arc_count
  have G_is_prime : Def P w K mg base (clOf errNames mg) "is_prime" 1 XR.sp_is_prime lv_is_prime := def_at X G F_is_prime sc_is_prime b_is_prime (d_is_prime E ) spec_is_prime
  have G_asked_prime : Def P w K mg base (clOf errNames mg) "asked_prime" 2 XR.sp_asked_prime lv_asked_prime := def_at X G F_asked_prime sc_asked_prime b_asked_prime (d_asked_prime E G_is_prime) spec_asked_prime
  have G_walk_arcs : Def P w K mg base (clOf errNames mg) "walk_arcs" 2 XA.sp_walk_arcs lv_walk_arcs := def_at X G F_walk_arcs sc_walk_arcs b_walk_arcs (d_walk_arcs E ) spec_walk_arcs
  have G_arcs : Def P w K mg base (clOf errNames mg) "arcs" 1 XA.sp_arcs lv_arcs := def_at X G F_arcs sc_arcs b_arcs (d_arcs E G_walk_arcs) spec_arcs
  have G_spot : Def P w K mg base (clOf errNames mg) "spot" 2 XA.sp_spot lv_spot := def_at X G F_spot sc_spot b_spot (d_spot E ) spec_spot
  have G_meets : Def P w K mg base (clOf errNames mg) "meets" 1 XA.sp_meets lv_meets := def_at X G F_meets sc_meets b_meets (d_meets E G_arcs G_spot) spec_meets
  have G_equations : Def P w K mg base (clOf errNames mg) "equations" 3 XR.sp_equations lv_equations := def_at X G F_equations sc_equations b_equations (d_equations E G_arc_count G_asked_prime G_meets) spec_equations
  have G_first_row : Def P w K mg base (clOf errNames mg) "first_row" 3 XR2.sp_first_row lv_first_row := def_at X G F_first_row sc_first_row b_first_row (d_first_row E ) spec_first_row
  have G_way_back : Def P w K mg base (clOf errNames mg) "way_back" 2 XR2.sp_way_back lv_way_back := def_at X G F_way_back sc_way_back b_way_back (d_way_back E ) spec_way_back
  have G_made_less : Def P w K mg base (clOf errNames mg) "made_less" 4 XR2.sp_made_less lv_made_less := def_at X G F_made_less sc_made_less b_made_less (d_made_less E ) spec_made_less
  have G_cleared : Def P w K mg base (clOf errNames mg) "cleared" 4 XR2.sp_cleared lv_cleared := def_at X G F_cleared sc_cleared b_cleared (d_cleared E G_way_back G_made_less) spec_cleared
  have G_reduced : Def P w K mg base (clOf errNames mg) "reduced" 3 XR2.sp_reduced lv_reduced := def_at X G F_reduced sc_reduced b_reduced (d_reduced E G_first_row G_cleared) spec_reduced
  have G_solved : Def P w K mg base (clOf errNames mg) "solved" 3 XR3.sp_solved lv_solved := def_at X G F_solved sc_solved b_solved (d_solved E G_arc_count G_equations G_reduced) spec_solved
  have G_straight_many : Def P w K mg base (clOf errNames mg) "straight_many" 3 XR3.sp_straight_many lv_straight_many := def_at X G F_straight_many sc_straight_many b_straight_many (d_straight_many E G_solved) spec_straight_many
  have G_law_ring : DefM P w K mg base (clOf errNames mg) "_law_ring" 5 4 sp_law_ring lv_law_ring := def_atM X G F_law_ring sc_law_ring (by decide) b_law_ring (d_law_ring E ) spec_law_ring
  have G_law_closed : Def P w K mg base (clOf errNames mg) "_law_closed" 3 sp_law_closed lv_law_closed := def_at X G F_law_closed sc_law_closed b_law_closed (d_law_closed E G_law_ring) spec_law_closed
  have G_law_is_whole : Def P w K mg base (clOf errNames mg) "_law_is_whole" 1 XD.sp_law_is_whole lv_law_is_whole := def_at X G F_law_is_whole sc_law_is_whole b_law_is_whole (d_law_is_whole E ) spec_law_is_whole
  exact FnOk.imp (def_okF (cl := clOf errNames mg) FF sc_law (d_law E G_law_row G_law_prime G_law_beside G_straight_many G_law_closed G_law_is_whole _) spec_law) lawS_cl
end LK85
open PySem PySem.W PyProof.Rows
set_option maxHeartbeats 0 in
theorem PySem.Challenge.cw_plait_k85_whole_words_of_plaits_holds : PySem.Challenge.rw_plait_k85_whole_words_of_plaits.Holds := by
  w_on; o_law; k_head; (case hw => w_witness2)
  k_fill
  refine L2.walk_ofB (l := PySem.Challenge.rw_plait_k85_whole_words_of_plaits) (n := 63) (k := 7) (x := "_law_script") (CX := fun w => L2.CX PySem.Challenge.rw_plait_k85_whole_words_of_plaits.prog w) (sp := fun w => VL.spOf _ (fun _ => none) VL.LawS) rfl (by decide) rfl ⟨rfl, by decide, by decide⟩ (fun w h Y => PySem.W.kIn_of Y) ?F (fun w H a ns hl hb hO hS => VL.law_sp hl hb hO hS) (fun _ _ _ _ _ h => by obtain ⟨_, _, _, _, _, _, _, _, _, _, _, _, h⟩ := h; exact h)
  case F =>
    intro w mg fa h KX G hmg
    refine' LK85.all_mk KX G hmg (VL.FnAt.mk ?z1 ?z2 ?z3 ?z4) (VL.FnAt.mk ?z5 ?z6 ?z7 ?z8) (VL.FnAt.mk ?z9 ?z10 ?z11 ?z12) (VL.FnAt.mk ?z13 ?z14 ?z15 ?z16) (VL.FnAt.mk ?z17 ?z18 ?z19 ?z20) (VL.FnAt.mk ?z21 ?z22 ?z23 ?z24) (VL.FnAt.mk ?z25 ?z26 ?z27 ?z28) (VL.FnAt.mk ?z29 ?z30 ?z31 ?z32) (VL.FnAt.mk ?z33 ?z34 ?z35 ?z36) (VL.FnAt.mk ?z37 ?z38 ?z39 ?z40) (VL.FnAt.mk ?z41 ?z42 ?z43 ?z44) (VL.FnAt.mk ?z45 ?z46 ?z47 ?z48) (VL.FnAt.mk ?z49 ?z50 ?z51 ?z52) (VL.FnAt.mk ?z53 ?z54 ?z55 ?z56) (VL.FnAt.mk ?z57 ?z58 ?z59 ?z60) (VL.FnAt.mk ?z61 ?z62 ?z63 ?z64) (VL.FnAt.mk ?z65 ?z66 ?z67 ?z68) (VL.FnAt.mk ?z69 ?z70 ?z71 ?z72) (VL.FnAt.mk ?z73 ?z74 ?z75 ?z76) (VL.FnAt.mk ?z77 ?z78 ?z79 ?z80) (VL.FnAt.mk ?z81 ?z82 ?z83 ?z84) (VL.FnAt.mk ?z85 ?z86 ?z87 ?z88) (VL.FnAt.mk ?z89 ?z90 ?z91 ?z92) (VL.FnAt.mk ?z93 ?z94 ?z95 ?z96) (VL.FnAt.mk ?z97 ?z98 ?z99 ?z100) (VL.NoAt.mk ?z101) (VL.NoAt.mk ?z102) (VL.NoAt.mk ?z103) (VL.NoAt.mk ?z104) (VL.NoAt.mk ?z105) (VL.NoAt.mk ?z106) (VL.NoAt.mk ?z107) (VL.NoAt.mk ?z108) (VL.IntAt.mk ?z109) (VL.ErrAt.mk ?z110 ?z111 ?z112 ?z113 ?z114) (VL.ErrAt.mk ?z115 ?z116 ?z117 ?z118 ?z119) (VL.ErrAt.mk ?z120 ?z121 ?z122 ?z123 ?z124)
    (case z1 => k_is); (case z2 => k_is); (case z3 => k_is); (case z4 => k_is)
    (case z5 => k_is); (case z6 => k_is); (case z7 => k_is); (case z8 => k_is)
    (case z9 => k_is); (case z10 => k_is); (case z11 => k_is); (case z12 => k_is)
    (case z13 => k_is); (case z14 => k_is); (case z15 => k_is); (case z16 => k_is)
    (case z17 => k_is); (case z18 => k_is); (case z19 => k_is); (case z20 => k_is)
    (case z21 => k_is); (case z22 => k_is); (case z23 => k_is); (case z24 => k_is)
    (case z25 => k_is); (case z26 => k_is); (case z27 => k_is); (case z28 => k_is)
    (case z29 => k_is); (case z30 => k_is); (case z31 => k_is); (case z32 => k_is)
    (case z33 => k_is); (case z34 => k_is); (case z35 => k_is); (case z36 => k_is)
    (case z37 => k_is); (case z38 => k_is); (case z39 => k_is); (case z40 => k_is)
    (case z41 => k_is); (case z42 => k_is); (case z43 => k_is); (case z44 => k_is)
    (case z45 => k_is); (case z46 => k_is); (case z47 => k_is); (case z48 => k_is)
    (case z49 => k_is); (case z50 => k_is); (case z51 => k_is); (case z52 => k_is)
    (case z53 => k_is); (case z54 => k_is); (case z55 => k_is); (case z56 => k_is)
    (case z57 => k_is); (case z58 => k_is); (case z59 => k_is); (case z60 => k_is)
    (case z61 => k_is); (case z62 => k_is); (case z63 => k_is); (case z64 => k_is)
    (case z65 => k_is); (case z66 => k_is); (case z67 => k_is); (case z68 => k_is)
    (case z69 => k_is); (case z70 => k_is); (case z71 => k_is); (case z72 => k_is)
    (case z73 => k_is); (case z74 => k_is); (case z75 => k_is); (case z76 => k_is)
    (case z77 => k_is); (case z78 => k_is); (case z79 => k_is); (case z80 => k_is)
    (case z81 => k_is); (case z82 => k_is); (case z83 => k_is); (case z84 => k_is)
    (case z85 => k_is); (case z86 => k_is); (case z87 => k_is); (case z88 => k_is)
    (case z89 => k_is); (case z90 => k_is); (case z91 => k_is); (case z92 => k_is)
    (case z93 => k_is); (case z94 => k_is); (case z95 => k_is); (case z96 => k_is)
    (case z97 => k_is); (case z98 => k_is); (case z99 => k_is); (case z100 => k_is)
    (case z101 => k_is)
    (case z102 => k_is)
    (case z103 => k_is)
    (case z104 => k_is)
    (case z105 => k_is)
    (case z106 => k_is)
    (case z107 => k_is)
    (case z108 => k_is)
    (case z109 => k_is)
    (case z110 => k_is); (case z111 => k_exc); (case z112 => k_is); (case z113 => k_is); (case z114 => k_is)
    (case z115 => k_is); (case z116 => k_exc); (case z117 => k_is); (case z118 => k_is); (case z119 => k_is)
    (case z120 => k_is); (case z121 => k_exc); (case z122 => k_is); (case z123 => k_is); (case z124 => k_is)
