import PyProof.Rows.All
import Wide.All
import OpenK.AllK
import Wide.FinOn
import HandS.ForMost
import HandS.ForExc
import HandS.More
import HandS.Wide
import HandS.Deep
import HandS.IsInst
import HandS.Style
import HandS.ExcIs
import HandS.ExcField
import HandS.TupAny
import HandS.EndBits
import HandS.Conv
import HandS.SortInts
import HandS.TupLe
import HandS.Flt
import KE.DatumOrd
import KE.LtSeq
import HandS.SortRule
import HandS.DictTup
import HandS.ExcValue
import HandS.ExcOwn
import HandS.SetKeys
import HandS.TupLen
import KE.SortData
import HandS.SetFor
import KE.DataMinMax
import HandS.ExcInit
import HandS.WordsExc
import KE.KExcIs
import HandS.Zip
import HandS.Text
import HandS.Iter
import HandS.Exc
import HandS.WrittenGet
import HandS.Codes
import PySem.Challenge.RW_plait_k11_first_fault
set_option Elab.async false
set_option linter.all false
set_option maxRecDepth 100000
set_option maxHeartbeats 4000000
namespace VL
open PySem PySem.Spec PyProof.Rows L2
abbrev D := PyData
structure Kp (A : Addr → Prop) (H H' : Hp) : Prop where
  at_ : ∀ b o, A b → H b = some o → H' b = some o
  tup : ∀ b xs, H b = some (.tup xs) → H' b = some (.tup xs)
  frz : ∀ b o u, H b = some (.frz o u) → H' b = some (.frz o u)
theorem Kp.same {A : Addr → Prop} {H H' : Hp} (s : Same H H') : Kp A H H' := ⟨fun b o _ h => s b o h, fun b xs h => s b _ h, fun b o u h => s b _ h⟩
theorem Kp.mono {A A' : Addr → Prop} {H H' : Hp} (k : Kp A' H H') (h : ∀ b, A b → A' b) : Kp A H H' := ⟨fun b o a e => k.at_ b o (h b a) e, k.tup, k.frz⟩
theorem Kp.trans {A : Addr → Prop} {H H1 H2 : Hp} (a : Kp A H H1) (b : Kp A H1 H2) : Kp A H H2 := ⟨fun c o x h => b.at_ c o x (a.at_ c o x h), fun c xs h => b.tup c xs (a.tup c xs h), fun c o u h => b.frz c o u (a.frz c o u h)⟩
def mutO : HO → Prop
  | .lst _ => True | .dK _ => True | .dT _ => True | .ins _ _ _ => True | .set _ _ => True
  | _ => False
theorem Kp.write {A : Addr → Prop} {H : Hp} {a : Addr} {o o' : HO} (h : H a = some o) (m : mutO o) (n : ¬ A a) : Kp A H (upd H a o') :=
  ⟨fun b u x e => by rw [upd_ne (fun z => by subst z; exact n x)]; exact e,
   fun b xs e => by
    rw [upd_ne (fun z => by subst z; rw [h] at e; cases e; exact m)]; exact e,
   fun b u w e => by
    rw [upd_ne (fun z => by subst z; rw [h] at e; cases e; exact m)]; exact e⟩
theorem sqt_keep {K : PySem.W.Frag} {A : Addr → Prop} {H H' : Hp} {a : Addr} {xs : List V} (k : Kp A H H') (h : SqT K H a xs) : SqT K H' a xs := by
  rcases h with (h | ⟨o, h⟩) | h
  · exact .inl (.inl (k.tup _ _ h))
  · exact .inl (.inr ⟨o, k.frz _ _ _ h⟩)
  · exact .inr h
def SqF (K : PySem.W.Frag) (H : Hp) (a : Addr) (xs : List V) : Prop :=
  (∃ o, H a = some (.frz o (.lst xs))) ∨
    ∃ (o : Obj) (its : Array Value) (n : Nat), K.lookup a = some o ∧ o.cls = .type "list" ∧ o.dict = none ∧ o.data = .seq its n ∧ its.size ≤ sizeLine ∧ Vals xs its.toList
theorem SqF.seq {K : PySem.W.Frag} {H : Hp} {a : Addr} {xs : List V} (h : SqF K H a xs) : SqL K H a xs := by
  rcases h with ⟨o, h⟩ | h
  · exact .inl (.inr ⟨o, h⟩)
  · exact .inr h
theorem sqf_keep {K : PySem.W.Frag} {A : Addr → Prop} {H H' : Hp} {a : Addr} {xs : List V} (k : Kp A H H') (h : SqF K H a xs) : SqF K H' a xs := by
  rcases h with ⟨o, h⟩ | h
  · exact .inl ⟨o, k.frz _ _ _ h⟩
  · exact .inr h
def kD : Key → D
  | .inl i => .int i
  | .inr x => .str x
def mkDict (t : Bool) (ds : List (D × D)) : D := .dict (if t then (.none, .none) :: ds else ds)
def scriptD (ns : List Int) : D := .dict [(.list [], .list (ns.map .int))]
def opD (a : Addr) : D := .dict [(.list [.none], .int (a : Nat))]
def wtD (zs : List Str) : D := .dict [(.list [.bool false], .tuple (zs.map .str))]
def WTup (K : PySem.W.Frag) (a : Addr) (xs : List V) : Prop :=
  ∃ (o : Obj) (its : Array Value) (n : Nat), K.lookup a = some o ∧ o.cls = .type "tuple" ∧ o.data = .seq its n ∧ its.size ≤ sizeLine ∧ Vals xs its.toList
theorem _root_.L2.SqT.sm {K : PySem.W.Frag} {H H' : Hp} {a : Addr} {xs : List V} (h : SqT K H a xs) (s : Same H H') : SqT K H' a xs := sqt_keep (A := fun _ => False) (Kp.same s) h
def insD (cls : Str) (fs : List (Str × D)) : D := .dict ((.list [.bool true], .str cls) :: fs.map fun p => (.str p.1, p.2))
def clsK (K : PySem.W.Frag) (n : Str) : Option Addr := match PySem.W.nsIn K mainGlobals n with
  | some (some (.ref C)) => some C
  | _ => none
def DictAt (H : Hp) (a : Addr) (kvs : List (D × V)) (t : Bool) : Prop :=
  (t = false ∧ ∃ k' : List (Key × V), H a = some (.dK k') ∧ kvs = k'.map fun p => (kD p.1, p.2)) ∨
  (t = true ∧ ∃ k' : List (List Key × V), H a = some (.dT k') ∧ kvs = k'.map fun p => (.tuple (p.1.map kD), p.2))
theorem DictAt.at {H H' : Hp} {a : Addr} {kvs : List (D × V)} {t : Bool} (h : DictAt H a kvs t) (e : ∀ o, H a = some o → H' a = some o) : DictAt H' a kvs t := by
  rcases h with ⟨ht, k', h, q⟩ | ⟨ht, k', h, q⟩
  · exact .inl ⟨ht, k', e _ h, q⟩
  · exact .inr ⟨ht, k', e _ h, q⟩
theorem DictAt.mut {H : Hp} {a : Addr} {kvs : List (D × V)} {t : Bool} (h : DictAt H a kvs t) : ∃ o, H a = some o ∧ mutO o := by
  rcases h with ⟨_, k', h, _⟩ | ⟨_, k', h, _⟩
  · exact ⟨_, h, trivial⟩
  · exact ⟨_, h, trivial⟩
mutual
def flatD : D → Bool
  | .list _ => false
  | .dict _ => false
  | .tuple ds => flatAll ds
  | _ => true
def flatAll : List D → Bool
  | [] => true
  | d :: ds => flatD d && flatAll ds
end
mutual
inductive RS (K : PySem.W.Frag) (A : Addr → Prop) (H : Hp) : V → D → Prop
  | non : RS K A H .non .none
  | bl (b : Bool) : RS K A H (.bl b) (.bool b)
  | int (i : Int) : RS K A H (.int i) (.int i)
  | str (x : Str) : RS K A H (.str x) (.str x)
  | lst {a : Addr} {xs : List V} {ds : List D} : H a = some (.lst xs) → A a → RSs K A H xs ds → RS K A H (.ref a) (.list ds)
  | tup {a : Addr} {xs : List V} {ds : List D} : H a = some (.tup xs) → RSs K A H xs ds → RS K A H (.ref a) (.tuple ds)
  | dct {a : Addr} {kvs : List (D × V)} {t : Bool} {ds : List (D × D)} : DictAt H a kvs t → A a → kvs.map (·.1) = ds.map (·.1) → RSs K A H (kvs.map (·.2)) (ds.map (·.2)) → RS K A H (.ref a) (mkDict t ds)
  | scr {a : Addr} {ns : List Int} : SqF K H a (ns.map V.int) → RS K A H (.ref a) (scriptD ns)
  | opq (a : Addr) : RS K A H (.ref a) (opD a)
  | wtp {a : Addr} {zs : List Str} : WTup K a (zs.map V.str) → RS K A H (.ref a) (wtD zs)
  | ins {a C dx : Addr} {vs : List (Str × V)} {cls : Str} {fs : List (Str × D)} : H a = some (.ins C dx vs) → A a → clsK K cls = some C → vs.map (·.1) = fs.map (·.1) → RSs K A H (vs.map (·.2)) (fs.map (·.2)) → RS K A H (.ref a) (insD cls fs)
inductive RSs (K : PySem.W.Frag) (A : Addr → Prop) (H : Hp) : List V → List D → Prop
  | nil : RSs K A H [] []
  | cons {v : V} {vs : List V} {d : D} {ds : List D} : RS K A H v d → RSs K A H vs ds → RSs K A H (v :: vs) (d :: ds)
end
def popM : Option Nat → Option (Option Nat)
  | none => some none
  | some 0 => none
  | some (n + 1) => some (some n)
def succM : Option Nat → Option Nat
  | none => none
  | some n => some (n + 1)
theorem pop_succ (m : Option Nat) : popM (succM m) = some m := by cases m <;> rfl
mutual
inductive RO (K : PySem.W.Frag) (A : Addr → Prop) (H : Hp) : Option Nat → V → D → List Addr → Prop
  | sh {v : V} {d : D} : RS K A H v d → RO K A H (some 0) v d []
  | flat {m : Option Nat} {v : V} {d : D} : RS K A H v d → flatD d = true → RO K A H m v d []
  | lst {m n : Option Nat} {a : Addr} {xs : List V} {ds : List D} {l : List Addr} : popM m = some n → H a = some (.lst xs) → ROs K A H n xs ds l → RO K A H m (.ref a) (.list ds) (a :: l)
  | opq {m : Option Nat} (a : Addr) : RO K A H m (.ref a) (opD a) []
  | wtp {m : Option Nat} {a : Addr} {zs : List Str} : WTup K a (zs.map V.str) → RO K A H m (.ref a) (wtD zs) []
  | ins {m n : Option Nat} {a C dx : Addr} {vs : List (Str × V)} {cls : Str} {fs : List (Str × D)} {l : List Addr} : popM m = some n → H a = some (.ins C dx vs) → clsK K cls = some C → vs.map (·.1) = fs.map (·.1) → ROs K A H n (vs.map (·.2)) (fs.map (·.2)) l → RO K A H m (.ref a) (insD cls fs) (a :: l)
  | tup {m : Option Nat} {a : Addr} {xs : List V} {ds : List D} {l : List Addr} : H a = some (.tup xs) → ROs K A H m xs ds l → RO K A H m (.ref a) (.tuple ds) l
  | dct {m n : Option Nat} {a : Addr} {kvs : List (D × V)} {t : Bool} {ds : List (D × D)} {l : List Addr} : popM m = some n → DictAt H a kvs t → kvs.map (·.1) = ds.map (·.1) → ROs K A H n (kvs.map (·.2)) (ds.map (·.2)) l → RO K A H m (.ref a) (mkDict t ds) (a :: l)
inductive ROs (K : PySem.W.Frag) (A : Addr → Prop) (H : Hp) : Option Nat → List V → List D → List Addr → Prop
  | nil {m : Option Nat} : ROs K A H m [] [] []
  | cons {m : Option Nat} {v : V} {vs : List V} {d : D} {ds : List D} {l1 l2 : List Addr} : RO K A H m v d l1 → ROs K A H m vs ds l2 → ROs K A H m (v :: vs) (d :: ds) (l1 ++ l2)
end
section
variable {K : PySem.W.Frag} {A A' : Addr → Prop} {H H' : Hp}
mutual
theorem RS.keep (k : Kp A H H') : ∀ {v : V} {d : D}, RS K A H v d → RS K A H' v d
  | _, _, .non => .non
  | _, _, .bl b => .bl b
  | _, _, .int i => .int i
  | _, _, .str x => .str x
  | _, _, .lst h a r => .lst (k.at_ _ _ a h) a (RSs.keep k r)
  | _, _, .tup h r => .tup (k.tup _ _ h) (RSs.keep k r)
  | _, _, .dct h a e r => .dct (h.at fun o q => k.at_ _ _ a q) a e (RSs.keep k r)
  | _, _, .scr h => .scr (sqf_keep k h)
  | _, _, .opq a => .opq a
  | _, _, .wtp a => .wtp a
  | _, _, .ins h a c e r => .ins (k.at_ _ _ a h) a c e (RSs.keep k r)
theorem RSs.keep (k : Kp A H H') : ∀ {v : List V} {d : List D}, RSs K A H v d → RSs K A H' v d
  | _, _, .nil => .nil
  | _, _, .cons h r => .cons (RS.keep k h) (RSs.keep k r)
end
mutual
theorem RS.mono (k : ∀ b o, A b → H b = some o → A' b) : ∀ {v : V} {d : D}, RS K A H v d → RS K A' H v d
  | _, _, .non => .non
  | _, _, .bl b => .bl b
  | _, _, .int i => .int i
  | _, _, .str x => .str x
  | _, _, .lst h a r => .lst h (k _ _ a h) (RSs.mono k r)
  | _, _, .tup h r => .tup h (RSs.mono k r)
  | _, _, .dct h a e r => .dct h (let ⟨_, q, _⟩ := h.mut; k _ _ a q) e (RSs.mono k r)
  | _, _, .scr h => .scr h
  | _, _, .opq a => .opq a
  | _, _, .wtp a => .wtp a
  | _, _, .ins h a c e r => .ins h (k _ _ a h) c e (RSs.mono k r)
theorem RSs.mono (k : ∀ b o, A b → H b = some o → A' b) : ∀ {v : List V} {d : List D}, RSs K A H v d → RSs K A' H v d
  | _, _, .nil => .nil
  | _, _, .cons h r => .cons (RS.mono k h) (RSs.mono k r)
end
theorem flat_dict {t : Bool} {ds : List (D × D)} : flatD (mkDict t ds) = false := by cases t <;> simp [mkDict, flatD]
theorem flat_script {ns : List Int} : flatD (scriptD ns) = false := rfl
mutual
theorem RS.flat : ∀ {v : V} {d : D}, RS K A H v d → flatD d = true → RS K A' H v d
  | _, _, .non, _ => .non
  | _, _, .bl b, _ => .bl b
  | _, _, .int i, _ => .int i
  | _, _, .str x, _ => .str x
  | _, _, .lst h a r, f => by simp [flatD] at f
  | _, _, .tup h r, f => .tup h (RSs.flat r (by simpa [flatD] using f))
  | _, _, .dct h a e r, f => by rw [flat_dict] at f; cases f
  | _, _, .scr h, f => by rw [flat_script] at f; cases f
  | _, _, .opq a, _ => .opq a
  | _, _, .wtp a, _ => .wtp a
  | _, _, .ins (fs := fs) h a c e r, f => by cases fs <;> cases f
theorem RSs.flat : ∀ {v : List V} {d : List D}, RSs K A H v d → flatAll d = true → RSs K A' H v d
  | _, _, .nil, _ => .nil
  | _, _, .cons h r, f => by
    simp only [flatAll, Bool.and_eq_true] at f
    exact .cons (RS.flat h f.1) (RSs.flat r f.2)
end
theorem RSs.len : ∀ {vs : List V} {ds : List D}, RSs K A H vs ds → vs.length = ds.length
  | _, _, .nil => rfl
  | _, _, .cons _ r => by simp [RSs.len r]
theorem RSs.get : ∀ {vs : List V} {ds : List D} {i : Nat} {d : D}, RSs K A H vs ds → ds[i]? = some d → ∃ v, vs[i]? = some v ∧ RS K A H v d
  | _, _, _, _, .nil, e => by simp at e
  | _, _, 0, _, .cons h _, e => by simp at e; subst e; exact ⟨_, rfl, h⟩
  | _, _, i + 1, d, .cons _ r, e => by
    obtain ⟨v, h1, h2⟩ := RSs.get (i := i) r (by simpa using e)
    exact ⟨v, by simpa using h1, h2⟩
theorem RSs.append : ∀ {xs ys : List V} {ds es : List D}, RSs K A H xs ds → RSs K A H ys es → RSs K A H (xs ++ ys) (ds ++ es)
  | _, _, _, _, .nil, s => s
  | _, _, _, _, .cons h r, s => .cons h (RSs.append r s)
theorem RSs.take : ∀ {xs : List V} {ds : List D} (n : Nat), RSs K A H xs ds → RSs K A H (xs.take n) (ds.take n)
  | _, _, 0, _ => .nil
  | _, _, _ + 1, .nil => .nil
  | _, _, n + 1, .cons h r => .cons h (RSs.take n r)
theorem RSs.drop : ∀ {xs : List V} {ds : List D} (n : Nat), RSs K A H xs ds → RSs K A H (xs.drop n) (ds.drop n)
  | _, _, 0, r => r
  | _, _, _ + 1, .nil => .nil
  | _, _, n + 1, .cons h r => RSs.drop n r
theorem RSs.rep {xs : List V} {ds : List D} (h : RSs K A H xs ds) : ∀ k : Nat, RSs K A H (List.replicate k xs).flatten (List.replicate k ds).flatten
  | 0 => .nil
  | k + 1 => by
    simp only [List.replicate_succ, List.flatten_cons]
    exact RSs.append h (RSs.rep h k)
mutual
theorem RS.dp : ∀ {v : V} {d : D}, RS K A H v d → d.canLay0 = true → Dp K H v d
  | _, _, .non, _ => .non
  | _, _, .bl b, _ => .bl b
  | _, _, .int i, _ => .int i
  | _, _, .str x, _ => .str x
  | _, _, .lst h a r, f => .lst (SqL.of h) (RSs.dp r (by simpa [PyData.canLay0] using f))
  | _, _, .tup h r, f => .tup (SqT.of h) (RSs.dp r (by simpa [PyData.canLay0] using f))
  | _, _, .dct h a e r, f => by simp [mkDict, PyData.canLay0] at f
  | _, _, .scr h, f => by simp [scriptD, PyData.canLay0] at f
  | _, _, .opq a, f => by simp [opD, PyData.canLay0] at f
  | _, _, .wtp a, f => by simp [wtD, PyData.canLay0] at f
  | _, _, .ins h a c e r, f => by simp [insD, PyData.canLay0] at f
theorem RSs.dp : ∀ {v : List V} {d : List D}, RSs K A H v d → PyData.canLayAll0 d = true → DpAll K H v d
  | _, _, .nil, _ => .nil
  | _, _, .cons h r, f => by
    simp only [PyData.canLayAll0, Bool.and_eq_true] at f
    exact .cons (RS.dp h f.1) (RSs.dp r f.2)
end
mutual
theorem RO.keep {m : Option Nat} (k : Kp A H H') : ∀ {v : V} {d : D} {l : List Addr}, RO K A H m v d l → (∀ b ∈ l, ∀ o, H b = some o → H' b = some o) → RO K A H' m v d l
  | _, _, _, .sh r, _ => .sh (r.keep k)
  | _, _, _, .flat r f, _ => .flat (r.keep k) f
  | _, _, _, .lst p h r, q => .lst p (q _ List.mem_cons_self _ h) (ROs.keep k r fun b hb => q b (List.mem_cons_of_mem _ hb))
  | _, _, _, .opq a, _ => .opq a
  | _, _, _, .wtp a, _ => .wtp a
  | _, _, _, .ins p h c e r, q => .ins p (q _ List.mem_cons_self _ h) c e (ROs.keep k r fun b hb => q b (List.mem_cons_of_mem _ hb))
  | _, _, _, .tup h r, q => .tup (k.tup _ _ h) (ROs.keep k r q)
  | _, _, _, .dct p h e r, q => .dct p (h.at (q _ List.mem_cons_self)) e (ROs.keep k r fun b hb => q b (List.mem_cons_of_mem _ hb))
theorem ROs.keep {m : Option Nat} (k : Kp A H H') : ∀ {v : List V} {d : List D} {l : List Addr}, ROs K A H m v d l → (∀ b ∈ l, ∀ o, H b = some o → H' b = some o) → ROs K A H' m v d l
  | _, _, _, .nil, _ => .nil
  | _, _, _, .cons h r, q => .cons (RO.keep k h fun b hb => q b (List.mem_append_left _ hb)) (ROs.keep k r fun b hb => q b (List.mem_append_right _ hb))
end
mutual
theorem RO.mono {m : Option Nat} (k : ∀ b o, A b → H b = some o → A' b) : ∀ {v : V} {d : D} {l : List Addr}, RO K A H m v d l → RO K A' H m v d l
  | _, _, _, .sh r => .sh (r.mono k)
  | _, _, _, .flat r f => .flat (r.mono k) f
  | _, _, _, .lst p h r => .lst p h (ROs.mono k r)
  | _, _, _, .opq a => .opq a
  | _, _, _, .wtp a => .wtp a
  | _, _, _, .ins p h c e r => .ins p h c e (ROs.mono k r)
  | _, _, _, .tup h r => .tup h (ROs.mono k r)
  | _, _, _, .dct p h e r => .dct p h e (ROs.mono k r)
theorem ROs.mono {m : Option Nat} (k : ∀ b o, A b → H b = some o → A' b) : ∀ {v : List V} {d : List D} {l : List Addr}, ROs K A H m v d l → ROs K A' H m v d l
  | _, _, _, .nil => .nil
  | _, _, _, .cons h r => .cons (RO.mono k h) (ROs.mono k r)
end
theorem ROs.toSh : ∀ {v : List V} {d : List D}, RSs K A H v d → ROs K A H (some 0) v d []
  | _, _, .nil => .nil
  | _, _, .cons h r => .cons (.sh h) (ROs.toSh r)
mutual
theorem RO.all {m : Option Nat} (hm : m = none) : ∀ {v : V} {d : D} {l : List Addr}, RO K A H m v d l → RO K A' H m v d l
  | _, _, _, .sh r => by cases hm
  | _, _, _, .flat r f => .flat (r.flat f) f
  | _, _, _, .lst p h r => .lst p h (ROs.all (by subst hm; cases p; rfl) r)
  | _, _, _, .opq a => .opq a
  | _, _, _, .wtp a => .wtp a
  | _, _, _, .ins p h c e r => .ins p h c e (ROs.all (by subst hm; cases p; rfl) r)
  | _, _, _, .tup h r => .tup h (ROs.all hm r)
  | _, _, _, .dct p h e r => .dct p h e (ROs.all (by subst hm; cases p; rfl) r)
theorem ROs.all {m : Option Nat} (hm : m = none) : ∀ {v : List V} {d : List D} {l : List Addr}, ROs K A H m v d l → ROs K A' H m v d l
  | _, _, _, .nil => .nil
  | _, _, _, .cons h r => .cons (RO.all hm h) (ROs.all hm r)
end
mutual
theorem RO.share {m : Option Nat} : ∀ {v : V} {d : D} {l : List Addr}, RO K A H m v d l → (∀ b ∈ l, A b) → RS K A H v d
  | _, _, _, .sh r, _ => r
  | _, _, _, .flat r f, _ => r
  | _, _, _, .lst p h r, q => .lst h (q _ List.mem_cons_self) (ROs.share r fun b hb => q b (List.mem_cons_of_mem _ hb))
  | _, _, _, .opq a, _ => .opq a
  | _, _, _, .wtp a, _ => .wtp a
  | _, _, _, .ins p h c e r, q => .ins h (q _ List.mem_cons_self) c e (ROs.share r fun b hb => q b (List.mem_cons_of_mem _ hb))
  | _, _, _, .tup h r, q => .tup h (ROs.share r q)
  | _, _, _, .dct p h e r, q => .dct h (q _ List.mem_cons_self) e (ROs.share r fun b hb => q b (List.mem_cons_of_mem _ hb))
theorem ROs.share {m : Option Nat} : ∀ {v : List V} {d : List D} {l : List Addr}, ROs K A H m v d l → (∀ b ∈ l, A b) → RSs K A H v d
  | _, _, _, .nil, _ => .nil
  | _, _, _, .cons h r, q => .cons (RO.share h fun b hb => q b (List.mem_append_left _ hb)) (ROs.share r fun b hb => q b (List.mem_append_right _ hb))
end
mutual
theorem RO.zero : ∀ {v : V} {d : D} {l : List Addr}, RO K A H (some 0) v d l → RS K A H v d
  | _, _, _, .sh r => r
  | _, _, _, .flat r _ => r
  | _, _, _, .opq a => .opq a
  | _, _, _, .wtp a => .wtp a
  | _, _, _, .tup h r => .tup h (ROs.zero r)
theorem ROs.zero : ∀ {vs : List V} {ds : List D} {l : List Addr}, ROs K A H (some 0) vs ds l → RSs K A H vs ds
  | _, _, _, .nil => .nil
  | _, _, _, .cons h r => .cons (RO.zero h) (ROs.zero r)
end
mutual
theorem RO.there {m : Option Nat} : ∀ {v : V} {d : D} {l : List Addr}, RO K A H m v d l → ∀ b ∈ l, ∃ o, H b = some o ∧ mutO o
  | _, _, _, .sh r, b, hb => by cases hb
  | _, _, _, .flat r f, b, hb => by cases hb
  | _, _, _, .lst p h r, b, hb => by
    rcases List.mem_cons.mp hb with rfl | hb
    · exact ⟨_, h, trivial⟩
    · exact ROs.there r b hb
  | _, _, _, .opq a, b, hb => by cases hb
  | _, _, _, .wtp a, b, hb => by cases hb
  | _, _, _, .ins p h c e r, b, hb => by
    rcases List.mem_cons.mp hb with rfl | hb
    · exact ⟨_, h, trivial⟩
    · exact ROs.there r b hb
  | _, _, _, .tup h r, b, hb => ROs.there r b hb
  | _, _, _, .dct p h e r, b, hb => by
    rcases List.mem_cons.mp hb with rfl | hb
    · exact h.mut
    · exact ROs.there r b hb
theorem ROs.there {m : Option Nat} : ∀ {v : List V} {d : List D} {l : List Addr}, ROs K A H m v d l → ∀ b ∈ l, ∃ o, H b = some o ∧ mutO o
  | _, _, _, .nil, b, hb => by cases hb
  | _, _, _, .cons h r, b, hb => (List.mem_append.mp hb).elim (RO.there h b) (ROs.there r b)
end
theorem RO.of_flat {m : Option Nat} {v : V} {d : D} {l : List Addr} (r : RO K A H m v d l) (f : flatD d = true) : RS K A' H v d :=
  (RO.share (RO.mono (A' := fun _ => True) (fun _ _ _ _ => trivial) r) fun _ _ => trivial).flat f
def AT (B : Addr → Prop) (T : List Addr) : Addr → Prop := fun b => B b ∧ b ∉ T
def leM : Option Nat → Option Nat → Bool
  | some a, some b => decide (a ≤ b)
  | _, none => true
  | none, some _ => false
theorem leM_refl (m : Option Nat) : leM m m = true := by cases m <;> simp [leM]
theorem leM_pop {m' m n : Option Nat} (h : leM m' m = true) (p : popM m = some n) (z : m' ≠ some 0) : ∃ n', popM m' = some n' ∧ leM n' n = true := by
  match m', m, z, h, p with
  | none, none, _, _, p => exact ⟨none, rfl, by cases p; rfl⟩
  | some (k + 1), none, _, _, p => exact ⟨some k, rfl, by cases p; rfl⟩
  | some (k + 1), some (j + 1), _, h, p => exact ⟨some k, rfl, by cases p; simpa [leM] using h⟩
theorem AT.less {B : Addr → Prop} {T T' : List Addr} (h : ∀ b ∈ T', b ∈ T) {b : Addr} (a : AT B T b) : AT B T' b := ⟨a.1, fun z => a.2 (h _ z)⟩
section
variable {B : Addr → Prop} {T : List Addr}
mutual
theorem RO.weak {m m' : Option Nat} {v : V} {d : D} {l : List Addr} (hm : leM m' m = true) (z : m' ≠ some 0) (r : RO K (AT B T) H m v d l) (nd : l.Nodup) (hb : ∀ b ∈ l, B b) :
    ∃ l' : List Addr, l'.Sublist l ∧ ∀ T' : List Addr, (∀ b ∈ T', b ∈ T) → (∀ b ∈ l, b ∈ T' → b ∈ l') → RO K (AT B T') H m' v d l' := by
  match r with
  | .sh r => cases m' with
    | none => cases hm
    | some k => cases k with
      | zero => exact absurd rfl z
      | succ k => simp [leM] at hm
  | .flat r f => exact ⟨[], List.Sublist.refl _, fun T' _ _ => .flat (r.flat f) f⟩
  | .lst (a := a) (l := l1) p h r =>
    obtain ⟨n', p', hn⟩ := leM_pop hm p z
    have nd' := List.nodup_cons.mp nd
    by_cases z' : n' = some 0
    · subst z'
      refine ⟨[a], List.Sublist.cons_cons a (List.nil_sublist _), fun T' h1 h2 => .lst p' h ?_⟩
      exact ROs.toSh (ROs.share (ROs.mono (fun b o x _ => AT.less h1 x) r) fun b hb' => ⟨hb _ (List.mem_cons_of_mem _ hb'), fun q => by
        have := h2 b (List.mem_cons_of_mem _ hb') q
        simp at this; subst this; exact nd'.1 hb'⟩)
    · obtain ⟨l', hs, q⟩ := ROs.weak hn z' r nd'.2 (fun b hb' => hb _ (List.mem_cons_of_mem _ hb'))
      refine ⟨a :: l', hs.cons_cons a, fun T' h1 h2 => .lst p' h (q T' h1 fun b hb' ht => ?_)⟩
      rcases List.mem_cons.mp (h2 b (List.mem_cons_of_mem _ hb') ht) with e | e
      · subst e; exact absurd hb' nd'.1
      · exact e
  | .tup h r =>
    obtain ⟨l', hs, q⟩ := ROs.weak hm z r nd hb
    exact ⟨l', hs, fun T' h1 h2 => .tup h (q T' h1 h2)⟩
  | .opq a => exact ⟨[], List.Sublist.refl _, fun T' _ _ => .opq a⟩
  | .wtp a => exact ⟨[], List.Sublist.refl _, fun T' _ _ => .wtp a⟩
  | .ins (a := a) (l := l1) p h c e r =>
    obtain ⟨n', p', hn⟩ := leM_pop hm p z
    have nd' := List.nodup_cons.mp nd
    by_cases z' : n' = some 0
    · subst z'
      refine ⟨[a], List.Sublist.cons_cons a (List.nil_sublist _), fun T' h1 h2 => .ins p' h c e ?_⟩
      exact ROs.toSh (ROs.share (ROs.mono (fun b o x _ => AT.less h1 x) r) fun b hb' => ⟨hb _ (List.mem_cons_of_mem _ hb'), fun q => by
        have := h2 b (List.mem_cons_of_mem _ hb') q
        simp at this; subst this; exact nd'.1 hb'⟩)
    · obtain ⟨l', hs, q⟩ := ROs.weak hn z' r nd'.2 (fun b hb' => hb _ (List.mem_cons_of_mem _ hb'))
      refine ⟨a :: l', hs.cons_cons a, fun T' h1 h2 => .ins p' h c e (q T' h1 fun b hb' ht => ?_)⟩
      rcases List.mem_cons.mp (h2 b (List.mem_cons_of_mem _ hb') ht) with e | e
      · subst e; exact absurd hb' nd'.1
      · exact e
  | .dct (a := a) (l := l1) p h e r =>
    obtain ⟨n', p', hn⟩ := leM_pop hm p z
    have nd' := List.nodup_cons.mp nd
    by_cases z' : n' = some 0
    · subst z'
      refine ⟨[a], List.Sublist.cons_cons a (List.nil_sublist _), fun T' h1 h2 => .dct p' h e ?_⟩
      exact ROs.toSh (ROs.share (ROs.mono (fun b o x _ => AT.less h1 x) r) fun b hb' => ⟨hb _ (List.mem_cons_of_mem _ hb'), fun q => by
        have := h2 b (List.mem_cons_of_mem _ hb') q
        simp at this; subst this; exact nd'.1 hb'⟩)
    · obtain ⟨l', hs, q⟩ := ROs.weak hn z' r nd'.2 (fun b hb' => hb _ (List.mem_cons_of_mem _ hb'))
      refine ⟨a :: l', hs.cons_cons a, fun T' h1 h2 => .dct p' h e (q T' h1 fun b hb' ht => ?_)⟩
      rcases List.mem_cons.mp (h2 b (List.mem_cons_of_mem _ hb') ht) with e | e
      · subst e; exact absurd hb' nd'.1
      · exact e
theorem ROs.weak {m m' : Option Nat} {v : List V} {d : List D} {l : List Addr} (hm : leM m' m = true) (z : m' ≠ some 0) (r : ROs K (AT B T) H m v d l) (nd : l.Nodup) (hb : ∀ b ∈ l, B b) :
    ∃ l' : List Addr, l'.Sublist l ∧ ∀ T' : List Addr, (∀ b ∈ T', b ∈ T) → (∀ b ∈ l, b ∈ T' → b ∈ l') → ROs K (AT B T') H m' v d l' := by
  match r with
  | .nil => exact ⟨[], List.Sublist.refl _, fun _ _ _ => .nil⟩
  | .cons (l1 := l1) (l2 := l2) h r =>
    have nd' := List.nodup_append.mp nd
    obtain ⟨k1, s1, q1⟩ := RO.weak hm z h nd'.1 (fun b hb' => hb _ (List.mem_append_left _ hb'))
    obtain ⟨k2, s2, q2⟩ := ROs.weak hm z r nd'.2.1 (fun b hb' => hb _ (List.mem_append_right _ hb'))
    refine ⟨k1 ++ k2, s1.append s2, fun T' h1 h2 => .cons (q1 T' h1 fun b hb' ht => ?_) (q2 T' h1 fun b hb' ht => ?_)⟩
    · rcases List.mem_append.mp (h2 b (List.mem_append_left _ hb') ht) with e | e
      · exact e
      · exact absurd rfl (nd'.2.2 b hb' b (s2.subset e))
    · rcases List.mem_append.mp (h2 b (List.mem_append_right _ hb') ht) with e | e
      · exact absurd rfl (nd'.2.2 b (s1.subset e) b hb')
      · exact e
end
end
end
end VL
set_option maxRecDepth 100000
set_option maxHeartbeats 4000000
namespace VL
open PySem PySem.Spec PyProof.Rows L2
inductive Md where
  | b
  | o (m : Option Nat)
  deriving DecidableEq
abbrev mA : Md := .o none
abbrev mS : Md := .o (some 0)
structure R where
  d : D
  m : Md
structure Exn where
  cls : Str
  fld : Option (Str × D)
abbrev Sg := L2.St
abbrev VEnv := List (Option (D × Md))
structure Cn where
  K : PySem.W.Frag
  P0 : Addr → Prop
  H0 : Hp
  rw : List Addr
  cl : Str → Option Addr
  hd : List (V × D) := []
  pin : List (Nat × V) := []
def Cn.Own (c : Cn) (a : Addr) : Prop := c.H0 a = none ∨ a ∈ c.rw
def Cn.B (c : Cn) (a : Addr) : Prop := c.P0 a ∨ c.Own a
inductive Slots (c : Cn) (T : List Addr) (H : Hp) : VEnv → Sg → List (List Addr) → Prop
  | nil : Slots c T H [] [] []
  | non {e : VEnv} {x : Option V} {σ : Sg} {L : List (List Addr)} : Slots c T H e σ L → Slots c T H (none :: e) (x :: σ) ([] :: L)
  | bor {e : VEnv} {d : D} {v : V} {σ : Sg} {L : List (List Addr)} : RS c.K (fun _ => True) H v d → Slots c T H e σ L → Slots c T H (some (d, .b) :: e) (some v :: σ) ([] :: L)
  | own {e : VEnv} {d : D} {m : Option Nat} {v : V} {l : List Addr} {σ : Sg} {L : List (List Addr)} : RO c.K (AT c.B T) H m v d l → Slots c T H e σ L → Slots c T H (some (d, .o m) :: e) (some v :: σ) (l :: L)
structure Sim (c : Cn) (L : List (List Addr)) (Tm : List Addr) (env : VEnv) (σ : Sg) (H : Hp) : Prop where
  sl : Slots c (L.flatten ++ Tm) H env σ L
  nd : (L.flatten ++ Tm).Nodup
  own : ∀ a ∈ L.flatten ++ Tm, c.Own a ∧ ∃ o, H a = some o
  fr : ∀ b o, c.H0 b = some o → b ∉ c.rw → H b = some o
  hd : ∀ p ∈ c.hd, RS c.K (AT c.B (L.flatten ++ Tm)) H p.1 p.2
  pin : ∀ p ∈ c.pin, σ[p.1]? = some (some p.2)
def Res (c : Cn) (T : List Addr) (H : Hp) (r : R) (v : V) (l : List Addr) : Prop :=
  match r.m with
  | .b => RS c.K (fun _ => True) H v r.d ∧ l = []
  | .o m => RO c.K (AT c.B T) H m v r.d l
theorem Res.dep {c : Cn} {T : List Addr} {H : Hp} {d : D} {m : Option Nat} {v : V} {l : List Addr} (h : Res c T H ⟨d, .o m⟩ v l) : RO c.K (AT c.B T) H m v d l := h
theorem Res.bor {c : Cn} {T : List Addr} {H : Hp} {d : D} {v : V} {l : List Addr} (h : Res c T H ⟨d, .b⟩ v l) : RS c.K (fun _ => True) H v d := h.1
theorem Res.read {c : Cn} {T : List Addr} {H : Hp} {r : R} {v : V} {l : List Addr} (h : Res c T H r v l) : RS c.K (fun _ => True) H v r.d := by
  obtain ⟨d, m⟩ := r
  cases m with
  | b => exact h.1
  | o m => exact RO.share (RO.mono (fun _ _ _ _ => trivial) h.dep) fun _ _ => trivial
theorem Res.flat {c : Cn} {T : List Addr} {H : Hp} {d : D} {m : Option Nat} {v : V} {A : Addr → Prop} (h : RS c.K A H v d) (f : flatD d = true) : Res c T H ⟨d, .o m⟩ v [] := RO.flat (h.flat f) f
theorem Res.keep {c : Cn} {T T' : List Addr} {H H' : Hp} {r : R} {v : V} {l : List Addr} (h : Res c T H r v l) (s : Same H H') (g : ∀ b ∈ T', b ∈ T ∨ H b = none) : Res c T' H' r v l := by
  obtain ⟨d, m⟩ := r
  cases m with
  | b => exact ⟨h.1.keep (Kp.same s), h.2⟩
  | o m => exact (RO.mono (fun b o a e => ⟨a.1, fun z => (g b z).elim a.2 fun n => by rw [e] at n; cases n⟩) h.dep).keep (Kp.same s) fun b _ o e => s b o e
section
variable {c : Cn} {L L' : List (List Addr)} {T T' Tm l : List Addr} {env env' : VEnv} {σ : Sg} {H H' H1 H2 : Hp}
theorem Slots.keep (h : Slots c T H env σ L) (s : Same H H') (g : ∀ b ∈ T', b ∈ T ∨ H b = none) : Slots c T' H' env σ L := by
  induction h with
  | nil => exact .nil
  | non _ ih => exact .non ih
  | bor r _ ih => exact .bor (r.keep (Kp.same s)) ih
  | own r _ ih => exact .own (Res.keep (r := ⟨_, .o _⟩) r s g) ih
theorem Slots.len (h : Slots c T H env σ L) : env.length = σ.length ∧ env.length = L.length := by
  induction h with
  | nil => exact ⟨rfl, rfl⟩
  | non _ ih => simp [ih.1, ← ih.2]
  | bor r _ ih => simp [ih.1, ← ih.2]
  | own r _ ih => simp [ih.1, ← ih.2]
theorem Slots.get {i : Nat} {d : D} {m : Md} (h : Slots c T H env σ L) (e : env[i]? = some (some (d, m))) : ∃ v l, σ[i]? = some (some v) ∧ L[i]? = some l ∧ Res c T H ⟨d, m⟩ v l := by
  induction h generalizing i with
  | nil => simp at e
  | non _ ih => cases i with
    | zero => simp at e
    | succ i => simpa using ih (by simpa using e)
  | bor r _ ih => cases i with
    | zero => simp at e; obtain ⟨rfl, rfl⟩ := e; exact ⟨_, _, rfl, rfl, r, rfl⟩
    | succ i => simpa using ih (by simpa using e)
  | own r _ ih => cases i with
    | zero => simp at e; obtain ⟨rfl, rfl⟩ := e; exact ⟨_, _, rfl, rfl, r⟩
    | succ i => simpa using ih (by simpa using e)
structure Step (c : Cn) (H H' : Hp) (G : List Addr) (Tm : List Addr) (L' : List (List Addr)) (l : List Addr) (env' : VEnv) (σ : Sg) : Prop where
  same : Same H H'
  sim : Sim c L' (Tm ++ l) env' σ H'
  gr : ∀ b ∈ L'.flatten ++ (Tm ++ l), b ∈ G ∨ H b = none
theorem Sim.less {Tm' : List Addr} (h : Sim c L Tm env σ H) (s : Tm'.Sublist Tm) : Sim c L Tm' env σ H := by
  have sub : (L.flatten ++ Tm').Sublist (L.flatten ++ Tm) := (List.Sublist.refl _).append s
  exact ⟨h.sl.keep (Same.refl H) fun b hb => .inl (sub.subset hb), h.nd.sublist sub, fun a ha => h.own a (sub.subset ha), h.fr, fun p hp => (h.hd p hp).mono fun b o a _ => AT.less (fun b hb => sub.subset hb) a, h.pin⟩
theorem Sim.drop (h : Sim c L (Tm ++ l) env σ H) : Sim c L Tm env σ H := h.less (List.sublist_append_left _ _)
theorem Step.refl {G : List Addr} (h : Sim c L Tm env σ H) (g : ∀ b ∈ L.flatten ++ Tm, b ∈ G := by exact fun _ hb => hb) : Step c H H G Tm L [] env σ := ⟨Same.refl H, by rw [List.append_nil]; exact h, fun b hb => .inl (by rw [List.append_nil] at hb; exact g b hb)⟩
theorem Step.wider {G G' : List Addr} (h : Step c H H' G Tm L' l env σ) (g : ∀ b ∈ G, b ∈ G') : Step c H H' G' Tm L' l env σ := ⟨h.same, h.sim, fun b hb => (h.gr b hb).imp (g b) id⟩
theorem mem_less {A B C D : List Addr} (s : ∀ b ∈ C, b ∈ D) : ∀ b ∈ A ++ (B ++ C), b ∈ A ++ (B ++ D) := fun b hb => by
  rcases List.mem_append.mp hb with z | z
  · exact List.mem_append_left _ z
  · rcases List.mem_append.mp z with z | z
    · exact List.mem_append_right _ (List.mem_append_left _ z)
    · exact List.mem_append_right _ (List.mem_append_right _ (s b z))
theorem Step.sub {G l' : List Addr} (h : Step c H H' G Tm L' l env σ) (s : l'.Sublist l) : Step c H H' G Tm L' l' env σ :=
  ⟨h.same, h.sim.less ((List.Sublist.refl _).append s), fun b hb => h.gr b (mem_less (fun b hb => s.subset hb) b hb)⟩
theorem Step.drop {G : List Addr} (h : Step c H H' G Tm L' l env σ) : Step c H H' G Tm L' [] env σ := h.sub (List.nil_sublist _)
theorem Step.sim0 {G : List Addr} (h : Step c H H' G Tm L' l env σ) : Sim c L' Tm env σ H' := h.sim.drop
theorem Step.perm {G l' : List Addr} (h : Step c H H' G Tm L' l env σ) (p : l'.Perm l) : Step c H H' G Tm L' l' env σ := by
  have pp : (L'.flatten ++ (Tm ++ l')).Perm (L'.flatten ++ (Tm ++ l)) := (p.append_left _).append_left _
  have mem : ∀ b, b ∈ L'.flatten ++ (Tm ++ l') → b ∈ L'.flatten ++ (Tm ++ l) := fun b hb => pp.mem_iff.mp hb
  exact ⟨h.same, ⟨h.sim.sl.keep (Same.refl _) fun b hb => .inl (mem b hb), pp.nodup_iff.mpr h.sim.nd, fun a ha => h.sim.own a (mem a ha), h.sim.fr, fun p hp => (h.sim.hd p hp).mono fun b o a _ => AT.less mem a, h.sim.pin⟩, fun b hb => h.gr b (mem b hb)⟩
theorem Step.trans {G l1 l2 : List Addr} {L1 L2 : List (List Addr)} {env1 env2 : VEnv} (a : Step c H H1 G Tm L1 l1 env1 σ) (b : Step c H1 H2 (L1.flatten ++ (Tm ++ l1)) (Tm ++ l1) L2 l2 env2 σ) : Step c H H2 G Tm L2 (l1 ++ l2) env2 σ :=
  ⟨a.same.trans b.same, by rw [← List.append_assoc]; exact b.sim, fun x hx => by
    rw [← List.append_assoc Tm] at hx
    rcases b.gr x hx with z | z
    · exact a.gr x z
    · exact .inr (a.same.free z)⟩
theorem Step.then {G l1 l2 : List Addr} {L1 L2 : List (List Addr)} {env1 env2 : VEnv} (a : Step c H H1 G Tm L1 l1 env1 σ) (b : Step c H1 H2 (L1.flatten ++ (Tm ++ l1)) Tm L2 l2 env2 σ) : Step c H H2 G Tm L2 l2 env2 σ :=
  ⟨a.same.trans b.same, b.sim, fun x hx => by
    rcases b.gr x hx with z | z
    · exact a.gr x z
    · exact .inr (a.same.free z)⟩
theorem Sim.nowhere (S : Sim c L Tm env σ H) {b : Addr} (n : H b = none) : c.Own b ∧ b ∉ L.flatten ++ Tm := by
  refine ⟨?_, fun z => ?_⟩
  · by_cases z : b ∈ c.rw
    · exact .inr z
    · cases q : c.H0 b with
      | none => exact .inl q
      | some u => have := S.fr b u q z; rw [n] at this; cases this
  · obtain ⟨_, o', e⟩ := S.own b z
    rw [n] at e; cases e
theorem Step.news (h : Sim c L Tm env σ H) (sm : Same H H') (nd : l.Nodup) (hl : ∀ b ∈ l, H b = none ∧ ∃ o, H' b = some o) : Step c H H' (L.flatten ++ Tm) Tm L l env σ := by
  have gr : ∀ b ∈ L.flatten ++ (Tm ++ l), b ∈ L.flatten ++ Tm ∨ H b = none := fun b hb => by
    rw [← List.append_assoc] at hb
    rcases List.mem_append.mp hb with z | z
    · exact .inl z
    · exact .inr (hl b z).1
  refine ⟨sm, ⟨h.sl.keep sm gr, ?_, fun a ha => ?_, fun b u e r => sm b u (h.fr b u e r), fun p hp => ((h.hd p hp).mono fun b o a e => ⟨a.1, fun z => (gr b z).elim a.2 fun n => by rw [e] at n; cases n⟩).keep (Kp.same sm), h.pin⟩, gr⟩
  · rw [← List.append_assoc, List.nodup_append]
    exact ⟨h.nd, nd, fun a ha b hb z => by subst z; exact (h.nowhere (hl a hb).1).2 ha⟩
  · rw [← List.append_assoc] at ha
    rcases List.mem_append.mp ha with z | z
    · obtain ⟨q, u, e⟩ := h.own a z
      exact ⟨q, u, sm a u e⟩
    · exact ⟨(h.nowhere (hl a z).1).1, (hl a z).2⟩
theorem same_new {p : Addr} {o : HO} (n : H p = none) : Same H (upd H p o) := fun b u e => by rw [upd_ne (ne_of_none e n)]; exact e
theorem Step.new {p : Addr} {o : HO} (h : Sim c L Tm env σ H) (n : H p = none) : Step c H (upd H p o) (L.flatten ++ Tm) Tm L [p] env σ :=
  Step.news h (same_new n) (by simp) fun b hb => by simp at hb; subst hb; exact ⟨n, o, upd_same⟩
theorem Sim.tmp (S : Sim c L (Tm ++ l) env σ H) : l.Nodup ∧ (∀ b ∈ l, c.B b) ∧ ∀ b ∈ l, b ∉ L.flatten ++ Tm := by
  have nd := S.nd
  rw [← List.append_assoc] at nd
  have nd' := List.nodup_append.mp nd
  exact ⟨nd'.2.1, fun b hb => .inr (S.own b (by simp [hb])).1, fun b hb z => nd'.2.2 b z b hb rfl⟩
theorem Res.shared {r : R} {v : V} {m : Option Nat} {la : List Addr} (h : Res c (L.flatten ++ (Tm ++ la)) H r v l) (hm : r.m = .o m) (S : Sim c L (Tm ++ la) env σ H) (hl : ∀ b ∈ l, b ∈ la) : RS c.K (AT c.B (L.flatten ++ Tm)) H v r.d := by
  obtain ⟨d, m'⟩ := r
  cases hm
  obtain ⟨_, hb, hx⟩ := S.tmp
  refine RO.share (RO.mono (fun b o a _ => AT.less (fun b hb => ?_) a) h.dep) fun b hb' => ⟨hb b (hl b hb'), hx b (hl b hb')⟩
  rw [← List.append_assoc]
  exact List.mem_append_left _ hb
end
def ExR (c : Cn) (H : Hp) (ex : Exn) (cls : Value) (d : Option Addr) : Prop :=
  ∃ C, c.cl ex.cls = some C ∧ cls = .ref C ∧ match ex.fld with
    | none => d = none
    | some (f, dt) => ∃ dd v, d = some dd ∧ H dd = some (.xd [(f, v)]) ∧ RS c.K (fun _ => True) H v dt
def Kont (c : Cn) (σ : Sg) (L : List (List Addr)) (Tm : List Addr) (H : Hp) (Qv : R → VEnv → Prop) (Q : VK) : Prop :=
  ∀ r v l L' env' H', Qv r env' → Step c H H' (L.flatten ++ Tm) Tm L' l env' σ → Res c (L'.flatten ++ (Tm ++ l)) H' r v l → Q v H'
def KontX (c : Cn) (σ : Sg) (L : List (List Addr)) (Tm : List Addr) (H : Hp) (X : Exn → VEnv → Prop) (W : WX) : Prop :=
  ∀ ex cls d L' env' H', X ex env' → Step c H H' (L.flatten ++ Tm) Tm L' [] env' σ → ExR c H' ex cls d → W cls d σ H'
abbrev WE := VEnv → (R → VEnv → Prop) → (Exn → VEnv → Prop) → Prop
def rdE (c : Cn) (W : WX) (w : WE) : TE := fun σ H Q => ∃ env L Tm Qv X, Sim c L Tm env σ H ∧ w env Qv X ∧ Kont c σ L Tm H Qv Q ∧ KontX c σ L Tm H X W
abbrev WT := VEnv → (Bool → VEnv → Prop) → (Exn → VEnv → Prop) → Prop
def rdT (c : Cn) (W : WX) (w : WT) : TT := fun σ H Q => ∃ env L Tm Qv X, Sim c L Tm env σ H ∧ w env Qv X ∧
  (∀ b L' env' H', Qv b env' → Step c H H' (L.flatten ++ Tm) Tm L' [] env' σ → Q b H') ∧ KontX c σ L Tm H X W
inductive Ress (c : Cn) (T : List Addr) (H : Hp) : List R → List V → List Addr → Prop
  | nil : Ress c T H [] [] []
  | cons {r : R} {rs : List R} {v : V} {vs : List V} {l1 l2 : List Addr} : Res c T H r v l1 → Ress c T H rs vs l2 → Ress c T H (r :: rs) (v :: vs) (l1 ++ l2)
abbrev WA := VEnv → (List R → VEnv → Prop) → (Exn → VEnv → Prop) → Prop
def rdA (c : Cn) (W : WX) (w : WA) : TA := fun σ H Q => ∃ env L Tm Qv X, Sim c L Tm env σ H ∧ w env Qv X ∧
  (∀ rs vs l L' env' H', Qv rs env' → Step c H H' (L.flatten ++ Tm) Tm L' l env' σ → Ress c (L'.flatten ++ (Tm ++ l)) H' rs vs l → Q vs H') ∧ KontX c σ L Tm H X W
theorem PE.imp {X : Cx} {e : Expr} {t t' : TE} (h : PE X e t) (q : ∀ σ H Q, t' σ H Q → t σ H Q) : PE X e t' := ⟨fun pins s σ H Q I w => h.run pins s σ H Q I (q _ _ _ w)⟩
theorem PT.imp {X : Cx} {e : Expr} {t t' : TT} (h : PT X e t) (q : ∀ σ H Q, t' σ H Q → t σ H Q) : PT X e t' := ⟨fun pins s σ H Q I w => h.run pins s σ H Q I (q _ _ _ w)⟩
theorem PW.imp {X : Cx} {e : Expr} {t t' : TT} (h : PW X e t) (q : ∀ σ H Q, t' σ H Q → t σ H Q) : PW X e t' := ⟨fun wh pins s σ H Q I w => h.run wh pins s σ H Q I (q _ _ _ w)⟩
theorem PA.imp {X : Cx} {e : List Expr} {t t' : TA} (h : PA X e t) (q : ∀ σ H Q, t' σ H Q → t σ H Q) : PA X e t' := ⟨fun pos pins s σ H Q I w => h.run pos pins s σ H Q I (q _ _ _ w)⟩
theorem PS.imp {X : Cx} {e : Stmt} {t t' : TS} (h : PS X e t) (q : ∀ D σ H, t' D σ H → t D σ H) : PS X e t' := ⟨fun pins s σ H D I w => h.run pins s σ H D I (q _ _ _ w)⟩
theorem PSs.imp {X : Cx} {e : List Stmt} {t t' : TS} (h : PSs X e t) (q : ∀ D σ H, t' D σ H → t D σ H) : PSs X e t' := ⟨fun pins s σ H D I w => h.run pins s σ H D I (q _ _ _ w)⟩
def readR (d : D) (m : Md) : R := if flatD d then ⟨d, mA⟩ else match m with
  | .o (some 0) => ⟨d, mS⟩
  | _ => ⟨d, .b⟩
theorem Res.ofRead {c : Cn} {T : List Addr} {H : Hp} {d : D} {m : Md} {v : V} {l : List Addr} (h : Res c T H ⟨d, m⟩ v l) : Res c T H (readR d m) v [] := by
  unfold readR
  by_cases f : flatD d = true
  · rw [if_pos f]; exact Res.flat h.read f
  · rw [if_neg f]
    match m, h with
    | .b, h => exact ⟨h.read, rfl⟩
    | .o none, h => exact ⟨h.read, rfl⟩
    | .o (some (n + 1)), h => exact ⟨h.read, rfl⟩
    | .o (some 0), h =>
      have h' := h.dep
      generalize hm : (some 0 : Option Nat) = m0 at h'
      cases h' with
      | sh r => exact .sh r
      | flat r f' => exact absurd f' f
      | lst p _ _ => subst hm; cases p
      | dct p _ _ _ => subst hm; cases p
      | tup hs r => subst hm; exact .sh (.tup hs (ROs.zero r))
      | opq a => subst hm; exact RO.sh (.opq a)
      | wtp a => subst hm; exact RO.sh (.wtp a)
      | ins p _ _ _ _ => subst hm; cases p
end VL
set_option maxRecDepth 100000
set_option maxHeartbeats 4000000
namespace VL
open PySem PySem.Spec PyProof.Rows L2
section
variable {c : Cn} {W : WX} {L L' : List (List Addr)} {T T' Tm l : List Addr} {env env' : VEnv} {σ : Sg} {H H' H1 H2 : Hp}
def wVar (i : Nat) : WE := fun env Q _ => ∃ d m, env[i]? = some (some (d, m)) ∧ Q (readR d m) env
def wMv (i : Nat) : WE := fun env Q _ => ∃ d m, env[i]? = some (some (d, m)) ∧ if flatD d = true then Q ⟨d, mA⟩ env else match m with
  | .b => Q ⟨d, .b⟩ env
  | .o m => Q ⟨d, .o m⟩ (env.set i none)
def wC (d : D) : WE := fun env Q _ => Q ⟨d, mA⟩ env
theorem rd_var {i : Nat} {σ : Sg} {H : Hp} {Q : VK} (h : rdE c W (wVar i) σ H Q) : tVar i σ H Q := by
  obtain ⟨env, L, Tm, Qv, X, S, ⟨d, m, e, q⟩, k, _⟩ := h
  obtain ⟨v, l, hv, hl, r⟩ := S.sl.get e
  refine ⟨v, hv, k _ _ [] _ _ _ q (Step.refl S) ?_⟩
  rw [List.append_nil]
  exact r.ofRead
theorem flatten_set {L : List (List Addr)} {i : Nat} {l : List Addr} (e : L[i]? = some l) : ((L.set i []).flatten ++ l).Perm L.flatten := by
  induction L generalizing i with
  | nil => simp at e
  | cons a L ih => cases i with
    | zero => simp at e; subst e; simp; exact List.perm_append_comm
    | succ i =>
      simp at e
      simp only [List.set_cons_succ, List.flatten_cons, List.append_assoc]
      exact (ih e).append_left a
theorem Slots.kill {i : Nat} (h : Slots c T H env σ L) : Slots c T H (env.set i none) σ (L.set i []) := by
  induction h generalizing i with
  | nil => exact .nil
  | non h ih => cases i with
    | zero => exact .non h
    | succ i => exact .non ih
  | bor r h ih => cases i with
    | zero => exact .non h
    | succ i => exact .bor r ih
  | own r h ih => cases i with
    | zero => exact .non h
    | succ i => exact .own r ih
theorem perm_mid {a b t : List Addr} {x : List Addr} (p : (a ++ x).Perm b) : (a ++ (t ++ x)).Perm (b ++ t) := by
  have : (a ++ (t ++ x)).Perm ((a ++ x) ++ t) := by
    rw [List.append_assoc]; exact List.perm_append_comm.append_left a
  exact this.trans (p.append_right t)
theorem Sim.move {i : Nat} (S : Sim c L Tm env σ H) (e : L[i]? = some l) : Step c H H (L.flatten ++ Tm) Tm (L.set i []) l (env.set i none) σ := by
  have p := perm_mid (t := Tm) (flatten_set e)
  have mem : ∀ b, b ∈ (L.set i []).flatten ++ (Tm ++ l) ↔ b ∈ L.flatten ++ Tm := fun b => p.mem_iff
  refine ⟨Same.refl H, ⟨(S.sl.kill).keep (Same.refl H) fun b hb => .inl ((mem b).mp hb), p.nodup_iff.mpr S.nd, fun a ha => S.own a ((mem a).mp ha), S.fr, fun p hp => (S.hd p hp).mono fun b o a _ => AT.less (fun b hb => (mem b).mp hb) a, S.pin⟩, fun b hb => .inl ((mem b).mp hb)⟩
theorem rd_mv {i : Nat} {σ : Sg} {H : Hp} {Q : VK} (h : rdE c W (wMv i) σ H Q) : tVar i σ H Q := by
  obtain ⟨env, L, Tm, Qv, X, S, ⟨d, m, e, q⟩, k, _⟩ := h
  obtain ⟨v, l, hv, hl, r⟩ := S.sl.get e
  refine ⟨v, hv, ?_⟩
  by_cases f : flatD d = true
  · rw [if_pos f] at q
    refine k _ _ [] _ _ _ q (Step.refl S) ?_
    exact Res.flat r.read f
  · rw [if_neg f] at q
    cases m with
    | b =>
      refine k _ _ [] _ _ _ q (Step.refl S) ?_
      exact ⟨r.read, rfl⟩
    | o m =>
      have st := S.move hl
      refine k _ _ l _ _ _ q st ?_
      exact Res.keep r (Same.refl H) fun b hb => st.gr b hb
theorem rd_C {v : V} {d : D} (hr : ∀ K A H, RS K A H v d) (f : flatD d = true) {σ : Sg} {H : Hp} {Q : VK} (h : rdE c W (wC d) σ H Q) : tC v σ H Q := by
  obtain ⟨env, L, Tm, Qv, X, S, q, k, _⟩ := h
  exact k _ _ [] _ _ _ q (Step.refl S) (Res.flat (hr c.K (fun _ => True) H) f)
end
section
variable {X : Cx} {c : Cn} {W : WX} {pos : Pos}
theorem ve_var (i : Nat) {x : Str} (hN : X.N[i]? = some x := by rfl) (hv : Vis X.env.scope x := by first | exact Or.inl rfl | exact Or.inr (Or.inl rfl) | exact Or.inr (Or.inr rfl)) (hd : (x == ("__debug__" : Str)) = false := by decide)
    (hcd : (x == ("__classdict__" : Str)) = false := by decide) : PE X (.Name x pos) (rdE c W (wVar i)) := PE.imp (pe_var hN hv hd hcd) fun _ _ _ => rd_var
theorem ve_mv (i : Nat) {x : Str} (hN : X.N[i]? = some x := by rfl) (hv : Vis X.env.scope x := by first | exact Or.inl rfl | exact Or.inr (Or.inl rfl) | exact Or.inr (Or.inr rfl)) (hd : (x == ("__debug__" : Str)) = false := by decide)
    (hcd : (x == ("__classdict__" : Str)) = false := by decide) : PE X (.Name x pos) (rdE c W (wMv i)) := PE.imp (pe_var hN hv hd hcd) fun _ _ _ => rd_mv
theorem ve_int {i : Int} {j} : PE X (.Constant (.int i) j pos) (rdE c W (wC (.int i))) := PE.imp pe_int fun _ _ _ => rd_C (fun _ _ _ => .int i) rfl
theorem ve_bl {b : Bool} {j} : PE X (.Constant (.bool b) j pos) (rdE c W (wC (.bool b))) := PE.imp pe_bl fun _ _ _ => rd_C (fun _ _ _ => .bl b) rfl
theorem ve_non {j} : PE X (.Constant .none j pos) (rdE c W (wC .none)) := PE.imp pe_non fun _ _ _ => rd_C (fun _ _ _ => .non) rfl
theorem ve_str {x : Str} {j} : PE X (.Constant (.str x) j pos) (rdE c W (wC (.str x))) := PE.imp pe_str fun _ _ _ => rd_C (fun _ _ _ => .str x) rfl
theorem ve_gint {x : Str} {i : Int} {t : Tok} (hm : X.mg x = some (.int i t)) (hg : Gl X x := by rfl) (hd : (x == ("__debug__" : Str)) = false := by decide) : PE X (.Name x pos) (rdE c W (wC (.int i))) :=
  PE.imp (pe_glob (v := .int i) hg hm ⟨_, rfl⟩ hd) fun _ _ _ => rd_C (fun _ _ _ => .int i) rfl
end
abbrev WO := R → R → (R → Prop) → Prop
def wBin (wo : WO) (wa wb : WE) : WE := fun env Q X => wa env (fun ra e1 => wb e1 (fun rb e2 => wo ra rb fun r => Q r e2) X) X
def OpS (c : Cn) (r2 : R2) (wo : WO) : Prop :=
  ∀ (L : List (List Addr)) (Tm la lb : List Addr) (env : VEnv) (σ : Sg) (H : Hp) (ra rb : R) (x y : V) (Qv : R → Prop) (Q : VK),
    Sim c L (Tm ++ (la ++ lb)) env σ H → Res c (L.flatten ++ (Tm ++ (la ++ lb))) H ra x la → Res c (L.flatten ++ (Tm ++ (la ++ lb))) H rb y lb → wo ra rb Qv →
    (∀ r v l H', Qv r → Step c H H' (L.flatten ++ (Tm ++ (la ++ lb))) Tm L l env σ → Res c (L.flatten ++ (Tm ++ l)) H' r v l → Q v H') → r2 x y H Q
theorem OpS.or {c : Cn} {r r' : R2} {w w' : WO} (h : OpS c r w) (h' : OpS c r' w') : OpS c (fun x y H Q => r x y H Q ∨ r' x y H Q) (fun a b Q => w a b Q ∨ w' a b Q) := by
  intro L Tm la lb env σ H ra rb x y Qv Q S h1 h2 hw k
  rcases hw with hw | hw
  · exact .inl (h L Tm la lb env σ H ra rb x y Qv Q S h1 h2 hw k)
  · exact .inr (h' L Tm la lb env σ H ra rb x y Qv Q S h1 h2 hw k)
section
variable {X : Cx} {c : Cn} {W : WX} {pos : Pos} {wa wb : WE} {wo : WO} {r2 : R2} {a b : Expr}
theorem KontX.step {c : Cn} {σ : Sg} {L L1 : List (List Addr)} {Tm la : List Addr} {H H1 : Hp} {env1 : VEnv} {X : Exn → VEnv → Prop} {W : WX} (k : KontX c σ L Tm H X W) (st : Step c H H1 (L.flatten ++ Tm) Tm L1 la env1 σ) : KontX c σ L1 (Tm ++ la) H1 X W :=
  fun ex cls d L' env' H' hx s e => k ex cls d L' env' H' hx (by
    have z := st.trans s
    exact z.drop) e
theorem rd_bin (hs : OpS c r2 wo) {σ : Sg} {H : Hp} {Q : VK} (h : rdE c W (wBin wo wa wb) σ H Q) : tOp r2 (rdE c W wa) (rdE c W wb) σ H Q := by
  obtain ⟨env, L, Tm, Qv, X, S, w, k, kx⟩ := h
  refine ⟨env, L, Tm, _, X, S, w, fun ra x la L1 env1 H1 h1 st1 r1 => ?_, kx⟩
  refine ⟨env1, L1, Tm ++ la, _, X, st1.sim, h1, fun rb y lb L2 env2 H2 h2 st2 r2' => ?_, kx.step st1⟩
  have r1' := r1.keep st2.same st2.gr
  have st12 := st1.trans st2
  rw [List.append_assoc] at r1' r2'
  exact hs L2 Tm la lb env2 σ H2 ra rb x y (fun r => Qv r env2) Q st12.sim r1' r2' h2 fun r v l H' q st3 r3 => k r v l L2 env2 H' q (Step.then st12 st3) r3
theorem ve_op {op : Operator} (ho : OpR X (binaryOp op) r2) (hs : OpS c r2 wo) (ha : PE X a (rdE c W wa)) (hb : PE X b (rdE c W wb)) : PE X (.BinOp a op b pos) (rdE c W (wBin wo wa wb)) :=
  PE.imp (pe_op ho ha hb) fun _ _ _ => rd_bin hs
theorem ve_cmp {op : CmpOp} (ho : OpR X (compareOp op) r2) (hs : OpS c r2 wo) (ha : PE X a (rdE c W wa)) (hb : PE X b (rdE c W wb)) (hm : behindInMarks op b = false := by first | exact nomark _ | with_unfolding_all rfl) : PE X (.Compare a [op] [b] pos) (rdE c W (wBin wo wa wb)) :=
  PE.imp (pe_cmpR ho ha hb hm) fun _ _ _ => rd_bin hs
def wTest (w : WE) : WT := fun env Q X => w env (fun r e => ∃ k, r.d = .bool k ∧ Q k e) X
theorem rd_test' {t : TE} {w : WE} (ht : ∀ σ H Q, rdE c W w σ H Q → t σ H Q) {σ : Sg} {H : Hp} {Q : Bool → Hp → Prop} (h : rdT c W (wTest w) σ H Q) : t σ H fun x H' => ∃ k, x = .bl k ∧ Q k H' := by
  obtain ⟨env, L, Tm, Qv, X, S, w, k, kx⟩ := h
  refine ht _ _ _ ⟨env, L, Tm, _, X, S, w, fun r v l L1 env1 H1 ⟨b, e, q⟩ st r1 => ?_, kx⟩
  obtain ⟨d, m⟩ := r
  cases e
  have := r1.read
  cases this
  exact ⟨b, rfl, k b L1 env1 H1 q st.drop⟩
theorem vt_cmp {op : CmpOp} (ho : OpR X (compareOp op) r2) (hs : OpS c r2 wo) (ha : PE X a (rdE c W wa)) (hb : PE X b (rdE c W wb)) (hm : behindInMarks op b = false := by first | exact nomark _ | with_unfolding_all rfl) : PT X (.Compare a [op] [b] pos) (rdT c W (wTest (wBin wo wa wb))) :=
  PT.imp (pt_cmpR ho ha hb hm) fun _ _ _ => rd_test' fun _ _ _ => rd_bin hs
theorem vt_val {e : Expr} {w : WE} (h : PE X e (rdE c W w)) (he : ∀ whole, isTrue e X.env whole = (do let v ← whole; standAt e.pos; holding [v] (truthy v)) := by intro _; rfl) : PT X e (rdT c W (wTest w)) :=
  PT.imp (pt_val h he) fun _ _ _ => rd_test' fun _ _ _ z => z
end
section
variable {c : Cn}
theorem flat_end1 {L : List (List Addr)} {Tm l : List Addr} {env : VEnv} {σ : Sg} {H : Hp} {d : D} {v : V} {Qv : R → Prop} {Q : VK} (S : Sim c L (Tm ++ l) env σ H) (q : Qv ⟨d, mA⟩) (r : RS c.K (fun _ => True) H v d) (f : flatD d = true)
    (k : ∀ r v l' H', Qv r → Step c H H' (L.flatten ++ (Tm ++ l)) Tm L l' env σ → Res c (L.flatten ++ (Tm ++ l')) H' r v l' → Q v H') : Q v H :=
  k _ _ [] _ q (Step.refl S.drop fun b hb => by rw [← List.append_assoc]; exact List.mem_append_left _ hb) (Res.flat r f)
def woI (C : Int → Int → Prop) (g : Int → Int → D) : WO := fun ra rb Q => ∃ i j, ra.d = .int i ∧ rb.d = .int j ∧ C i j ∧ Q ⟨g i j, mA⟩
theorem ops_I {C : Int → Int → Prop} {g : Int → Int → V} {gd : Int → Int → D} (hg : ∀ K A H i j, RS K A H (g i j) (gd i j)) (hf : ∀ i j, flatD (gd i j) = true) : OpS c (rI C g) (woI C gd) := by
  intro L Tm la lb env σ H ra rb x y Qv Q S h1 h2 ⟨i, j, e1, e2, hc, q⟩ k
  obtain ⟨d1, m1⟩ := ra; obtain ⟨d2, m2⟩ := rb
  cases e1; cases e2
  have a1 := h1.read; have a2 := h2.read
  cases a1; cases a2
  exact ⟨i, j, rfl, rfl, hc, flat_end1 S q (hg c.K _ H i j) (hf i j) k⟩
def woI0 (g : Int → Int → D) : WO := fun ra rb Q => ∃ i j, ra.d = .int i ∧ rb.d = .int j ∧ Q ⟨g i j, mA⟩
theorem ops_I0 {g : Int → Int → V} {gd : Int → Int → D} (hg : ∀ K A H i j, RS K A H (g i j) (gd i j)) (hf : ∀ i j, flatD (gd i j) = true) : OpS c (rI0 g) (woI0 gd) := by
  intro L Tm la lb env σ H ra rb x y Qv Q S h1 h2 ⟨i, j, e1, e2, q⟩ k
  obtain ⟨d1, m1⟩ := ra; obtain ⟨d2, m2⟩ := rb
  cases e1; cases e2
  have a1 := h1.read; have a2 := h2.read
  cases a1; cases a2
  exact ⟨i, j, rfl, rfl, flat_end1 S q (hg c.K _ H i j) (hf i j) k⟩
end
end VL
set_option maxRecDepth 100000
set_option maxHeartbeats 4000000
namespace VL
open PySem PySem.Spec PyProof.Rows L2
def wNil : WA := fun env Q _ => Q [] env
def wCons (w : WE) (wa : WA) : WA := fun env Q X => w env (fun r e => wa e (fun rs e' => Q (r :: rs) e') X) X
section
variable {c : Cn} {T T' l : List Addr} {H H' : Hp}
theorem Ress.keep {rs : List R} {vs : List V} (h : Ress c T H rs vs l) (s : Same H H') (g : ∀ b ∈ T', b ∈ T ∨ H b = none) : Ress c T' H' rs vs l := by
  induction h with
  | nil => exact .nil
  | cons r _ ih => exact .cons (r.keep s g) ih
theorem Ress.read {rs : List R} {vs : List V} (h : Ress c T H rs vs l) : RSs c.K (fun _ => True) H vs (rs.map (·.d)) := by
  induction h with
  | nil => exact .nil
  | cons r _ ih => exact .cons r.read ih
theorem Ress.len {rs : List R} {vs : List V} (h : Ress c T H rs vs l) : rs.length = vs.length := by
  induction h with
  | nil => rfl
  | cons r _ ih => simp [ih]
end
section
variable {X : Cx} {c : Cn} {W : WX} {pos : Pos} {w : WE} {wa : WA} {e : Expr} {es : List Expr}
theorem va_nil : PA X [] (rdA c W wNil) := PA.imp pa_nil fun σ H Q h => by
  obtain ⟨env, L, Tm, Qv, X, S, q, k, _⟩ := h
  exact k [] [] [] L env H q (Step.refl S) .nil
theorem va_cons (he : PE X e (rdE c W w)) (hr : PA X es (rdA c W wa)) (hs : starEach (e :: es) X.env = (false, eval e X.env) :: starEach es X.env := by rfl) : PA X (e :: es) (rdA c W (wCons w wa)) := PA.imp (pa_cons he hr hs) fun σ H Q h => by
  obtain ⟨env, L, Tm, Qv, X, S, q, k, kx⟩ := h
  refine ⟨env, L, Tm, _, X, S, q, fun r x la L1 env1 H1 h1 st1 r1 => ?_, kx⟩
  refine ⟨env1, L1, Tm ++ la, _, X, st1.sim, h1, fun rs vs lb L2 env2 H2 h2 st2 r2 => ?_, kx.step st1⟩
  have e := r1.keep st2.same st2.gr
  rw [List.append_assoc] at e r2
  exact k (r :: rs) (x :: vs) (la ++ lb) L2 env2 H2 h2 (st1.trans st2) (.cons e r2)
end
abbrev FSpec := List D → (R → Prop) → (Exn → Prop) → Prop
def spOf (K : PySem.W.Frag) (cl : Str → Option Addr) (S : FSpec) : Sp := fun vs H Q E => ∃ ds P0 Qv X, RSs K P0 H vs ds ∧ S ds Qv X ∧
  (∀ r v l H', Qv r → Same H H' → l.Nodup → (∀ b ∈ l, H b = none ∧ ∃ o, H' b = some o) → Res ⟨K, P0, H, [], cl, [], []⟩ l H' r v l → Q v H') ∧
  (∀ ex cls d H', X ex → Same H H' → ExR ⟨K, P0, H, [], cl, [], []⟩ H' ex cls d → E cls d H')
structure Def (P : Program) (w : World) (K : PySem.W.Frag) (mg : Str → Option Value) (base : Heap) (cl : Str → Option Addr) (x : Str) (n : Nat) (S : FSpec) (k : Nat) : Prop where
  ex : ∃ (f : Addr) (fd : FuncData) (ps : List Str), ps.length = n ∧ FnOk P w K mg base (L2.CX P w) k f fd ps (spOf K cl S) ∧ mg x = some (.ref f) ∧ PySem.W.keepIn K (.ref f) = true ∧ Binds K fd ps []
def isB : Md → Bool
  | .b => true
  | .o _ => false
def outR (rs : List R) (r : R) : R := if rs.any (fun r => isB r.m) = true then (match r.m with | .o none => r | _ => ⟨r.d, .b⟩) else r
def wCall (S : FSpec) (wa : WA) : WE := fun env Q X => wa env (fun rs e => S (rs.map (·.d)) (fun r => Q (outR rs r) e) (fun ex => X ex e)) X
section
variable {c : Cn} {L : List (List Addr)} {Tm l : List Addr} {env : VEnv} {σ : Sg} {H : Hp}
theorem Ress.shared {rs : List R} {vs : List V} {la : List Addr} (h : Ress c (L.flatten ++ (Tm ++ la)) H rs vs l) (hm : rs.any (fun r => isB r.m) = false) (S : Sim c L (Tm ++ la) env σ H) (hl : ∀ b ∈ l, b ∈ la) : RSs c.K (AT c.B (L.flatten ++ Tm)) H vs (rs.map (·.d)) := by
  induction h with
  | nil => exact .nil
  | @cons r rs v vs l1 l2 hr _ ih =>
    simp only [List.any_cons, Bool.or_eq_false_iff] at hm
    obtain ⟨d, m⟩ := r
    cases m with
    | b => simp [isB] at hm
    | o m => exact .cons (hr.shared rfl S fun b hb => hl b (List.mem_append_left _ hb)) (ih hm.2 fun b hb => hl b (List.mem_append_right _ hb))
theorem Res.come {P0 : Addr → Prop} {cl : Str → Option Addr} {H1 : Hp} {r : R} {v : V} (S : Sim c L Tm env σ H) (h : Res ⟨c.K, P0, H, [], cl, [], []⟩ l H1 r v l) (nl : ∀ b ∈ l, H b = none)
    (hp : ∀ b, P0 b → AT c.B (L.flatten ++ Tm) b) : Res c (L.flatten ++ (Tm ++ l)) H1 r v l := by
  obtain ⟨d, m⟩ := r
  cases m with
  | b => exact h
  | o m =>
    refine RO.mono (fun b o a e => ?_) h.dep
    obtain ⟨a1, a2⟩ := a
    have fin : ∀ {x : Addr}, AT c.B (L.flatten ++ Tm) x → x ∉ l → AT c.B (L.flatten ++ (Tm ++ l)) x := fun {x} q n => ⟨q.1, fun z => by
      rw [← List.append_assoc] at z
      exact (List.mem_append.mp z).elim q.2 n⟩
    rcases a1 with a1 | a1 | a1
    · exact fin (hp b a1) a2
    · obtain ⟨o1, o2⟩ := S.nowhere a1
      exact fin ⟨.inr o1, o2⟩ a2
    · cases a1
theorem Res.toAll {P0 : Addr → Prop} {cl : Str → Option Addr} {H0 H1 : Hp} {T T' : List Addr} {d : D} {v : V} (h : Res ⟨c.K, P0, H0, [], cl, [], []⟩ T H1 ⟨d, .o none⟩ v l) : Res c T' H1 ⟨d, .o none⟩ v l := RO.all rfl h.dep
end
section
variable {X : Cx} {c : Cn} {W : WX} {pos p : Pos} {wa : WA} {e : Expr} {es : List Expr} {x : Str} {n k : Nat} {S : FSpec}
theorem rd_call {σ : Sg} {H : Hp} {Q : VK} {K : PySem.W.Frag} {cl : Str → Option Addr} (hK : c.K = K) (hcl : c.cl = cl) (h : rdE c W (wCall S wa) σ H Q) : tCallS (spOf K cl S) (L2.WE W) (rdA c W wa) σ H Q := by
  subst hK; subst hcl
  obtain ⟨env, L, Tm, Qv, X, S0, q, k, kx⟩ := h
  refine ⟨env, L, Tm, _, X, S0, q, fun rs vs l L1 env1 H1 h1 st1 r1 => ?_, kx⟩
  have S1 : Sim c L1 Tm env1 σ H1 := st1.sim0
  have up : ∀ {H' : Hp} {l' : List Addr}, Step c H1 H' (L1.flatten ++ Tm) Tm L1 l' env1 σ → Step c H H' (L.flatten ++ Tm) Tm L1 l' env1 σ := fun z => Step.then st1 (z.wider fun b hb => by rw [← List.append_assoc]; exact List.mem_append_left _ hb)
  have kx' : ∀ ex cls d H', X ex env1 → Same H1 H' → ExR c H' ex cls d → W cls d σ H' := fun ex cls d H' hx s ee => by
    refine kx ex cls d L1 env1 H' hx ?_ ee
    exact up (Step.news (l := []) S1 s List.nodup_nil (fun b hb => by cases hb))
  by_cases hb : rs.any (fun r => isB r.m) = true
  · refine ⟨_, fun _ => True, _, _, r1.read, h1, fun r v l' H' hq s nd nl rr => ?_, fun ex cls d H' hx s ee => kx' ex cls d H' hx s ee⟩
    unfold outR at hq
    rw [if_pos hb] at hq
    obtain ⟨d, m⟩ := r
    match m with
    | .o none => exact k _ v l' L1 env1 H' hq (up (Step.news S1 s nd nl)) rr.toAll
    | .o (some j) => exact k _ v [] L1 env1 H' hq (up (Step.news S1 s nd nl).drop) ⟨rr.read, rfl⟩
    | .b => exact k _ v [] L1 env1 H' hq (up (Step.news S1 s nd nl).drop) ⟨rr.read, rfl⟩
  · have hb' : rs.any (fun r => isB r.m) = false := by simpa using hb
    refine ⟨_, AT c.B (L1.flatten ++ Tm), _, _, r1.shared hb' st1.sim (fun _ z => z), h1, fun r v l' H' hq s nd nl rr => ?_, fun ex cls d H' hx s ee => kx' ex cls d H' hx s ee⟩
    unfold outR at hq
    rw [if_neg hb] at hq
    exact k _ v l' L1 env1 H' hq (up (Step.news S1 s nd nl)) (rr.come S1 (fun b hb => (nl b hb).1) fun _ z => z)
theorem ve_call (hd : Def X.prog X.w X.K X.mg X.base c.cl x n S k) (hr : Room k X.A) (tk : Takes X W) (ha : PA X (e :: es) (rdA c W wa)) (hK : c.K = X.K := by rfl) (hg : Gl X x := by rfl)
    (hdb : (x == ("__debug__" : Str)) = false := by decide) (he : starEach (e :: es) X.env = (false, eval e X.env) :: starEach es X.env := by rfl) (hpl : (backTo pos (starEach es X.env)).any (·.1) = false := by rfl) :
    PE X (.Call (.Name x p) (e :: es) [] pos) (rdE c W (wCall S wa)) := by
  obtain ⟨f, fd, ps, hl, F, hm, hk, hb⟩ := hd.ex
  exact PE.imp (pe_callS F hr hg hm hk hb (fun σ => passAt tk σ) ha hdb he hpl) fun σ H Q => rd_call hK rfl
end
abbrev WF := List R → (R → Prop) → Prop
def CallS (c : Cn) (r : List V → Hp → VK → Prop) (wf : WF) : Prop :=
  ∀ (L : List (List Addr)) (Tm l : List Addr) (env : VEnv) (σ : Sg) (H : Hp) (rs : List R) (vs : List V) (Qv : R → Prop) (Q : VK),
    Sim c L (Tm ++ l) env σ H → Ress c (L.flatten ++ (Tm ++ l)) H rs vs l → wf rs Qv →
    (∀ r v l' H', Qv r → Step c H H' (L.flatten ++ (Tm ++ l)) Tm L l' env σ → Res c (L.flatten ++ (Tm ++ l')) H' r v l' → Q v H') → r vs H Q
def wCB (wf : WF) (wa : WA) : WE := fun env Q X => wa env (fun rs e => wf rs fun r => Q r e) X
section
variable {X : Cx} {c : Cn} {W : WX} {pos p : Pos} {wa : WA} {wf : WF} {e : Expr} {es : List Expr} {x : Str} {r : List V → Hp → VK → Prop}
theorem CallS.or {r r' : List V → Hp → VK → Prop} {w w' : WF} (h : CallS c r w) (h' : CallS c r' w') : CallS c (fun xs H Q => r xs H Q ∨ r' xs H Q) (fun rs Q => w rs Q ∨ w' rs Q) := by
  intro L Tm l env σ H rs vs Qv Q S h1 hw k
  rcases hw with hw | hw
  · exact .inl (h L Tm l env σ H rs vs Qv Q S h1 hw k)
  · exact .inr (h' L Tm l env σ H rs vs Qv Q S h1 hw k)
theorem CallS.imp {w w' : WF} (h : CallS c r w) (q : ∀ rs Q, w' rs Q → w rs Q) : CallS c r w' := fun L Tm l env σ H rs vs Qv Q S h1 hw k => h L Tm l env σ H rs vs Qv Q S h1 (q _ _ hw) k
theorem OpS.imp {r2 : R2} {w w' : WO} (h : OpS c r2 w) (q : ∀ a b Q, w' a b Q → w a b Q) : OpS c r2 w' := fun L Tm la lb env σ H ra rb x y Qv Q S h1 h2 hw k => h L Tm la lb env σ H ra rb x y Qv Q S h1 h2 (q _ _ _ hw) k
theorem rd_cb (hs : CallS c r wf) {σ : Sg} {H : Hp} {Q : VK} (h : rdE c W (wCB wf wa) σ H Q) : tCB r (rdA c W wa) σ H Q := by
  obtain ⟨env, L, Tm, Qv, X, S0, q, k, kx⟩ := h
  refine ⟨env, L, Tm, _, X, S0, q, fun rs vs l L1 env1 H1 h1 st1 r1 => ?_, kx⟩
  exact hs L1 Tm l env1 σ H1 rs vs _ Q st1.sim r1 h1 fun r v l' H' hq st2 r2 => k r v l' L1 env1 H' hq (Step.then st1 st2) r2
theorem ve_callB {id : String} (hc : CallR X (.builtin id) r) (hs : CallS c r wf) (hm : X.mg x = none) (hv : bootBuiltins x = some (.builtin id)) (ha : PA X (e :: es) (rdA c W wa)) (hg : Gl X x := by rfl) (hn : x ≠ "__name__" := by decide) (hdb : (x == ("__debug__" : Str)) = false := by decide)
    (he : starEach (e :: es) X.env = (false, eval e X.env) :: starEach es X.env := by rfl) (hpl : (backTo pos (starEach es X.env)).any (·.1) = false := by rfl) : PE X (.Call (.Name x p) (e :: es) [] pos) (rdE c W (wCB wf wa)) :=
  PE.imp (pe_callB hc hg hm hv ha hn hdb he hpl) fun _ _ _ => rd_cb hs
theorem ve_callTy {T : String} (hc : CallR X (.type T) r) (hs : CallS c r wf) (hm : X.mg x = none) (hv : bootBuiltins x = some (.type T)) (ha : PA X (e :: es) (rdA c W wa)) (hg : Gl X x := by rfl) (hn : x ≠ "__name__" := by decide) (hdb : (x == ("__debug__" : Str)) = false := by decide)
    (he : starEach (e :: es) X.env = (false, eval e X.env) :: starEach es X.env := by rfl) (hpl : (backTo pos (starEach es X.env)).any (·.1) = false := by rfl) : PE X (.Call (.Name x p) (e :: es) [] pos) (rdE c W (wCB wf wa)) :=
  PE.imp (pe_callTy hc hg hm hv ha hn hdb he hpl) fun _ _ _ => rd_cb hs
end
section
variable {c : Cn}
theorem ress1 {T l : List Addr} {H : Hp} {r : R} {vs : List V} (h : Ress c T H [r] vs l) : ∃ v, vs = [v] ∧ Res c T H r v l := by
  cases h with
  | cons h1 h2 => cases h2; exact ⟨_, rfl, by rw [List.append_nil]; exact h1⟩
theorem ress2 {T l : List Addr} {H : Hp} {r r' : R} {vs : List V} (h : Ress c T H [r, r'] vs l) : ∃ v v' l1 l2, vs = [v, v'] ∧ l = l1 ++ l2 ∧ Res c T H r v l1 ∧ Res c T H r' v' l2 := by
  cases h with
  | cons h1 h2 =>
    obtain ⟨v, rfl, h3⟩ := ress1 h2
    exact ⟨_, _, _, _, rfl, rfl, h1, h3⟩
def wLen : WF := fun rs Q => ∃ r, rs = [r] ∧ match r.d with
  | .list ds => Q ⟨.int ds.length, mA⟩
  | .tuple ds => Q ⟨.int ds.length, mA⟩
  | .str z => z.length ≤ sizeLine ∧ Q ⟨.int z.length, mA⟩
  | .dict [(.list [], .list ns)] => Q ⟨.int ns.length, mA⟩
  | _ => False
theorem len_R {X : Cx} : CallR X (.builtin "len") (fun xs H Q => (∃ p ys, xs = [.ref p] ∧ (SqL X.K H p ys ∨ SqT X.K H p ys) ∧ Q (.int ys.length) H) ∨ (∃ z, xs = [.str z] ∧ z.length ≤ sizeLine ∧ Q (.int z.length) H)) := call_len_seq.or call_len_str
theorem script_inv {ds : List (D × D)} {t : Bool} {q : List D} {y : D} {kvs : List (D × V)} {H : Hp} {a : Addr} (h : DictAt H a kvs t) (e : kvs.map (·.1) = ds.map (·.1)) (z : mkDict t ds = .dict [(.list q, y)]) : False := by
  unfold mkDict at z
  cases t with
  | true => simp at z
  | false =>
    simp at z
    subst z
    rcases h with ⟨_, k', _, q⟩ | ⟨q, _⟩
    · subst q
      cases k' with
      | nil => simp at e
      | cons p k' =>
        simp at e
        obtain ⟨p1, p3⟩ := p
        cases p1 with
        | inl i => exact nomatch e.1
        | inr i => exact nomatch e.1
    · cases q
theorem s_len : CallS c (fun xs H Q => (∃ p ys, xs = [.ref p] ∧ (SqL c.K H p ys ∨ SqT c.K H p ys) ∧ Q (.int ys.length) H) ∨ (∃ z, xs = [.str z] ∧ z.length ≤ sizeLine ∧ Q (.int z.length) H)) wLen := by
  intro L Tm l env σ H rs vs Qv Q S h ⟨r, e, q⟩ k
  subst e
  obtain ⟨v, rfl, hr⟩ := ress1 h
  obtain ⟨d, m⟩ := r
  have hr' := hr.read
  simp only at q hr'
  generalize hd : d = d0 at hr'
  cases hr' with
  | non => subst hd; exact q.elim
  | bl b => subst hd; exact q.elim
  | int i => subst hd; exact q.elim
  | str z => subst hd; exact .inr ⟨z, rfl, q.1, flat_end1 S q.2 (.int _) rfl k⟩
  | lst ha _ r => subst hd; refine .inl ⟨_, _, rfl, .inl (SqL.of ha), ?_⟩; rw [r.len]; exact flat_end1 S q (.int _) rfl k
  | tup ha r => subst hd; refine .inl ⟨_, _, rfl, .inr (SqT.of ha), ?_⟩; rw [r.len]; exact flat_end1 S q (.int _) rfl k
  | dct ha _ e r =>
    subst hd
    split at q
    · rename_i z; exact absurd z (by simp [mkDict])
    · rename_i z; exact absurd z (by simp [mkDict])
    · rename_i z; exact absurd z (by simp [mkDict])
    · rename_i z; exact (script_inv ha e z).elim
    · exact q.elim
  | opq a =>
    subst hd
    split at q
    · rename_i z; exact absurd z (by simp [opD])
    · rename_i z; exact absurd z (by simp [opD])
    · rename_i z; exact absurd z (by simp [opD])
    · rename_i z; simp [opD] at z
    · exact q.elim
  | wtp a =>
    subst hd
    split at q
    · rename_i z; exact absurd z (by simp [wtD])
    · rename_i z; exact absurd z (by simp [wtD])
    · rename_i z; exact absurd z (by simp [wtD])
    · rename_i z; simp [wtD] at z
    · exact q.elim
  | ins _ _ _ _ _ =>
    subst hd
    split at q
    · rename_i z; exact absurd z (by simp [insD])
    · rename_i z; exact absurd z (by simp [insD])
    · rename_i z; exact absurd z (by simp [insD])
    · rename_i z; simp [insD] at z
    · exact q.elim
  | @scr a ns ha =>
    subst hd
    refine .inl ⟨_, _, rfl, .inl ha.seq, ?_⟩
    simp only [scriptD, List.length_map] at q ⊢
    exact flat_end1 S q (.int _) rfl k
def wI1 (g : Int → D) : WF := fun rs Q => ∃ r i, rs = [r] ∧ r.d = .int i ∧ Q ⟨g i, mA⟩
theorem s_I1 {g : Int → V} {gd : Int → D} (hg : ∀ K A H i, RS K A H (g i) (gd i)) (hf : ∀ i, flatD (gd i) = true) : CallS c (fun xs H Q => ∃ i, xs = [.int i] ∧ Q (g i) H) (wI1 gd) := by
  intro L Tm l env σ H rs vs Qv Q S h ⟨r, i, e, e2, q⟩ k
  subst e
  obtain ⟨v, rfl, hr⟩ := ress1 h
  obtain ⟨d, m⟩ := r
  cases e2
  have := hr.read
  cases this
  exact ⟨i, rfl, flat_end1 S q (hg _ _ _ _) (hf i) k⟩
def wI2 (g : Int → Int → D) : WF := fun rs Q => ∃ r r' i j, rs = [r, r'] ∧ r.d = .int i ∧ r'.d = .int j ∧ Q ⟨g i j, mA⟩
theorem s_I2 {g : Int → Int → V} {gd : Int → Int → D} (hg : ∀ K A H i j, RS K A H (g i j) (gd i j)) (hf : ∀ i j, flatD (gd i j) = true) : CallS c (fun xs H Q => ∃ i j, xs = [.int i, .int j] ∧ Q (g i j) H) (wI2 gd) := by
  intro L Tm l env σ H rs vs Qv Q S h ⟨r, r', i, j, e, e2, e3, q⟩ k
  subst e
  obtain ⟨v, v', l1, l2, rfl, rfl, hr, hr'⟩ := ress2 h
  obtain ⟨d, m⟩ := r
  obtain ⟨d', m'⟩ := r'
  cases e2; cases e3
  have := hr.read
  cases this
  have := hr'.read
  cases this
  exact ⟨i, j, rfl, flat_end1 S q (hg _ _ _ _ _) (hf i j) k⟩
end
end VL
set_option maxRecDepth 100000
set_option maxHeartbeats 4000000
namespace VL
open PySem PySem.Spec PyProof.Rows L2
def minM : Option Nat → Option Nat → Option Nat
  | none, b => b
  | a, none => a
  | some a, some b => some (min a b)
theorem minM_l (a b : Option Nat) : leM (minM a b) a = true := by
  cases a <;> cases b <;> simp [minM, leM] <;> omega
theorem minM_r (a b : Option Nat) : leM (minM a b) b = true := by
  cases a <;> cases b <;> simp [minM, leM] <;> omega
theorem leM_trans {a b c : Option Nat} (h : leM a b = true) (g : leM b c = true) : leM a c = true := by
  cases a <;> cases b <;> cases c <;> simp [leM] at * <;> omega
def joinM : List R → Option (Option Nat)
  | [] => some none
  | r :: rs => if flatD r.d = true then joinM rs else match r.m with
    | .b => none
    | .o m => (joinM rs).map (minM m)
def kidOk (n : Option Nat) (r : R) : Prop := flatD r.d = true ∨ ∃ m, r.m = .o m ∧ leM n m = true
theorem joinM_ok {rs : List R} {n : Option Nat} (h : joinM rs = some n) : ∀ r ∈ rs, kidOk n r := by
  induction rs generalizing n with
  | nil => intro r hr; cases hr
  | cons r rs ih =>
    unfold joinM at h
    intro r' hr'
    by_cases f : flatD r.d = true
    · rw [if_pos f] at h
      rcases List.mem_cons.mp hr' with rfl | z
      · exact .inl f
      · exact ih h _ z
    · rw [if_neg f] at h
      obtain ⟨d, m⟩ := r
      cases m with
      | b => cases h
      | o m =>
        obtain ⟨k, hk, e⟩ := Option.map_eq_some_iff.mp h
        subst e
        rcases List.mem_cons.mp hr' with rfl | z
        · exact .inr ⟨m, rfl, minM_l m k⟩
        · rcases ih hk _ z with f' | ⟨m', e', q⟩
          · exact .inl f'
          · exact .inr ⟨m', e', leM_trans (minM_r m k) q⟩
section
variable {c : Cn} {T T' l : List Addr} {H H' : Hp}
theorem RO.lower {m n : Option Nat} {v : V} {d : D} (h : RO c.K (AT c.B T) H m v d l) (hn : leM n m = true) (nd : l.Nodup) (hb : ∀ b ∈ l, c.B b) :
    ∃ l' : List Addr, l'.Sublist l ∧ ∀ T' : List Addr, (∀ b ∈ T', b ∈ T) → (∀ b ∈ l, b ∈ T' → b ∈ l') → RO c.K (AT c.B T') H n v d l' := by
  by_cases z : n = some 0
  · subst z
    exact ⟨[], List.nil_sublist _, fun T' h1 h2 => .sh (RO.share (RO.mono (fun b o a _ => AT.less h1 a) h) fun b hb' => ⟨hb b hb', fun q => by have := h2 b hb' q; cases this⟩)⟩
  · exact RO.weak hn z h nd hb
theorem Ress.kids {rs : List R} {vs : List V} {n : Option Nat} (h : Ress c T H rs vs l) (hk : ∀ r ∈ rs, kidOk n r) (nd : l.Nodup) (hb : ∀ b ∈ l, c.B b) :
    ∃ l' : List Addr, l'.Sublist l ∧ ∀ T' : List Addr, (∀ b ∈ T', b ∈ T) → (∀ b ∈ l, b ∈ T' → b ∈ l') → ROs c.K (AT c.B T') H n vs (rs.map (·.d)) l' := by
  induction h with
  | nil => exact ⟨[], List.Sublist.refl _, fun _ _ _ => .nil⟩
  | @cons r rs v vs l1 l2 hr _ ih =>
    have nd' := List.nodup_append.mp nd
    obtain ⟨k2, s2, q2⟩ := ih (fun r hr => hk r (List.mem_cons_of_mem _ hr)) nd'.2.1 fun b hb' => hb b (List.mem_append_right _ hb')
    have h1 : ∃ k1 : List Addr, k1.Sublist l1 ∧ ∀ T' : List Addr, (∀ b ∈ T', b ∈ T) → (∀ b ∈ l1, b ∈ T' → b ∈ k1) → RO c.K (AT c.B T') H n v r.d k1 := by
      rcases hk r List.mem_cons_self with f | ⟨m, e, q⟩
      · exact ⟨[], List.nil_sublist _, fun T' _ _ => .flat (hr.read.flat f) f⟩
      · obtain ⟨d, m'⟩ := r
        cases e
        exact RO.lower hr.dep q nd'.1 fun b hb' => hb b (List.mem_append_left _ hb')
    obtain ⟨k1, s1, q1⟩ := h1
    refine ⟨k1 ++ k2, s1.append s2, fun T' g1 g2 => .cons (q1 T' g1 fun b hb' ht => ?_) (q2 T' g1 fun b hb' ht => ?_)⟩
    · rcases List.mem_append.mp (g2 b (List.mem_append_left _ hb') ht) with e | e
      · exact e
      · exact absurd rfl (nd'.2.2 b hb' b (s2.subset e))
    · rcases List.mem_append.mp (g2 b (List.mem_append_right _ hb') ht) with e | e
      · exact absurd rfl (nd'.2.2 b (s1.subset e) b hb')
      · exact e
theorem ROs.keepT {m : Option Nat} {vs : List V} {ds : List D} (h : ROs c.K (AT c.B T) H m vs ds l) (s : Same H H') (g : ∀ b ∈ T', b ∈ T ∨ H b = none) : ROs c.K (AT c.B T') H' m vs ds l :=
  (ROs.mono (fun b o a e => ⟨a.1, fun z => (g b z).elim a.2 fun n => by rw [e] at n; cases n⟩) h).keep (Kp.same s) fun b _ o e => s b o e
end
section
variable {c : Cn} {L L' : List (List Addr)} {Tm l l' : List Addr} {env : VEnv} {σ : Sg} {H H' : Hp}
theorem kids_ready {rs : List R} {vs : List V} {n : Option Nat} (S : Sim c L (Tm ++ l) env σ H) (h : Ress c (L.flatten ++ (Tm ++ l)) H rs vs l) (hn : joinM rs = some n) :
    ∃ l' : List Addr, l'.Sublist l ∧ ROs c.K (AT c.B (L.flatten ++ (Tm ++ l'))) H n vs (rs.map (·.d)) l' := by
  obtain ⟨nd, hb, hx⟩ := S.tmp
  obtain ⟨l', s, q⟩ := h.kids (joinM_ok hn) nd hb
  refine ⟨l', s, q _ (fun b hb' => ?_) fun b hb1 hb2 => ?_⟩
  · rcases List.mem_append.mp hb' with z | z
    · exact List.mem_append_left _ z
    · rcases List.mem_append.mp z with z | z
      · exact List.mem_append_right _ (List.mem_append_left _ z)
      · exact List.mem_append_right _ (List.mem_append_right _ (s.subset z))
  · rw [← List.append_assoc] at hb2
    exact (List.mem_append.mp hb2).elim (fun z => absurd z (hx b hb1)) id
end
def wLst : WF := fun rs Q => rs.length ≤ 1000 ∧ match joinM rs with
  | some n => Q ⟨.list (rs.map (·.d)), .o (succM n)⟩
  | none => Q ⟨.list (rs.map (·.d)), .b⟩
def wTup : WF := fun rs Q => rs.length ≤ 1000 ∧ match joinM rs with
  | some n => Q ⟨.tuple (rs.map (·.d)), .o n⟩
  | none => Q ⟨.tuple (rs.map (·.d)), .b⟩
section
variable {c : Cn} {W : WX} {X : Cx} {wa : WA} {es : List Expr} {pos : Pos}
theorem le_line {n : Nat} (h : n ≤ 1000) : n ≤ sizeLine := Nat.le_of_lt (small1000 h)
theorem new_end {L : List (List Addr)} {Tm l l' : List Addr} {env : VEnv} {σ : Sg} {H : Hp} {p : Addr} {o : HO} (S : Sim c L (Tm ++ l) env σ H) (np : H p = none) (s : l'.Sublist l) : Step c H (upd H p o) (L.flatten ++ (Tm ++ l)) Tm L (p :: l') env σ := by
  have S' : Sim c L (Tm ++ l') env σ H := S.less ((List.Sublist.refl _).append s)
  have st' := Step.new (o := o) S' np
  refine Step.perm (l := l' ++ [p]) ⟨st'.same, by rw [← List.append_assoc]; exact st'.sim, fun b hb => ?_⟩ (List.perm_append_singleton p l').symm
  rw [← List.append_assoc Tm] at hb
  rcases st'.gr b hb with z | z
  · exact .inl (mem_less (fun b hb => s.subset hb) b z)
  · exact .inr z
theorem s_lst : CallS c (fun xs H Q => xs.length ≤ sizeLine ∧ ∀ p, H p = none → Q (.ref p) (upd H p (.lst xs))) wLst := by
  intro L Tm l env σ H rs vs Qv Q S h ⟨hz, q⟩ k
  refine ⟨by rw [← h.len]; exact le_line hz, fun p np => ?_⟩
  cases hj : joinM rs with
  | none =>
    rw [hj] at q
    exact k _ _ [] _ q (new_end S np (List.nil_sublist _)).drop ⟨.lst upd_same trivial (h.read.keep (Kp.same (same_new np))), rfl⟩
  | some n =>
    rw [hj] at q
    obtain ⟨l', s, r⟩ := kids_ready S h hj
    refine k _ _ (p :: l') _ q (new_end S np s) (RO.lst (pop_succ n) upd_same (ROs.keepT r (same_new np) fun b hb => ?_))
    rcases List.mem_append.mp hb with z | z
    · exact .inl (List.mem_append_left _ z)
    · rcases List.mem_append.mp z with z | z
      · exact .inl (List.mem_append_right _ (List.mem_append_left _ z))
      · rcases List.mem_cons.mp z with z | z
        · subst z; exact .inr np
        · exact .inl (List.mem_append_right _ (List.mem_append_right _ z))
theorem s_tup : CallS c (fun xs H Q => xs.length ≤ sizeLine ∧ ∀ p, H p = none → Q (.ref p) (upd H p (.tup xs))) wTup := by
  intro L Tm l env σ H rs vs Qv Q S h ⟨hz, q⟩ k
  refine ⟨by rw [← h.len]; exact le_line hz, fun p np => ?_⟩
  have tp : (upd H p (.tup vs)) p = some (.tup vs) := upd_same
  cases hj : joinM rs with
  | none =>
    rw [hj] at q
    exact k _ _ [] _ q (new_end S np (List.nil_sublist _)).drop ⟨.tup tp (h.read.keep (Kp.same (same_new np))), rfl⟩
  | some n =>
    rw [hj] at q
    obtain ⟨l', s, r⟩ := kids_ready S h hj
    refine k _ _ l' _ q ((new_end S np s).sub (List.sublist_cons_self p l')) (RO.tup tp (ROs.keepT r (same_new np) fun b hb => .inl hb))
theorem ve_lst (ha : PA X es (rdA c W wa)) : PE X (.List es pos) (rdE c W (wCB wLst wa)) := PE.imp (pe_lst ha) fun _ _ _ => rd_cb s_lst
theorem ve_tup {x1} (ha : PA X es (rdA c W wa)) : PE X (.Tuple es x1 pos) (rdE c W (wCB wTup wa)) := PE.imp (pe_tup ha) fun _ _ _ => rd_cb s_tup
end
end VL
set_option maxRecDepth 100000
set_option maxHeartbeats 4000000
namespace VL
open PySem PySem.Spec PyProof.Rows L2
def kidM : Md → Md
  | .b => .b
  | .o none => .o none
  | .o (some 0) => .o (some 0)
  | .o (some (k + 1)) => .o (some k)
def subL (m : Md) (d : D) : R := if flatD d = true then ⟨d, mA⟩ else ⟨d, kidM m⟩
def subT (m : Md) (d : D) : R := if flatD d = true then ⟨d, mA⟩ else ⟨d, m⟩
section
variable {K : PySem.W.Frag} {A : Addr → Prop} {c : Cn} {T l : List Addr} {H : Hp}
theorem ROs.get : ∀ {m : Option Nat} {vs : List V} {ds : List D} {l : List Addr} {i : Nat} {d : D}, ROs K A H m vs ds l → ds[i]? = some d → ∃ v l', vs[i]? = some v ∧ RO K A H m v d l' ∧ l'.Sublist l
  | _, _, _, _, _, _, .nil, e => by simp at e
  | _, _, _, _, 0, _, .cons h _, e => by simp at e; subst e; exact ⟨_, _, rfl, h, List.sublist_append_left _ _⟩
  | _, _, _, _, i + 1, d, .cons _ r, e => by
    obtain ⟨v, l', h1, h2, h3⟩ := ROs.get (i := i) r (by simpa using e)
    exact ⟨v, l', by simpa using h1, h2, h3.trans (List.sublist_append_right _ _)⟩
theorem ROs.len : ∀ {m : Option Nat} {vs : List V} {ds : List D} {l : List Addr}, ROs K A H m vs ds l → vs.length = ds.length
  | _, _, _, _, .nil => rfl
  | _, _, _, _, .cons _ r => by simp [ROs.len r]
theorem RS.lst_inv {v : V} {ds : List D} (h : RS K A H v (.list ds)) : ∃ a xs, v = .ref a ∧ H a = some (.lst xs) ∧ A a ∧ RSs K A H xs ds := by
  generalize e : PyData.list ds = d at h
  cases h with
  | lst ha a r => cases e; exact ⟨_, _, rfl, ha, a, r⟩
  | dct _ _ _ _ => simp [mkDict] at e
  | scr _ => simp [scriptD] at e
  | opq a => simp [opD] at e
  | wtp a => simp [wtD] at e
  | ins _ _ _ _ _ => simp [insD] at e
  | _ => cases e
theorem RS.tup_inv {v : V} {ds : List D} (h : RS K A H v (.tuple ds)) : ∃ a xs, v = .ref a ∧ H a = some (.tup xs) ∧ RSs K A H xs ds := by
  generalize e : PyData.tuple ds = d at h
  cases h with
  | tup ha r => cases e; exact ⟨_, _, rfl, ha, r⟩
  | dct _ _ _ _ => simp [mkDict] at e
  | scr _ => simp [scriptD] at e
  | opq a => simp [opD] at e
  | wtp a => simp [wtD] at e
  | ins _ _ _ _ _ => simp [insD] at e
  | _ => cases e
theorem RO.lst_inv {m : Option Nat} {v : V} {ds : List D} (h : RO K A H m v (.list ds) l) : (m = some 0 ∧ l = [] ∧ RS K A H v (.list ds)) ∨ ∃ n a xs l', popM m = some n ∧ v = .ref a ∧ H a = some (.lst xs) ∧ ROs K A H n xs ds l' ∧ l = a :: l' := by
  generalize e : PyData.list ds = d at h
  cases h with
  | sh r => exact .inl ⟨rfl, rfl, r⟩
  | flat r f => subst e; simp [flatD] at f
  | lst p ha r => cases e; exact .inr ⟨_, _, _, _, p, rfl, ha, r, rfl⟩
  | dct _ _ _ _ => simp [mkDict] at e
  | opq a => simp [opD] at e
  | wtp a => simp [wtD] at e
  | ins _ _ _ _ _ => simp [insD] at e
  | tup _ _ => cases e
theorem Res.kidL {m : Md} {ds : List D} {v : V} (h : Res c T H ⟨.list ds, m⟩ v l) : ∃ a xs, v = .ref a ∧ H a = some (.lst xs) ∧ xs.length = ds.length ∧
    ∀ (i : Nat) (d : D), ds[i]? = some d → ∃ v' l', xs[i]? = some v' ∧ l'.Sublist l ∧ Res c T H ⟨d, kidM m⟩ v' l' := by
  have sh : ∀ {A : Addr → Prop} {v : V}, RS c.K A H v (.list ds) → ∃ a xs, v = .ref a ∧ H a = some (.lst xs) ∧ xs.length = ds.length ∧ ∀ (i : Nat) (d : D), ds[i]? = some d → ∃ v', xs[i]? = some v' ∧ RS c.K A H v' d := fun {A v} h => by
    obtain ⟨a, xs, e, ha, _, r⟩ := h.lst_inv
    exact ⟨a, xs, e, ha, r.len, fun i d e => r.get e⟩
  cases m with
  | b =>
    obtain ⟨a, xs, e, ha, hl, q⟩ := sh h.1
    exact ⟨a, xs, e, ha, hl, fun i d e => let ⟨v', e', r⟩ := q i d e; ⟨v', [], e', List.nil_sublist _, r, rfl⟩⟩
  | o m =>
    rcases RO.lst_inv h.dep with ⟨rfl, rfl, r⟩ | ⟨n, a, xs, l', p, e, ha, r, rfl⟩
    · obtain ⟨a, xs, e, ha, hl, q⟩ := sh r
      exact ⟨a, xs, e, ha, hl, fun i d e => let ⟨v', e', r⟩ := q i d e; ⟨v', [], e', List.nil_sublist _, RO.sh r⟩⟩
    · refine ⟨a, xs, e, ha, r.len, fun i d e => ?_⟩
      obtain ⟨v', l1, h1, h2, h3⟩ := r.get e
      refine ⟨v', l1, h1, h3.trans (List.sublist_cons_self _ _), ?_⟩
      match m, p with
      | none, p => cases p; exact h2
      | some (k + 1), p => cases p; exact h2
theorem Res.kidT {m : Md} {ds : List D} {v : V} (h : Res c T H ⟨.tuple ds, m⟩ v l) : ∃ a xs, v = .ref a ∧ H a = some (.tup xs) ∧ xs.length = ds.length ∧
    ∀ (i : Nat) (d : D), ds[i]? = some d → ∃ v' l', xs[i]? = some v' ∧ l'.Sublist l ∧ Res c T H ⟨d, m⟩ v' l' := by
  cases m with
  | b =>
    obtain ⟨a, xs, e, ha, r⟩ := h.1.tup_inv
    exact ⟨a, xs, e, ha, r.len, fun i d e => let ⟨v', e', r'⟩ := r.get e; ⟨v', [], e', List.nil_sublist _, r', rfl⟩⟩
  | o m =>
    have h' := h.dep
    generalize e : PyData.tuple ds = d at h'
    cases h' with
    | opq a => simp [opD] at e
    | wtp a => simp [wtD] at e
    | ins _ _ _ _ _ => simp [insD] at e
    | sh r =>
      subst e
      obtain ⟨a, xs, e, ha, r⟩ := r.tup_inv
      exact ⟨a, xs, e, ha, r.len, fun i d e => let ⟨v', e', r'⟩ := r.get e; ⟨v', [], e', List.nil_sublist _, RO.sh r'⟩⟩
    | flat r f =>
      subst e
      obtain ⟨a, xs, e, ha, r⟩ := r.tup_inv
      have f' : flatAll ds = true := by simpa [flatD] using f
      exact ⟨a, xs, e, ha, r.len, fun i d e => let ⟨v', e', r'⟩ := r.get e; ⟨v', [], e', List.nil_sublist _, RO.flat r' (flat_get f' e)⟩⟩
    | tup ha r =>
      cases e
      exact ⟨_, _, rfl, ha, r.len, fun i d e => let ⟨v', l1, h1, h2, h3⟩ := r.get e; ⟨v', l1, h1, h3, h2⟩⟩
    | lst _ _ _ => cases e
    | dct _ _ _ _ => simp [mkDict] at e
where
  flat_get : ∀ {ds : List D} {i : Nat} {d : D}, flatAll ds = true → ds[i]? = some d → flatD d = true
    | [], _, _, _, e => by simp at e
    | x :: ds, 0, d, f, e => by simp [flatAll] at f e; subst e; exact f.1
    | x :: ds, i + 1, d, f, e => by simp [flatAll] at f e; exact flat_get f.2 e
theorem Res.ofSub {m : Md} {d : D} {v : V} (h : Res c T H ⟨d, m⟩ v l) : ∃ l', l'.Sublist l ∧ Res c T H (if flatD d = true then ⟨d, mA⟩ else ⟨d, m⟩) v l' := by
  by_cases f : flatD d = true
  · rw [if_pos f]; exact ⟨[], List.nil_sublist _, Res.flat h.read f⟩
  · rw [if_neg f]; exact ⟨l, List.Sublist.refl _, h⟩
theorem atI_tr {α β : Type} {xs : List α} {ys : List β} {i : Int} {y : β} (hl : xs.length = ys.length) (h : atI ys i = some y) : ∃ j : Nat, ys[j]? = some y ∧ ∀ x, xs[j]? = some x → atI xs i = some x := by
  unfold atI at h ⊢
  rw [← hl] at h
  cases hj : ixN xs.length i with
  | none => rw [hj] at h; cases h
  | some j => rw [hj] at h; exact ⟨j, h, fun x e => e⟩
end
def wIx : WO := fun ra rb Q => ∃ i, rb.d = .int i ∧ match ra.d with
  | .list ds => ∃ d, atI ds i = some d ∧ Q (subL ra.m d)
  | .tuple ds => ∃ d, atI ds i = some d ∧ Q (subT ra.m d)
  | .str z => z.length ≤ sizeLine ∧ ∃ k, atI z.cps.toList i = some k ∧ Q ⟨.str ⟨#[k]⟩, mA⟩
  | _ => False
section
variable {X : Cx} {c : Cn} {W : WX} {pos : Pos} {wa wb : WE} {a b : Expr}
theorem temp_end {L : List (List Addr)} {Tm l l' : List Addr} {env : VEnv} {σ : Sg} {H : Hp} {r : R} {v : V} {Qv : R → Prop} {Q : VK} (S : Sim c L (Tm ++ l) env σ H) (s : l'.Sublist l) (q : Qv r) (h : Res c (L.flatten ++ (Tm ++ l)) H r v l')
    (k : ∀ r v l' H', Qv r → Step c H H' (L.flatten ++ (Tm ++ l)) Tm L l' env σ → Res c (L.flatten ++ (Tm ++ l')) H' r v l' → Q v H') : Q v H :=
  k r v l' H q ⟨Same.refl H, S.less ((List.Sublist.refl _).append s), fun b hb => .inl (mem_less (fun b hb => s.subset hb) b hb)⟩ (h.keep (Same.refl H) fun b hb => .inl (mem_less (fun b hb => s.subset hb) b hb))
theorem s_ix : OpS c (rIx c.K) wIx := by
  intro L Tm la lb env σ H ra rb x y Qv Q S h1 h2 ⟨i, e2, q⟩ k
  obtain ⟨d, m⟩ := ra
  obtain ⟨d2, m2⟩ := rb
  cases e2
  have r2 := h2.read
  cases r2
  have sub : ∀ {l' : List Addr}, l'.Sublist la → l'.Sublist (la ++ lb) := fun s => s.trans (List.sublist_append_left _ _)
  match d, q with
  | .list ds, ⟨d, e, q⟩ =>
    obtain ⟨a, xs, rfl, ha, hl, g⟩ := Res.kidL (ds := ds) (m := m) h1
    obtain ⟨j, e1, e2⟩ := atI_tr hl e
    obtain ⟨v', l', e3, s, r⟩ := g j d e1
    obtain ⟨l'', s', r'⟩ := r.ofSub
    exact .inl ⟨a, xs, i, v', rfl, rfl, SqL.of ha, e2 v' e3, temp_end S (sub (s'.trans s)) q r' k⟩
  | .tuple ds, ⟨d, e, q⟩ =>
    obtain ⟨a, xs, rfl, ha, hl, g⟩ := Res.kidT (ds := ds) (m := m) h1
    obtain ⟨j, e1, e2⟩ := atI_tr hl e
    obtain ⟨v', l', e3, s, r⟩ := g j d e1
    obtain ⟨l'', s', r'⟩ := r.ofSub
    exact .inr (.inl ⟨a, xs, i, v', rfl, rfl, SqT.of ha, e2 v' e3, temp_end S (sub (s'.trans s)) q r' k⟩)
  | .str z, ⟨hz, kk, e, q⟩ =>
    have := h1.read
    cases this
    exact .inr (.inr ⟨z, i, kk, rfl, rfl, hz, e, flat_end1 S q (.str _) rfl k⟩)
theorem ve_ix (ha : PE X a (rdE c W wa)) (hb : PE X b (rdE c W wb)) (hK : c.K = X.K := by rfl) (hs : PlainIx b := by exact fun _ _ => rfl) : PE X (.Subscript a b pos) (rdE c W (wBin wIx wa wb)) :=
  PE.imp (pe_ix ix_seq ha hb hs) fun _ _ _ => by rw [← hK]; exact rd_bin s_ix
end
def cpR (ds : List D) (b : Bool) : R := ⟨.list ds, if flatAll ds = true then mA else if b = true then .b else .o (some 1)⟩
section
variable {c : Cn} {L : List (List Addr)} {Tm l : List Addr} {env : VEnv} {σ : Sg} {H : Hp} {Qv : R → Prop} {Q : VK}
theorem flat_kids {K : PySem.W.Frag} {A A' : Addr → Prop} {xs : List V} {ds : List D} (h : RSs K A H xs ds) (f : flatAll ds = true) : ROs K A' H none xs ds [] := by
  induction xs generalizing ds with
  | nil => cases h; exact .nil
  | cons x xs ih =>
    cases h with
    | cons h r =>
      simp only [flatAll, Bool.and_eq_true] at f
      exact .cons (l1 := []) (l2 := []) (.flat (h.flat f.1) f.1) (ih r f.2)
theorem cp_end {p : Addr} {xs : List V} {ds : List D} {b : Bool} (S : Sim c L (Tm ++ l) env σ H) (np : H p = none) (h : RSs c.K (fun _ => True) H xs ds) (h' : b = false → RSs c.K (AT c.B (L.flatten ++ Tm)) H xs ds) (q : Qv (cpR ds b))
    (k : ∀ r v l' H', Qv r → Step c H H' (L.flatten ++ (Tm ++ l)) Tm L l' env σ → Res c (L.flatten ++ (Tm ++ l')) H' r v l' → Q v H') : Q (.ref p) (upd H p (.lst xs)) := by
  have s := same_new (o := .lst xs) np
  unfold cpR at q
  have st := new_end (o := .lst xs) S np (List.nil_sublist l)
  by_cases f : flatAll ds = true
  · rw [if_pos f] at q
    exact k _ _ [p] _ q st (RO.lst (by rfl) upd_same (flat_kids (h.keep (Kp.same s)) f))
  · rw [if_neg f] at q
    cases b with
    | true => exact k _ _ [] _ q st.drop ⟨.lst upd_same trivial (h.keep (Kp.same s)), rfl⟩
    | false =>
      refine k _ _ [p] _ q st (RO.lst (n := some 0) (by rfl) upd_same (ROs.toSh (((h' rfl).mono fun b o a e => ⟨a.1, fun z => ?_⟩).keep (Kp.same s))))
      rw [← List.append_assoc] at z
      rcases List.mem_append.mp z with z | z
      · exact a.2 z
      · simp at z; subst z; rw [np] at e; cases e
end
end VL
set_option maxRecDepth 100000
set_option maxHeartbeats 4000000
namespace VL
open PySem PySem.Spec PyProof.Rows L2
section
variable {c : Cn}
def woAdd : WO := fun ra rb Q => match ra.d, rb.d with
  | .int i, .int j => Q ⟨.int (i + j), mA⟩
  | .str x, .str y => x.length + y.length ≤ sizeLine ∧ Q ⟨.str (x ++ y), mA⟩
  | .list xs, .list ys => xs.length + ys.length ≤ sizeLine ∧ Q (cpR (xs ++ ys) (isB ra.m || isB rb.m))
  | _, _ => False
def rAdd : R2 := fun x y H Q => rI0 (fun i j => .int (i + j)) x y H Q ∨ (∃ i j, x = .str i ∧ y = .str j ∧ i.length + j.length ≤ sizeLine ∧ Q (.str (i ++ j)) H) ∨ rCat x y H Q
theorem op_add3 {X : Cx} : OpR X (binaryOp .Add) rAdd := op_add.or (op_add_str.or op_cat)
theorem Res.lstS {L : List (List Addr)} {Tm l la : List Addr} {env : VEnv} {σ : Sg} {H : Hp} {ds : List D} {m : Md} {v : V} (h : Res c (L.flatten ++ (Tm ++ la)) H ⟨.list ds, m⟩ v l) (hm : isB m = false) (S : Sim c L (Tm ++ la) env σ H) (hl : ∀ b ∈ l, b ∈ la) :
    ∃ a xs, v = .ref a ∧ H a = some (.lst xs) ∧ RSs c.K (AT c.B (L.flatten ++ Tm)) H xs ds := by
  cases m with
  | b => cases hm
  | o m =>
    obtain ⟨a, xs, e, ha, _, r⟩ := (Res.shared (m := m) h rfl S hl).lst_inv
    exact ⟨a, xs, e, ha, r⟩
theorem s_add : OpS c rAdd woAdd := by
  intro L Tm la lb env σ H ra rb x y Qv Q S h1 h2 q k
  obtain ⟨d1, m1⟩ := ra
  obtain ⟨d2, m2⟩ := rb
  have r1 := h1.read
  have r2 := h2.read
  unfold woAdd at q
  simp only at q r1 r2
  split at q
  · cases r1; cases r2
    exact .inl ⟨_, _, rfl, rfl, flat_end1 S q (.int _) rfl k⟩
  · cases r1; cases r2
    exact .inr (.inl ⟨_, _, rfl, rfl, q.1, flat_end1 S q.2 (.str _) rfl k⟩)
  · rename_i xs ys
    obtain ⟨a, us, rfl, ha, _, r1'⟩ := r1.lst_inv
    obtain ⟨b, ws, rfl, hb, _, r2'⟩ := r2.lst_inv
    refine .inr (.inr ⟨a, b, us, ws, rfl, rfl, ha, hb, by rw [r1'.len, r2'.len]; exact q.1, fun p np => ?_⟩)
    refine cp_end S np (RSs.append r1' r2') (fun hm => ?_) q.2 k
    simp only [Bool.or_eq_false_iff] at hm
    obtain ⟨a', us', e1, ha', s1⟩ := Res.lstS (m := m1) h1 hm.1 S fun b hb => List.mem_append_left _ hb
    obtain ⟨b', ws', e2, hb', s2⟩ := Res.lstS (m := m2) h2 hm.2 S fun b hb => List.mem_append_right _ hb
    cases e1; cases e2
    rw [ha] at ha'; cases ha'
    rw [hb] at hb'; cases hb'
    exact RSs.append s1 s2
  · exact q.elim
def woMul : WO := fun ra rb Q => match ra.d, rb.d with
  | .int i, .int j => (CMul i j ∨ CMulW i j) ∧ Q ⟨.int (i * j), mA⟩
  | .list xs, .int k => -(2 ^ 63) ≤ k ∧ k < 2 ^ 63 ∧ xs.length * k.toNat ≤ sizeLine ∧ Q (cpR (List.replicate k.toNat xs).flatten (isB ra.m))
  | _, _ => False
def rMul : R2 := fun x y H Q => rI CMul (fun i j => .int (i * j)) x y H Q ∨ rI CMulW (fun i j => .int (i * j)) x y H Q ∨ rRep x y H Q
theorem op_mul3 {X : Cx} : OpR X (binaryOp .Mult) rMul := op_mul.or (op_mulW.or op_rep)
theorem s_mul : OpS c rMul woMul := by
  intro L Tm la lb env σ H ra rb x y Qv Q S h1 h2 q k
  obtain ⟨d1, m1⟩ := ra
  obtain ⟨d2, m2⟩ := rb
  have r1 := h1.read
  have r2 := h2.read
  unfold woMul at q
  simp only at q r1 r2
  split at q
  · cases r1; cases r2
    rcases q.1 with z | z
    · exact .inl ⟨_, _, rfl, rfl, z, flat_end1 S q.2 (.int _) rfl k⟩
    · exact .inr (.inl ⟨_, _, rfl, rfl, z, flat_end1 S q.2 (.int _) rfl k⟩)
  · rename_i xs kk
    cases r2
    obtain ⟨a, us, rfl, ha, _, r1'⟩ := r1.lst_inv
    refine .inr (.inr ⟨a, kk, us, rfl, rfl, ha, q.1, q.2.1, by rw [r1'.len]; exact q.2.2.1, fun p np => ?_⟩)
    refine cp_end S np (RSs.rep r1' _) (fun hm => ?_) q.2.2.2 k
    obtain ⟨a', us', e1, ha', s1⟩ := Res.lstS (m := m1) h1 hm S fun b hb => List.mem_append_left _ hb
    cases e1
    rw [ha] at ha'; cases ha'
    exact RSs.rep s1 _
  · exact q.elim
end
section
variable {X : Cx} {c : Cn} {W : WX} {pos : Pos} {wa wb : WE} {a b : Expr}
theorem ve_add (ha : PE X a (rdE c W wa)) (hb : PE X b (rdE c W wb)) : PE X (.BinOp a .Add b pos) (rdE c W (wBin woAdd wa wb)) := ve_op op_add3 s_add ha hb
theorem ve_mul (ha : PE X a (rdE c W wa)) (hb : PE X b (rdE c W wb)) : PE X (.BinOp a .Mult b pos) (rdE c W (wBin woMul wa wb)) := ve_op op_mul3 s_mul ha hb
def woSub : WO := woI0 fun i j => .int (i - j)
theorem ve_sub (ha : PE X a (rdE c W wa)) (hb : PE X b (rdE c W wb)) : PE X (.BinOp a .Sub b pos) (rdE c W (wBin woSub wa wb)) := ve_op op_sub (ops_I0 (fun _ _ _ _ _ => .int _) fun _ _ => rfl) ha hb
def woMod : WO := woI (fun _ j => 0 < j) fun i j => .int (i % j)
theorem ve_mod (ha : PE X a (rdE c W wa)) (hb : PE X b (rdE c W wb)) : PE X (.BinOp a .Mod b pos) (rdE c W (wBin woMod wa wb)) := ve_op op_mod (ops_I (fun _ _ _ _ _ => .int _) fun _ _ => rfl) ha hb
def woFd : WO := woI (fun i j => CDiv i j ∨ CDivW i j) fun i j => .int (i / j)
theorem op_fd {X : Cx} : OpR X (binaryOp .FloorDiv) (rI (fun i j => CDiv i j ∨ CDivW i j) fun i j => .int (i / j)) := by
  intro pins s σ H x y v u Q I rx ry ⟨i, j, e1, e2, hc, q⟩
  rcases hc with hc | hc
  · exact op_fdiv pins s σ H x y v u Q I rx ry ⟨i, j, e1, e2, hc, q⟩
  · exact op_fdivW pins s σ H x y v u Q I rx ry ⟨i, j, e1, e2, hc, q⟩
theorem ve_fd (ha : PE X a (rdE c W wa)) (hb : PE X b (rdE c W wb)) : PE X (.BinOp a .FloorDiv b pos) (rdE c W (wBin woFd wa wb)) := ve_op op_fd (ops_I (fun _ _ _ _ _ => .int _) fun _ _ => rfl) ha hb
def woPow : WO := woI CPow fun i j => .int (i ^ j.toNat)
theorem ve_pow (ha : PE X a (rdE c W wa)) (hb : PE X b (rdE c W wb)) : PE X (.BinOp a .Pow b pos) (rdE c W (wBin woPow wa wb)) := ve_op op_pow (ops_I (fun _ _ _ _ _ => .int _) fun _ _ => rfl) ha hb
def wNeg (w : WE) : WE := fun env Q X => w env (fun r e => ∃ i, r.d = .int i ∧ Q ⟨.int (-i), mA⟩ e) X
theorem rd_un {r1 : V → Hp → VK → Prop} {w : WE} {g : R → (D → Prop) → Prop} (hg : ∀ (c : Cn) T H r v l (Qd : D → Prop) (Q : VK), Res c T H r v l → g r Qd → (∀ d v, Qd d → flatD d = true → RS c.K (fun _ => True) H v d → Q v H) → r1 v H Q)
    {σ : Sg} {H : Hp} {Q : VK} (h : rdE c W (fun env Q X => w env (fun r e => g r fun d => Q ⟨d, mA⟩ e) X) σ H Q) : tUn r1 (rdE c W w) σ H Q := by
  obtain ⟨env, L, Tm, Qv, X, S, q, k, kx⟩ := h
  refine ⟨env, L, Tm, _, X, S, q, fun r v l L1 env1 H1 h1 st r1' => ?_, kx⟩
  exact hg c _ H1 r v l _ Q r1' h1 fun d v q f rs => k ⟨d, mA⟩ v [] L1 env1 H1 q st.drop (Res.flat rs f)
theorem ve_neg (ha : PE X a (rdE c W wa)) : PE X (.UnaryOp .USub a pos) (rdE c W (wNeg wa)) := PE.imp (pe_un un_neg ha) fun σ H Q h => by
  refine rd_un (g := fun r Q => ∃ i, r.d = .int i ∧ Q (.int (-i))) (fun c T H r v l Qd Q hr ⟨i, e, q⟩ k => ?_) h
  obtain ⟨d, m⟩ := r
  cases e
  have := hr.read
  cases this
  exact ⟨i, rfl, k _ _ q rfl (.int _)⟩
end
def scalD : D → D → Option Bool
  | .int i, .int j => some (decide (i = j))
  | .str x, .str y => some (decide (x = y))
  | .bool a, .bool b => some (decide (a = b))
  | .none, .none => some true
  | .none, .int _ => some false | .int _, .none => some false
  | .none, .bool _ => some false | .bool _, .none => some false
  | .none, .str _ => some false | .str _, .none => some false
  | .int _, .str _ => some false | .str _, .int _ => some false
  | .bool _, .str _ => some false | .str _, .bool _ => some false
  | _, _ => none
def woEq : WO := fun ra rb Q => match scalD ra.d rb.d with
  | some b => Q ⟨.bool b, mA⟩
  | none => SeqAt.shaped ra.d = true ∧ SeqAt.shaped rb.d = true ∧ Q ⟨.bool (PyData.eqv ra.d rb.d), mA⟩
def woNe : WO := fun ra rb Q => match scalD ra.d rb.d with
  | some b => Q ⟨.bool (!b), mA⟩
  | none => SeqAt.shaped ra.d = true ∧ SeqAt.shaped rb.d = true ∧ Q ⟨.bool (!PyData.eqv ra.d rb.d), mA⟩
section
variable {c : Cn}
theorem scal_sound {K : PySem.W.Frag} {A : Addr → Prop} {H : Hp} {x y : V} {d e : D} {b : Bool} (h1 : RS K A H x d) (h2 : RS K A H y e) (h : scalD d e = some b) : scal x y = true ∧ decide (x = y) = b := by
  unfold scalD at h
  split at h <;> first | (cases h1; cases h2; cases h; simp [scal]; done) | cases h
theorem s_eq : OpS c (fun x y H Q => rEq x y H Q ∨ rEqD c.K x y H Q) woEq := by
  intro L Tm la lb env σ H ra rb x y Qv Q S h1 h2 q k
  unfold woEq at q
  cases hs : scalD ra.d rb.d with
  | some b =>
    rw [hs] at q
    obtain ⟨e1, e2⟩ := scal_sound h1.read h2.read hs
    refine .inl ⟨e1, ?_⟩
    rw [e2]
    exact flat_end1 S q (.bl _) rfl k
  | none =>
    rw [hs] at q
    obtain ⟨s1, s2, q⟩ := q
    exact .inr ⟨ra.d, rb.d, h1.read.dp (SeqAt.canLay_of_shaped s1), h2.read.dp (SeqAt.canLay_of_shaped s2), s1, s2, flat_end1 S q (.bl _) rfl k⟩
theorem s_ne : OpS c (fun x y H Q => rNe x y H Q ∨ rNeD c.K x y H Q) woNe := by
  intro L Tm la lb env σ H ra rb x y Qv Q S h1 h2 q k
  unfold woNe at q
  cases hs : scalD ra.d rb.d with
  | some b =>
    rw [hs] at q
    obtain ⟨e1, e2⟩ := scal_sound h1.read h2.read hs
    refine .inl ⟨e1, ?_⟩
    rw [e2]
    exact flat_end1 S q (.bl _) rfl k
  | none =>
    rw [hs] at q
    obtain ⟨s1, s2, q⟩ := q
    exact .inr ⟨ra.d, rb.d, h1.read.dp (SeqAt.canLay_of_shaped s1), h2.read.dp (SeqAt.canLay_of_shaped s2), s1, s2, flat_end1 S q (.bl _) rfl k⟩
def isNon : D → Bool
  | .none => true
  | _ => false
def woIsN : WO := fun ra rb Q => rb.d = .none ∧ Q ⟨.bool (isNon ra.d), mA⟩
def woNotN : WO := fun ra rb Q => rb.d = .none ∧ Q ⟨.bool (!isNon ra.d), mA⟩
theorem non_sound {K : PySem.W.Frag} {A : Addr → Prop} {H : Hp} {x : V} {d : D} (h : RS K A H x d) : decide (x = .non) = isNon d := by
  cases h <;> simp [isNon, mkDict, scriptD, opD, insD, wtD]
theorem s_isN : OpS c (fun x y H Q => y = .non ∧ Q (.bl (decide (x = .non))) H) woIsN := by
  intro L Tm la lb env σ H ra rb x y Qv Q S h1 h2 ⟨e, q⟩ k
  obtain ⟨d2, m2⟩ := rb
  cases e
  have := h2.read
  cases this
  refine ⟨rfl, ?_⟩
  rw [non_sound h1.read]
  exact flat_end1 S q (.bl _) rfl k
theorem s_notN : OpS c (fun x y H Q => y = .non ∧ Q (.bl (!decide (x = .non))) H) woNotN := by
  intro L Tm la lb env σ H ra rb x y Qv Q S h1 h2 ⟨e, q⟩ k
  obtain ⟨d2, m2⟩ := rb
  cases e
  have := h2.read
  cases this
  refine ⟨rfl, ?_⟩
  rw [non_sound h1.read]
  exact flat_end1 S q (.bl _) rfl k
end
section
variable {X : Cx} {c : Cn} {W : WX} {pos : Pos} {wa wb : WE} {a b : Expr}
def woLt : WO := woI0 fun i j => .bool (decide (i < j))
def woLe : WO := woI0 fun i j => .bool (decide (i ≤ j))
def woGt : WO := woI0 fun i j => .bool (decide (j < i))
theorem s_lt : OpS c (rI0 fun i j => .bl (decide (i < j))) woLt := ops_I0 (fun _ _ _ _ _ => .bl _) fun _ _ => rfl
theorem s_le : OpS c (rI0 fun i j => .bl (decide (i ≤ j))) woLe := ops_I0 (fun _ _ _ _ _ => .bl _) fun _ _ => rfl
theorem s_gt : OpS c (rI0 fun i j => .bl (decide (j < i))) woGt := ops_I0 (fun _ _ _ _ _ => .bl _) fun _ _ => rfl
structure CmpOk (X : Cx) (c : Cn) (op : CmpOp) (wo : WO) : Prop where
  ok : ∃ r2, OpR X (compareOp op) r2 ∧ OpS c r2 wo
theorem c_lt : CmpOk X c .Lt woLt := ⟨_, op_lt, s_lt⟩
theorem c_le : CmpOk X c .LtE woLe := ⟨_, op_le, s_le⟩
theorem c_gt : CmpOk X c .Gt woGt := ⟨_, op_gt, s_gt⟩
theorem c_eq {k : Nat} (hr : Room k X.A) (hK : c.K = X.K := by rfl) : CmpOk X c .Eq woEq := ⟨_, op_eq.or (op_eqD hr.units), by rw [← hK]; exact s_eq⟩
theorem c_ne {k : Nat} (hr : Room k X.A) (hK : c.K = X.K := by rfl) : CmpOk X c .NotEq woNe := ⟨_, op_ne.or (op_neD hr.units), by rw [← hK]; exact s_ne⟩
theorem c_isN : CmpOk X c .Is woIsN := ⟨_, op_isN, s_isN⟩
theorem c_notN : CmpOk X c .IsNot woNotN := ⟨_, op_notN, s_notN⟩
theorem ve_c {op : CmpOp} {wo : WO} (h : CmpOk X c op wo) (ha : PE X a (rdE c W wa)) (hb : PE X b (rdE c W wb)) (hm : behindInMarks op b = false := by first | exact nomark _ | with_unfolding_all rfl) : PE X (.Compare a [op] [b] pos) (rdE c W (wBin wo wa wb)) := by
  obtain ⟨r2, ho, hs⟩ := h.ok
  exact ve_cmp ho hs ha hb hm
theorem vt_c {op : CmpOp} {wo : WO} (h : CmpOk X c op wo) (ha : PE X a (rdE c W wa)) (hb : PE X b (rdE c W wb)) (hm : behindInMarks op b = false := by first | exact nomark _ | with_unfolding_all rfl) : PT X (.Compare a [op] [b] pos) (rdT c W (wTest (wBin wo wa wb))) := by
  obtain ⟨r2, ho, hs⟩ := h.ok
  exact vt_cmp ho hs ha hb hm
end
def wAnd (w u : WT) : WT := fun env Q X => w env (fun b e => if b = true then u e Q X else Q false e) X
def wOr (w u : WT) : WT := fun env Q X => w env (fun b e => if b = true then Q true e else u e Q X) X
def wNot (w : WT) : WT := fun env Q X => w env (fun b e => Q (!b) e) X
def wAndV (wa wb : WE) : WE := fun env Q X => wa env (fun r e => ∃ b, r.d = .bool b ∧ if b = true then wb e Q X else Q ⟨.bool false, mA⟩ e) X
def wOrV (wa wb : WE) : WE := fun env Q X => wa env (fun r e => ∃ b, r.d = .bool b ∧ if b = true then Q ⟨.bool true, mA⟩ e else wb e Q X) X
def wNotV (wa : WE) : WE := fun env Q X => wa env (fun r e => ∃ b, r.d = .bool b ∧ Q ⟨.bool (!b), mA⟩ e) X
section
variable {X : Cx} {c : Cn} {W : WX} {pos : Pos} {wa wb : WE} {w u : WT} {a b : Expr} {rest : List Expr}
theorem Kont.next {σ : Sg} {L L1 : List (List Addr)} {Tm la : List Addr} {H H1 : Hp} {env1 : VEnv} {Qv : R → VEnv → Prop} {Q : VK} (k : Kont c σ L Tm H Qv Q) (st : Step c H H1 (L.flatten ++ Tm) Tm L1 la env1 σ) : Kont c σ L1 Tm H1 Qv Q :=
  fun r v l L' env' H' q s r' => k r v l L' env' H' q (Step.then st (s.wider fun b hb => by rw [← List.append_assoc]; exact List.mem_append_left _ hb)) r'
theorem KontX.next {σ : Sg} {L L1 : List (List Addr)} {Tm la : List Addr} {H H1 : Hp} {env1 : VEnv} {X : Exn → VEnv → Prop} {W : WX} (k : KontX c σ L Tm H X W) (st : Step c H H1 (L.flatten ++ Tm) Tm L1 la env1 σ) : KontX c σ L1 Tm H1 X W :=
  fun ex cls d L' env' H' hx s e => k ex cls d L' env' H' hx (Step.then st (s.wider fun b hb => by rw [← List.append_assoc]; exact List.mem_append_left _ hb)) e
theorem vw_and1 (ha : PT X a (rdT c W w)) : PW X (.BoolOp .And [a] pos) (rdT c W w) := pw_and1 ha
theorem vw_or1 (ha : PT X a (rdT c W w)) : PW X (.BoolOp .Or [a] pos) (rdT c W w) := pw_or1 ha
theorem vw_and (ha : PT X a (rdT c W w)) (hb : PW X (.BoolOp .And (b :: rest) pos) (rdT c W u)) : PW X (.BoolOp .And (a :: b :: rest) pos) (rdT c W (wAnd w u)) := PW.imp (pw_and ha hb) fun σ H Q h => by
  obtain ⟨env, L, Tm, Qv, X, S, q, k, kx⟩ := h
  refine ⟨env, L, Tm, _, X, S, q, fun b L1 env1 H1 h1 st => ?_, kx⟩
  cases b with
  | true => exact ⟨env1, L1, Tm, Qv, X, st.sim0, h1, fun b L2 env2 H2 h2 st2 => k b L2 env2 H2 h2 (Step.then st (st2.wider fun b hb => by rw [← List.append_assoc]; exact List.mem_append_left _ hb)), kx.next st⟩
  | false => exact k false L1 env1 H1 h1 st
theorem vw_or (ha : PT X a (rdT c W w)) (hb : PW X (.BoolOp .Or (b :: rest) pos) (rdT c W u)) : PW X (.BoolOp .Or (a :: b :: rest) pos) (rdT c W (wOr w u)) := PW.imp (pw_or ha hb) fun σ H Q h => by
  obtain ⟨env, L, Tm, Qv, X, S, q, k, kx⟩ := h
  refine ⟨env, L, Tm, _, X, S, q, fun b L1 env1 H1 h1 st => ?_, kx⟩
  cases b with
  | false => exact ⟨env1, L1, Tm, Qv, X, st.sim0, h1, fun b L2 env2 H2 h2 st2 => k b L2 env2 H2 h2 (Step.then st (st2.wider fun b hb => by rw [← List.append_assoc]; exact List.mem_append_left _ hb)), kx.next st⟩
  | true => exact k true L1 env1 H1 h1 st
theorem vt_not (ha : PT X a (rdT c W w)) : PT X (.UnaryOp .Not a pos) (rdT c W (wNot w)) := PT.imp (pt_not ha) fun σ H Q h => by
  obtain ⟨env, L, Tm, Qv, X, S, q, k, kx⟩ := h
  exact ⟨env, L, Tm, _, X, S, q, fun b L1 env1 H1 h1 st => k (!b) L1 env1 H1 h1 st, kx⟩
theorem ve_one {op} (ha : PE X a (rdE c W wa)) : PE X (.BoolOp op [a] pos) (rdE c W wa) := pe_one ha
theorem ve_and (ha : PE X a (rdE c W wa)) (hb : PE X (.BoolOp .And (b :: rest) pos) (rdE c W wb)) : PE X (.BoolOp .And (a :: b :: rest) pos) (rdE c W (wAndV wa wb)) := PE.imp (pe_and ha hb) fun σ H Q h => by
  obtain ⟨env, L, Tm, Qv, X, S, q, k, kx⟩ := h
  refine ⟨env, L, Tm, _, X, S, q, fun r v l L1 env1 H1 ⟨b, e, h1⟩ st hr => ?_, kx⟩
  obtain ⟨d, m⟩ := r
  cases e
  have := hr.read
  cases this
  refine ⟨b, rfl, ?_⟩
  cases b with
  | true => exact ⟨env1, L1, Tm, Qv, X, st.sim0, h1, k.next st, kx.next st⟩
  | false => exact k _ _ [] L1 env1 H1 h1 st.drop (Res.flat (A := fun _ => True) (.bl _) rfl)
theorem ve_or (ha : PE X a (rdE c W wa)) (hb : PE X (.BoolOp .Or (b :: rest) pos) (rdE c W wb)) : PE X (.BoolOp .Or (a :: b :: rest) pos) (rdE c W (wOrV wa wb)) := PE.imp (pe_or ha hb) fun σ H Q h => by
  obtain ⟨env, L, Tm, Qv, X, S, q, k, kx⟩ := h
  refine ⟨env, L, Tm, _, X, S, q, fun r v l L1 env1 H1 ⟨b, e, h1⟩ st hr => ?_, kx⟩
  obtain ⟨d, m⟩ := r
  cases e
  have := hr.read
  cases this
  refine ⟨b, rfl, ?_⟩
  cases b with
  | false => exact ⟨env1, L1, Tm, Qv, X, st.sim0, h1, k.next st, kx.next st⟩
  | true => exact k _ _ [] L1 env1 H1 h1 st.drop (Res.flat (A := fun _ => True) (.bl _) rfl)
theorem ve_not (ha : PE X a (rdE c W wa)) : PE X (.UnaryOp .Not a pos) (rdE c W (wNotV wa)) := PE.imp (pe_not ha) fun σ H Q h => by
  obtain ⟨env, L, Tm, Qv, X, S, q, k, kx⟩ := h
  refine ⟨env, L, Tm, _, X, S, q, fun r v l L1 env1 H1 ⟨b, e, h1⟩ st hr => ?_, kx⟩
  obtain ⟨d, m⟩ := r
  cases e
  have := hr.read
  cases this
  exact ⟨b, rfl, k _ _ [] L1 env1 H1 h1 st.drop (Res.flat (A := fun _ => True) (.bl _) rfl)⟩
end
end VL
set_option maxRecDepth 100000
set_option maxHeartbeats 4000000
namespace VL
open PySem PySem.Spec PyProof.Rows L2
def NavP (H : Hp) : V → List Int → V → Prop
  | v, [], w => w = v
  | v, i :: p, w => ∃ a xs u, v = .ref a ∧ (H a = some (.lst xs) ∨ H a = some (.tup xs)) ∧ atI xs i = some u ∧ NavP H u p w
def depP : Option Nat → D → List Int → Option (Option Nat)
  | m, _, [] => some m
  | m, .list ds, i :: p => (popM m).bind fun n => (atI ds i).bind fun d => depP n d p
  | m, .tuple ds, i :: p => (atI ds i).bind fun d => depP m d p
  | _, _, _ => none
def getP : D → List Int → Option D
  | d, [] => some d
  | .list ds, i :: p => (atI ds i).bind fun d => getP d p
  | .tuple ds, i :: p => (atI ds i).bind fun d => getP d p
  | _, _ => none
def setP : D → List Int → D → Option D
  | _, [], e => some e
  | .list ds, i :: p, e => (ixN ds.length i).bind fun j => (ds[j]?).bind fun d => (setP d p e).map fun d' => .list (ds.set j d')
  | .tuple ds, i :: p, e => (ixN ds.length i).bind fun j => (ds[j]?).bind fun d => (setP d p e).map fun d' => .tuple (ds.set j d')
  | _, _, _ => none
section
variable {K : PySem.W.Frag} {A A' : Addr → Prop} {H H' : Hp}
theorem flat_kidsM {m : Option Nat} {xs : List V} {ds : List D} (h : RSs K A H xs ds) (f : flatAll ds = true) : ROs K A' H m xs ds [] := by
  induction xs generalizing ds with
  | nil => cases h; exact .nil
  | cons x xs ih =>
    cases h with
    | cons h r =>
      simp only [flatAll, Bool.and_eq_true] at f
      exact .cons (l1 := []) (l2 := []) (.flat (h.flat f.1) f.1) (ih r f.2)
theorem RO.tup_inv {m : Option Nat} {v : V} {ds : List D} {l : List Addr} (h : RO K A H m v (.tuple ds) l) : ∃ a xs, v = .ref a ∧ H a = some (.tup xs) ∧ ROs K A H m xs ds l := by
  generalize e : PyData.tuple ds = d at h
  cases h with
  | sh r => subst e; obtain ⟨a, xs, q, ha, r⟩ := r.tup_inv; exact ⟨a, xs, q, ha, ROs.toSh r⟩
  | flat r f => subst e; obtain ⟨a, xs, q, ha, r⟩ := r.tup_inv; exact ⟨a, xs, q, ha, flat_kidsM r (by simpa [flatD] using f)⟩
  | tup ha r => cases e; exact ⟨_, _, rfl, ha, r⟩
  | lst _ _ _ => cases e
  | dct _ _ _ _ => simp [mkDict] at e
  | opq a => simp [opD] at e
  | wtp a => simp [wtD] at e
  | ins _ _ _ _ _ => simp [insD] at e
theorem ROs.split : ∀ {m : Option Nat} {xs : List V} {ds : List D} {l : List Addr} {j : Nat} {d : D}, ROs K A H m xs ds l → ds[j]? = some d →
    ∃ u lj lr, xs[j]? = some u ∧ l.Perm (lr ++ lj) ∧ RO K A H m u d lj ∧
      ∀ (A' : Addr → Prop) (H' : Hp) (u' : V) (d' : D) (l' : List Addr), Kp A' H H' → (∀ b ∈ lr, ∀ o, H b = some o → H' b = some o) → (∀ b o, A b → H b = some o → A' b) → RO K A' H' m u' d' l' →
        ∃ l'', l''.Perm (lr ++ l') ∧ ROs K A' H' m (xs.set j u') (ds.set j d') l''
  | _, _, _, _, _, _, .nil, e => by simp at e
  | m, _, _, _, 0, _, .cons (l1 := l1) (l2 := l2) h r, e => by
    simp at e; subst e
    refine ⟨_, l1, l2, rfl, List.perm_append_comm, h, fun A' H' u' d' l' k q hA n => ⟨l' ++ l2, List.perm_append_comm, .cons n ?_⟩⟩
    exact ROs.keep k (ROs.mono hA r) q
  | m, _, _, _, j + 1, d, .cons (l1 := l1) (l2 := l2) h r, e => by
    obtain ⟨u, lj, lr, h1, h2, h3, h4⟩ := ROs.split (j := j) r (by simpa using e)
    refine ⟨u, lj, l1 ++ lr, by simpa using h1, ?_, h3, fun A' H' u' d' l' k q hA n => ?_⟩
    · rw [List.append_assoc]; exact h2.append_left _
    · obtain ⟨l'', p, n'⟩ := h4 A' H' u' d' l' k (fun b hb => q b (List.mem_append_right _ hb)) hA n
      refine ⟨l1 ++ l'', ?_, .cons (RO.keep k (RO.mono hA h) fun b hb => q b (List.mem_append_left _ hb)) n'⟩
      rw [List.append_assoc]; exact p.append_left _
theorem set_same {α : Type} : ∀ {xs : List α} {j : Nat} {u : α}, xs[j]? = some u → xs.set j u = xs
  | [], _, _, e => by simp at e
  | x :: xs, 0, u, e => by simp at e; subst e; rfl
  | x :: xs, j + 1, u, e => by simp at e; simp [set_same e]
theorem atI_ix {α : Type} {xs : List α} {i : Int} {x : α} (h : atI xs i = some x) : ∃ j, ixN xs.length i = some j ∧ xs[j]? = some x := by
  unfold atI at h
  cases hj : ixN xs.length i with
  | none => rw [hj] at h; cases h
  | some j => rw [hj] at h; exact ⟨j, rfl, h⟩
theorem atI_of {α : Type} {xs : List α} {i : Int} {x : α} {j n : Nat} (hn : xs.length = n) (h : ixN n i = some j) (e : xs[j]? = some x) : atI xs i = some x := by
  unfold atI
  rw [hn, h]
  exact e
theorem RO.path : ∀ (p : List Int) {m mp : Option Nat} {v : V} {d dp : D} {l : List Addr}, RO K A H m v d l → depP m d p = some mp → getP d p = some dp →
    ∃ vp lp lr, NavP H v p vp ∧ l.Perm (lr ++ lp) ∧ RO K A H mp vp dp lp ∧
      ∀ (A' : Addr → Prop) (H' : Hp) (dn : D) (ln : List Addr), Kp A' H H' → (∀ b ∈ lr, ∀ o, H b = some o → H' b = some o) → (∀ b o, A b → H b = some o → A' b) → RO K A' H' mp vp dn ln →
        ∃ d' l', setP d p dn = some d' ∧ l'.Perm (lr ++ ln) ∧ RO K A' H' m v d' l'
  | [], m, mp, v, d, dp, l, h, e, g => by
    simp only [depP, getP, Option.some.injEq] at e g
    subst e g
    exact ⟨v, l, [], rfl, by simp, h, fun A' H' dn ln _ _ _ n => ⟨dn, ln, rfl, by simp, n⟩⟩
  | i :: p, m, mp, v, .list ds, dp, l, h, e, g => by
    simp only [depP, Option.bind_eq_some_iff] at e
    simp only [getP, Option.bind_eq_some_iff] at g
    obtain ⟨n, hn, d, hd, e⟩ := e
    obtain ⟨d2, hd2, g⟩ := g
    rw [hd] at hd2; cases hd2
    obtain ⟨j, hj, hdj⟩ := atI_ix hd
    rcases h.lst_inv with ⟨rfl, _, _⟩ | ⟨n', a, xs, l', hn', rfl, ha, r, rfl⟩
    · cases hn
    · rw [hn] at hn'; cases hn'
      obtain ⟨u, lj, lr, h1, h2, h3, h4⟩ := r.split hdj
      obtain ⟨vp, lp, lr2, q1, q2, q3, q4⟩ := RO.path p h3 e g
      refine ⟨vp, lp, a :: (lr ++ lr2), ⟨a, xs, u, rfl, .inl ha, atI_of r.len hj h1, q1⟩, ?_, q3, fun A' H' dn ln k q hA n => ?_⟩
      · have := h2.trans (q2.append_left lr)
        rw [← List.append_assoc] at this
        exact this.cons a
      · obtain ⟨d', l1, s1, p1, r1⟩ := q4 A' H' dn ln k (fun b hb => q b (List.mem_cons_of_mem _ (List.mem_append_right _ hb))) hA n
        obtain ⟨l2, p2, r2⟩ := h4 A' H' u d' l1 k (fun b hb => q b (List.mem_cons_of_mem _ (List.mem_append_left _ hb))) hA r1
        rw [set_same h1] at r2
        refine ⟨.list (ds.set j d'), a :: l2, ?_, ?_, .lst hn (q a List.mem_cons_self _ ha) r2⟩
        · simp only [setP, hj, hdj, s1, Option.bind_some, Option.map_some]
        · have := p2.trans (p1.append_left lr)
          rw [← List.append_assoc] at this
          exact this.cons a
  | i :: p, m, mp, v, .tuple ds, dp, l, h, e, g => by
    simp only [depP, Option.bind_eq_some_iff] at e
    simp only [getP, Option.bind_eq_some_iff] at g
    obtain ⟨d, hd, e⟩ := e
    obtain ⟨d2, hd2, g⟩ := g
    rw [hd] at hd2; cases hd2
    obtain ⟨j, hj, hdj⟩ := atI_ix hd
    obtain ⟨a, xs, rfl, ha, r⟩ := h.tup_inv
    obtain ⟨u, lj, lr, h1, h2, h3, h4⟩ := r.split hdj
    obtain ⟨vp, lp, lr2, q1, q2, q3, q4⟩ := RO.path p h3 e g
    refine ⟨vp, lp, lr ++ lr2, ⟨a, xs, u, rfl, .inr ha, atI_of r.len hj h1, q1⟩, ?_, q3, fun A' H' dn ln k q hA n => ?_⟩
    · have := h2.trans (q2.append_left lr)
      rw [← List.append_assoc] at this
      exact this
    · obtain ⟨d', l1, s1, p1, r1⟩ := q4 A' H' dn ln k (fun b hb => q b (List.mem_append_right _ hb)) hA n
      obtain ⟨l2, p2, r2⟩ := h4 A' H' u d' l1 k (fun b hb => q b (List.mem_append_left _ hb)) hA r1
      rw [set_same h1] at r2
      refine ⟨.tuple (ds.set j d'), l2, ?_, ?_, .tup (k.tup _ _ ha) r2⟩
      · simp only [setP, hj, hdj, s1, Option.bind_some, Option.map_some]
      · have := p2.trans (p1.append_left lr)
        rw [← List.append_assoc] at this
        exact this
theorem ROs.append {m : Option Nat} {xs ys : List V} {ds es : List D} {l l' : List Addr} (h : ROs K A H m xs ds l) (r : ROs K A H m ys es l') : ROs K A H m (xs ++ ys) (ds ++ es) (l ++ l') := by
  induction xs generalizing ds l with
  | nil => cases h; exact r
  | cons x xs ih =>
    cases h with
    | cons h1 h2 => rw [List.append_assoc]; exact .cons h1 (ih h2)
theorem NavP.keep (s : Same H H') : ∀ {p : List Int} {v w : V}, NavP H v p w → NavP H' v p w
  | [], _, _, h => h
  | _ :: _, _, _, ⟨a, xs, u, e, h1, h2, h3⟩ => ⟨a, xs, u, e, h1.imp (s _ _) (s _ _), h2, NavP.keep s h3⟩
theorem NavP.inj : ∀ {p : List Int} {v w w' : V}, NavP H v p w → NavP H v p w' → w' = w
  | [], _, _, _, h, h' => by cases h; exact h'
  | _ :: _, _, _, _, ⟨a, xs, u, e, h1, h2, h3⟩, ⟨a', xs', u', e', h1', h2', h3'⟩ => by
    subst e
    cases e'
    have : xs = xs' := by
      rcases h1 with h1 | h1 <;> rcases h1' with h1' | h1' <;> rw [h1] at h1' <;> cases h1' <;> rfl
    subst this
    rw [h2] at h2'; cases h2'
    exact NavP.inj h3 h3'
theorem NavP.snoc : ∀ {p : List Int} {v w u : V} {a : Addr} {xs : List V} {i : Int}, NavP H v p w → w = .ref a → (H a = some (.lst xs) ∨ H a = some (.tup xs)) → atI xs i = some u → NavP H v (p ++ [i]) u
  | [], v, w, u, a, xs, i, h, e, h1, h2 => by
    have : w = v := h
    subst this
    exact ⟨a, xs, u, e, h1, h2, rfl⟩
  | _ :: _, v, w, u, a, xs, i, ⟨b, ys, z, e0, g1, g2, g3⟩, e, h1, h2 => ⟨b, ys, z, e0, g1, g2, NavP.snoc g3 e h1 h2⟩
theorem getP_snoc : ∀ {p : List Int} {d : D} {i : Int}, getP d (p ++ [i]) = (getP d p).bind fun d => getP d [i]
  | [], d, i => by simp [getP]
  | j :: p, .list ds, i => by
    simp only [List.cons_append, getP]
    cases atI ds j with
    | none => rfl
    | some d => exact getP_snoc
  | j :: p, .tuple ds, i => by
    simp only [List.cons_append, getP]
    cases atI ds j with
    | none => rfl
    | some d => exact getP_snoc
  | j :: p, .none, i => rfl
  | j :: p, .bool _, i => rfl
  | j :: p, .int _, i => rfl
  | j :: p, .str _, i => rfl
  | j :: p, .dict _, i => rfl
theorem RS.nav : ∀ {p : List Int} {v : V} {d dp : D}, RS K A H v d → getP d p = some dp → ∃ w, NavP H v p w ∧ RS K A H w dp
  | [], v, d, dp, h, e => by simp [getP] at e; subst e; exact ⟨v, rfl, h⟩
  | i :: p, v, .list ds, dp, h, e => by
    simp only [getP, Option.bind_eq_some_iff] at e
    obtain ⟨d, hd, e⟩ := e
    obtain ⟨a, xs, rfl, ha, _, r⟩ := h.lst_inv
    obtain ⟨j, hj, hdj⟩ := atI_ix hd
    obtain ⟨u, hu, ru⟩ := r.get hdj
    obtain ⟨w, n, rw⟩ := RS.nav ru e
    exact ⟨w, ⟨a, xs, u, rfl, .inl ha, atI_of r.len hj hu, n⟩, rw⟩
  | i :: p, v, .tuple ds, dp, h, e => by
    simp only [getP, Option.bind_eq_some_iff] at e
    obtain ⟨d, hd, e⟩ := e
    obtain ⟨a, xs, rfl, ha, r⟩ := h.tup_inv
    obtain ⟨j, hj, hdj⟩ := atI_ix hd
    obtain ⟨u, hu, ru⟩ := r.get hdj
    obtain ⟨w, n, rw⟩ := RS.nav ru e
    exact ⟨w, ⟨a, xs, u, rfl, .inr ha, atI_of r.len hj hu, n⟩, rw⟩
  | i :: p, v, .none, dp, h, e => by simp [getP] at e
  | i :: p, v, .bool _, dp, h, e => by simp [getP] at e
  | i :: p, v, .int _, dp, h, e => by simp [getP] at e
  | i :: p, v, .str _, dp, h, e => by simp [getP] at e
  | i :: p, v, .dict _, dp, h, e => by simp [getP] at e
end
def killB (env : VEnv) : VEnv := env.map fun s => match s with
  | some (_, .b) => none
  | s => s
section
variable {c : Cn} {L : List (List Addr)} {T T' Tm l : List Addr} {env : VEnv} {σ : Sg} {H H' : Hp} {a : Addr}
theorem Slots.change {i : Nat} {d : D} {m : Option Nat} {v : V} {li : List Addr} (h : Slots c T H env σ L) (hv : σ[i]? = some (some v)) (hL : L[i]? = some l)
    (keep : ∀ (k : Nat) (lk : List Addr) (d : D) (m : Option Nat) (v : V), k ≠ i → L[k]? = some lk → RO c.K (AT c.B T) H m v d lk → RO c.K (AT c.B T') H' m v d lk)
    (new : RO c.K (AT c.B T') H' m v d li) : Slots c T' H' (killB (env.set i (some (d, .o m)))) σ (L.set i li) := by
  induction h generalizing i with
  | nil => simp at hv
  | @non e x σ L h ih => cases i with
    | zero =>
      simp at hv
      subst hv
      exact .own new (rest h fun k lk d m v e r => keep (k + 1) lk d m v (by omega) (by simpa using e) r)
    | succ i => exact .non (ih (by simpa using hv) (by simpa using hL) fun k lk d m v hk e r => keep (k + 1) lk d m v (by omega) (by simpa using e) r)
  | @bor e d0 v0 σ L r h ih => cases i with
    | zero =>
      simp at hv
      subst hv
      exact .own new (rest h fun k lk d m v e r => keep (k + 1) lk d m v (by omega) (by simpa using e) r)
    | succ i => exact .non (ih (by simpa using hv) (by simpa using hL) fun k lk d m v hk e r => keep (k + 1) lk d m v (by omega) (by simpa using e) r)
  | @own e d0 m0 v0 l0 σ L r h ih => cases i with
    | zero =>
      simp at hv
      subst hv
      exact .own new (rest h fun k lk d m v e r => keep (k + 1) lk d m v (by omega) (by simpa using e) r)
    | succ i => exact .own (keep 0 l0 d0 m0 v0 (by omega) rfl r) (ih (by simpa using hv) (by simpa using hL) fun k lk d m v hk e r => keep (k + 1) lk d m v (by omega) (by simpa using e) r)
where
  rest {env : VEnv} {σ : Sg} {L : List (List Addr)} (h : Slots c T H env σ L)
      (keep : ∀ (k : Nat) (lk : List Addr) (d : D) (m : Option Nat) (v : V), L[k]? = some lk → RO c.K (AT c.B T) H m v d lk → RO c.K (AT c.B T') H' m v d lk) : Slots c T' H' (killB env) σ L := by
    induction h with
    | nil => exact .nil
    | non h ih => exact .non (ih fun k lk d m v e r => keep (k + 1) lk d m v (by simpa using e) r)
    | bor r h ih => exact .non (ih fun k lk d m v e r => keep (k + 1) lk d m v (by simpa using e) r)
    | own r h ih => exact .own (keep 0 _ _ _ _ rfl r) (ih fun k lk d m v e r => keep (k + 1) lk d m v (by simpa using e) r)
theorem mem_flatten_of {L : List (List Addr)} {k : Nat} {lk : List Addr} (e : L[k]? = some lk) {b : Addr} (hb : b ∈ lk) : b ∈ L.flatten := List.mem_flatten.mpr ⟨lk, List.mem_of_getElem? e, hb⟩
theorem apart_of {L : List (List Addr)} {i k : Nat} {li lk : List Addr} (nd : L.flatten.Nodup) (hi : L[i]? = some li) (hk : L[k]? = some lk) (n : k ≠ i) {b : Addr} (h1 : b ∈ li) (h2 : b ∈ lk) : False := by
  induction L generalizing i k with
  | nil => simp at hi
  | cons x L ih =>
    rw [List.flatten_cons] at nd
    have nd' := List.nodup_append.mp nd
    cases i with
    | zero =>
      simp at hi; subst hi
      cases k with
      | zero => exact n rfl
      | succ k => exact nd'.2.2 b h1 b (mem_flatten_of (by simpa using hk) h2) rfl
    | succ i =>
      cases k with
      | zero => simp at hk; subst hk; exact nd'.2.2 b h2 b (mem_flatten_of (by simpa using hi) h1) rfl
      | succ k => exact ih nd'.2.1 (by simpa using hi) (by simpa using hk) (by omega)
theorem Sim.change {i : Nat} {d : D} {m : Option Nat} {v : V} {li : List Addr} {o o' : HO} (S : Sim c L Tm env σ H) (hv : σ[i]? = some (some v)) (hL : L[i]? = some l) (ha : a ∈ l) (ho : H a = some o) (mo : mutO o)
    (new : RO c.K (AT c.B (L.set i li).flatten) (upd H a o') m v d li) (sub : ∀ b ∈ li, b ∈ l ∨ b ∈ Tm) (nd : li.Nodup) : Sim c (L.set i li) [] (killB (env.set i (some (d, .o m)))) σ (upd H a o') := by
  have ndL := (List.nodup_append.mp S.nd).1
  have haT : a ∈ L.flatten ++ Tm := List.mem_append_left _ (mem_flatten_of hL ha)
  have p1 := flatten_set hL
  have p2 : ((L.set i li).flatten).Perm ((L.set i []).flatten ++ li) := by
    have hi : i < L.length := (List.getElem?_eq_some_iff.mp hL).1
    have := flatten_set (L := L.set i li) (i := i) (l := li) (by simp [hi])
    rw [List.set_set] at this
    exact this.symm
  have memT : ∀ b ∈ (L.set i li).flatten, b ∈ L.flatten ++ Tm := fun b hb => by
    rcases List.mem_append.mp (p2.mem_iff.mp hb) with z | z
    · exact List.mem_append_left _ (p1.mem_iff.mp (List.mem_append_left _ z))
    · rcases sub b z with z | z
      · exact List.mem_append_left _ (mem_flatten_of hL z)
      · exact List.mem_append_right _ z
  have kp : Kp (AT c.B (L.flatten ++ Tm)) H (upd H a o') := Kp.write ho mo fun z => z.2 haT
  refine ⟨?_, ?_, fun b hb => ?_, fun b u e r => ?_, fun p hp => ((S.hd p hp).keep kp).mono fun b o a _ => AT.less (fun b hb => memT b (by rwa [List.append_nil] at hb)) a, S.pin⟩
  · rw [List.append_nil]
    refine S.sl.change hv hL (fun k lk d m v hk e r => ?_) new
    have r' := RO.keep kp r fun b hb u q => by rw [upd_ne (fun z => by subst z; exact apart_of ndL hL e hk ha hb)]; exact q
    exact RO.mono (fun b u x _ => AT.less memT x) r'
  · rw [List.append_nil]
    refine p2.nodup_iff.mpr (List.nodup_append.mpr ⟨?_, nd, fun b hb b' hb' z => ?_⟩)
    · exact (List.nodup_append.mp (p1.nodup_iff.mpr ndL)).1
    · subst z
      rcases sub b hb' with z | z
      · exact (List.nodup_append.mp (p1.nodup_iff.mpr ndL)).2.2 b hb b z rfl
      · exact (List.nodup_append.mp S.nd).2.2 b (p1.mem_iff.mp (List.mem_append_left _ hb)) b z rfl
  · rw [List.append_nil] at hb
    obtain ⟨q, u, e⟩ := S.own b (memT b hb)
    refine ⟨q, ?_⟩
    by_cases z : b = a
    · subst z; exact ⟨_, upd_same⟩
    · exact ⟨u, by rw [upd_ne z]; exact e⟩
  · have := S.fr b u e r
    rw [upd_ne (fun z => ?_)]
    · exact this
    · subst z
      rcases (S.own b haT).1 with z | z
      · rw [z] at e; cases e
      · exact r z
end
end VL
set_option maxRecDepth 100000
set_option maxHeartbeats 4000000
namespace VL
open PySem PySem.Spec PyProof.Rows L2
abbrev WP := VEnv → (Nat → List Int → VEnv → Prop) → (Exn → VEnv → Prop) → Prop
def rdP (c : Cn) (W : WX) (w : WP) : TE := fun σ H Q => ∃ env L Tm Qv X, Sim c L Tm env σ H ∧ w env Qv X ∧
  (∀ i p v v0 L' env' H', Qv i p env' → Step c H H' (L.flatten ++ Tm) Tm L' [] env' σ → σ[i]? = some (some v0) → NavP H' v0 p v → Q v H') ∧ KontX c σ L Tm H X W
def wPVar (i : Nat) : WP := fun env Q _ => (∃ s, env[i]? = some (some s)) ∧ Q i [] env
def wPSub (wp : WP) (wi : WE) : WP := fun env Q X => wp env (fun i p e => wi e (fun r e' => ∃ k s dp, r.d = .int k ∧ e'[i]? = some (some s) ∧ getP s.1 (p ++ [k]) = some dp ∧ Q i (p ++ [k]) e') X) X
section
variable {X : Cx} {c : Cn} {W : WX} {pos : Pos} {wp : WP} {wi : WE} {o i : Expr}
theorem vp_var (i : Nat) {x : Str} (hN : X.N[i]? = some x := by rfl) (hv : Vis X.env.scope x := by first | exact Or.inl rfl | exact Or.inr (Or.inl rfl) | exact Or.inr (Or.inr rfl)) (hd : (x == ("__debug__" : Str)) = false := by decide)
    (hcd : (x == ("__classdict__" : Str)) = false := by decide) : PE X (.Name x pos) (rdP c W (wPVar i)) := PE.imp (pe_var hN hv hd hcd) fun σ H Q h => by
  obtain ⟨env, L, Tm, Qv, X, S, ⟨⟨⟨d, m⟩, e⟩, q⟩, k, _⟩ := h
  obtain ⟨v, l, hv, hl, r⟩ := S.sl.get e
  exact ⟨v, hv, k i [] v v L env H q (Step.refl S) hv rfl⟩
theorem vp_sub (ho : PE X o (rdP c W wp)) (hi : PE X i (rdE c W wi)) (hs : PlainIx i := by exact fun _ _ => rfl) : PE X (.Subscript o i pos) (rdP c W (wPSub wp wi)) := PE.imp (pe_ix ix_seq ho hi hs) fun σ H Q h => by
  obtain ⟨env, L, Tm, Qv, X, S, q, k, kx⟩ := h
  refine ⟨env, L, Tm, _, X, S, q, fun i p v v0 L1 env1 H1 h1 st hv nav => ?_, kx⟩
  refine ⟨env1, L1, Tm, _, X, st.sim0, h1, fun r w l L2 env2 H2 ⟨kk, s, dp, e1, e2, e3, h2⟩ st2 hr => ?_, kx.next st⟩
  obtain ⟨d, m⟩ := r
  cases e1
  have hr' := hr.read
  cases hr'
  obtain ⟨v1, l1, hv1, hl1, r1⟩ := st2.sim.sl.get e2
  rw [hv] at hv1; cases hv1
  rw [getP_snoc, Option.bind_eq_some_iff] at e3
  obtain ⟨d1, g1, g2⟩ := e3
  obtain ⟨w1, n1, rw1⟩ := RS.nav r1.read g1
  have nav2 := nav.keep st2.same
  have ew := NavP.inj n1 nav2
  subst ew
  obtain ⟨w2, ⟨a, xs, u, eu, ha, hu, n2⟩, _⟩ := RS.nav rw1 g2
  have eu2 : w2 = u := n2
  subst eu2
  have fin := k i (p ++ [kk]) w2 v0 L2 env2 H2 h2 (Step.then st (st2.drop.wider fun b hb => by simpa using hb)) hv (nav2.snoc eu ha hu)
  rcases ha with ha | ha
  · exact .inl ⟨a, xs, kk, w2, eu, rfl, SqL.of ha, hu, fin⟩
  · exact .inr (.inl ⟨a, xs, kk, w2, eu, rfl, SqT.of ha, hu, fin⟩)
end
structure DV where
  nx : VEnv → Prop
  rt : R → VEnv → Prop
  ex : Exn → VEnv → Prop
abbrev WS := VEnv → DV → Prop
structure Ret (c : Cn) (r : R) (v : V) (l : List Addr) (H : Hp) (env : VEnv) : Prop where
  fr : ∀ b o, c.H0 b = some o → b ∉ c.rw → H b = some o
  nd : l.Nodup
  own : ∀ b ∈ l, c.Own b ∧ ∃ o, H b = some o
  res : Res c l H r v l
  sim : ∃ L σ, Sim c L l env σ H ∧ Res c (L.flatten ++ l) H r v l
def rdS (c : Cn) (W : WX) (w : WS) : TS := fun D σ H => ∃ env L Dv, Sim c L [] env σ H ∧ w env Dv ∧
  (∀ env' L' σ' H', Dv.nx env' → Sim c L' [] env' σ' H' → D.nx σ' H') ∧
  (∀ r v l H' e, Dv.rt r e → Ret c r v l H' e → D.rt v H') ∧
  (∀ ex env' L' σ' H' cls d, Dv.ex ex env' → Sim c L' [] env' σ' H' → ExR c H' ex cls d → W cls d σ' H')
section
variable {X : Cx} {c : Cn} {W : WX} {pos : Pos} {w u : WS} {we : WE} {e : Expr} {st : Stmt} {rest : List Stmt}
theorem rd_first {σ : Sg} {H : Hp} {Q : VK} {env : VEnv} {L : List (List Addr)} {Dv : DV} {Qv : R → VEnv → Prop} (S : Sim c L [] env σ H) (hw : we env Qv (fun ex e => Dv.ex ex e))
    (hx : ∀ ex env' L' σ' H' cls d, Dv.ex ex env' → Sim c L' [] env' σ' H' → ExR c H' ex cls d → W cls d σ' H')
    (k : ∀ r v l L' env' H', Qv r env' → Sim c L' l env' σ H' → Res c (L'.flatten ++ l) H' r v l → Q v H') : rdE c W we σ H Q :=
  ⟨env, L, [], Qv, _, S, hw, fun r v l L' env' H' q st hr => k r v l L' env' H' q st.sim hr, fun ex cls d L' env' H' hq st he => hx ex env' L' σ H' cls d hq st.sim0 he⟩
def wNext : WS := fun env Dv => Dv.nx env
def wSeq (w u : WS) : WS := fun env Dv => w env { Dv with nx := fun e => u e Dv }
theorem vss_nil : PSs X [] (rdS c W wNext) := PSs.imp pss_nil fun D σ H h => by
  obtain ⟨env, L, Dv, S, q, k, _, _⟩ := h
  exact k env L σ H q S
theorem vss_cons (h1 : PS X st (rdS c W w)) (h2 : PSs X rest (rdS c W u)) : PSs X (st :: rest) (rdS c W (wSeq w u)) := PSs.imp (pss_cons h1 h2) fun D σ H h => by
  obtain ⟨env, L, Dv, S, q, k, kr, kx⟩ := h
  exact ⟨env, L, _, S, q, fun env' L' σ' H' h' S' => ⟨env', L', Dv, S', h', k, kr, kx⟩, kr, kx⟩
theorem vss_one (h1 : PS X st (rdS c W w)) : PSs X [st] (rdS c W w) := pss_one h1
theorem Slots.put {T T' : List Addr} {H : Hp} {env : VEnv} {σ : Sg} {L : List (List Addr)} {i : Nat} {d : D} {m : Md} {v : V} {l : List Addr} (h : Slots c T H env σ L) (r : Res c T H ⟨d, m⟩ v l) (s : ∀ b ∈ T', b ∈ T) : Slots c T' H (env.set i (some (d, m))) (σ.set i (some v)) (L.set i l) := by
  have hk := h.keep (T' := T') (Same.refl H) fun b hb => .inl (s b hb)
  have rk := r.keep (T' := T') (Same.refl H) fun b hb => .inl (s b hb)
  clear h r
  induction hk generalizing i with
  | nil => exact .nil
  | non h ih => cases i with
    | zero => exact fin rk h
    | succ i => exact .non ih
  | bor r0 h ih => cases i with
    | zero => exact fin rk h
    | succ i => exact .bor r0 ih
  | own r0 h ih => cases i with
    | zero => exact fin rk h
    | succ i => exact .own r0 ih
where
  fin {T : List Addr} {H : Hp} {env : VEnv} {σ : Sg} {L : List (List Addr)} {d : D} {m : Md} {v : V} {l : List Addr} (r : Res c T H ⟨d, m⟩ v l) (h : Slots c T H env σ L) : Slots c T H (some (d, m) :: env) (some v :: σ) (l :: L) := by
    cases m with
    | b => obtain ⟨r, e⟩ := r; subst e; exact .bor r h
    | o m => exact .own r h
theorem flatten_put {L : List (List Addr)} {i : Nat} {l l0 : List Addr} (e : L[i]? = some l0) : ((L.set i l).flatten).Perm ((L.set i []).flatten ++ l) := by
  have hi : i < L.length := (List.getElem?_eq_some_iff.mp e).1
  have := flatten_set (L := L.set i l) (i := i) (l := l) (by simp [hi])
  rw [List.set_set] at this
  exact this.symm
def PinF (c : Cn) (is : List Nat) : Prop := ∀ p ∈ c.pin, p.1 ∉ is
theorem pinF_nil {c : Cn} {is : List Nat} (h : c.pin = []) : PinF c is := fun p hp => by rw [h] at hp; cases hp
theorem pinF_one {c : Cn} {is : List Nat} {j : Nat} {v : V} (h : c.pin = [(j, v)]) (hj : j ∉ is) : PinF c is := fun p hp => by
  rw [h] at hp
  rw [List.mem_singleton.mp hp]; exact hj
theorem PinF.sub {c : Cn} {is js : List Nat} (h : PinF c is) (s : ∀ i ∈ js, i ∈ is) : PinF c js := fun p hp z => h p hp (s _ z)
theorem PinF.set {c : Cn} {i : Nat} {σ : Sg} {x : Option V} (h : PinF c [i]) (s : ∀ p ∈ c.pin, σ[p.1]? = some (some p.2)) : ∀ p ∈ c.pin, (σ.set i x)[p.1]? = some (some p.2) := fun p hp => by
  rw [List.getElem?_set_ne (fun e => h p hp (by rw [e]; exact List.mem_singleton.mpr rfl))]
  exact s p hp
theorem Sim.put {σ : Sg} {H : Hp} {env : VEnv} {L : List (List Addr)} {i : Nat} {r : R} {v : V} {l Tm : List Addr} (S : Sim c L (Tm ++ l) env σ H) (hr : Res c (L.flatten ++ (Tm ++ l)) H r v l) (pf : PinF c [i]) : ∃ L', Sim c L' Tm (env.set i (some (r.d, r.m))) (σ.set i (some v)) H ∧ ∀ b ∈ L'.flatten ++ Tm, b ∈ L.flatten ++ (Tm ++ l) := by
  obtain ⟨d, m⟩ := r
  obtain ⟨len1, len2⟩ := S.sl.len
  by_cases hi : i < L.length
  · obtain ⟨l0, e0⟩ : ∃ l0, L[i]? = some l0 := ⟨L[i], List.getElem?_eq_getElem hi⟩
    have p1 := flatten_set e0
    have p2 := flatten_put (l := l) e0
    have sub : ∀ b ∈ (L.set i l).flatten ++ Tm, b ∈ L.flatten ++ (Tm ++ l) := fun b hb => by
      rcases List.mem_append.mp hb with z | z
      · rcases List.mem_append.mp (p2.mem_iff.mp z) with z | z
        · exact List.mem_append_left _ (p1.mem_iff.mp (List.mem_append_left _ z))
        · exact List.mem_append_right _ (List.mem_append_right _ z)
      · exact List.mem_append_right _ (List.mem_append_left _ z)
    refine ⟨L.set i l, ⟨S.sl.put hr sub, ?_, fun a ha => S.own a (sub a ha), S.fr, fun p hp => (S.hd p hp).mono fun b o a _ => AT.less sub a, pf.set S.pin⟩, sub⟩
    have nd := S.nd
    have nd1 : (L.flatten ++ (Tm ++ l)).Perm (((L.set i []).flatten ++ l0) ++ (l ++ Tm)) := p1.symm.append List.perm_append_comm
    have nd2 := nd1.nodup_iff.mp nd
    have sl : ((L.set i []).flatten ++ (l ++ Tm)).Sublist (((L.set i []).flatten ++ l0) ++ (l ++ Tm)) := (List.sublist_append_left _ _).append (List.Sublist.refl _)
    have nd3 := nd2.sublist sl
    refine (List.Perm.nodup_iff ?_).mpr nd3
    rw [← List.append_assoc]
    exact p2.append_right Tm
  · have e1 : env.set i (some (d, m)) = env := List.set_eq_of_length_le (by omega)
    have e2 : σ.set i (some v) = σ := List.set_eq_of_length_le (by omega)
    rw [e1, e2]
    exact ⟨L, S.drop, fun b hb => by rw [← List.append_assoc]; exact List.mem_append_left _ hb⟩
def wSet (i : Nat) (we : WE) : WS := fun env Dv => we env (fun r e => Dv.nx (e.set i (some (r.d, r.m)))) Dv.ex
theorem vs_set {i : Nat} {x : Str} {pos' : Pos} (he : PE X e (rdE c W we)) (hN : X.N.Nodup) (hi : X.N[i]? = some x := by rfl) (hx : Loc X.env.scope x := by first | exact .inl rfl | exact .inr rfl) (hs : swapsWith e (some (.Name x pos')) pos.line X.env = pure false := by rfl)
    (hf : X.fn x = true ∨ X.env.scope.names.lookup x = some .local := by first | exact .inl rfl | exact .inr rfl | assumption) (pf : PinF c [i] := by first | exact pinF_nil rfl | exact pinF_one rfl (by decide) | assumption) : PS X (.Assign [.Name x pos'] e pos) (rdS c W (wSet i we)) := PS.imp (ps_set hN hi hx he hs hf) fun D σ H h => by
  obtain ⟨env, L, Dv, S, q, k, kr, kx⟩ := h
  refine rd_first S q kx fun r v l L' env' H' hq S' hr => ?_
  obtain ⟨L2, S2, _⟩ := Sim.put (Tm := []) (i := i) (l := l) (r := r) S' hr pf
  exact k _ L2 _ H' hq S2
def wRet (we : WE) : WS := fun env Dv => we env (fun r e => isB r.m = false ∧ Dv.rt r e) Dv.ex
theorem vs_ret (he : PE X e (rdE c W we)) : PS X (.Return (some e) pos) (rdS c W (wRet we)) := PS.imp (ps_ret he) fun D σ H h => by
  obtain ⟨env, L, Dv, S, q, k, kr, kx⟩ := h
  refine rd_first S q kx fun r v l L' env' H' ⟨hb, hq⟩ S' hr => ?_
  refine kr r v l H' env' hq ⟨S'.fr, ?_, fun b hb => S'.own b (List.mem_append_right _ hb), ?_, L', σ, S', hr⟩
  · exact (List.nodup_append.mp S'.nd).2.1
  · exact hr.keep (Same.refl _) fun b hb => .inl (List.mem_append_right _ hb)
def wExpr (we : WE) : WS := fun env Dv => we env (fun _ e => Dv.nx e) Dv.ex
theorem vs_expr (he : PE X e (rdE c W we)) (hs : swapsWith e none pos.line X.env = pure false := by rfl) : PS X (.Expr e pos) (rdS c W (wExpr we)) := PS.imp (ps_expr he hs) fun D σ H h => by
  obtain ⟨env, L, Dv, S, q, k, kr, kx⟩ := h
  exact rd_first S q kx fun r v l L' env' H' hq S' hr => k _ L' _ H' hq (Sim.drop (Tm := []) (l := l) S')
def wIf (t : WT) (w u : WS) : WS := fun env Dv => t env (fun b e => if b = true then w e Dv else u e Dv) Dv.ex
theorem vs_if {t : Expr} {a b : List Stmt} {wt : WT} (ht : PT X t (rdT c W wt)) (ha : PSs X a (rdS c W w)) (hb : PSs X b (rdS c W u)) : PS X (.If t a b pos) (rdS c W (wIf wt w u)) := PS.imp (ps_if ht ha hb) fun D σ H h => by
  obtain ⟨env, L, Dv, S, q, k, kr, kx⟩ := h
  refine ⟨env, L, [], _, _, S, q, fun b L' env' H' hq st => ?_, fun ex cls d L' env' H' hq st he => kx ex env' L' σ H' cls d hq st.sim0 he⟩
  cases b with
  | true => exact ⟨env', L', Dv, st.sim0, hq, k, kr, kx⟩
  | false => exact ⟨env', L', Dv, st.sim0, hq, k, kr, kx⟩
end
end VL
set_option maxRecDepth 100000
set_option maxHeartbeats 4000000
namespace VL
open PySem PySem.Spec PyProof.Rows L2
section
variable {c : Cn} {L : List (List Addr)} {l : List Addr} {env : VEnv} {σ : Sg} {H : Hp}
theorem Sim.mutL {i : Nat} {p : List Int} {d : D} {m mp n : Option Nat} {v v0 : V} {ds : List D} (S : Sim c L l env σ H) (e : env[i]? = some (some (d, .o m))) (hv : σ[i]? = some (some v0)) (nav : NavP H v0 p v)
    (g : getP d p = some (.list ds)) (dp : depP m d p = some mp) (pn : popM mp = some n) :
    ∃ a xs, v = .ref a ∧ H a = some (.lst xs) ∧ xs.length = ds.length ∧ RSs c.K (fun _ => True) H xs ds ∧
      ∀ xs' ds' d', (∀ lk, ROs c.K (AT c.B (L.flatten ++ l)) H n xs ds lk → lk.Nodup → (∀ b ∈ lk, c.B b ∧ b ∉ l) → ∃ lk', (∀ b ∈ lk', b ∈ lk ∨ b ∈ l) ∧ lk'.Nodup ∧
            ∀ T', (∀ b ∈ T', b ∈ L.flatten ++ l) → (∀ b ∈ l ++ lk, b ∈ T' → b ∈ lk') → ∃ lk2 : List Addr, lk2.Perm lk' ∧ ROs c.K (AT c.B T') H n xs' ds' lk2) →
        setP d p (.list ds') = some d' → ∃ L', Sim c L' [] (killB (env.set i (some (d', .o m)))) σ (upd H a (.lst xs')) := by
  obtain ⟨v1, li, hv1, hL, r⟩ := S.sl.get e
  rw [hv] at hv1; cases hv1
  obtain ⟨vp, lp, lr, nav', pm, rp, up⟩ := RO.path p r.dep dp g
  have := nav'.inj nav
  subst this
  rcases rp.lst_inv with ⟨rfl, _, _⟩ | ⟨n', a, xs, lk, hn', rfl, ha, rk, rfl⟩
  · cases pn
  rw [pn] at hn'; cases hn'
  refine ⟨a, xs, rfl, ha, rk.len, ROs.share (ROs.mono (fun _ _ _ _ => trivial) rk) fun _ _ => trivial, fun xs' ds' d' hk hs => ?_⟩
  have ndT := S.nd
  have ndL : L.flatten.Nodup := (List.nodup_append.mp ndT).1
  have liT : ∀ b ∈ li, b ∈ L.flatten := fun b hb => mem_flatten_of hL hb
  have ndli : li.Nodup := by
    have p1 := flatten_set hL
    exact (List.nodup_append.mp (p1.nodup_iff.mpr ndL)).2.1
  have nd2 : (lr ++ (a :: lk)).Nodup := pm.nodup_iff.mp ndli
  have nd3 := List.nodup_append.mp nd2
  have nd4 := List.nodup_cons.mp nd3.2.1
  have inli : ∀ b ∈ lr ++ (a :: lk), b ∈ li := fun b hb => pm.mem_iff.mpr hb
  have notl : ∀ b ∈ li, b ∉ l := fun b hb z => (List.nodup_append.mp ndT).2.2 b (liT b hb) b z rfl
  obtain ⟨lk', sub, ndk, mk⟩ := hk lk rk nd4.2 fun b hb => by
    have hb' := inli b (List.mem_append_right _ (List.mem_cons_of_mem _ hb))
    exact ⟨.inr (S.own b (List.mem_append_left _ (liT b hb'))).1, notl b hb'⟩
  have ali : a ∈ li := inli a (by simp)
  have hi : i < L.length := (List.getElem?_eq_some_iff.mp hL).1
  have ndn : (lr ++ (a :: lk')).Nodup := by
    refine List.nodup_append.mpr ⟨nd3.1, List.nodup_cons.mpr ⟨fun z => ?_, ndk⟩, fun b hb b' hb' z => ?_⟩
    · rcases sub a z with z | z
      · exact nd4.1 z
      · exact notl a ali z
    · subst z
      rcases List.mem_cons.mp hb' with z | z
      · subst z; exact nd3.2.2 b hb b (by simp) rfl
      · rcases sub b z with z | z
        · exact nd3.2.2 b hb b (by simp [z]) rfl
        · exact notl b (inli b (List.mem_append_left _ hb)) z
  have memT : ∀ b ∈ (L.set i (lr ++ (a :: lk'))).flatten, b ∈ L.flatten ++ l := fun b hb => by
    rcases List.mem_append.mp ((flatten_put hL).mem_iff.mp hb) with z | z
    · exact List.mem_append_left _ ((flatten_set hL).mem_iff.mp (List.mem_append_left _ z))
    · rcases List.mem_append.mp z with z | z
      · exact List.mem_append_left _ (liT b (inli b (List.mem_append_left _ z)))
      · rcases List.mem_cons.mp z with z | z
        · subst z; exact List.mem_append_left _ (liT b ali)
        · rcases sub b z with z | z
          · exact List.mem_append_left _ (liT b (inli b (by simp [z])))
          · exact List.mem_append_right _ z
  have aT : a ∈ (L.set i (lr ++ (a :: lk'))).flatten := (flatten_put hL).mem_iff.mpr (by simp)
  obtain ⟨lk2, pk, kids⟩ := mk _ memT fun b hb hb' => by
    rcases List.mem_append.mp ((flatten_put hL).mem_iff.mp hb') with z | z
    · -- in another slot
      exfalso
      rcases List.mem_append.mp hb with y | y
      · exact (List.nodup_append.mp ndT).2.2 b ((flatten_set hL).mem_iff.mp (List.mem_append_left _ z)) b y rfl
      · have p1 := flatten_set hL
        exact (List.nodup_append.mp (p1.nodup_iff.mpr ndL)).2.2 b z b (inli b (by simp [y])) rfl
    · rcases List.mem_append.mp hb with y | y
      · rcases List.mem_append.mp z with z | z
        · exact absurd y (notl b (inli b (List.mem_append_left _ z)))
        · rcases List.mem_cons.mp z with z | z
          · subst z; exact absurd y (notl b ali)
          · exact z
      · rcases List.mem_append.mp z with z | z
        · exact absurd rfl (nd3.2.2 b z b (by simp [y]))
        · rcases List.mem_cons.mp z with z | z
          · subst z; exact absurd y nd4.1
          · exact z
  have kp : Kp (AT c.B (L.set i (lr ++ (a :: lk'))).flatten) H (upd H a (.lst xs')) := Kp.write ha trivial fun z => z.2 aT
  have ne : ∀ b, b ≠ a → ∀ o, H b = some o → (upd H a (.lst xs')) b = some o := fun b hb o q => by rw [upd_ne hb]; exact q
  have kids' : ROs c.K (AT c.B (L.set i (lr ++ (a :: lk'))).flatten) (upd H a (.lst xs')) n xs' ds' lk2 := kids.keep kp fun b hb => ne b fun z => by
    subst z
    rcases sub b (pk.mem_iff.mp hb) with z | z
    · exact nd4.1 z
    · exact notl b ali z
  obtain ⟨d2, l2, hs2, pm2, r2⟩ := up (AT c.B (L.set i (lr ++ (a :: lk'))).flatten) (upd H a (.lst xs')) (.list ds') (a :: lk2) kp (fun b hb => ne b fun z => by subst z; exact nd3.2.2 b hb b (by simp) rfl)
    (fun b o x _ => AT.less memT x) (RO.lst pn upd_same kids')
  rw [hs] at hs2; cases hs2
  replace pm2 : l2.Perm (lr ++ (a :: lk')) := pm2.trans ((pk.cons a).append_left lr)
  have mem2 : ∀ b, b ∈ (L.set i l2).flatten ↔ b ∈ (L.set i (lr ++ (a :: lk'))).flatten := fun b => by
    rw [(flatten_put (l := l2) hL).mem_iff, (flatten_put (l := lr ++ (a :: lk')) hL).mem_iff, List.mem_append, List.mem_append, pm2.mem_iff]
  refine ⟨L.set i l2, S.change hv hL ali ha trivial (RO.mono (fun b o x _ => AT.less (fun b hb => (mem2 b).mp hb) x) r2) (fun b hb => ?_) (pm2.nodup_iff.mpr ndn)⟩
  rcases List.mem_append.mp (pm2.mem_iff.mp hb) with z | z
  · exact .inl (inli b (List.mem_append_left _ z))
  · rcases List.mem_cons.mp z with z | z
    · subst z; exact .inl ali
    · rcases sub b z with z | z
      · exact .inl (inli b (by simp [z]))
      · exact .inr z
theorem Res.item {r : R} {v : V} {n : Option Nat} (S : Sim c L l env σ H) (h : Res c (L.flatten ++ l) H r v l) (hk : kidOk n r) :
    ∃ k : List Addr, k.Sublist l ∧ ∀ T', (∀ b ∈ T', b ∈ L.flatten ++ l) → (∀ b ∈ l, b ∈ T' → b ∈ k) → RO c.K (AT c.B T') H n v r.d k := by
  rcases hk with f | ⟨m, e, q⟩
  · exact ⟨[], List.nil_sublist _, fun T' _ _ => .flat (h.read.flat f) f⟩
  · obtain ⟨d, m'⟩ := r
    cases e
    have nd := List.nodup_append.mp S.nd
    exact RO.lower h.dep q nd.2.1 fun b hb => .inr (S.own b (List.mem_append_right _ hb)).1
end
def isL (env : VEnv) (i : Nat) (p : List Int) : Prop := ∃ d m ds, env[i]? = some (some (d, m)) ∧ getP d p = some (.list ds)
theorem isL.ty {c : Cn} {L : List (List Addr)} {l : List Addr} {env : VEnv} {σ : Sg} {H : Hp} {i : Nat} {p : List Int} {v v0 : V} (h : isL env i p) (S : Sim c L l env σ H) (hv : σ[i]? = some (some v0)) (nav : NavP H v0 p v) {K : PySem.W.Frag} : ∃ a xs, v = .ref a ∧ H a = some (.lst xs) ∧ tyV K "list" v H := by
  obtain ⟨d, m, ds, e, g⟩ := h
  obtain ⟨v1, li, hv1, _, r⟩ := S.sl.get e
  rw [hv] at hv1; cases hv1
  obtain ⟨w, n, rw⟩ := RS.nav r.read g
  have := n.inj nav
  subst this
  obtain ⟨a, xs, rfl, ha, _, _⟩ := rw.lst_inv
  exact ⟨a, xs, rfl, ha, Or.inl ⟨rfl, _, Or.inl (Or.inl ha)⟩⟩
structure OwnL (env : VEnv) (i : Nat) (p : List Int) (ds : List D) (d : D) (m n : Option Nat) : Prop where
  at_ : env[i]? = some (some (d, .o m))
  get : getP d p = some (.list ds)
  dep : ∃ mp, depP m d p = some mp ∧ popM mp = some n
def wApp (wp : WP) (we : WE) : WS := fun env Dv => wp env (fun i p e => isL e i p ∧ we e (fun r e' => ∃ d m ds n d', OwnL e' i p ds d m n ∧ kidOk n r ∧ ds.length < 1000000 ∧
  setP d p (.list (ds ++ [r.d])) = some d' ∧ Dv.nx (killB (e'.set i (some (d', .o m))))) Dv.ex) Dv.ex
section
variable {X : Cx} {c : Cn} {W : WX} {pos apos cpos : Pos} {wp : WP} {we : WE} {o e : Expr}
theorem line_big {n : Nat} (h : n < 1000000) : n < sizeLine := Nat.lt_of_lt_of_le h (by rw [sizeLine_eq]; omega)
theorem rd_tgt {σ : Sg} {H : Hp} {Q : V → Hp → Prop} {env : VEnv} {L : List (List Addr)} {Dv : DV} {Qv : Nat → List Int → VEnv → Prop} (S : Sim c L [] env σ H) (hw : wp env Qv Dv.ex)
    (hx : ∀ ex env' L' σ' H' cls d, Dv.ex ex env' → Sim c L' [] env' σ' H' → ExR c H' ex cls d → W cls d σ' H')
    (k : ∀ i p v v0 L' env' H', Qv i p env' → Sim c L' [] env' σ H' → σ[i]? = some (some v0) → NavP H' v0 p v → Q v H') : rdP c W wp σ H Q :=
  ⟨env, L, [], Qv, _, S, hw, fun i p v v0 L' env' H' q st hv nav => k i p v v0 L' env' H' q st.sim0 hv nav, fun ex cls d L' env' H' hq st he => hx ex env' L' σ H' cls d hq st.sim0 he⟩
theorem rd_arg {σ : Sg} {H : Hp} {Q : VK} {env : VEnv} {L : List (List Addr)} {Dv : DV} {Qv : R → VEnv → Prop} (S : Sim c L [] env σ H) (hw : we env Qv Dv.ex)
    (hx : ∀ ex env' L' σ' H' cls d, Dv.ex ex env' → Sim c L' [] env' σ' H' → ExR c H' ex cls d → W cls d σ' H')
    (k : ∀ r v l L' env' H', Qv r env' → Same H H' → Sim c L' l env' σ H' → Res c (L'.flatten ++ l) H' r v l → Q v H') : rdE c W we σ H Q :=
  ⟨env, L, [], Qv, _, S, hw, fun r v l L' env' H' q st hr => k r v l L' env' H' q st.same st.sim hr, fun ex cls d L' env' H' hq st he => hx ex env' L' σ H' cls d hq st.sim0 he⟩
theorem vs_app (ho : PE X o (rdP c W wp)) (he : PE X e (rdE c W we))
    (hb : PE X o (rdP c W wp) → PE X e (rdE c W we) → PE X (.Call (.Attribute o "append" apos) [e] [] cpos) (tBM X.K "list" rAppend (rdP c W wp) (tCons (rdE c W we) tNil)) := by exact fun ho he => pe_bm PySem.F.plainAttrs_list PySem.F.slot_list_append PySem.F.type_list_append mt_append ho (pa_cons he pa_nil)) :
    PS X (.Expr (.Call (.Attribute o "append" apos) [e] [] cpos) pos) (rdS c W (wApp wp we)) := PS.imp (ps_expr (hb ho he)) fun D σ H h => by
  obtain ⟨env, L, Dv, S, q, k, kr, kx⟩ := h
  refine rd_tgt S q kx fun i p v v0 L1 env1 H1 ⟨h0, h1⟩ S1 hv nav => ?_
  obtain ⟨_, _, _, _, ty⟩ := h0.ty S1 hv nav (K := X.K)
  refine ⟨ty, rd_arg S1 h1 kx fun r y l L2 env2 H2 ⟨d, m, ds, n, d', ⟨e1, e2, mp, e3, e4⟩, e5, e6, e7, h2⟩ sm S2 hr => ?_⟩
  obtain ⟨a, xs, rfl, ha, hl, _, up⟩ := S2.mutL e1 hv (nav.keep sm) e2 e3 e4
  obtain ⟨kk, ks, kq⟩ := Res.item S2 hr e5
  suffices hk : _ by
    obtain ⟨L3, S3⟩ := up (xs ++ [y]) _ d' hk e7
    exact ⟨a, xs, y, rfl, rfl, ha, by rw [hl]; exact line_big e6, k _ L3 σ _ h2 S3⟩
  · refine fun lk rk nd hlk => ⟨lk ++ kk, fun b hb => (List.mem_append.mp hb).imp id fun z => ks.subset z, List.nodup_append.mpr ⟨nd, (List.nodup_append.mp S2.nd).2.1.sublist ks, fun b hb b' hb' z => by subst z; exact (hlk b hb).2 (ks.subset hb')⟩, fun T' h1 h2 => ⟨_, List.Perm.refl _, ?_⟩⟩
    have rk' : ROs c.K (AT c.B T') H2 n xs ds lk := ROs.mono (fun b o x _ => AT.less h1 x) rk
    have ri := kq T' h1 fun b hb hb' => by
      rcases List.mem_append.mp (h2 b (List.mem_append_left _ hb) hb') with z | z
      · exact absurd hb (hlk b z).2
      · exact z
    have := ROs.append rk' (.cons ri .nil)
    simpa using this
end
def wPut (wp : WP) (wi we : WE) : WS := fun env Dv => we env (fun r e => wp e (fun i p e1 => wi e1 (fun rk e2 => ∃ d m ds n k j d', rk.d = .int k ∧ OwnL e2 i p ds d m n ∧ kidOk n r ∧ ixN ds.length k = some j ∧
  setP d p (.list (ds.set j r.d)) = some d' ∧ Dv.nx (killB (e2.set i (some (d', .o m))))) Dv.ex) Dv.ex) Dv.ex
section
variable {X : Cx} {c : Cn} {W : WX} {pos tpos : Pos} {wp : WP} {wi we : WE} {o i e : Expr}
theorem ixN_lt {n : Nat} {k : Int} {j : Nat} (h : ixN n k = some j) : j < n := (ixN_seq h).2.1
theorem vs_put (ho : PE X o (rdP c W wp)) (hi : PE X i (rdE c W wi)) (he : PE X e (rdE c W we)) (ha : ∀ v, assign (.Subscript o i tpos) X.env v = (do
      let ov ← holding [v] (eval o X.env)
      let iv ← holding [v, ov] (eval i X.env)
      standAt tpos
      holding [v, ov, iv] (setItem ov iv v)
      release [v, ov, iv] []) := by intro _; rfl) (hs : swapsWithSole [.Subscript o i tpos] e pos.line X.env = pure false := by rfl) (hw : swappedStores [.Subscript o i tpos] e X.env = pure none := by rfl) :
    PS X (.Assign [.Subscript o i tpos] e pos) (rdS c W (wPut wp wi we)) := PS.imp (ps_asg he (pg_sub ho hi set_list ha) hs hw) fun D σ H h => by
  obtain ⟨env, L, Dv, S, q, k, kr, kx⟩ := h
  refine rd_first S q kx fun r y l L1 env1 H1 h1 S1 hr => ?_
  refine ⟨env1, L1, l, _, _, S1, h1, fun s p v v0 L2 env2 H2 h2 st2 hv nav => ?_, fun ex cls d L' env' H' hq st he => kx ex env' L' σ H' cls d hq (Sim.drop (Tm := []) st.sim0) he⟩
  refine ⟨env2, L2, l, _, _, st2.sim0, h2, fun rk w l3 L3 env3 H3 ⟨d, m, ds, n, kk, j, d', e0, ⟨e1, e2, mp, e3, e4⟩, e5, e6, e7, h3⟩ st3 hrk => ?_, fun ex cls d L' env' H' hq st he => kx ex env' L' σ H' cls d hq (Sim.drop (Tm := []) st.sim0) he⟩
  obtain ⟨dk, mk⟩ := rk
  cases e0
  have hrk' := hrk.read
  cases hrk'
  have S3 := st3.sim0
  have g2 : ∀ b ∈ L2.flatten ++ l, b ∈ L1.flatten ++ l ∨ H1 b = none := fun b hb => st2.drop.gr b (by rw [List.append_nil]; exact hb)
  have hr2 := hr.keep st2.same g2
  have g3 : ∀ b ∈ L3.flatten ++ l, b ∈ L2.flatten ++ l ∨ H2 b = none := fun b hb => st3.drop.gr b (by rw [List.append_nil]; exact hb)
  have hr3 := hr2.keep st3.same g3
  obtain ⟨a, xs, rfl, ha, hl, _, up⟩ := S3.mutL e1 hv (nav.keep st3.same) e2 e3 e4
  obtain ⟨kk', ks, kq⟩ := Res.item S3 hr3 e5
  have hj : j < ds.length := ixN_lt e6
  suffices hk : _ by
    obtain ⟨L4, S4⟩ := up (xs.set j y) _ d' hk e7
    exact ⟨a, xs, kk, j, rfl, rfl, ha, by rw [hl]; exact e6, k _ L4 σ _ h3 S4⟩
  · intro lk rk nd hlk
    obtain ⟨u, lj, lr, q1, q2, q3, q4⟩ := rk.split (List.getElem?_eq_getElem hj)
    have nd2 := List.nodup_append.mp (q2.nodup_iff.mp nd)
    have nd3 : (lr ++ kk').Nodup := List.nodup_append.mpr ⟨nd2.1, (List.nodup_append.mp S3.nd).2.1.sublist ks, fun b hb b' hb' z => by subst z; exact (hlk b (q2.mem_iff.mpr (List.mem_append_left _ hb))).2 (ks.subset hb')⟩
    refine ⟨lr ++ kk', fun b hb => (List.mem_append.mp hb).imp (fun z => q2.mem_iff.mpr (List.mem_append_left _ z)) fun z => ks.subset z, nd3, fun T' h1 h2 => ?_⟩
    have ri := kq T' h1 fun b hb hb' => by
      rcases List.mem_append.mp (h2 b (List.mem_append_left _ hb) hb') with z | z
      · exact absurd hb (hlk b (q2.mem_iff.mpr (List.mem_append_left _ z))).2
      · exact z
    obtain ⟨l'', p'', r''⟩ := q4 (AT c.B T') H3 y r.d kk' (Kp.same (Same.refl _)) (fun b _ o z => z) (fun b o x _ => AT.less h1 x) ri
    exact ⟨l'', p'', r''⟩
end
end VL
set_option maxRecDepth 100000
set_option maxHeartbeats 4000000
namespace VL
open PySem PySem.Spec PyProof.Rows L2
def slLe : Option (D × Md) → Option (D × Md) → Prop
  | none, _ => True
  | some (d, .b), some (d', _) => d = d'
  | some (d, .o m), some (d', .o m') => d = d' ∧ leM m m' = true
  | _, _ => False
def envLe : VEnv → VEnv → Prop
  | [], [] => True
  | s :: e, s' :: e' => slLe s s' ∧ envLe e e'
  | _, _ => False
theorem slLe.refl (s : Option (D × Md)) : slLe s s := by
  match s with
  | none => exact True.intro
  | some (d, .b) => exact rfl
  | some (d, .o m) => exact ⟨rfl, leM_refl m⟩
theorem envLe.refl : ∀ e : VEnv, envLe e e
  | [] => True.intro
  | s :: e => ⟨slLe.refl s, envLe.refl e⟩
section
variable {c : Cn} {T : List Addr} {H : Hp}
theorem Slots.lower : ∀ {e e0 : VEnv} {σ : Sg} {L : List (List Addr)}, Slots c T H e σ L → envLe e0 e → L.flatten.Nodup → (∀ b ∈ L.flatten, c.B b) →
    ∃ L0 : List (List Addr), L0.flatten.Sublist L.flatten ∧ ∀ T', (∀ b ∈ T', b ∈ T) → (∀ b ∈ L.flatten, b ∈ T' → b ∈ L0.flatten) → Slots c T' H e0 σ L0 := by
  intro e e0 σ L h
  induction h generalizing e0 with
  | nil =>
    intro le nd hb
    cases e0 with
    | nil => exact ⟨[], List.Sublist.refl _, fun _ _ _ => .nil⟩
    | cons _ _ => exact le.elim
  | @non e x σ L h ih =>
    intro le nd hb
    cases e0 with
    | nil => exact le.elim
    | cons s e0 =>
      obtain ⟨L0, sb, q⟩ := ih le.2 (by simpa using nd) (by simpa using hb)
      have hs : s = none := by
        match s, le.1 with
        | none, _ => rfl
        | some (_, .b), z => exact z.elim
        | some (_, .o _), z => exact z.elim
      subst hs
      exact ⟨[] :: L0, by simpa using sb, fun T' h1 h2 => .non (q T' h1 (by simpa using h2))⟩
  | @bor e d v σ L r h ih =>
    intro le nd hb
    cases e0 with
    | nil => exact le.elim
    | cons s e0 =>
      obtain ⟨L0, sb, q⟩ := ih le.2 (by simpa using nd) (by simpa using hb)
      refine ⟨[] :: L0, by simpa using sb, fun T' h1 h2 => ?_⟩
      have hr := q T' h1 (by simpa using h2)
      match s, le.1 with
      | none, _ => exact .non hr
      | some (_, .b), z => cases z; exact .bor r hr
      | some (_, .o _), z => exact z.elim
  | @own e d m v l σ L r h ih =>
    intro le nd hb
    cases e0 with
    | nil => exact le.elim
    | cons s e0 =>
      rw [List.flatten_cons] at nd hb
      have nd' := List.nodup_append.mp nd
      obtain ⟨L0, sb, q⟩ := ih le.2 nd'.2.1 (fun b hb' => hb b (List.mem_append_right _ hb'))
      match s, le.1 with
      | none, _ =>
        refine ⟨[] :: L0, by simpa using sb.trans (List.sublist_append_right _ _), fun T' h1 h2 => .non (q T' h1 fun b hb1 hb2 => by simpa using h2 b (by simp [hb1]) hb2)⟩
      | some (_, .b), z =>
        cases z
        refine ⟨[] :: L0, by simpa using sb.trans (List.sublist_append_right _ _), fun T' h1 h2 => .bor ?_ (q T' h1 fun b hb1 hb2 => by simpa using h2 b (by simp [hb1]) hb2)⟩
        exact RO.share (RO.mono (fun _ _ _ _ => trivial) r) fun _ _ => trivial
      | some (_, .o m0), z =>
        obtain ⟨z1, z2⟩ := z
        cases z1
        obtain ⟨l0, s0, q0⟩ := RO.lower r z2 nd'.1 fun b hb' => hb b (List.mem_append_left _ hb')
        refine ⟨l0 :: L0, by simpa using s0.append sb, fun T' h1 h2 => .own (q0 T' h1 fun b hb1 hb2 => ?_) (q T' h1 fun b hb1 hb2 => ?_)⟩
        · rcases List.mem_append.mp (by simpa using h2 b (by simp [hb1]) hb2 : b ∈ l0 ++ L0.flatten) with z | z
          · exact z
          · exact absurd rfl (nd'.2.2 b hb1 b (sb.subset z))
        · rcases List.mem_append.mp (by simpa using h2 b (by simp [hb1]) hb2 : b ∈ l0 ++ L0.flatten) with z | z
          · exact absurd rfl (nd'.2.2 b (s0.subset z) b hb1)
          · exact z
theorem Sim.lower {L : List (List Addr)} {Tm : List Addr} {e e0 : VEnv} {σ : Sg} (S : Sim c L Tm e σ H) (le : envLe e0 e) : ∃ L0, Sim c L0 Tm e0 σ H := by
  have nd := List.nodup_append.mp S.nd
  obtain ⟨L0, sb, q⟩ := S.sl.lower le nd.1 fun b hb => .inr (S.own b (List.mem_append_left _ hb)).1
  have sb' : (L0.flatten ++ Tm).Sublist (L.flatten ++ Tm) := sb.append (List.Sublist.refl _)
  refine ⟨L0, q _ (fun b hb => sb'.subset hb) fun b h1 h2 => ?_, S.nd.sublist sb', fun a ha => S.own a (sb'.subset ha), S.fr, fun p hp => (S.hd p hp).mono fun b o a _ => AT.less (fun b hb => sb'.subset hb) a, S.pin⟩
  rcases List.mem_append.mp h2 with z | z
  · exact z
  · exact absurd rfl (nd.2.2 b h1 b z)
end
section
variable {X : Cx} {c : Cn} {W : WX} {w : WS} {st : Stmt}
end
def putAll : VEnv → List Nat → List R → VEnv
  | e, i :: is, r :: rs => putAll (e.set i (some (r.d, r.m))) is rs
  | e, _, _ => e
def setAll : Sg → List Nat → List V → Sg
  | σ, i :: is, v :: vs => setAll (σ.set i (some v)) is vs
  | σ, _, _ => σ
section
variable {c : Cn} {H : Hp}
theorem Sim.putAllG {Tm : List Addr} : ∀ {is : List Nat} {rs : List R} {vs : List V} {l : List Addr} {L : List (List Addr)} {env : VEnv} {σ : Sg} {T : List Addr}, Ress c T H rs vs l → Sim c L (Tm ++ l) env σ H → (∀ b ∈ L.flatten ++ (Tm ++ l), b ∈ T) → PinF c is →
    ∃ L', Sim c L' Tm (VL.putAll env is rs) (setAll σ is vs) H ∧ ∀ b ∈ L'.flatten ++ Tm, b ∈ L.flatten ++ (Tm ++ l) := by
  intro is rs vs l L env σ T h
  induction h generalizing is L env σ with
  | nil => intro S _ _; cases is <;> exact ⟨L, by simpa [VL.putAll, setAll] using S, fun b hb => by simpa using hb⟩
  | @cons r rs v vs l1 l2 hr _ ih =>
    intro S g pf
    cases is with
    | nil => exact ⟨L, S.drop, fun b hb => by rw [← List.append_assoc]; exact List.mem_append_left _ hb⟩
    | cons i is =>
      have pm : (Tm ++ (l1 ++ l2)).Perm ((Tm ++ l2) ++ l1) := by
        rw [List.append_assoc]; exact List.perm_append_comm.append_left _
      have S' : Sim c L ((Tm ++ l2) ++ l1) env σ H := by
        have mem : ∀ b, b ∈ L.flatten ++ ((Tm ++ l2) ++ l1) → b ∈ L.flatten ++ (Tm ++ (l1 ++ l2)) := fun b hb => (pm.append_left _).mem_iff.mpr hb
        exact ⟨S.sl.keep (Same.refl _) fun b hb => .inl (mem b hb), (pm.append_left _).nodup_iff.mp S.nd, fun a ha => S.own a (mem a ha), S.fr, fun p hp => (S.hd p hp).mono fun b o a _ => AT.less mem a, S.pin⟩
      have hr' : Res c (L.flatten ++ ((Tm ++ l2) ++ l1)) H r v l1 := hr.keep (Same.refl _) fun b hb => .inl (g b ((pm.append_left _).mem_iff.mpr hb))
      obtain ⟨L1, S1, g1⟩ := Sim.put (i := i) S' hr' (pf.sub fun j hj => by rw [List.mem_singleton.mp hj]; exact List.mem_cons_self)
      obtain ⟨L2, S2, g2⟩ := ih (is := is) S1 (fun b hb => g b ((pm.append_left _).mem_iff.mpr (g1 b hb))) (pf.sub fun j hj => List.mem_cons_of_mem _ hj)
      exact ⟨L2, S2, fun b hb => (pm.append_left _).mem_iff.mpr (g1 b (g2 b hb))⟩
theorem Sim.putAll {Tm : List Addr} {is : List Nat} {rs : List R} {vs : List V} {l : List Addr} {L : List (List Addr)} {env : VEnv} {σ : Sg} {T : List Addr} (h : Ress c T H rs vs l) (S : Sim c L (Tm ++ l) env σ H) (g : ∀ b ∈ L.flatten ++ (Tm ++ l), b ∈ T) (pf : PinF c is) :
    ∃ L', Sim c L' Tm (VL.putAll env is rs) (setAll σ is vs) H := let ⟨L', S', _⟩ := Sim.putAllG h S g pf; ⟨L', S'⟩
theorem Res.items {T l : List Addr} {m : Md} {ds : List D} {v : V} (h : Res c T H ⟨.tuple ds, m⟩ v l) : ∃ a xs l', v = .ref a ∧ H a = some (.tup xs) ∧ l'.Sublist l ∧ Ress c T H (ds.map (subT m)) xs l' := by
  cases m with
  | b =>
    obtain ⟨a, xs, e, ha, r⟩ := h.1.tup_inv
    have : ∀ {xs : List V} {ds : List D}, RSs c.K (fun _ => True) H xs ds → Ress c T H (ds.map (subT .b)) xs [] := by
      intro xs ds r
      induction xs generalizing ds with
      | nil => cases r; exact .nil
      | cons x xs ih =>
        cases r with
        | @cons _ _ d ds h r =>
          have hx : Res c T H (subT .b d) x [] := by
            unfold subT
            by_cases f : flatD d = true
            · rw [if_pos f]; exact Res.flat h f
            · rw [if_neg f]; exact ⟨h, rfl⟩
          exact .cons (l1 := []) (l2 := []) hx (ih r)
    exact ⟨a, xs, [], e, ha, List.nil_sublist _, this r⟩
  | o m =>
    obtain ⟨a, xs, e, ha, r⟩ := h.dep.tup_inv
    have : ∀ {xs : List V} {ds : List D} {l : List Addr}, ROs c.K (AT c.B T) H m xs ds l → ∃ l', l'.Sublist l ∧ Ress c T H (ds.map (subT (.o m))) xs l' := by
      intro xs ds l r
      induction xs generalizing ds l with
      | nil => cases r; exact ⟨[], List.Sublist.refl _, .nil⟩
      | cons x xs ih =>
        cases r with
        | @cons _ _ _ d ds l1 l2 h r =>
          obtain ⟨l', s, q⟩ := ih r
          by_cases f : flatD d = true
          · refine ⟨[] ++ l', s.trans (List.sublist_append_right _ _), .cons ?_ q⟩
            unfold subT
            rw [if_pos f]; exact Res.flat (A := fun _ => True) (RO.of_flat h f) f
          · refine ⟨l1 ++ l', (List.Sublist.refl _).append s, .cons ?_ q⟩
            unfold subT
            rw [if_neg f]; exact h
    obtain ⟨l', s, q⟩ := this r
    exact ⟨a, xs, l', e, ha, s, q⟩
theorem Ress.keepT {T T' l : List Addr} {rs : List R} {vs : List V} (h : Ress c T H rs vs l) (g : ∀ b ∈ T', b ∈ T) : Ress c T' H rs vs l := h.keep (Same.refl H) fun b hb => .inl (g b hb)
end
structure Tg where
  is : List Nat
  f : R → Option (List R)
def tgN (i : Nat) : Tg := ⟨[i], fun r => some [r]⟩
def tgT (is : List Nat) : Tg := ⟨is, fun r => match r.d with
  | .tuple ds => if ds.length = is.length then some (ds.map (subT r.m)) else none
  | _ => none⟩
structure TgOk (X : Cx) (tg : Expr) (g : Tg) : Prop where
  ok : ∃ t, PG X tg t ∧ ∀ (c : Cn) (T : List Addr) (H : Hp) (r : R) (v : V) (l : List Addr) (rs : List R), c.K = X.K → Res c T H r v l → g.f r = some rs →
    ∃ vs l', l'.Sublist l ∧ Ress c T H rs vs l' ∧ vs.length = g.is.length ∧ ∀ σ Q, Q (setAll σ g.is vs) H → t v σ H Q
section
variable {X : Cx} {c : Cn} {pos : Pos} {t t' : TG}
theorem tg_name {i : Nat} {x : Str} (hN : X.N.Nodup) (hi : X.N[i]? = some x := by rfl) (hx : Loc X.env.scope x := by first | exact .inl rfl | exact .inr rfl) (hf : X.fn x = true ∨ X.env.scope.names.lookup x = some .local := by first | exact .inl rfl | exact .inr rfl | assumption) : TgOk X (.Name x pos) (tgN i) :=
  ⟨_, pg_name hN hi hx hf, fun c T H r v l rs _ hr e => by
    cases e
    exact ⟨[v], l, List.Sublist.refl _, by simpa using Ress.cons hr .nil, rfl, fun σ Q q => q⟩⟩
inductive NamesAt (X : Cx) : List Expr → List Nat → TGs → Prop
  | nil : NamesAt X [] [] gNil
  | cons {e : Expr} {es : List Expr} {i : Nat} {is : List Nat} {u : TGs} : PG X e (gName i) → NamesAt X es is u → ((assignEach (e :: es) X.env).map (·.2) = assign e X.env :: (assignEach es X.env).map (·.2)) → NamesAt X (e :: es) (i :: is) (gCons (gName i) u)
theorem na_nil : NamesAt X [] [] gNil := .nil
theorem na_cons {i : Nat} {is : List Nat} {x : Str} {p : Pos} {es : List Expr} {u : TGs} (h : NamesAt X es is u) (hN : X.N.Nodup) (hi : X.N[i]? = some x := by rfl) (hx : Loc X.env.scope x := by first | exact .inl rfl | exact .inr rfl) (hf : X.fn x = true ∨ X.env.scope.names.lookup x = some .local := by first | exact .inl rfl | exact .inr rfl | assumption)
    (hs : (assignEach (.Name x p :: es) X.env).map (·.2) = assign (.Name x p) X.env :: (assignEach es X.env).map (·.2) := by rfl) : NamesAt X (.Name x p :: es) (i :: is) (gCons (gName i) u) := .cons (pg_name hN hi hx hf) h hs
theorem NamesAt.pgs {es : List Expr} {is : List Nat} {u : TGs} (h : NamesAt X es is u) : PGs X es u := by
  induction h with
  | nil => exact pgs_nil
  | cons h1 _ hs ih => exact pgs_cons h1 ih hs
theorem NamesAt.run {es : List Expr} {is : List Nat} {u : TGs} (h : NamesAt X es is u) : ∀ {vs : List V} {σ : Sg} {H : Hp} {Q : Sg → Hp → Prop}, vs.length = is.length → Q (setAll σ is vs) H → u vs σ H Q := by
  induction h with
  | nil =>
    intro vs σ H Q hl q
    cases vs with
    | nil => exact ⟨rfl, q⟩
    | cons _ _ => cases hl
  | cons _ _ _ ih =>
    intro vs σ H Q hl q
    cases vs with
    | nil => cases hl
    | cons v vs => exact ⟨v, vs, rfl, ih (by simpa using hl) q⟩
theorem tg_tup {es : List Expr} {is : List Nat} {u : TGs} {k : Nat} (hc : X.calm = true) (h : NamesAt X es is u) (hn : (assignEach es X.env).length = is.length := by rfl) (hst : (assignEach es X.env).findIdx? (·.1) = none := by rfl) : TgOk X (.Tuple es k pos) (tgT is) :=
  ⟨_, pg_tup hc h.pgs hn hst, fun c T H r v l rs hK hr e => by
    obtain ⟨d, m⟩ := r
    unfold tgT at e
    simp only at e
    split at e
    · rename_i ds
      split at e
      · rename_i hl
        cases e
        obtain ⟨a, xs, l', rfl, ha, s, rs⟩ := Res.items (ds := ds) (m := m) hr
        have lx : xs.length = ds.length := by rw [← rs.len, List.length_map]
        exact ⟨xs, l', s, rs, by rw [lx]; exact hl, fun σ Q q => ⟨a, xs, rfl, SqT.of ha, by rw [lx]; exact hl, h.run (by rw [lx]; exact hl) q⟩⟩
      · cases e
    · cases e⟩
end
def wAsg (g : Tg) (we : WE) : WS := fun env Dv => we env (fun r e => ∃ rs, g.f r = some rs ∧ Dv.nx (putAll e g.is rs)) Dv.ex
section
variable {X : Cx} {c : Cn} {W : WX} {pos : Pos} {we : WE} {g : Tg} {tg e : Expr}
theorem vs_asg (he : PE X e (rdE c W we)) (hg : TgOk X tg g) (hK : c.K = X.K := by rfl) (hs : swapsWithSole [tg] e pos.line X.env = pure false := by rfl) (hw : swappedStores [tg] e X.env = pure none := by rfl)
    (h1 : (assignEach [tg] X.env).map (·.2) = [assign tg X.env] := by rfl) (pf : PinF c g.is := by first | exact pinF_nil rfl | exact pinF_one rfl (by decide) | assumption) : PS X (.Assign [tg] e pos) (rdS c W (wAsg g we)) := by
  obtain ⟨t, hp, run⟩ := hg.ok
  refine PS.imp (ps_asg he hp hs hw h1) fun D σ H h => ?_
  obtain ⟨env, L, Dv, S, q, k, kr, kx⟩ := h
  refine rd_first S q kx fun r v l L' env' H' ⟨rs, hq, hn⟩ S' hr => ?_
  obtain ⟨vs, l', s, rr, hl, go⟩ := run c _ H' r v l rs hK hr hq
  have S2 : Sim c L' ([] ++ l') env' σ H' := S'.less s
  obtain ⟨L2, S3⟩ := Sim.putAll (is := g.is) (Tm := []) rr S2 (fun b hb => by
    rcases List.mem_append.mp hb with z | z
    · exact List.mem_append_left _ z
    · exact List.mem_append_right _ (s.subset z)) pf
  exact go σ _ (k _ L2 _ H' hn S3)
theorem rd_args {σ : Sg} {H : Hp} {Q : List V → Hp → Prop} {wa : WA} {env : VEnv} {L : List (List Addr)} {Dv : DV} {Qv : List R → VEnv → Prop} (S : Sim c L [] env σ H) (hw : wa env Qv Dv.ex)
    (hx : ∀ ex env' L' σ' H' cls d, Dv.ex ex env' → Sim c L' [] env' σ' H' → ExR c H' ex cls d → W cls d σ' H')
    (k : ∀ rs vs l L' env' H', Qv rs env' → Sim c L' l env' σ H' → Ress c (L'.flatten ++ l) H' rs vs l → Q vs H') : rdA c W wa σ H Q :=
  ⟨env, L, [], Qv, _, S, hw, fun rs vs l L' env' H' q st hr => k rs vs l L' env' H' q st.sim hr, fun ex cls d L' env' H' hq st he => hx ex env' L' σ H' cls d hq st.sim0 he⟩
end
def wWhile (t : WT) (w : WS) : WS := fun env Dv => ∃ (I : VEnv → Nat → Prop) (e0 : VEnv) (m0 : Nat), envLe e0 env ∧ I e0 m0 ∧ ∀ e m, I e m → t e (fun b e1 => if b = true then w e1 { Dv with nx := fun e2 => ∃ e3 m', envLe e3 e2 ∧ I e3 m' ∧ m' < m } else Dv.nx e1) Dv.ex
section
variable {X : Cx} {c : Cn} {W : WX} {pos : Pos} {t : WT} {w : WS} {te : Expr} {body : List Stmt}
theorem vs_while (hp : PassesOwn (model X.prog X.w) X.A X.env X.xe) (ht : PT X te (rdT c W t)) (hb : PSs X body (rdS c W w)) : PS X (.While te body [] pos) (rdS c W (wWhile t w)) := PS.imp (ps_while hp ht hb) fun D σ H h => by
  obtain ⟨env, L, Dv, S, ⟨I, e0, m0, le, i0, step⟩, k, kr, kx⟩ := h
  obtain ⟨L0, S0⟩ := S.lower le
  refine ⟨fun m σ H => ∃ e L, Sim c L [] e σ H ∧ I e m, ⟨m0, e0, L0, S0, i0⟩, ?_⟩
  rintro m σ1 H1 ⟨e, L1, S1, i1⟩
  refine ⟨e, L1, [], _, _, S1, step e m i1, fun b L2 e2 H2 hq st => ?_, fun ex cls d L' env' H' hq st he => kx ex env' L' σ1 H' cls d hq st.sim0 he⟩
  cases b with
  | false => exact k e2 L2 σ1 H2 hq st.sim0
  | true =>
    refine ⟨fun σ' H' => ∃ e m' L, Sim c L [] e σ' H' ∧ I e m' ∧ m' < m, fun σ' H' ⟨e, m', L, S, i, lt⟩ => ⟨m', lt, e, L, S, i⟩, ?_⟩
    refine ⟨e2, L2, _, st.sim0, hq, fun env' L' σ' H' ⟨e3, m', le3, i3, lt3⟩ S' => ?_, kr, kx⟩
    obtain ⟨L3, S3⟩ := S'.lower le3
    exact ⟨e3, m', L3, S3, i3, lt3⟩
end
end VL
set_option maxRecDepth 100000
set_option maxHeartbeats 4000000
namespace VL
open PySem PySem.Spec PyProof.Rows L2
theorem PI.imp {X : Cx} {tg iter : Expr} {w w' : TI} (h : PI X tg iter w) (q : ∀ σ H R, w' σ H R → w σ H R) : PI X tg iter w' := ⟨fun pins s σ H R I hw => h.run pins s σ H R I (q _ _ _ hw)⟩
theorem PI.or {X : Cx} {tg iter : Expr} {w w' : TI} (h : PI X tg iter w) (h' : PI X tg iter w') : PI X tg iter (fun σ H R => w σ H R ∨ w' σ H R) := ⟨fun pins s σ H R I hw => hw.elim (fun z => h.run pins s σ H R I z) fun z => h'.run pins s σ H R I z⟩
def iSeq (K : PySem.W.Frag) (tl : TE) : TI := fun σ H R => tl σ H fun x H1 => ∃ a, x = .ref a ∧ (((∃ xs, SqL K H1 a xs) ∧ R (Itl K a) H1) ∨ ((∃ xs, SqT K H1 a xs) ∧ R (Itt K a) H1))
theorem pi_seq {X : Cx} {tg l : Expr} {tl : TE} (hl : PE X l tl) : PI X tg l (iSeq X.K tl) := by
  refine ⟨fun pins s σ H R I h => ?_⟩
  refine thn (hl.run pins s σ H _ I h) fun v s1 ⟨x, H1, I1, r1, q1⟩ => ?_
  obtain ⟨a, e, q⟩ := q1
  subst e
  cases r1
  rcases q with ⟨⟨xs, hq⟩, q⟩ | ⟨⟨xs, hq⟩, q⟩
  · obtain ⟨its, rv, p, hz⟩ := I1.list hq
    refine wpAny_pyIter_list p.isList ?_
    refine ⟨s1.heap.objs.size, [s1.heap.objs.size], _, _, H1, rfl, I1.kept (t' := s1.toks) fun b o e => Heap.get?_push_of_some _ e, turn_list a _, ⟨_, Heap.get?_push_size _ rfl, rfl, rfl⟩, fun b hb => ?_, q⟩
    have e : b = s1.heap.objs.size := by simpa using hb
    subst e
    exact I1.fpOk (Nat.le_refl _) (I1.hok.fresh (Nat.le_refl _))
  · obtain ⟨its, rv, p, hz⟩ := I1.tuple hq
    refine wpAny_pyIter_tuple (show s1.heap.IsTuple a its.toArray from p) ?_
    refine ⟨s1.heap.objs.size, [s1.heap.objs.size], _, _, H1, rfl, I1.kept (t' := s1.toks) fun b o e => Heap.get?_push_of_some _ e, turn_tuple a _, ⟨_, Heap.get?_push_size _ rfl, rfl, rfl⟩, fun b hb => ?_, q⟩
    have e : b = s1.heap.objs.size := by simpa using hb
    subst e
    exact I1.fpOk (Nat.le_refl _) (I1.hok.fresh (Nat.le_refl _))
def seqOf : D → Option (List D)
  | .list ds => some ds
  | .tuple ds => some ds
  | _ => none
def itemR (m : Md) (d : D) : R := if flatD d = true then ⟨d, mA⟩ else match m with
  | .b => ⟨d, .b⟩
  | .o _ => ⟨d, mS⟩
section
variable {c : Cn} {L : List (List Addr)} {Tm l T : List Addr} {env : VEnv} {σ : Sg} {H H' : Hp}
theorem seq_run {K : PySem.W.Frag} {A : Addr → Prop} {v : V} {d : D} {ds : List D} (h : RS K A H v d) (e : seqOf d = some ds) :
    ∃ a xs, v = .ref a ∧ RSs K A H xs ds ∧ ((d = .list ds ∧ H a = some (.lst xs)) ∨ (d = .tuple ds ∧ H a = some (.tup xs))) := by
  match d, e with
  | .list ds', e =>
    cases e
    obtain ⟨a, xs, q, ha, _, r⟩ := h.lst_inv
    exact ⟨a, xs, q, r, .inl ⟨rfl, ha⟩⟩
  | .tuple ds', e =>
    cases e
    obtain ⟨a, xs, q, ha, r⟩ := h.tup_inv
    exact ⟨a, xs, q, r, .inr ⟨rfl, ha⟩⟩
end
def wFor (g : Tg) (we : WE) (w : WS) : WS := fun env Dv => we env (fun r e => ∃ ds, seqOf r.d = some ds ∧ isB r.m = false ∧ ∃ (I : Nat → VEnv → Prop) (e0 : VEnv), envLe e0 e ∧ I 0 e0 ∧
  (∀ i d e, ds[i]? = some d → I i e → ∃ rs, g.f (itemR mS d) = some rs ∧ w (putAll e g.is rs) { Dv with nx := fun e2 => ∃ e3, envLe e3 e2 ∧ I (i + 1) e3 }) ∧ (∀ e, I ds.length e → Dv.nx e)) Dv.ex
def Cn.with (c : Cn) (hd : List (V × D)) : Cn := { c with hd := hd }
section
variable {X : Cx} {c : Cn} {W : WX} {pos : Pos} {g : Tg} {we : WE} {w : WS} {tg iter : Expr} {body : List Stmt}
theorem Sim.unhd {c : Cn} {p : V × D} {L : List (List Addr)} {Tm : List Addr} {e : VEnv} {σ : Sg} {H : Hp} (S : Sim (c.with (p :: c.hd)) L Tm e σ H) : Sim c L Tm e σ H :=
  ⟨(by
    have := S.sl
    exact un this), S.nd, S.own, S.fr, fun q hq => S.hd q (List.mem_cons_of_mem _ hq), S.pin⟩
where
  un {c : Cn} {hd : List (V × D)} {T : List Addr} {H : Hp} {e : VEnv} {σ : Sg} {L : List (List Addr)} (h : Slots (c.with hd) T H e σ L) : Slots c T H e σ L := by
    induction h with
    | nil => exact .nil
    | non _ ih => exact .non ih
    | bor r _ ih => exact .bor r ih
    | own r _ ih => exact .own r ih
theorem Sim.addhd {c : Cn} {v : V} {d : D} {L : List (List Addr)} {Tm : List Addr} {e : VEnv} {σ : Sg} {H : Hp} (S : Sim c L Tm e σ H) (h : RS c.K (AT c.B (L.flatten ++ Tm)) H v d) : Sim (c.with ((v, d) :: c.hd)) L Tm e σ H :=
  ⟨up S.sl, S.nd, S.own, S.fr, fun q hq => by
    rcases List.mem_cons.mp hq with z | z
    · subst z; exact h
    · exact S.hd q z, S.pin⟩
where
  up {c : Cn} {hd : List (V × D)} {T : List Addr} {H : Hp} {e : VEnv} {σ : Sg} {L : List (List Addr)} (h : Slots c T H e σ L) : Slots (c.with hd) T H e σ L := by
    induction h with
    | nil => exact .nil
    | non _ ih => exact .non ih
    | bor r _ ih => exact .bor r ih
    | own r _ ih => exact .own r ih
theorem Res.share0 {r : R} {v : V} {l : List Addr} {L : List (List Addr)} {env : VEnv} {σ : Sg} {H : Hp} (h : Res c (L.flatten ++ l) H r v l) (hb : isB r.m = false) (S : Sim c L l env σ H) : RS c.K (AT c.B (L.flatten ++ [])) H v r.d := by
  obtain ⟨d, m⟩ := r
  cases m with
  | b => cases hb
  | o m => exact Res.shared (Tm := []) (la := l) (m := m) h rfl S fun b hb => hb
structure Walked (J : It) (xs : List V) (H : Hp) : Prop where
  go : ∀ (i : Nat) x, xs[i]? = some x → J.go i H
  stop : ∀ (i : Nat), xs.length ≤ i → J.stop i H
  yld : ∀ (i : Nat) x y H', xs[i]? = some x → J.yld i H y H' → H' = H ∧ y = x
theorem walked_l {K : PySem.W.Frag} {a : Addr} {xs : List V} {H : Hp} (p : H a = some (.lst xs)) : Walked (Itl K a) xs H :=
  ⟨fun i x e => ⟨xs, x, SqL.of p, e⟩, fun i e => ⟨xs, SqL.of p, e⟩, fun i x y H' e ⟨h1, h2⟩ => ⟨h1, Option.some.inj ((h2 xs (SqL.of p)).symm.trans e)⟩⟩
theorem walked_t {K : PySem.W.Frag} {a : Addr} {xs : List V} {H : Hp} (p : H a = some (.tup xs)) : Walked (Itt K a) xs H :=
  ⟨fun i x e => ⟨xs, x, SqT.of p, e⟩, fun i e => ⟨xs, SqT.of p, e⟩, fun i x y H' e ⟨h1, h2⟩ => ⟨h1, Option.some.inj ((h2 xs (SqT.of p)).symm.trans e)⟩⟩
theorem Res.ofItem {T : List Addr} {H : Hp} {v : V} {d : D} (h : RS c.K (AT c.B T) H v d) : Res c T H (itemR mS d) v [] := by
  unfold itemR
  by_cases f : flatD d = true
  · rw [if_pos f]; exact Res.flat h f
  · rw [if_neg f]; exact RO.sh h
theorem vs_for (hp : PassesOwn (model X.prog X.w) X.A X.env X.xe) (hc : X.calm = true) (he : PE X iter (rdE c W we)) (hg : TgOk X tg g) (hb : ∀ hd, PSs X body (rdS (c.with hd) W w)) (hK : c.K = X.K := by rfl)
    (hs : ∀ x, foldedSetIterable iter X.env x = pure x := by intro _; rfl) (pf : PinF c g.is := by first | exact pinF_nil rfl | exact pinF_one rfl (by decide) | assumption) : PS X (.For tg iter body [] pos) (rdS c W (wFor g we w)) := by
  obtain ⟨t, hpg, run⟩ := hg.ok
  refine PS.imp (ps_for (tb := fun D σ H => ∃ hd, rdS (c.with hd) W w D σ H) hp hc (pi_seq he) hpg ⟨fun pins s σ H D I hh => hh.elim fun hd z => (hb hd).run pins s σ H D I z⟩ hs) fun D σ H h => ?_
  obtain ⟨env, L, Dv, S, q, k, kr, kx⟩ := h
  refine rd_first S q kx fun r v l L1 e1 H1 ⟨ds, hd, hm, I, e0, le, i0, step, last⟩ S1 hr => ?_
  have sh := hr.share0 hm S1
  have S2 : Sim c L1 [] e1 σ H1 := Sim.drop (Tm := []) (l := l) S1
  obtain ⟨L0, S0⟩ := (S2.addhd sh).lower le
  have go : ∀ (J : It), (∀ L e σ H, Sim (c.with ((v, r.d) :: c.hd)) L [] e σ H → ∃ xs, Walked J xs H ∧ RSs c.K (AT c.B (L.flatten ++ [])) H xs ds) →
      ∃ Wv : Nat → Nat → Sg → Hp → Prop, (∃ m, Wv 0 m σ H1) ∧ ∀ i m σ H, Wv i m σ H → (J.stop i H ∧ D.nx σ H) ∨ (J.go i H ∧ ∃ N : Sg → Hp → Prop, (∀ σ' H', N σ' H' → ∃ m', m' < m ∧ Wv (i + 1) m' σ' H') ∧ ∀ x H', J.yld i H x H' → t x σ H' fun σ2 H2 => ∃ hd, rdS (c.with hd) W w { D with nx := N, ct := N, bk := D.nx } σ2 H2) := by
    intro J hP
    refine ⟨fun i m σ H => m = ds.length - i ∧ i ≤ ds.length ∧ ∃ e L, Sim (c.with ((v, r.d) :: c.hd)) L [] e σ H ∧ I i e, ⟨ds.length, by simp, Nat.zero_le _, e0, L0, S0, i0⟩, ?_⟩
    rintro i m σ2 H2 ⟨rfl, hi, e, L, S, ii⟩
    obtain ⟨xs, wk, rs⟩ := hP L e σ2 H2 S
    by_cases hlt : i < ds.length
    · obtain ⟨x, hx, rx⟩ := rs.get (List.getElem?_eq_getElem hlt)
      refine .inr ⟨wk.go i x hx, fun σ' H' => ∃ e L, Sim (c.with ((v, r.d) :: c.hd)) L [] e σ' H' ∧ I (i + 1) e, fun σ' H' ⟨e, L, S, ii⟩ => ⟨ds.length - (i + 1), by omega, rfl, hlt, e, L, S, ii⟩, fun y H' hy => ?_⟩
      obtain ⟨rfl, rfl⟩ := wk.yld i x y H' hx hy
      obtain ⟨qs, hq, hw⟩ := step i _ e (List.getElem?_eq_getElem hlt) ii
      have hit : Res (c.with ((v, r.d) :: c.hd)) (L.flatten ++ []) H' (itemR mS ds[i]) y [] := Res.ofItem (c := c.with ((v, r.d) :: c.hd)) rx
      obtain ⟨vs, l', s, rr, hl', go⟩ := run (c.with ((v, r.d) :: c.hd)) _ H' _ y _ qs hK hit hq
      have el : l' = [] := List.sublist_nil.mp s
      subst el
      obtain ⟨L3, S3⟩ := Sim.putAll (is := g.is) (Tm := []) (l := []) rr (by simpa using S) (fun b hb => by simpa using hb) pf
      refine go σ2 _ ⟨(v, r.d) :: c.hd, _, L3, _, S3, hw, fun env' L' σ' H'' ⟨e3, le3, i3⟩ S' => ?_, fun r v l H' e h hr => kr r v l H' e h ⟨hr.fr, hr.nd, hr.own, hr.res, let ⟨L, σ, q, z⟩ := hr.sim; ⟨L, σ, q.unhd, z⟩⟩, fun ex env' L' σ' H' cls d hx S' he => kx ex env' L' σ' H' cls d hx S'.unhd he⟩
      obtain ⟨L4, S4⟩ := S'.lower le3
      exact ⟨e3, L4, S4, i3⟩
    · have e' : i = ds.length := by omega
      subst e'
      exact   .inl ⟨wk.stop _ (by rw [rs.len]; omega), k e L σ2 H2 (last e ii) S.unhd⟩
  obtain ⟨a, xs, rfl, rs, hk⟩ := seq_run sh hd
  rcases hk with ⟨hd2, ha⟩ | ⟨hd2, ha⟩
  · refine ⟨a, rfl, .inl ⟨⟨xs, SqL.of ha⟩, go _ fun L e σ H S => ?_⟩⟩
    have := S.hd _ List.mem_cons_self
    rw [hd2] at this
    obtain ⟨a', xs', ea, ha', _, r'⟩ := this.lst_inv
    cases ea
    exact ⟨xs', walked_l ha', r'⟩
  · refine ⟨a, rfl, .inr ⟨⟨xs, SqT.of ha⟩, go _ fun L e σ H S => ?_⟩⟩
    have := S.hd _ List.mem_cons_self
    rw [hd2] at this
    obtain ⟨a', xs', ea, ha', r'⟩ := this.tup_inv
    cases ea
    exact ⟨xs', walked_t ha', r'⟩
end
def rangeOf : List R → Option (Int × Int)
  | [⟨.int j, _⟩] => some (0, j)
  | [⟨.int i, _⟩, ⟨.int j, _⟩] => some (i, j)
  | _ => none
theorem range1 {rs : List R} {lo hi : Int} (h : rangeOf rs = some (lo, hi)) (hl : rs.length = 1) : ∃ m, rs = [⟨.int hi, m⟩] ∧ lo = 0 := by
  unfold rangeOf at h
  split at h
  · cases h; exact ⟨_, rfl, rfl⟩
  · cases hl
  · cases h
def small (i : Int) : Prop := -(2 ^ 62) ≤ i ∧ i < 2 ^ 62
def wForR (n i : Nat) (wa : WA) (w : WS) : WS := fun env Dv => wa env (fun rs e => ∃ lo hi, rs.length = n ∧ rangeOf rs = some (lo, hi) ∧ small lo ∧ small hi ∧ ∃ (I : Nat → VEnv → Prop) (e0 : VEnv), envLe e0 e ∧ I 0 e0 ∧
  (∀ (k : Nat) e, k < (hi - lo).toNat → I k e → w (e.set i (some (.int (lo + k), mA))) { Dv with nx := fun e2 => ∃ e3, envLe e3 e2 ∧ I (k + 1) e3 }) ∧ (∀ e, I (hi - lo).toNat e → Dv.nx e)) Dv.ex
section
variable {X : Cx} {c : Cn} {W : WX} {pos p cpos ppos : Pos} {wa : WA} {w : WS} {tg : Expr} {body : List Stmt}
theorem rd_forR {i : Nat} {lo : Int} {n : Nat} {I : Nat → VEnv → Prop} {e0 e1 : VEnv} {σ : Sg} {H1 : Hp} {D : Ends} {Dv : DV} {L1 : List (List Addr)} (S1 : Sim c L1 [] e1 σ H1) (le : envLe e0 e1) (i0 : I 0 e0)
    (step : ∀ (k : Nat) e, k < n → I k e → w (e.set i (some (.int (lo + k), mA))) { Dv with nx := fun e2 => ∃ e3, envLe e3 e2 ∧ I (k + 1) e3 }) (last : ∀ e, I n e → Dv.nx e)
    (k : ∀ env' L' σ' H', Dv.nx env' → Sim c L' [] env' σ' H' → D.nx σ' H') (kr : ∀ r v l H' e, Dv.rt r e → Ret c r v l H' e → D.rt v H')
    (kx : ∀ ex env' L' σ' H' cls d, Dv.ex ex env' → Sim c L' [] env' σ' H' → ExR c H' ex cls d → W cls d σ' H') (pf : PinF c [i]) :
    ∃ Wv : Nat → Nat → Sg → Hp → Prop, (∃ m, Wv 0 m σ H1) ∧ ∀ j m σ H, Wv j m σ H → ((Itr lo n).stop j H ∧ D.nx σ H) ∨ ((Itr lo n).go j H ∧ ∃ N : Sg → Hp → Prop, (∀ σ' H', N σ' H' → ∃ m', m' < m ∧ Wv (j + 1) m' σ' H') ∧ ∀ x H', (Itr lo n).yld j H x H' → gName i x σ H' fun σ2 H2 => rdS c W w { D with nx := N, ct := N, bk := D.nx } σ2 H2) := by
  obtain ⟨L0, S0⟩ := S1.lower le
  refine ⟨fun j m σ H => m = n - j ∧ j ≤ n ∧ ∃ e L, Sim c L [] e σ H ∧ I j e, ⟨n, by simp, Nat.zero_le _, e0, L0, S0, i0⟩, ?_⟩
  rintro j m σ2 H2 ⟨rfl, hj, e, L, S, ii⟩
  by_cases hlt : j < n
  · refine .inr ⟨hlt, fun σ' H' => ∃ e L, Sim c L [] e σ' H' ∧ I (j + 1) e, fun σ' H' ⟨e, L, S, ii⟩ => ⟨n - (j + 1), by omega, rfl, hlt, e, L, S, ii⟩, fun y H' hy => ?_⟩
    obtain ⟨rfl, rfl⟩ := hy
    have hr : Res c (L.flatten ++ ([] ++ [])) H' ⟨.int (lo + j), mA⟩ (.int (lo + j)) [] := Res.flat (A := fun _ => True) (.int _) rfl
    obtain ⟨L3, S3, _⟩ := Sim.put (i := i) (Tm := []) (l := []) S hr pf
    refine ⟨_, L3, _, S3, step j e hlt ii, fun env' L' σ' H'' ⟨e3, le3, i3⟩ S' => ?_, kr, kx⟩
    obtain ⟨L4, S4⟩ := S'.lower le3
    exact ⟨e3, L4, S4, i3⟩
  · have e' : j = n := by omega
    subst e'
    exact .inl ⟨Nat.le_refl _, k e L σ2 H2 (last e ii) S⟩
theorem vs_forR1 {i : Nat} {x : Str} {a : Expr} (hp : PassesOwn (model X.prog X.w) X.A X.env X.xe) (hc : X.calm = true) (hm : X.mg "range" = none) (ha : PA X [a] (rdA c W wa)) (hb : PSs X body (rdS c W w)) (hN : X.N.Nodup) (hi : X.N[i]? = some x := by rfl) (hx : Loc X.env.scope x := by first | exact .inl rfl | exact .inr rfl) (hf : X.fn x = true ∨ X.env.scope.names.lookup x = some .local := by first | exact .inl rfl | exact .inr rfl | assumption)
    (hg : Gl X "range" := by rfl) (hs1 : starEach [a] X.env = [(false, eval a X.env)] := by rfl) (hs : ∀ x, foldedSetIterable (.Call (.Name "range" p) [a] [] cpos) X.env x = pure x := by intro _; rfl) (pf : PinF c [i] := by first | exact pinF_nil rfl | exact pinF_one rfl (by decide) | assumption) :
    PS X (.For (.Name x ppos) (.Call (.Name "range" p) [a] [] cpos) body [] pos) (rdS c W (wForR 1 i wa w)) := PS.imp (ps_for hp hc (pi_range1 hg hm ha hs1) (pg_name hN hi hx hf) hb hs) fun D σ H h => by
  obtain ⟨env, L, Dv, S, q, k, kr, kx⟩ := h
  refine rd_args S q kx fun rs vs l L1 e1 H1 ⟨lo, hi, hl, hr, s1, s2, I, e0, le, i0, step, last⟩ S1 hrs => ?_
  obtain ⟨m, rfl, rfl⟩ := range1 hr hl
  obtain ⟨v', e, r⟩ := ress1 hrs
  subst e
  have := r.read
  cases this
  refine ⟨hi, rfl, s2.1, s2.2, ?_⟩
  have e : (hi - 0).toNat = hi.toNat := by rw [Int.sub_zero]
  rw [e] at step last
  exact rd_forR (Sim.drop (Tm := []) (l := l) S1) le i0 step last k kr kx pf
end
end VL
set_option maxRecDepth 100000
set_option maxHeartbeats 4000000
namespace VL
open PySem PySem.Spec PyProof.Rows L2
def bS : Option (D × Md) → Option (D × Md)
  | some (d, .o (some 0)) => some (d, .o (some 0))
  | some (d, .o m) => if flatD d = true then some (d, .o m) else some (d, .b)
  | s => s
def bEnv (e : VEnv) : VEnv := e.map bS
def wipeE (e : VEnv) : List Nat → VEnv
  | [] => e
  | v :: vs => (wipeE e vs).set v none
section
variable {c : Cn} {L : List (List Addr)} {Tm T : List Addr} {env : VEnv} {σ : Sg} {H H1 : Hp}
theorem flatten_nils {α β : Type} (L : List α) : (L.map fun _ => ([] : List β)).flatten = [] := by
  induction L with
  | nil => rfl
  | cons _ _ ih => simpa using ih
theorem Slots.borrow (h : Slots c T H env σ L) : Slots c T H (bEnv env) σ (L.map fun _ => []) := by
  induction h with
  | nil => exact .nil
  | non _ ih => exact .non ih
  | bor r _ ih => exact .bor r ih
  | @own e d m v l σ L r _ ih =>
    have rd : RS c.K (fun _ => True) H v d := RO.share (RO.mono (fun _ _ _ _ => trivial) r) fun _ _ => trivial
    match m, r with
    | some 0, r => exact .own (.sh (RO.zero r)) ih
    | none, r =>
      show Slots c T H ((if flatD d = true then some (d, .o none) else some (d, .b)) :: bEnv e) _ _
      by_cases f : flatD d = true
      · rw [if_pos f]; exact .own (.flat (rd.flat f) f) ih
      · rw [if_neg f]; exact .bor rd ih
    | some (k + 1), r =>
      show Slots c T H ((if flatD d = true then some (d, .o (some (k + 1))) else some (d, .b)) :: bEnv e) _ _
      by_cases f : flatD d = true
      · rw [if_pos f]; exact .own (.flat (rd.flat f) f) ih
      · rw [if_neg f]; exact .bor rd ih
theorem Slots.kill2 {i : Nat} {x : Option V} (h : Slots c T H env σ L) : Slots c T H (env.set i none) (σ.set i x) (L.set i []) := by
  induction h generalizing i with
  | nil => exact .nil
  | non h ih => cases i with
    | zero => exact .non h
    | succ i => exact .non ih
  | bor r h ih => cases i with
    | zero => exact .non h
    | succ i => exact .bor r ih
  | own r h ih => cases i with
    | zero => exact .non h
    | succ i => exact .own r ih
theorem set_nil {α β : Type} (L : List α) (i : Nat) : (L.map fun _ => ([] : List β)).set i [] = L.map fun _ => [] := by
  induction L generalizing i with
  | nil => rfl
  | cons _ _ ih => cases i with
    | zero => rfl
    | succ i => simp [ih]
theorem Slots.wiped (h : Slots c T H env σ (L.map fun _ => [])) : ∀ vs : List Nat, Slots c T H (wipeE env vs) (wipe σ vs) (L.map fun _ => [])
  | [] => h
  | v :: vs => by
    have := (Slots.wiped h vs).kill2 (i := v) (x := none)
    rw [set_nil] at this
    exact this
theorem wipe_get (σ : Sg) (vs : List Nat) (i : Nat) : (wipe σ vs)[i]? = if i ∈ vs then (σ[i]?).map (fun _ => none) else σ[i]? := by
  induction vs with
  | nil => simp [wipe]
  | cons v vs ih =>
    unfold wipe
    rw [List.getElem?_set, ih, wipe_length]
    by_cases e : v = i
    · subst e
      simp only [List.mem_cons, true_or, if_true]
      by_cases h : v < σ.length
      · simp [h]
      · simp [h]
    · rw [if_neg e]
      have : (i ∈ v :: vs) ↔ i ∈ vs := by simp [Ne.symm e]
      simp only [this]
theorem Sim.block {K : List Addr} (S : Sim c L Tm env σ H1) (sm : Same H1 H) (nk : K.Nodup) (hk : ∀ b ∈ K, H1 b = none ∧ ∃ o, H b = some o) (vs : List Nat) (pf : PinF c vs) :
    Sim c (L.map fun _ => []) (L.flatten ++ (Tm ++ K)) (wipeE (bEnv env) vs) (wipe σ vs) H := by
  have S' := (Step.news S sm nk hk).sim
  refine ⟨?_, ?_, fun a ha => S'.own a ?_, S'.fr, fun p hp => (S'.hd p hp).mono fun b o a _ => AT.less (fun b hb => ?_) a, fun p hp => by rw [wipe_get, if_neg (pf p hp)]; exact S.pin p hp⟩
  · rw [flatten_nils, List.nil_append]
    exact (S'.sl.borrow).wiped vs
  · rw [flatten_nils, List.nil_append]; exact S'.nd
  · rw [flatten_nils, List.nil_append] at ha; exact ha
  · rw [flatten_nils, List.nil_append] at hb; exact hb
theorem setAll_len : ∀ (is : List Nat) (xs : List V) (σ : Sg), (setAll σ is xs).length = σ.length
  | [], _, _ => by simp [setAll]
  | i :: is, [], _ => by simp [setAll]
  | i :: is, x :: xs, σ => by simp only [setAll]; rw [setAll_len is xs]; simp
theorem setAll_get {σ : Sg} : ∀ (is : List Nat) (xs : List V) (σ : Sg) (j : Nat), j ∉ is → (setAll σ is xs)[j]? = σ[j]?
  | [], _, _, _, _ => by simp [setAll]
  | i :: is, [], _, _, _ => by simp [setAll]
  | i :: is, x :: xs, σ, j, h => by
    simp only [setAll]
    rw [setAll_get (σ := σ) is xs _ j (fun z => h (List.mem_cons_of_mem _ z)), List.getElem?_set_ne (fun z => h (by simp [z]))]
theorem wipe_setAll {σ : Sg} {is vs : List Nat} {xs : List V} (h : ∀ i ∈ is, i ∈ vs) : wipe (setAll (wipe σ vs) is xs) vs = wipe σ vs := by
  apply List.ext_getElem?
  intro j
  rw [wipe_get, wipe_get]
  by_cases hj : j ∈ vs
  · rw [if_pos hj, if_pos hj]
    have l1 : (setAll (wipe σ vs) is xs).length = σ.length := by rw [setAll_len, wipe_length]
    by_cases hl : j < σ.length
    · rw [List.getElem?_eq_getElem (by omega), List.getElem?_eq_getElem hl]; rfl
    · rw [List.getElem?_eq_none (by omega), List.getElem?_eq_none (by omega)]
  · rw [if_neg hj, if_neg hj, setAll_get (σ := σ) is xs _ j (fun z => hj (h j z)), wipe_get, if_neg hj]
end
abbrev W0 : WX := fun _ _ _ _ => False
def wYes : WT := fun env Q _ => Q true env
section
variable {X : Cx} {c : Cn} {W : WX}
theorem PTs.imp {es : List Expr} {t t' : TT} (h : PTs X es t) (q : ∀ σ H Q, t' σ H Q → t σ H Q) : PTs X es t' := ⟨fun pins s σ H Q I w => h.run pins s σ H Q I (q _ _ _ w)⟩
theorem vts_nil : PTs X [] (rdT c W wYes) := PTs.imp pts_nil fun σ H Q h => by
  obtain ⟨env, L, Tm, Qv, X, S, q, k, _⟩ := h
  exact k true L env H q (Step.refl S)
theorem vts_one {e : Expr} {w : WT} (h : PT X e (rdT c W w)) : PTs X [e] (rdT c W w) := pts_one h
end
def wTurn (wt : WT) (wl : WE) (km : Option Nat) (e : VEnv) (yes : D → Prop) (no : Prop) : Prop :=
  wt e (fun b e2 => if b = true then wl e2 (fun r' _ => kidOk km r' ∧ yes r'.d) (fun _ _ => False) else no) (fun _ _ => False)
structure Acc (c : Cn) (L : List (List Addr)) (Tm : List Addr) (H1 : Hp) (Dn : Addr) (km : Option Nat) (acc : List V) (accD : List D) (lk : List Addr) (H : Hp) : Prop where
  same : Same H1 H
  nd : (Dn :: lk).Nodup
  new : ∀ b ∈ Dn :: lk, H1 b = none ∧ ∃ o, H b = some o
  at_ : H Dn = some (.lst acc)
  kids : ROs c.K (AT c.B (L.flatten ++ (Tm ++ (Dn :: lk)))) H km acc accD lk
section
variable {c : Cn} {L : List (List Addr)} {Tm : List Addr} {env : VEnv} {σ : Sg} {H H1 : Hp} {Dn : Addr} {km : Option Nat} {acc : List V} {accD : List D} {lk : List Addr} {tt : WT} {wl : WE}
theorem Acc.start (S : Sim c L Tm env σ H1) (n : H1 Dn = none) : Acc c L Tm H1 Dn km [] [] [] (upd H1 Dn (.lst [])) :=
  ⟨same_new n, by simp, fun b hb => by simp at hb; subst hb; exact ⟨n, _, upd_same⟩, upd_same, .nil⟩
theorem Acc.sim (A : Acc c L Tm H1 Dn km acc accD lk H) (S : Sim c L Tm env σ H1) (vs : List Nat) (pf : PinF c vs) : Sim c (L.map fun _ => []) (L.flatten ++ (Tm ++ (Dn :: lk))) (wipeE (bEnv env) vs) (wipe σ vs) H := S.block A.same A.nd A.new vs pf
theorem Acc.add {H4 : Hp} {r : R} {y : V} {l : List Addr} {L' : List (List Addr)} {env' : VEnv} {σ' : Sg} (A : Acc c L Tm H1 Dn km acc accD lk H) (S : Sim c L Tm env σ H1)
    (st : Step c H H4 ((L.map fun _ => ([] : List Addr)).flatten ++ (L.flatten ++ (Tm ++ (Dn :: lk)))) (L.flatten ++ (Tm ++ (Dn :: lk))) L' l env' σ') (hr : Res c (L'.flatten ++ ((L.flatten ++ (Tm ++ (Dn :: lk))) ++ l)) H4 r y l) (hk : kidOk km r) :
    H4 Dn = some (.lst acc) ∧ ∃ lk', Acc c L Tm H1 Dn km (acc ++ [y]) (accD ++ [r.d]) lk' (upd H4 Dn (.lst (acc ++ [y]))) := by
  have hD : H4 Dn = some (.lst acc) := st.same _ _ A.at_
  refine ⟨hD, ?_⟩
  have nd4 := st.sim.nd
  rw [← List.append_assoc] at nd4
  have ndl := List.nodup_append.mp nd4
  have fresh : ∀ b ∈ l, H b = none := fun b hb => by
    rcases st.gr b (by simp [hb]) with z | z
    · exact absurd rfl (ndl.2.2 b (by rw [flatten_nils, List.nil_append] at z; exact List.mem_append_right _ z) b hb)
    · exact z
  have own4 : ∀ b ∈ l, c.B b := fun b hb => .inr (st.sim.own b (by simp [hb])).1
  have item : ∃ kk : List Addr, kk.Sublist l ∧ RO c.K (AT c.B (L.flatten ++ (Tm ++ (Dn :: (lk ++ kk))))) H4 km y r.d kk := by
    rcases hk with f | ⟨m, e, q⟩
    · exact ⟨[], List.nil_sublist _, .flat (hr.read.flat f) f⟩
    · obtain ⟨d, m'⟩ := r
      cases e
      obtain ⟨kk, ks, kq⟩ := RO.lower hr.dep q ndl.2.1 own4
      refine ⟨kk, ks, kq _ (fun b hb => ?_) fun b hb hb' => ?_⟩
      · simp only [List.mem_append, List.mem_cons] at hb ⊢
        rcases hb with z | z | z | z | z
        · exact .inr (.inl (.inl z))
        · exact .inr (.inl (.inr (.inl z)))
        · exact .inr (.inl (.inr (.inr (.inl z))))
        · exact .inr (.inl (.inr (.inr (.inr z))))
        · exact .inr (.inr (ks.subset z))
      · simp only [List.mem_append, List.mem_cons] at hb'
        have no : ∀ {P : Prop}, b ∈ L.flatten ++ (Tm ++ (Dn :: lk)) → P := fun z => absurd rfl (ndl.2.2 b (List.mem_append_right _ z) b hb)
        rcases hb' with z | z | z | z | z
        · exact no (List.mem_append_left _ z)
        · exact no (by simp [z])
        · exact no (by simp [z])
        · exact no (by simp [z])
        · exact z
  obtain ⟨kk, ks, ki⟩ := item
  have kkl : ∀ b ∈ kk, H b = none := fun b hb => fresh b (ks.subset hb)
  have ndn : (Dn :: (lk ++ kk)).Nodup := by
    rw [← List.cons_append]
    refine List.nodup_append.mpr ⟨A.nd, ndl.2.1.sublist ks, fun b hb b' hb' z => ?_⟩
    subst z
    obtain ⟨_, o, e⟩ := A.new b hb
    rw [kkl b hb'] at e; cases e
  have ndn' := List.nodup_cons.mp ndn
  have grow : ∀ b ∈ L.flatten ++ (Tm ++ (Dn :: (lk ++ kk))), b ∈ L.flatten ++ (Tm ++ (Dn :: lk)) ∨ H b = none := fun b hb => by
    simp only [List.mem_append, List.mem_cons] at hb ⊢
    rcases hb with z | z | z | z | z
    · exact .inl (.inl z)
    · exact .inl (.inr (.inl z))
    · exact .inl (.inr (.inr (.inl z)))
    · exact .inl (.inr (.inr (.inr z)))
    · exact .inr (kkl b z)
  have DT : Dn ∈ L.flatten ++ (Tm ++ (Dn :: (lk ++ kk))) := by simp
  have kp : Kp (AT c.B (L.flatten ++ (Tm ++ (Dn :: (lk ++ kk))))) H4 (upd H4 Dn (.lst (acc ++ [y]))) := Kp.write hD trivial fun z => z.2 DT
  have ne : ∀ b ∈ lk ++ kk, ∀ o, H4 b = some o → (upd H4 Dn (.lst (acc ++ [y]))) b = some o := fun b hb o q => by
    rw [upd_ne (fun z => by subst z; exact ndn'.1 hb)]; exact q
  have hn : H1 Dn = none := (A.new Dn List.mem_cons_self).1
  refine ⟨lk ++ kk, fun b o e => ?_, ndn, fun b hb => ?_, upd_same, ?_⟩
  · rw [upd_ne (ne_of_none e hn)]; exact st.same _ _ (A.same _ _ e)
  · rcases List.mem_cons.mp hb with z | z
    · subst z; exact ⟨hn, _, upd_same⟩
    · rcases List.mem_append.mp z with y' | y'
      · obtain ⟨n, o, e⟩ := A.new b (List.mem_cons_of_mem _ y')
        exact ⟨n, o, ne b z o (st.same _ _ e)⟩
      · obtain ⟨_, o, e⟩ := st.sim.own b (by simp [ks.subset y'])
        exact ⟨A.same.free (kkl b y'), o, ne b z o e⟩
  · have k1 := ROs.keepT A.kids st.same grow
    have k2 := k1.keep kp fun b hb => ne b (List.mem_append_left _ hb)
    have k3 := ki.keep kp fun b hb => ne b (List.mem_append_right _ hb)
    have := ROs.append k2 (.cons k3 .nil)
    simpa using this
theorem Acc.skip {H3 : Hp} {l : List Addr} {L' : List (List Addr)} {env' : VEnv} {σ' : Sg} (A : Acc c L Tm H1 Dn km acc accD lk H)
    (st : Step c H H3 ((L.map fun _ => ([] : List Addr)).flatten ++ (L.flatten ++ (Tm ++ (Dn :: lk)))) (L.flatten ++ (Tm ++ (Dn :: lk))) L' l env' σ') : Acc c L Tm H1 Dn km acc accD lk H3 :=
  ⟨A.same.trans st.same, A.nd, fun b hb => let ⟨n, o, e⟩ := A.new b hb; ⟨n, o, st.same _ _ e⟩, st.same _ _ A.at_, ROs.keepT A.kids st.same fun b hb => .inl hb⟩
theorem Acc.done {Qv : R → VEnv → Prop} {Q : VK} {Hs : Hp} {Ls : List (List Addr)} {la : List Addr} (A : Acc c L Tm H1 Dn km acc accD lk H) (st : Step c Hs H1 (Ls.flatten ++ Tm) Tm L la env σ) (k : Kont c σ Ls Tm Hs Qv Q) (q : Qv ⟨.list accD, .o (succM km)⟩ env) : Q (.ref Dn) H := by
  have S : Sim c L Tm env σ H1 := st.sim0
  have st2 := Step.news S A.same A.nd A.new
  refine k _ _ (Dn :: lk) L env H q (Step.then st (st2.wider fun b hb => by rw [← List.append_assoc]; exact List.mem_append_left _ hb)) ?_
  exact RO.lst (pop_succ km) A.at_ A.kids
theorem turn_run {is vs : List Nat} {rs : List R} {xs : List V} {yes : D → Prop} {no : Prop} {t : TG} {x : V} {Nx : Hp → Prop} (A : Acc c L Tm H1 Dn km acc accD lk H) (S : Sim c L Tm env σ H1) (his : ∀ i ∈ is, i ∈ vs) (pf : PinF c vs)
    (rr : Ress c ((L.map fun _ => ([] : List Addr)).flatten ++ (L.flatten ++ (Tm ++ (Dn :: lk)))) H rs xs []) (go : ∀ σ Q, Q (setAll σ is xs) H → t x σ H Q) (hz : acc.length < 1000000)
    (hw : wTurn tt wl km (putAll (wipeE (bEnv env) vs) is rs) yes no) (hy : ∀ y d lk' H', yes d → Acc c L Tm H1 Dn km (acc ++ [y]) (accD ++ [d]) lk' H' → Nx H') (hn : ∀ H', no → Acc c L Tm H1 Dn km acc accD lk H' → Nx H') :
    t x (wipe σ vs) H fun σ2 H2 => wipe σ2 vs = wipe σ vs ∧ rdT c W0 tt σ2 H2 fun b H3 =>
      if b = true then rdE c W0 wl σ2 H3 fun y H4 => ∃ acc', H4 Dn = some (.lst acc') ∧ acc'.length < sizeLine ∧ Nx (upd H4 Dn (.lst (acc' ++ [y]))) else Nx H3 := by
  refine go _ _ ⟨wipe_setAll his, ?_⟩
  have B := A.sim S vs pf
  obtain ⟨L2, S2, g2⟩ := Sim.putAllG (is := is) (Tm := L.flatten ++ (Tm ++ (Dn :: lk))) (l := []) rr (by simpa using B) (fun b hb => by simpa using hb) (pf.sub his)
  have stA : Step c H H ((L.map fun _ => ([] : List Addr)).flatten ++ (L.flatten ++ (Tm ++ (Dn :: lk)))) (L.flatten ++ (Tm ++ (Dn :: lk))) L2 [] (putAll (wipeE (bEnv env) vs) is rs) (setAll (wipe σ vs) is xs) :=
    ⟨Same.refl H, by simpa using S2, fun b hb => .inl (by simpa using g2 b (by simpa using hb))⟩
  refine ⟨_, L2, _, _, _, S2, hw, fun b L3 e3 H3 h3 st3 => ?_, fun ex cls d L' env' H' hx _ _ => hx.elim⟩
  have st13 := Step.then stA (st3.wider fun b hb => by simpa using hb)
  cases b with
  | false => exact hn H3 h3 (A.skip st13)
  | true =>
    refine ⟨e3, L3, _, _, _, st3.sim0, h3, fun r y l L4 e4 H4 ⟨hk, h4⟩ st4 hr => ?_, fun ex cls d L' env' H' hx _ _ => hx.elim⟩
    have st14 := Step.then st13 (st4.wider fun b hb => by simpa using hb)
    obtain ⟨h5, lk', A5⟩ := A.add S st14 hr hk
    exact ⟨acc, h5, line_big hz, hy y r.d lk' _ h4 A5⟩
end
end VL
set_option maxRecDepth 100000
set_option maxHeartbeats 4000000
namespace VL
open PySem PySem.Spec PyProof.Rows L2
def wLc (vs : List Nat) (g : Tg) (we : WE) (tt : WT) (wl : WE) : WE := fun env Q X => we env (fun r e => ∃ ds, seqOf r.d = some ds ∧ ds.length ≤ 1000000 ∧ ∃ (km : Option Nat) (I : Nat → List D → Prop), I 0 [] ∧
  (∀ i d acc, ds[i]? = some d → I i acc → ∃ rs, g.f (itemR r.m d) = some rs ∧ acc.length ≤ i ∧ wTurn tt wl km (putAll (wipeE (bEnv e) vs) g.is rs) (fun y => I (i + 1) (acc ++ [y])) (I (i + 1) acc)) ∧
  (∀ acc, I ds.length acc → Q ⟨.list acc, .o (succM km)⟩ e)) X
def wLcR (n : Nat) (vs : List Nat) (i : Nat) (wa : WA) (tt : WT) (wl : WE) : WE := fun env Q X => wa env (fun rs e => ∃ lo hi, rs.length = n ∧ rangeOf rs = some (lo, hi) ∧ small lo ∧ small hi ∧ hi - lo ≤ 1000000 ∧ ∃ (km : Option Nat) (I : Nat → List D → Prop), I 0 [] ∧
  (∀ (k : Nat) acc, k < (hi - lo).toNat → I k acc → acc.length ≤ k ∧ wTurn tt wl km ((wipeE (bEnv e) vs).set i (some (.int (lo + k), mA))) (fun y => I (k + 1) (acc ++ [y])) (I (k + 1) acc)) ∧
  (∀ acc, I (hi - lo).toNat acc → Q ⟨.list acc, .o (succM km)⟩ e)) X
abbrev RunTg (K : PySem.W.Frag) (g : Tg) (t : TG) : Prop := ∀ (c : Cn) (T : List Addr) (H : Hp) (r : R) (v : V) (l : List Addr) (rs : List R), c.K = K → Res c T H r v l → g.f r = some rs →
    ∃ vs l', l'.Sublist l ∧ Ress c T H rs vs l' ∧ vs.length = g.is.length ∧ ∀ σ Q, Q (setAll σ g.is vs) H → t v σ H Q
theorem run_name {K : PySem.W.Frag} {i : Nat} : RunTg K (tgN i) (gName i) := fun c T H r v l rs _ hr e => by
  cases e
  exact ⟨[v], l, List.Sublist.refl _, by simpa using Ress.cons hr .nil, rfl, fun σ Q q => q⟩
def gAll : List Nat → TGs
  | [] => gNil
  | i :: is => gCons (gName i) (gAll is)
theorem gAll_run : ∀ {is : List Nat} {vs : List V} {σ : Sg} {H : Hp} {Q : Sg → Hp → Prop}, vs.length = is.length → Q (setAll σ is vs) H → gAll is vs σ H Q
  | [], [], _, _, _, _, q => ⟨rfl, q⟩
  | [], _ :: _, _, _, _, hl, _ => by cases hl
  | _ :: _, [], _, _, _, hl, _ => by cases hl
  | i :: is, v :: vs, σ, H, Q, hl, q => ⟨v, vs, rfl, gAll_run (by simpa using hl) q⟩
theorem run_tup {K : PySem.W.Frag} {is : List Nat} : RunTg K (tgT is) (gTup K is.length (gAll is)) := fun c T H r v l rs hK hr e => by
  obtain ⟨d, m⟩ := r
  unfold tgT at e
  simp only at e
  split at e
  · rename_i ds
    split at e
    · rename_i hl
      cases e
      obtain ⟨a, xs, l', rfl, ha, s, rs⟩ := Res.items (ds := ds) (m := m) hr
      have lx : xs.length = ds.length := by rw [← rs.len, List.length_map]
      exact ⟨xs, l', s, rs, by rw [lx]; exact hl, fun σ Q q => ⟨a, xs, rfl, SqT.of ha, by rw [lx]; exact hl, gAll_run (by rw [lx]; exact hl) q⟩⟩
    · cases e
  · cases e
section
variable {X : Cx} {c : Cn} {W : WX} {we wl : WE} {tt : WT} {g : Tg} {vs : List Nat}
theorem rd_lc {K : PySem.W.Frag} {t : TG} (hK : c.K = K) (run : RunTg K g t) (his : ∀ i ∈ g.is, i ∈ vs) (pf : PinF c vs) {σ : Sg} {H : Hp} {Q : VK} (h : rdE c W (wLc vs g we tt wl) σ H Q) : tLc (iSeq K (rdE c W we)) t (rdT c W0 tt) (rdE c W0 wl) vs σ H Q := by
  obtain ⟨env, L, Tm, Qv, X, S, q, k, kx⟩ := h
  refine ⟨env, L, Tm, _, X, S, q, fun r v l L1 e1 H1 ⟨ds, hd, hlen, km, I, i0, step, last⟩ st hr => ?_, kx⟩
  have S1 : Sim c L1 Tm e1 σ H1 := st.sim0
  have rd := hr.read
  have item : ∀ {H' : Hp} {K' : List Addr} {x : V} {d : D} {xs : List V} {a : Addr} {i : Nat}, Same H1 H' → (∀ b ∈ K', H1 b = none) → v = .ref a → (H1 a = some (.lst xs) ∧ r.d = .list ds ∨ H1 a = some (.tup xs) ∧ r.d = .tuple ds) → ds[i]? = some d → xs[i]? = some x → Res c ((L1.map fun _ => ([] : List Addr)).flatten ++ (L1.flatten ++ (Tm ++ K'))) H' (itemR r.m d) x [] := by
    intro H' K' x d xs a i sm hk ev ha hdi hx
    rw [flatten_nils, List.nil_append]
    obtain ⟨dd, m⟩ := r
    have kid : ∀ {A : Addr → Prop}, RS c.K A H1 v dd → RS c.K A H1 x d := fun {A} h => by
      subst ev
      rcases ha with ⟨ha, e⟩ | ⟨ha, e⟩
      · simp only at e; subst e
        obtain ⟨a', xs', ea, ha', _, r'⟩ := h.lst_inv
        cases ea
        rw [ha] at ha'; cases ha'
        obtain ⟨x', hx', rx⟩ := r'.get hdi
        rw [hx] at hx'; cases hx'
        exact rx
      · simp only at e; subst e
        obtain ⟨a', xs', ea, ha', r'⟩ := h.tup_inv
        cases ea
        rw [ha] at ha'; cases ha'
        obtain ⟨x', hx', rx⟩ := r'.get hdi
        rw [hx] at hx'; cases hx'
        exact rx
    unfold itemR
    by_cases f : flatD d = true
    · rw [if_pos f]; exact Res.flat ((kid rd).keep (Kp.same sm)) f
    · rw [if_neg f]
      cases m with
      | b => exact ⟨(kid rd).keep (Kp.same sm), rfl⟩
      | o m =>
        have sh := Res.shared (r := ⟨dd, .o m⟩) hr rfl st.sim (fun b hb => hb)
        refine RO.sh (((kid sh).mono fun b o a e => ⟨a.1, fun z => ?_⟩).keep (Kp.same sm))
        rw [← List.append_assoc] at z
        rcases List.mem_append.mp z with z | z
        · exact a.2 z
        · rw [hk b z] at e; cases e
  have go : ∀ (J : It) (xs : List V) (a : Addr), v = .ref a → (H1 a = some (.lst xs) ∧ r.d = .list ds ∨ H1 a = some (.tup xs) ∧ r.d = .tuple ds) → (∀ H', Same H1 H' → Walked J xs H') → xs.length = ds.length →
      ∀ Dn, H1 Dn = none → ∃ Wv : Nat → Nat → Hp → Prop, (∃ m, Wv 0 m (upd H1 Dn (.lst []))) ∧ ∀ i m H, Wv i m H →
        (J.stop i H ∧ Q (.ref Dn) H) ∨ (J.go i H ∧ ∃ Nx : Hp → Prop, (∀ H', Nx H' → ∃ m', m' < m ∧ Wv (i + 1) m' H') ∧ ∀ x H', J.yld i H x H' → t x (wipe σ vs) H' fun σ2 H2 => wipe σ2 vs = wipe σ vs ∧ rdT c W0 tt σ2 H2 fun b H3 =>
          if b = true then rdE c W0 wl σ2 H3 fun y H4 => ∃ acc, H4 Dn = some (.lst acc) ∧ acc.length < sizeLine ∧ Nx (upd H4 Dn (.lst (acc ++ [y]))) else Nx H3) := by
    intro J xs a ev ha wk hl Dn nD
    refine ⟨fun i m H => m = ds.length - i ∧ i ≤ ds.length ∧ ∃ acc accD lk, Acc c L1 Tm H1 Dn km acc accD lk H ∧ I i accD, ⟨ds.length, by simp, Nat.zero_le _, [], [], [], Acc.start S1 nD, i0⟩, ?_⟩
    rintro i m H2 ⟨rfl, hi, acc, accD, lk, A, ii⟩
    have wk2 := wk H2 A.same
    by_cases hlt : i < ds.length
    · obtain ⟨x, hx⟩ : ∃ x, xs[i]? = some x := ⟨xs[i], List.getElem?_eq_getElem (by omega)⟩
      refine .inr ⟨wk2.go i x hx, fun H' => ∃ acc accD lk, Acc c L1 Tm H1 Dn km acc accD lk H' ∧ I (i + 1) accD, fun H' ⟨acc, accD, lk, A, ii⟩ => ⟨ds.length - (i + 1), by omega, rfl, hlt, acc, accD, lk, A, ii⟩, fun y H' hy => ?_⟩
      obtain ⟨rfl, rfl⟩ := wk2.yld i x y H' hx hy
      obtain ⟨rs, hq, hle, hw⟩ := step i _ accD (List.getElem?_eq_getElem hlt) ii
      have it := item (K' := Dn :: lk) A.same (fun b hb => (A.new b hb).1) ev ha (List.getElem?_eq_getElem hlt) hx
      obtain ⟨xs', l', s, rr, hl', gg⟩ := run c _ H' _ y _ rs hK it hq
      have el : l' = [] := List.sublist_nil.mp s
      subst el
      have la : acc.length = accD.length := A.kids.len
      exact turn_run A S1 his pf rr gg (by omega) hw (fun y d lk' H' hy A' => ⟨_, _, lk', A', hy⟩) fun H' hn A' => ⟨_, _, _, A', hn⟩
    · have e' : i = ds.length := by omega
      subst e'
      exact .inl ⟨wk2.stop _ (by omega), A.done st k (last accD ii)⟩
  obtain ⟨a, xs, ev, rs, hk⟩ := seq_run rd hd
  subst ev
  rcases hk with ⟨hd2, ha⟩ | ⟨hd2, ha⟩
  · exact ⟨a, rfl, .inl ⟨⟨xs, SqL.of ha⟩, go _ xs a rfl (.inl ⟨ha, hd2⟩) (fun H' sm => walked_l (sm _ _ ha)) rs.len⟩⟩
  · exact ⟨a, rfl, .inr ⟨⟨xs, SqT.of ha⟩, go _ xs a rfl (.inr ⟨ha, hd2⟩) (fun H' sm => walked_t (sm _ _ ha)) rs.len⟩⟩
theorem rd_lcR {n i : Nat} {wa : WA} {Q : VK} (his : i ∈ vs) (pf : PinF c vs) {σ : Sg} {H : Hp} {lo hi : Int} {km : Option Nat} {I : Nat → List D → Prop} {L L1 : List (List Addr)} {Tm la : List Addr} {e1 : VEnv} {H1 : Hp} {Qv : R → VEnv → Prop} (st : Step c H H1 (L.flatten ++ Tm) Tm L1 la e1 σ) (k : Kont c σ L Tm H Qv Q)
    (hsm : hi - lo ≤ 1000000) (i0 : I 0 []) (step : ∀ (k : Nat) acc, k < (hi - lo).toNat → I k acc → acc.length ≤ k ∧ wTurn tt wl km ((wipeE (bEnv e1) vs).set i (some (.int (lo + k), mA))) (fun y => I (k + 1) (acc ++ [y])) (I (k + 1) acc))
    (last : ∀ acc, I (hi - lo).toNat acc → Qv ⟨.list acc, .o (succM km)⟩ e1) : ∀ Dn, H1 Dn = none → ∃ Wv : Nat → Nat → Hp → Prop, (∃ m, Wv 0 m (upd H1 Dn (.lst []))) ∧ ∀ j m H, Wv j m H →
        ((Itr lo (hi - lo).toNat).stop j H ∧ Q (.ref Dn) H) ∨ ((Itr lo (hi - lo).toNat).go j H ∧ ∃ Nx : Hp → Prop, (∀ H', Nx H' → ∃ m', m' < m ∧ Wv (j + 1) m' H') ∧ ∀ x H', (Itr lo (hi - lo).toNat).yld j H x H' → gName i x (wipe σ vs) H' fun σ2 H2 => wipe σ2 vs = wipe σ vs ∧ rdT c W0 tt σ2 H2 fun b H3 =>
          if b = true then rdE c W0 wl σ2 H3 fun y H4 => ∃ acc, H4 Dn = some (.lst acc) ∧ acc.length < sizeLine ∧ Nx (upd H4 Dn (.lst (acc ++ [y]))) else Nx H3) := by
  have S1 : Sim c L1 Tm e1 σ H1 := st.sim0
  intro Dn nD
  refine ⟨fun j m H => m = (hi - lo).toNat - j ∧ j ≤ (hi - lo).toNat ∧ ∃ acc accD lk, Acc c L1 Tm H1 Dn km acc accD lk H ∧ I j accD, ⟨_, rfl, Nat.zero_le _, [], [], [], Acc.start S1 nD, i0⟩, ?_⟩
  rintro j m H2 ⟨rfl, hj, acc, accD, lk, A, ii⟩
  by_cases hlt : j < (hi - lo).toNat
  · refine .inr ⟨hlt, fun H' => ∃ acc accD lk, Acc c L1 Tm H1 Dn km acc accD lk H' ∧ I (j + 1) accD, fun H' ⟨acc, accD, lk, A, ii⟩ => ⟨(hi - lo).toNat - (j + 1), by omega, rfl, hlt, acc, accD, lk, A, ii⟩, fun y H' hy => ?_⟩
    obtain ⟨rfl, rfl⟩ := hy
    obtain ⟨hle, hw⟩ := step j accD hlt ii
    have rr : Ress c ((L1.map fun _ => ([] : List Addr)).flatten ++ (L1.flatten ++ (Tm ++ (Dn :: lk)))) H' [⟨.int (lo + j), mA⟩] [.int (lo + j)] [] := .cons (l1 := []) (l2 := []) (Res.flat (A := fun _ => True) (.int _) rfl) .nil
    have la : acc.length = accD.length := A.kids.len
    exact turn_run (is := [i]) A S1 (by simpa using his) pf rr (fun σ Q q => q) (by omega) hw (fun y d lk' H' hy A' => ⟨_, _, lk', A', hy⟩) fun H' hn A' => ⟨_, _, _, A', hn⟩
  · have e' : j = (hi - lo).toNat := by omega
    subst e'
    exact .inl ⟨Nat.le_refl _, A.done st k (last accD ii)⟩
end
abbrev Blk (X : Cx) (scope : Scope) (P : Cx → Prop) : Prop := ∀ (s : Shared) (H : Hp) (C : Addr) (cl : List (Str × Addr)) (fp : List Addr), P (X.blk s H scope (compEnvC scope cl C X.env) fp)
section
variable {X : Cx} {c : Cn} {W : WX} {we wl : WE} {wa : WA} {tt : WT} {tg iter elt : Expr} {ifs : List Expr} {scope : Scope} {own : List (Str × Nat)} {pos : Pos}
theorem ve_lcN {i : Nat} (hc : X.calm = true) (hN : X.N.Nodup) (own : List (Str × Nat)) (hi : PE X iter (rdE c W we)) (hg : Blk X scope fun Y => PG Y tg (gName i)) (ht : Blk X scope fun Y => PTs Y ifs (rdT c W0 tt)) (he : Blk X scope fun Y => PE Y elt (rdE c W0 wl))
    (ok : BlkOk X.N X.env.scope scope own := by first | exact blkOk_by (by decide +kernel) | exact blkOk_by (by rfl) | exact blkOk_by (by with_unfolding_all rfl)) (his : i ∈ own.map (·.2) := by decide) (hK : c.K = X.K := by rfl) (hs : ∀ x, foldedSetIterable iter X.env x = pure x := by intro _; rfl) (pf : PinF c (own.map (·.2)) := by first | exact pinF_nil rfl | exact pinF_one rfl (by decide) | assumption) :
    PE X (.ListComp elt [⟨tg, iter, ifs, 0⟩] scope pos) (rdE c W (wLc (own.map (·.2)) (tgN i) we tt wl)) :=
  PE.imp (pe_lc hc hN (pi_seq hi) ok hg ht he hs) fun σ H Q => rd_lc hK run_name (by simpa [tgN] using his) pf
theorem rd_lcR1 {i : Nat} (his : i ∈ own.map (·.2)) (pf : PinF c (own.map (·.2))) {σ : Sg} {H : Hp} {Q : VK} (h : rdE c W (wLcR 1 (own.map (·.2)) i wa tt wl) σ H Q) : tLc (iRng1 (rdA c W wa)) (gName i) (rdT c W0 tt) (rdE c W0 wl) (own.map (·.2)) σ H Q := by
  obtain ⟨env, L, Tm, Qv, X, S, q, k, kx⟩ := h
  refine ⟨env, L, Tm, _, X, S, q, fun rs vs l L1 e1 H1 ⟨lo, hi, hl, hr, s1, s2, hsm, km, I, i0, step, last⟩ st hrs => ?_, kx⟩
  obtain ⟨m, rfl, rfl⟩ := range1 hr hl
  obtain ⟨v', e, r⟩ := ress1 hrs
  subst e
  have := r.read
  cases this
  refine ⟨hi, rfl, s2.1, s2.2, ?_⟩
  have := rd_lcR (n := 1) (wa := wa) his pf st k hsm i0 step last
  have e : (hi - 0).toNat = hi.toNat := by rw [Int.sub_zero]
  rw [e] at this
  exact this
theorem rd_setPE {i : Nat} {σ : Sg} {H : Hp} {D : Ends} {t : TE} {w : WE} (ht : ∀ σ H Q, rdE c W w σ H Q → t σ H Q) (pf : PinF c [i]) (h : rdS c W (wSet i w) D σ H) : tAsg t (gName i) D σ H := by
  obtain ⟨env, L, Dv, S, q, k, kr, kx⟩ := h
  refine ht _ _ _ (rd_first S q kx fun r v l L' env' H' hq S' hr => ?_)
  obtain ⟨L2, S2, _⟩ := Sim.put (Tm := []) (i := i) (l := l) (r := r) S' hr pf
  exact k _ L2 _ H' hq S2
theorem vs_setLcT {is : List Nat} {n : Nat} {y : Str} {py spos : Pos} (hc : X.calm = true) (hN : X.N.Nodup) (own : List (Str × Nat)) (hi : PE X iter (rdE c W we)) (hg : Blk X scope fun Y => PG Y tg (gTup X.K is.length (gAll is))) (ht : Blk X scope fun Y => PTs Y ifs (rdT c W0 tt)) (he : Blk X scope fun Y => PE Y elt (rdE c W0 wl))
    (hy : X.N[n]? = some y := by rfl) (hyl : X.env.scope.names.lookup y = some .local := by rfl) (hsw : swapsWith (.ListComp elt [⟨tg, iter, ifs, 0⟩] scope pos) (some (.Name y py)) spos.line X.env = pure true := by exact sw_true rfl rfl rfl (by decide +kernel))
    (ok : BlkOk X.N X.env.scope scope own := by first | exact blkOk_by (by decide +kernel) | exact blkOk_by (by rfl) | exact blkOk_by (by with_unfolding_all rfl)) (his : ∀ i ∈ is, i ∈ own.map (·.2) := by decide) (hK : c.K = X.K := by rfl) (hs : ∀ x, foldedSetIterable iter X.env x = pure x := by intro _; rfl) (pf : PinF c (own.map (·.2)) := by first | exact pinF_nil rfl | exact pinF_one rfl (by decide) | assumption) (pn : PinF c [n] := by first | exact pinF_nil rfl | exact pinF_one rfl (by decide) | assumption) :
    PS X (.Assign [.Name y py] (.ListComp elt [⟨tg, iter, ifs, 0⟩] scope pos) spos) (rdS c W (wSet n (wLc (own.map (·.2)) (tgT is) we tt wl))) :=
  PS.imp (ps_setLc hc hN hy hyl hsw (pi_seq hi) ok hg ht he hs) fun D σ H => rd_setPE (fun σ H Q => rd_lc hK run_tup his pf) pn
theorem vs_setLcR1 {i n : Nat} {y : Str} {py spos : Pos} {a : Expr} {p cpos : Pos} (hc : X.calm = true) (hN : X.N.Nodup) (own : List (Str × Nat)) (hm : X.mg "range" = none) (ha : PA X [a] (rdA c W wa)) (hg : Blk X scope fun Y => PG Y tg (gName i)) (ht : Blk X scope fun Y => PTs Y ifs (rdT c W0 tt)) (he : Blk X scope fun Y => PE Y elt (rdE c W0 wl))
    (hy : X.N[n]? = some y := by rfl) (hyl : X.env.scope.names.lookup y = some .local := by rfl) (hsw : swapsWith (.ListComp elt [⟨tg, .Call (.Name "range" p) [a] [] cpos, ifs, 0⟩] scope pos) (some (.Name y py)) spos.line X.env = pure true := by exact sw_true rfl rfl rfl (by decide +kernel))
    (hgl : Gl X "range" := by rfl) (hs1 : starEach [a] X.env = [(false, eval a X.env)] := by rfl) (ok : BlkOk X.N X.env.scope scope own := by first | exact blkOk_by (by decide +kernel) | exact blkOk_by (by rfl) | exact blkOk_by (by with_unfolding_all rfl)) (his : i ∈ own.map (·.2) := by decide) (hs : ∀ x, foldedSetIterable (.Call (.Name "range" p) [a] [] cpos) X.env x = pure x := by intro _; rfl) (pf : PinF c (own.map (·.2)) := by first | exact pinF_nil rfl | exact pinF_one rfl (by decide) | assumption) (pn : PinF c [n] := by first | exact pinF_nil rfl | exact pinF_one rfl (by decide) | assumption) :
    PS X (.Assign [.Name y py] (.ListComp elt [⟨tg, .Call (.Name "range" p) [a] [] cpos, ifs, 0⟩] scope pos) spos) (rdS c W (wSet n (wLcR 1 (own.map (·.2)) i wa tt wl))) :=
  PS.imp (ps_setLc hc hN hy hyl hsw (pi_range1 hgl hm ha hs1) ok hg ht he hs) fun D σ H => rd_setPE (fun σ H Q => rd_lcR1 his pf) pn
end
end VL
set_option maxRecDepth 100000
set_option maxHeartbeats 4000000
namespace VL
open PySem PySem.Spec PyProof.Rows L2
def argS (d : D) : Option (D × Md) := some (d, if flatD d = true then mA else mS)
def startE (N : List Str) (ds : List D) : VEnv := ds.map argS ++ List.replicate (N.length - ds.length) none
abbrev cnOf (K : PySem.W.Frag) (cl : Str → Option Addr) (P0 : Addr → Prop) (H : Hp) : Cn := ⟨K, P0, H, [], cl, [], []⟩
abbrev WXE (E : XK) : WX := fun cls d _ H => E cls d H
theorem start_sim {K : PySem.W.Frag} {cl : Str → Option Addr} {P0 : Addr → Prop} {H : Hp} {vs : List V} {ds : List D} {N : List Str} (r : RSs K P0 H vs ds) : ∃ L, Sim (cnOf K cl P0 H) L [] (startE N ds) (L2.start N vs) H := by
  have tail : ∀ n : Nat, ∀ T, Slots (cnOf K cl P0 H) T H (List.replicate n none) (List.replicate n none) (List.replicate n []) := by
    intro n T
    induction n with
    | zero => exact .nil
    | succ n ih => exact .non ih
  have hl := r.len
  have rep : ∀ n : Nat, (List.replicate n ([] : List Addr)).flatten = [] := by intro n; induction n with
    | zero => rfl
    | succ n ih => simpa [List.replicate_succ] using ih
  have body : ∀ {vs : List V} {ds : List D} (n : Nat), RSs K P0 H vs ds → Slots (cnOf K cl P0 H) [] H (ds.map argS ++ List.replicate n none) (vs.map some ++ List.replicate n none) (List.replicate ds.length [] ++ List.replicate n []) := by
    intro vs ds n r
    induction vs generalizing ds with
    | nil => cases r; simpa using tail n []
    | cons v vs ih =>
      cases r with
      | @cons _ _ d ds h r =>
        have ih' := ih r
        simp only [List.map_cons, List.cons_append, List.length_cons, List.replicate_succ]
        unfold argS
        by_cases f : flatD d = true
        · rw [if_pos f]; exact .own (.flat (h.flat f) f) ih'
        · rw [if_neg f]
          exact .own (.sh (h.mono fun b o a _ => ⟨.inl a, by simp⟩)) ih'
  have fl : (List.replicate ds.length ([] : List Addr) ++ List.replicate (N.length - ds.length) []).flatten = [] := by
    rw [List.flatten_append, rep, rep]; rfl
  refine ⟨List.replicate ds.length [] ++ List.replicate (N.length - ds.length) [], ?_, by rw [fl]; simp, fun a ha => by rw [fl] at ha; simp at ha, fun b o e _ => e, fun p hp => (by cases hp), fun p hp => (by cases hp)⟩
  rw [fl]
  have := body (N.length - ds.length) r
  unfold startE L2.start
  rw [hl]
  exact this
abbrev cxV (P : Program) (w : World) (K : PySem.W.Frag) (mg : Str → Option Value) (base : Heap) (N : List Str) (x : Str) (st : Stmt) (f : Addr) (cdv : Value) (A : Around) (outer : List Env) (s : Shared) (H : Hp) (E : XK) : Cx := cxOf (L2.CX P w) P w K mg base N x (defScope st) f cdv A outer s H E
section
variable {P : Program} {w : World} {K : PySem.W.Frag} {mg : Str → Option Value} {base : Heap} {cl : Str → Option Addr}
end
section
variable {X : Cx} {c : Cn} {W : WX} {pos p p2 pos2 : Pos} {x m : Str} {j : Nat} {C : Addr}
end
def tyIs (T : String) : D → Bool
  | .none => false
  | .bool _ => T == "bool" || T == "int"
  | .int _ => T == "int"
  | .str _ => T == "str"
  | .list _ => T == "list"
  | .tuple _ => T == "tuple"
  | .dict _ => T == "dict"
def noDict : D → Prop
  | .dict _ => False
  | _ => True
def wIsi (T : String) (we : WE) : WE := fun env Q X => we env (fun r e => noDict r.d ∧ Q ⟨.bool (tyIs T r.d), mA⟩ e) X
section
variable {X : Cx} {c : Cn} {W : WX} {pos p p2 : Pos} {we : WE} {e : Expr} {T : String} {y : Str}
structure TyAsk (T : String) : Prop where
  non : kitB "NoneType" T = some (tyIs T .none)
  bl : ∀ b, kitB "bool" T = some (tyIs T (.bool b))
  int : ∀ i, kitB "int" T = some (tyIs T (.int i))
  str : ∀ s, kitB "str" T = some (tyIs T (.str s))
  lst : ∀ ds, kitB "list" T = some (tyIs T (.list ds))
  tup : ∀ ds, kitB "tuple" T = some (tyIs T (.tuple ds))
theorem ta_int : TyAsk "int" := ⟨by decide +kernel, fun b => (by decide +kernel : kitB "bool" "int" = some true), fun _ => (by decide +kernel : kitB "int" "int" = some true), fun _ => (by decide +kernel : kitB "str" "int" = some false), fun _ => (by decide +kernel : kitB "list" "int" = some false), fun _ => (by decide +kernel : kitB "tuple" "int" = some false)⟩
theorem ta_bool : TyAsk "bool" := ⟨by decide +kernel, fun b => (by decide +kernel : kitB "bool" "bool" = some true), fun _ => (by decide +kernel : kitB "int" "bool" = some false), fun _ => (by decide +kernel : kitB "str" "bool" = some false), fun _ => (by decide +kernel : kitB "list" "bool" = some false), fun _ => (by decide +kernel : kitB "tuple" "bool" = some false)⟩
theorem ta_str : TyAsk "str" := ⟨by decide +kernel, fun b => (by decide +kernel : kitB "bool" "str" = some false), fun _ => (by decide +kernel : kitB "int" "str" = some false), fun _ => (by decide +kernel : kitB "str" "str" = some true), fun _ => (by decide +kernel : kitB "list" "str" = some false), fun _ => (by decide +kernel : kitB "tuple" "str" = some false)⟩
theorem ta_list : TyAsk "list" := ⟨by decide +kernel, fun b => (by decide +kernel : kitB "bool" "list" = some false), fun _ => (by decide +kernel : kitB "int" "list" = some false), fun _ => (by decide +kernel : kitB "str" "list" = some false), fun _ => (by decide +kernel : kitB "list" "list" = some true), fun _ => (by decide +kernel : kitB "tuple" "list" = some false)⟩
theorem ta_tuple : TyAsk "tuple" := ⟨by decide +kernel, fun b => (by decide +kernel : kitB "bool" "tuple" = some false), fun _ => (by decide +kernel : kitB "int" "tuple" = some false), fun _ => (by decide +kernel : kitB "str" "tuple" = some false), fun _ => (by decide +kernel : kitB "list" "tuple" = some false), fun _ => (by decide +kernel : kitB "tuple" "tuple" = some true)⟩
theorem rs_type {A : Addr → Prop} {H : Hp} {v : V} {d : D} {K : PySem.W.Frag} (ta : TyAsk T) (h : RS K A H v d) (nd : noDict d) : ∃ t, TyX K H v t ∧ PySem.W.kitOne K t (.type T) = some (tyIs T d) := by
  cases h with
  | non => exact ⟨_, .base .non, kit_ty ta.non⟩
  | bl b => exact ⟨_, .base (.bl b), kit_ty (ta.bl b)⟩
  | int i => exact ⟨_, .base (.int i), kit_ty (ta.int i)⟩
  | str s => exact ⟨_, .base (.str s), kit_ty (ta.str s)⟩
  | lst ha _ r => exact ⟨_, .base (.lst ha), kit_ty (ta.lst _)⟩
  | tup ha r => exact ⟨_, .base (.tup ha), kit_ty (ta.tup _)⟩
  | dct _ _ _ _ => exact absurd nd (by simp [mkDict, noDict])
  | scr _ => exact absurd nd (by simp [scriptD, noDict])
  | opq _ => exact absurd nd (by simp [opD, noDict])
  | wtp _ => exact absurd nd (by simp [wtD, noDict])
  | ins _ _ _ _ _ => exact absurd nd (by simp [insD, noDict])
theorem ve_isi (ta : TyAsk T) (hm : X.mg "isinstance" = none) (hmy : X.mg y = none) (hv : bootBuiltins y = some (.type T)) (he : PE X e (rdE c W we)) (hK : c.K = X.K := by rfl) (hg : Gl X "isinstance" := by rfl) (hgy : Gl X y := by rfl) (hny : y ≠ "__name__" := by decide) (hdy : (y == ("__debug__" : Str)) = false := by decide)
    (hs : starEach [e, .Name y p2] X.env = (false, eval e X.env) :: starEach [.Name y p2] X.env := by rfl) (hpl : (backTo pos (starEach [.Name y p2] X.env)).any (·.1) = false := by rfl) :
    PE X (.Call (.Name "isinstance" p) [e, .Name y p2] [] pos) (rdE c W (wIsi T we)) :=
  PE.imp (pe_callB call_isi hg hm (by decide +kernel) (pa_cons he (pa_cons (pe_bltn (v := .ty T) hgy hmy hv rfl hny hdy) pa_nil) hs) (by decide) (by decide) hs hpl) fun σ H Q h => by
    obtain ⟨env, L, Tm, Qv, X, S, q, k, kx⟩ := h
    refine ⟨env, L, Tm, _, X, S, q, fun r v l L1 e1 H1 ⟨nd, h1⟩ st hr => ?_, kx⟩
    obtain ⟨t, tx, kt⟩ := rs_type (K := c.K) ta hr.read nd
    rw [← hK]
    exact ⟨v, .ty T, t, .type T, _, rfl, .ty T, tx, kt, k _ _ [] L1 e1 H1 h1 st.drop (Res.flat (A := fun _ => True) (.bl _) rfl)⟩
end
def Catches (K : PySem.W.Frag) (cl : Str → Option Addr) (C : Value) (catch_ : Exn → Bool) : Prop := ∀ ex D, cl ex.cls = some D → PySem.W.exmOne K (.ref D) C = some (catch_ ex)
theorem Sim.kill {c : Cn} {L : List (List Addr)} {Tm : List Addr} {env : VEnv} {σ : Sg} {H : Hp} {i : Nat} (S : Sim c L Tm env σ H) (pf : PinF c [i]) : ∃ L', Sim c L' Tm (env.set i none) (σ.set i none) H := by
  have sub : ((L.set i []).flatten ++ Tm).Sublist (L.flatten ++ Tm) := by
    refine List.Sublist.append ?_ (List.Sublist.refl _)
    have : ∀ (L : List (List Addr)) (i : Nat), (L.set i []).flatten.Sublist L.flatten := by
      intro L
      induction L with
      | nil => intro i; simp
      | cons x L ih => intro i; cases i with
        | zero => simp
        | succ i => simpa using (List.Sublist.refl x).append (ih i)
    exact this L i
  exact ⟨L.set i [], (S.sl.kill2 (x := none)).keep (Same.refl _) fun b hb => .inl (sub.subset hb), S.nd.sublist sub, fun a ha => S.own a (sub.subset ha), S.fr, fun p hp => (S.hd p hp).mono fun b o a _ => AT.less (fun b hb => sub.subset hb) a, pf.set S.pin⟩
section
variable {X : Cx} {c : Cn} {W : WX} {pos np pos' : Pos} {w : WS} {catch_ : Exn → Bool} {i : Nat} {x n : Str} {C : Value} {body suite : List Stmt} {b₀ : Stmt} {ws : Addr → Exn → WS}
def wIsE (i : Nat) (a : Addr) (b : Bool) : WE := fun env Q _ => (∃ m, env[i]? = some (some (opD a, m))) ∧ Q ⟨.bool b, mA⟩ env
theorem RS.opq_inv {K : PySem.W.Frag} {A : Addr → Prop} {H : Hp} {v : V} {a : Addr} (h : RS K A H v (opD a)) : v = .ref a := by
  generalize e : opD a = d at h
  cases h with
  | opq b =>
    simp only [opD, PyData.dict.injEq, List.cons.injEq, Prod.mk.injEq, PyData.int.injEq, and_true, true_and] at e
    have : a = b := Int.natCast_inj.mp e
    subst this; rfl
  | dct hd _ ek _ => exact (script_inv hd ek e.symm).elim
  | scr _ => simp [opD, scriptD] at e
  | wtp _ => simp [opD, wtD] at e
  | ins _ _ _ _ _ => simp [opD, insD] at e
  | _ => cases e
end
end VL
set_option maxRecDepth 100000
set_option maxHeartbeats 4000000
namespace VL
open PySem PySem.Spec PyProof.Rows L2
theorem scriptD_inj {ns ms : List Int} (h : scriptD ns = scriptD ms) : ns = ms := by
  simp only [scriptD, PyData.dict.injEq, List.cons.injEq, Prod.mk.injEq, PyData.list.injEq, and_true, true_and] at h
  have : ∀ {ns ms : List Int}, ns.map PyData.int = ms.map PyData.int → ns = ms := by
    intro ns
    induction ns with
    | nil => intro ms h; cases ms with
      | nil => rfl
      | cons _ _ => simp at h
    | cons n ns ih => intro ms h; cases ms with
      | nil => simp at h
      | cons m ms =>
        simp at h
        rw [h.1, ih (by simpa using h.2)]
  exact this h
theorem RS.scr_inv {K : PySem.W.Frag} {A : Addr → Prop} {H : Hp} {v : V} {ns : List Int} (h : RS K A H v (scriptD ns)) : ∃ a, v = .ref a ∧ SqF K H a (ns.map V.int) := by
  generalize e : scriptD ns = d at h
  cases h with
  | scr h => rw [scriptD_inj e]; exact ⟨_, rfl, h⟩
  | dct hd _ ek _ => exact (script_inv hd ek e.symm).elim
  | opq _ => simp [opD, scriptD] at e
  | wtp _ => simp [wtD, scriptD] at e
  | ins _ _ _ _ _ => simp [insD, scriptD] at e
  | _ => cases e
def wIxS : WO := fun ra rb Q => ∃ ns i k, ra.d = scriptD ns ∧ rb.d = .int i ∧ atI ns i = some k ∧ Q ⟨.int k, mA⟩
section
variable {X : Cx} {c : Cn} {W : WX} {pos p2 : Pos} {wa wb : WE} {a b : Expr}
theorem s_ixS : OpS c (rIx c.K) wIxS := by
  intro L Tm la lb env σ H ra rb x y Qv Q S h1 h2 ⟨ns, i, kk, e1, e2, e3, q⟩ k
  obtain ⟨d, m⟩ := ra
  obtain ⟨d2, m2⟩ := rb
  cases e1
  cases e2
  have r2 := h2.read
  cases r2
  obtain ⟨a, rfl, hq⟩ := h1.read.scr_inv
  obtain ⟨j, g1, g2⟩ := atI_tr (xs := ns.map V.int) (ys := ns) (by simp) e3
  exact .inl ⟨a, _, i, .int kk, rfl, rfl, hq.seq, g2 _ (by rw [List.getElem?_map, g1]; rfl), flat_end1 S q (.int _) rfl k⟩
theorem ve_ixS (ha : PE X a (rdE c W wa)) (hb : PE X b (rdE c W wb)) (hK : c.K = X.K := by rfl) (hs : PlainIx b := by exact fun _ _ => rfl) : PE X (.Subscript a b pos) (rdE c W (wBin wIxS wa wb)) :=
  PE.imp (pe_ix ix_seq ha hb hs) fun _ _ _ => by rw [← hK]; exact rd_bin s_ixS
end
def cutL {α : Type} (xs : List α) (lo hi : Option Int) : List α := (xs.drop (HT.sIx xs.length 0 lo)).take (HT.sIx xs.length xs.length hi - HT.sIx xs.length 0 lo)
abbrev WPt := VEnv → (Option Int → VEnv → Prop) → (Exn → VEnv → Prop) → Prop
def wNoP : WPt := fun env Q _ => Q none env
def wPt (w : WE) : WPt := fun env Q X => w env (fun r e => ∃ i, r.d = .int i ∧ Q (some i) e) X
def rdO (c : Cn) (W : WX) (w : WPt) : TO := fun σ H Q => ∃ env L Tm Qv X, Sim c L Tm env σ H ∧ w env Qv X ∧
  (∀ o L' env' H', Qv o env' → Step c H H' (L.flatten ++ Tm) Tm L' [] env' σ → Q o H') ∧ KontX c σ L Tm H X W
theorem PO.imp {X : Cx} {e : Option Expr} {t t' : TO} (h : PO X e t) (q : ∀ σ H Q, t' σ H Q → t σ H Q) : PO X e t' := ⟨fun pins s σ H Q I w => h.run pins s σ H Q I (q _ _ _ w)⟩
section
variable {X : Cx} {c : Cn} {W : WX} {pos p2 : Pos} {wa wb : WE} {a e : Expr} {lo hi : Option Expr} {wl wh : WPt}
theorem vo_none : PO X none (rdO c W wNoP) := PO.imp po_none fun σ H Q h => by
  obtain ⟨env, L, Tm, Qv, X, S, q, k, kx⟩ := h
  exact k none L env H q (Step.refl S)
theorem vo_some (h : PE X e (rdE c W wa)) : PO X (some e) (rdO c W (wPt wa)) := PO.imp (po_some h) fun σ H Q h => by
  obtain ⟨env, L, Tm, Qv, X, S, q, k, kx⟩ := h
  refine ⟨env, L, Tm, _, X, S, q, fun r v l L1 env1 H1 ⟨i, e, q⟩ st hr => ?_, kx⟩
  obtain ⟨d, m⟩ := r
  cases e
  have := hr.read
  cases this
  exact ⟨i, rfl, k (some i) L1 env1 H1 q st.drop⟩
def slR (ra : R) (lo hi : Option Int) (Q : R → Prop) : Prop := match ra.d with
  | .list ds => Q (cpR (cutL ds lo hi) (isB ra.m))
  | .str z => z.length ≤ sizeLine ∧ Q ⟨.str (cutS z lo hi), mA⟩
  | .dict [(.list [], .list ns)] => Q (cpR (cutL ns lo hi) false)
  | .tuple ds => flatAll ds = true ∧ Q ⟨.tuple (cutL ds lo hi), mA⟩
  | _ => False
def wSl (w : WE) (wl wh : WPt) : WE := fun env Q X => w env (fun r e => wl e (fun lo e1 => wh e1 (fun hi e2 => slR r lo hi fun r' => Q r' e2) X) X) X
def rSlAll (K : PySem.W.Frag) : V → Option Int → Option Int → Hp → VK → Prop := fun x lo hi H Q => rSlL K x lo hi H Q ∨ rSlS x lo hi H Q ∨ (∃ a xs, x = .ref a ∧ SqT K H a xs ∧
  (HT.sIx xs.length 0 lo = 0 ∧ HT.sIx xs.length xs.length hi = xs.length → Q (.ref a) H) ∧ (¬ (HT.sIx xs.length 0 lo = 0 ∧ HT.sIx xs.length xs.length hi = xs.length) → ∀ p, H p = none → Q (.ref p) (upd H p (.tup (cutV xs lo hi)))))
theorem RSs.cut {K : PySem.W.Frag} {A : Addr → Prop} {H : Hp} {xs : List V} {ds : List D} (h : RSs K A H xs ds) (lo hi : Option Int) : RSs K A H (cutV xs lo hi) (cutL ds lo hi) := by
  unfold cutV cutL
  rw [h.len]
  exact RSs.take _ (drop _ h)
where
  drop {K : PySem.W.Frag} {A : Addr → Prop} {H : Hp} : ∀ {xs : List V} {ds : List D} (n : Nat), RSs K A H xs ds → RSs K A H (xs.drop n) (ds.drop n)
    | _, _, 0, h => h
    | _, _, _ + 1, .nil => .nil
    | _, _, n + 1, .cons _ r => drop n r
theorem flatAll_cut {ds : List D} (lo hi : Option Int) (h : flatAll ds = true) : flatAll (cutL ds lo hi) = true := by
  unfold cutL
  have d1 : ∀ (n : Nat) (ds : List D), flatAll ds = true → flatAll (ds.drop n) = true := by
    intro n
    induction n with
    | zero => intro ds h; exact h
    | succ n ih => intro ds h; cases ds with
      | nil => exact h
      | cons d ds => simp only [flatAll, Bool.and_eq_true] at h; exact ih ds h.2
  have d2 : ∀ (n : Nat) (ds : List D), flatAll ds = true → flatAll (ds.take n) = true := by
    intro n
    induction n with
    | zero => intro ds h; simp [flatAll]
    | succ n ih => intro ds h; cases ds with
      | nil => exact h
      | cons d ds => simp only [flatAll, Bool.and_eq_true, List.take_succ_cons] at h ⊢; exact ⟨h.1, ih ds h.2⟩
  exact d2 _ _ (d1 _ _ h)
theorem rs_ints {K : PySem.W.Frag} {A : Addr → Prop} {H : Hp} : ∀ ns : List Int, RSs K A H (ns.map V.int) (ns.map PyData.int)
  | [] => .nil
  | n :: ns => .cons (.int n) (rs_ints ns)
theorem slr_end {L : List (List Addr)} {Tm l : List Addr} {env : VEnv} {σ : Sg} {H : Hp} {ra : R} {x : V} {lo hi : Option Int} {Qv : R → Prop} {Q : VK} (S : Sim c L (Tm ++ l) env σ H) (h1 : Res c (L.flatten ++ (Tm ++ l)) H ra x l) (q : slR ra lo hi Qv)
    (k : ∀ r v l' H', Qv r → Step c H H' (L.flatten ++ (Tm ++ l)) Tm L l' env σ → Res c (L.flatten ++ (Tm ++ l')) H' r v l' → Q v H') : rSlAll c.K x lo hi H Q := by
  obtain ⟨d1, m1⟩ := ra
  have r1 := h1.read
  unfold slR at q
  simp only at q r1
  split at q
  · rename_i ds
    obtain ⟨a, us, rfl, ha, _, r1'⟩ := r1.lst_inv
    refine .inl ⟨a, us, rfl, SqL.of ha, fun p np => ?_⟩
    refine cp_end S np (r1'.cut lo hi) (fun hm => ?_) q k
    obtain ⟨a', us', e1, ha', s1⟩ := Res.lstS (m := m1) h1 hm S fun b hb => hb
    cases e1
    rw [ha] at ha'; cases ha'
    exact s1.cut lo hi
  · cases r1
    exact .inr (.inl ⟨_, rfl, q.1, flat_end1 S q.2 (.str _) rfl k⟩)
  · rename_i ns
    generalize hd : PyData.dict [(.list [], .list ns)] = d at r1
    cases r1 with
    | dct h _ e _ => exact (script_inv h e hd.symm).elim
    | opq a => simp [opD] at hd
    | wtp _ => simp [wtD] at hd
    | ins _ _ _ _ _ => simp [insD] at hd
    | @scr a ms ha =>
      have e : ns = ms.map PyData.int := by
        simp only [scriptD, PyData.dict.injEq, List.cons.injEq, Prod.mk.injEq, PyData.list.injEq, and_true, true_and] at hd
        exact hd
      subst e
      refine .inl ⟨a, _, rfl, ha.seq, fun p np => ?_⟩
      exact cp_end S np ((rs_ints ms).cut lo hi) (fun _ => (rs_ints ms).cut lo hi) q k
    | _ => cases hd
  · rename_i ds
    obtain ⟨a, us, rfl, ha, r1'⟩ := r1.tup_inv
    have fc := flatAll_cut lo hi q.1
    refine .inr (.inr ⟨a, us, rfl, SqT.of ha, fun z => ?_, fun z p np => ?_⟩)
    · have e : cutL ds lo hi = ds := by
        unfold cutL
        rw [r1'.len] at z
        rw [z.1, z.2]; simp
      have q2 := q.2
      rw [e] at q2
      exact flat_end1 S q2 r1 (by simpa [flatD] using q.1) k
    · have sm := same_new (o := .tup (cutV us lo hi)) np
      refine k _ _ [] _ q.2 (new_end S np (List.nil_sublist _)).drop ?_
      exact Res.flat (A := fun _ => True) (.tup upd_same ((r1'.cut lo hi).keep (Kp.same sm))) (by simpa [flatD] using fc)
  · exact q.elim
theorem ve_slice (ha : PE X a (rdE c W wa)) (hl : PO X lo (rdO c W wl)) (hh : PO X hi (rdO c W wh)) (hK : c.K = X.K := by rfl) : PE X (.Subscript a (.Slice lo hi none p2) pos) (rdE c W (wSl wa wl wh)) :=
  PE.imp (pe_slice (sl_list.or (sl_str.or sl_tupA)) ha hl hh) fun σ H Q h => by
    obtain ⟨env, L, Tm, Qv, X, S, q, k, kx⟩ := h
    refine ⟨env, L, Tm, _, X, S, q, fun r v l L1 env1 H1 h1 st1 hr => ?_, kx⟩
    refine ⟨env1, L1, Tm ++ l, _, X, st1.sim, h1, fun o L2 env2 H2 h2 st2 => ?_, kx.step st1⟩
    have st2' := st1.trans st2
    rw [List.append_nil] at st2'
    refine ⟨env2, L2, Tm ++ l, _, X, st2'.sim, h2, fun o2 L3 env3 H3 h3 st3 => ?_, kx.step st2'⟩
    have st3' := st2'.trans st3
    rw [List.append_nil] at st3'
    have r1 := hr.keep st2.same st2.gr
    rw [List.append_nil] at r1
    have r2 := r1.keep st3.same st3.gr
    rw [List.append_nil] at r2
    have := slr_end (Q := Q) st3'.sim r2 h3 fun r v l' H' hq st4 hr4 => k r v l' L3 env3 H' hq (Step.then st3' st4) hr4
    rw [← hK]
    exact this
end
section
variable {X : Cx} {c : Cn} {W : WX} {pos p : Pos} {wa : WA} {e e' : Expr}
theorem ve_len1 (hm : X.mg "len" = none) (ha : PA X [e] (rdA c W wa)) (hK : c.K = X.K := by rfl) (hg : Gl X "len" := by rfl) (he : starEach [e] X.env = (false, eval e X.env) :: starEach [] X.env := by rfl) (hpl : (backTo pos (starEach [] X.env)).any (·.1) = false := by rfl) : PE X (.Call (.Name "len" p) [e] [] pos) (rdE c W (wCB wLen wa)) :=
  ve_callB len_R (by rw [← hK]; exact s_len) hm PySem.boot_len ha hg (by decide) (by decide) he hpl
def wAbs : WF := wI1 fun i => .int (if i < 0 then -i else i)
theorem ve_abs1 (hm : X.mg "abs" = none) (ha : PA X [e] (rdA c W wa)) (hg : Gl X "abs" := by rfl) (he : starEach [e] X.env = (false, eval e X.env) :: starEach [] X.env := by rfl) (hpl : (backTo pos (starEach [] X.env)).any (·.1) = false := by rfl) : PE X (.Call (.Name "abs" p) [e] [] pos) (rdE c W (wCB wAbs wa)) :=
  ve_callB call_abs (s_I1 (g := fun i => .int (if i < 0 then -i else i)) (fun _ _ _ _ => .int _) fun _ => rfl) hm (by decide +kernel) ha hg (by decide) (by decide) he hpl
def wMax2 : WF := wI2 fun i j => .int (if j > i then j else i)
theorem ve_max2 (hc : X.calm = true) (hm : X.mg "max" = none) (ha : PA X [e, e'] (rdA c W wa)) (hg : Gl X "max" := by rfl) (he : starEach [e, e'] X.env = (false, eval e X.env) :: starEach [e'] X.env := by rfl) (hpl : (backTo pos (starEach [e'] X.env)).any (·.1) = false := by rfl) : PE X (.Call (.Name "max" p) [e, e'] [] pos) (rdE c W (wCB wMax2 wa)) :=
  ve_callB (call_max2 hc) (s_I2 (g := fun i j => .int (if j > i then j else i)) (fun _ _ _ _ _ => .int _) fun _ _ => rfl) hm (by decide +kernel) ha hg (by decide) (by decide) he hpl
def wMin2 : WF := wI2 fun i j => .int (if j < i then j else i)
theorem ve_min2 (hc : X.calm = true) (hm : X.mg "min" = none) (ha : PA X [e, e'] (rdA c W wa)) (hg : Gl X "min" := by rfl) (he : starEach [e, e'] X.env = (false, eval e X.env) :: starEach [e'] X.env := by rfl) (hpl : (backTo pos (starEach [e'] X.env)).any (·.1) = false := by rfl) : PE X (.Call (.Name "min" p) [e, e'] [] pos) (rdE c W (wCB wMin2 wa)) :=
  ve_callB (call_min2 hc) (s_I2 (g := fun i j => .int (if j < i then j else i)) (fun _ _ _ _ _ => .int _) fun _ _ => rfl) hm (by decide +kernel) ha hg (by decide) (by decide) he hpl
end
end VL
set_option maxRecDepth 100000
set_option maxHeartbeats 4000000
namespace VL
open PySem PySem.Spec PyProof.Rows L2
def FnAt (K : PySem.W.Frag) (x : Str) (st : Stmt) : Prop := ∃ (f : Addr) (oc : Value) (od an : Option Addr) (osl : Array (Option Value)) (kV doc pm cdv ct : Value),
  PySem.W.nsIn K mainGlobals x = some (some (.ref f)) ∧ K.lookup f = some ⟨oc, od, .func (PySem.W.fnOf x x (defArgs st) (defBody st) (defScope st) .none kV doc pm an cdv ct), osl⟩ ∧ PySem.W.codeIn K cdv x = true ∧ PySem.W.keepIn K (.ref f) = true
def ErrAt (K : PySem.W.Frag) (x : Str) : Prop := ∃ C : Addr, PySem.W.nsIn K mainGlobals x = some (some (.ref C)) ∧
  PySem.W.excIn K C [.type "ValueError", .type "Exception", .type "BaseException", .type "object"] "ValueError.__new__" = true ∧ PySem.W.keepIn K (.ref C) = true ∧ PySem.W.subIn K (.ref C) (.type "BaseException") = some true ∧ PySem.W.typeIn K (.ref C) = some (.type "type")
def ExmAt (K : PySem.W.Frag) (x y : Str) (b : Bool) : Prop := ∃ C D : Addr, PySem.W.nsIn K mainGlobals x = some (some (.ref C)) ∧ PySem.W.nsIn K mainGlobals y = some (some (.ref D)) ∧ PySem.W.exmOne K (.ref C) (.ref D) = some b
def KitAt (K : PySem.W.Frag) (x y : Str) (b : Bool) : Prop := ∃ C D : Addr, PySem.W.nsIn K mainGlobals x = some (some (.ref C)) ∧ PySem.W.nsIn K mainGlobals y = some (some (.ref D)) ∧ PySem.W.kitOne K (.ref C) (.ref D) = some b
def NoAt (K : PySem.W.Frag) (x : Str) : Prop := PySem.W.nsIn K mainGlobals x = some none
def IntAt (K : PySem.W.Frag) (x : Str) (i : Int) : Prop := ∃ t, PySem.W.nsIn K mainGlobals x = some (some (.int i t))
def clOf (names : List Str) (mg : Str → Option Value) : Str → Option Addr := fun x => if names.contains x = true then (match mg x with | some (.ref a) => some a | _ => none) else none
def catch_ (l : List Str) : Exn → Bool := fun ex => l.contains ex.cls
section
variable {P : Program} {w : World} {K : PySem.W.Frag} {mg : Str → Option Value} {base h : Heap} {cl : Str → Option Addr} {names : List Str}
theorem NoAt.out {x : Str} (X : K.In h) (G : h.Ns mainGlobals mg) (a : NoAt K x) : mg x = none := PySem.W.mg_none_of X G a
theorem IntAt.out {x : Str} {i : Int} (X : K.In h) (G : h.Ns mainGlobals mg) (a : IntAt K x i) : ∃ t, mg x = some (.int i t) := let ⟨t, e⟩ := a; ⟨t, PySem.W.mg_of X G e⟩
theorem clOf_at {x : Str} {C : Addr} (hx : names.contains x = true) (e : mg x = some (.ref C)) : clOf names mg x = some C := by
  unfold clOf
  rw [if_pos hx, e]
theorem clOf_inv {x : Str} {C : Addr} (e : clOf names mg x = some C) : names.contains x = true ∧ mg x = some (.ref C) := by
  unfold clOf at e
  split at e
  · rename_i hx
    refine ⟨hx, ?_⟩
    split at e
    · rename_i h; cases e; exact h
    · cases e
  · cases e
theorem catches_of {y : Str} {D : Addr} {l : List Str} (X : K.In h) (G : h.Ns mainGlobals mg) (hy : mg y = some (.ref D)) (hl : ∀ x, names.contains x = true → ExmAt K x y (l.contains x)) : Catches K (clOf names mg) (.ref D) (catch_ l) := by
  intro ex E e
  obtain ⟨h1, h2⟩ := clOf_inv e
  obtain ⟨C, D', e1, e2, e3⟩ := hl _ h1
  have g1 := PySem.W.mg_of X G e1
  have g2 := PySem.W.mg_of X G e2
  rw [h2] at g1; rw [hy] at g2
  cases g1; cases g2
  exact e3
theorem kit_of {x y : Str} {b : Bool} {C D : Addr} (X : K.In h) (G : h.Ns mainGlobals mg) (a : KitAt K x y b) (hx : mg x = some (.ref C)) (hy : mg y = some (.ref D)) : PySem.W.kitOne K (.ref C) (.ref D) = some b := by
  obtain ⟨C', D', e1, e2, e3⟩ := a
  have g1 := PySem.W.mg_of X G e1
  have g2 := PySem.W.mg_of X G e2
  rw [hx] at g1; rw [hy] at g2
  cases g1; cases g2
  exact e3
theorem def_okF {x : Str} {st : Stmt} {f : Addr} {fd : FuncData} {N ps : List Str} {k : Nat} {wf : WS} {S : FSpec} (F : Fun K x x st f fd) (sc : FnScope N ps (defScope st))
    (body : ∀ (cdv : Value) (A : Around) (outer : List Env) (s : Shared) (H : Hp) (E : XK) (P0 : Addr → Prop), Room k (cxV P w K mg base N x st f cdv A outer s H E).A → PSs (cxV P w K mg base N x st f cdv A outer s H E) (defBody st) (rdS (cnOf K cl P0 H) (WXE E) wf))
    (spec : ∀ ds Qv Xv, S ds Qv Xv → ds.length = ps.length ∧ wf (startE N ds) ⟨fun _ => Qv ⟨.none, mA⟩, fun r _ => Qv r, fun ex _ => Xv ex⟩) : FnOk P w K mg base (L2.CX P w) (k + 1) f fd ps (spOf K cl S) := by
  refine F.okX sc (fun vs H Q E h => ?_) (fun cdv A outer s H vs Q E hr h => ?_)
  · obtain ⟨ds, P0, Qv, X, r, hs, _⟩ := h
    rw [r.len, (spec _ _ _ hs).1]
  · obtain ⟨ds, P0, Qv, X, r, hs, hq, hx⟩ := h
    refine ⟨_, body cdv A outer s H E P0 hr, ?_⟩
    obtain ⟨L, S0⟩ := start_sim (cl := cl) (N := N) r
    refine ⟨_, L, _, S0, (spec _ _ _ hs).2, fun env' L' σ' H' h1 S' => ?_, fun r v l H' e9 h1 rr => ?_, fun ex env' L' σ' H' cls d h1 S' he => ?_⟩
    · exact hq ⟨.none, mA⟩ .non [] H' h1 (fun b o e => S'.fr b o e (by simp)) List.nodup_nil (fun b hb => by cases hb) (Res.flat (A := fun _ => True) .non rfl)
    · refine hq r v l H' h1 (fun b o e => rr.fr b o e (by simp)) rr.nd (fun b hb => ?_) rr.res
      obtain ⟨o1, o2⟩ := rr.own b hb
      exact ⟨o1.elim id fun z => (by cases z), o2⟩
    · exact hx ex cls d H' h1 (fun b o e => S'.fr b o e (by simp)) he
theorem def_at {x : Str} {st : Stmt} {N ps : List Str} {k : Nat} {wf : WS} {S : FSpec} (X : K.In h) (G : h.Ns mainGlobals mg) (a : FnAt K x st) (sc : FnScope N ps (defScope st))
    (hb : ∀ (kV doc pm : Value) (an : Option Addr) (cdv ct : Value) (us : List Value), us.length = ps.length → bindArgs (PySem.W.fnOf x x (defArgs st) (defBody st) (defScope st) .none kV doc pm an cdv ct) ⟨us, []⟩ = pure (ps.zip us))
    (body : ∀ (f : Addr) (cdv : Value) (A : Around) (outer : List Env) (s : Shared) (H : Hp) (E : XK) (P0 : Addr → Prop), Room k (cxV P w K mg base N x st f cdv A outer s H E).A → PSs (cxV P w K mg base N x st f cdv A outer s H E) (defBody st) (rdS (cnOf K cl P0 H) (WXE E) wf))
    (spec : ∀ ds Qv Xv, S ds Qv Xv → ds.length = ps.length ∧ wf (startE N ds) ⟨fun _ => Qv ⟨.none, mA⟩, fun r _ => Qv r, fun ex _ => Xv ex⟩) : Def P w K mg base cl x ps.length S (k + 1) := by
  obtain ⟨f, oc, od, an, osl, kV, doc, pm, cdv, ct, e1, e2, e3, e4⟩ := a
  have F := fun_mk (st := st) e2 e3 e4
  exact ⟨f, _, ps, rfl, def_okF F sc (body f) spec, PySem.W.mg_of X G e1, e4, F.binds (ps := ps) hb⟩
end
def LawS : FSpec := fun ds Qv _ => ∃ ns : List Int, ds = [scriptD ns] ∧ ns.length ≤ 63 ∧ (∀ z ∈ ns, Builtin.Int.intBits z ≤ 1048576) ∧ Qv ⟨.bool true, mA⟩
theorem law_sp {K : PySem.W.Frag} {cl : Str → Option Addr} {H : Hp} {a : Addr} {ns : List Int} (hl : ns.length ≤ 63) (hb : ∀ z ∈ ns, Builtin.Int.intBits z ≤ 1048576) (hO : Only H) (hS : SqL K H a (ns.map V.int)) : spOf K cl LawS [.ref a] H (fun v _ => v = .bl true) fun _ _ _ => False := by
  have hF : SqF K H a (ns.map V.int) := by
    rcases hS with (h | ⟨o, h⟩) | h
    · rcases hO a with z | ⟨o, xs, z⟩
      · rw [z] at h; cases h
      · rw [z] at h; cases h
    · exact .inl ⟨o, h⟩
    · exact .inr h
  refine ⟨[scriptD ns], fun _ => True, fun r => r = ⟨.bool true, mA⟩, fun _ => False, .cons (.scr hF) .nil, ⟨ns, rfl, hl, hb, rfl⟩, fun r v l H' e _ _ _ hr => ?_, fun _ _ _ _ e => e.elim⟩
  subst e
  have := hr.read
  cases this
  rfl
theorem ve_gintE {X : Cx} {c : Cn} {W : WX} {pos : Pos} {x : Str} {i : Int} (hm : ∃ t, X.mg x = some (.int i t)) (hg : Gl X x := by rfl) (hd : (x == ("__debug__" : Str)) = false := by decide) : PE X (.Name x pos) (rdE c W (wC (.int i))) := let ⟨_, h⟩ := hm; ve_gint h hg hd
end VL
set_option maxRecDepth 100000
set_option maxHeartbeats 4000000
namespace VL
open PySem PySem.Spec PyProof.Rows L2
def ExcAt (K : PySem.W.Frag) (x : Str) : Prop := ∃ D : Addr, PySem.W.nsIn K mainGlobals x = some (some (.ref D)) ∧
  PySem.W.findIn K (.ref D) "__getattribute__" = some (some (.builtin "BaseException.__getattribute__")) ∧ PySem.W.findIn K (.ref D) "__getattr__" = some none ∧ PySem.W.subIn K (.ref D) (.type "BaseException") = some true ∧ PySem.W.hasDictIn K D = true ∧
  PySem.W.findIn K (.ref D) "__class__" = some (some (.builtin "object.__class__")) ∧ PySem.W.specialIn K (.builtin "object.__class__") "__get__" = some (some (.builtin "getset_descriptor.__get__")) ∧ PySem.W.takesIn K (.builtin "object.__class__") = some true ∧ PySem.W.mroIn K D (.type "object") = some true
def ExcAll (K : PySem.W.Frag) (cl : Str → Option Addr) : Prop := ∀ x D, cl x = some D → ExcC K D
def Clause (K : PySem.W.Frag) (mg : Str → Option Value) (cl : Str → Option Addr) (y : Str) (l : List Str) : Prop := ∃ C : Addr, mg y = some (.ref C) ∧ Catches K cl (.ref C) (catch_ l)
def Asked (K : PySem.W.Frag) (mg : Str → Option Value) (cl : Str → Option Addr) (y : Str) (l : List Str) : Prop := ∃ C : Addr, mg y = some (.ref C) ∧ ∀ x D, cl x = some D → PySem.W.kitOne K (.ref D) (.ref C) = some (l.contains x)
section
variable {P : Program} {w : World} {K : PySem.W.Frag} {mg : Str → Option Value} {base h : Heap} {names : List Str}
theorem excAll_of (X : K.In h) (G : h.Ns mainGlobals mg) (a : ∀ x, names.contains x = true → ExcAt K x) : ExcAll K (clOf names mg) := by
  intro x D e
  obtain ⟨h1, h2⟩ := clOf_inv e
  obtain ⟨D', e1, x1, x2, x3, x4, x5, x6, x7, x8⟩ := a x h1
  have g := PySem.W.mg_of X G e1
  rw [h2] at g
  cases g
  exact ⟨x1, x2, x3, x4, x5, x6, x7, x8⟩
theorem clause_of {y : Str} {l : List Str} (X : K.In h) (G : h.Ns mainGlobals mg) (hy : ∃ C : Addr, PySem.W.nsIn K mainGlobals y = some (some (.ref C))) (hl : ∀ x, names.contains x = true → ExmAt K x y (l.contains x)) : Clause K mg (clOf names mg) y l := by
  obtain ⟨C, e⟩ := hy
  have g := PySem.W.mg_of X G e
  exact ⟨C, g, catches_of X G g hl⟩
theorem asked_of {y : Str} {l : List Str} (X : K.In h) (G : h.Ns mainGlobals mg) (hy : ∃ C : Addr, PySem.W.nsIn K mainGlobals y = some (some (.ref C))) (hl : ∀ x, names.contains x = true → KitAt K x y (l.contains x)) : Asked K mg (clOf names mg) y l := by
  obtain ⟨C, e⟩ := hy
  have g := PySem.W.mg_of X G e
  refine ⟨C, g, fun x D ex => ?_⟩
  obtain ⟨h1, h2⟩ := clOf_inv ex
  exact kit_of X G (hl x h1) h2 g
theorem each_name {p : Str → Prop} {names : List Str} (h : ∀ x ∈ names, p x) : ∀ x, names.contains x = true → p x := fun x hx => h x (by simpa using hx)
end
section
variable {X : Cx} {c : Cn} {W : WX} {pos np pos' : Pos} {w : WS} {l : List Str} {i : Nat} {x n : Str} {body suite : List Stmt} {b₀ : Stmt} {ws : Addr → Exn → WS}
end
end VL
namespace VL
open PySem PySem.Spec PyProof.Rows L2
theorem lawS_cl {K : PySem.W.Frag} {cl : Str → Option Addr} (vs : List V) (H : Hp) (Q : VK) (E : XK) (h : spOf K (fun _ => none) LawS vs H Q E) : spOf K cl LawS vs H Q E := by
  obtain ⟨ds, P0, Qv, X, r, ⟨ns, e, h1, h2, h3⟩, hq, hx⟩ := h
  exact ⟨ds, P0, Qv, fun _ => False, r, ⟨ns, e, h1, h2, h3⟩, hq, fun _ _ _ _ z => z.elim⟩
section
variable {K : PySem.W.Frag} {x y : Str}
theorem FnAt.mk {st : Stmt} {f : Addr} {oc : Value} {od an : Option Addr} {osl : Array (Option Value)} {kV doc pm cdv ct : Value}
  (h1 : PySem.W.nsIn K mainGlobals x = some (some (.ref f))) (h2 : K.lookup f = some ⟨oc, od, .func (PySem.W.fnOf x x (defArgs st) (defBody st) (defScope st) .none kV doc pm an cdv ct), osl⟩) (h3 : PySem.W.codeIn K cdv x = true) (h4 : PySem.W.keepIn K (.ref f) = true) : FnAt K x st := ⟨f, oc, od, an, osl, kV, doc, pm, cdv, ct, h1, h2, h3, h4⟩
theorem ErrAt.mk {C : Addr} (h1 : PySem.W.nsIn K mainGlobals x = some (some (.ref C)))
  (h2 : PySem.W.excIn K C [.type "ValueError", .type "Exception", .type "BaseException", .type "object"] "ValueError.__new__" = true) (h3 : PySem.W.keepIn K (.ref C) = true) (h4 : PySem.W.subIn K (.ref C) (.type "BaseException") = some true) (h5 : PySem.W.typeIn K (.ref C) = some (.type "type")) : ErrAt K x := ⟨C, h1, h2, h3, h4, h5⟩
theorem ExmAt.mk {b : Bool} {C D : Addr} (h1 : PySem.W.nsIn K mainGlobals x = some (some (.ref C))) (h2 : PySem.W.nsIn K mainGlobals y = some (some (.ref D))) (h3 : PySem.W.exmOne K (.ref C) (.ref D) = some b) : ExmAt K x y b := ⟨C, D, h1, h2, h3⟩
theorem KitAt.mk {b : Bool} {C D : Addr} (h1 : PySem.W.nsIn K mainGlobals x = some (some (.ref C))) (h2 : PySem.W.nsIn K mainGlobals y = some (some (.ref D))) (h3 : PySem.W.kitOne K (.ref C) (.ref D) = some b) : KitAt K x y b := ⟨C, D, h1, h2, h3⟩
theorem NoAt.mk (h : PySem.W.nsIn K mainGlobals x = some none) : NoAt K x := h
theorem IntAt.mk {i : Int} {t : Tok} (h : PySem.W.nsIn K mainGlobals x = some (some (.int i t))) : IntAt K x i := ⟨t, h⟩
def RefAt (K : PySem.W.Frag) (x : Str) : Prop := ∃ C : Addr, PySem.W.nsIn K mainGlobals x = some (some (.ref C))
theorem RefAt.mk {C : Addr} (h : PySem.W.nsIn K mainGlobals x = some (some (.ref C))) : RefAt K x := ⟨C, h⟩
theorem ExcAt.mk {D : Addr} (h0 : PySem.W.nsIn K mainGlobals x = some (some (.ref D)))
  (h1 : PySem.W.findIn K (.ref D) "__getattribute__" = some (some (.builtin "BaseException.__getattribute__"))) (h2 : PySem.W.findIn K (.ref D) "__getattr__" = some none) (h3 : PySem.W.subIn K (.ref D) (.type "BaseException") = some true) (h4 : PySem.W.hasDictIn K D = true)
  (h5 : PySem.W.findIn K (.ref D) "__class__" = some (some (.builtin "object.__class__"))) (h6 : PySem.W.specialIn K (.builtin "object.__class__") "__get__" = some (some (.builtin "getset_descriptor.__get__"))) (h7 : PySem.W.takesIn K (.builtin "object.__class__") = some true) (h8 : PySem.W.mroIn K D (.type "object") = some true) : ExcAt K x := ⟨D, h0, h1, h2, h3, h4, h5, h6, h7, h8⟩
end
end VL
set_option maxRecDepth 100000
set_option maxHeartbeats 4000000
namespace VL
open PySem PySem.Spec PyProof.Rows L2
theorem flatAll_ints : ∀ ns : List Int, flatAll (ns.map PyData.int) = true
  | [] => rfl
  | n :: ns => by simp [flatAll, flatD, flatAll_ints ns]
theorem outR_all {rs : List R} {d : D} : outR rs ⟨d, mA⟩ = ⟨d, mA⟩ := by
  unfold outR
  split <;> rfl
theorem wLen_scr {ns : List Int} {m : Md} {Q : R → Prop} : wLen [⟨scriptD ns, m⟩] Q = Q ⟨.int ns.length, mA⟩ := by
  apply propext
  refine ⟨fun ⟨r, e, h⟩ => ?_, fun h => ⟨_, rfl, ?_⟩⟩
  · cases e
    simpa [scriptD] using h
  · simpa [scriptD] using h
theorem envLe.rfl (e : VEnv) : envLe e e := by
  induction e with
  | nil => exact True.intro
  | cons s e ih => exact ⟨slLe.refl s, ih⟩
theorem slr_scr {ns : List Int} {m : Md} {lo hi : Option Int} {Q : R → Prop} : slR ⟨scriptD ns, m⟩ lo hi Q = Q (cpR (cutL (ns.map PyData.int) lo hi) false) := rfl
theorem cutL_map {α β : Type} (f : α → β) (xs : List α) (lo hi : Option Int) : cutL (xs.map f) lo hi = (cutL xs lo hi).map f := by
  unfold cutL
  simp [List.map_take, List.map_drop]
theorem cpR_ints {ns : List Int} {b : Bool} : cpR (ns.map PyData.int) b = ⟨.list (ns.map PyData.int), mA⟩ := by
  unfold cpR
  rw [flatAll_ints, if_pos rfl]
end VL
set_option maxRecDepth 100000
set_option maxHeartbeats 4000000
namespace VL
open PySem PySem.Spec PyProof.Rows L2
theorem itemR_flat {m : Md} {d : D} (f : flatD d = true) : itemR m d = ⟨d, mA⟩ := by unfold itemR; rw [if_pos f]
theorem atI_nat' {α : Type} {xs : List α} {i : Nat} {x : α} (h : xs[i]? = some x) : atI xs (i : Int) = some x := by
  obtain ⟨hl, e⟩ := List.getElem?_eq_some_iff.mp h
  unfold atI ixN
  simp [hl]; exact e
theorem atI_pos {α : Type} {xs : List α} {i : Int} {x : α} (h0 : 0 ≤ i) (h : xs[i.toNat]? = some x) : atI xs i = some x := by
  have := atI_nat' h
  rwa [Int.toNat_of_nonneg h0] at this
theorem kidOk_A {n : Option Nat} {d : D} : kidOk n ⟨d, mA⟩ := .inr ⟨none, rfl, by cases n <;> rfl⟩
theorem cpR_flat {ds : List D} {b : Bool} (f : flatAll ds = true) : cpR ds b = ⟨.list ds, mA⟩ := by unfold cpR; rw [if_pos f]
theorem log2_lt {i : Int} {n : Nat} (h : i.natAbs < 2 ^ (n + 1)) : i.natAbs.log2 ≤ n := by
  by_cases z : i.natAbs = 0
  · rw [z]; simp
  · have := (Nat.log2_lt z).mpr h
    omega
theorem divW {i j : Int} (h0 : 0 < j) (n : Nat) (h : j.natAbs < 2 ^ (n + 1)) (hn : n < 9000) : CDiv i j ∨ CDivW i j := .inr ⟨h0, by have := log2_lt h; omega⟩
theorem wApp_inner {e' : VEnv} {i : Nat} {r : R} {Dv : DV} (ds : List D) (m n : Option Nat) (e : e'[i]? = some (some (.list ds, .o m))) (hm : popM m = some n) (hk : kidOk n r) (hl : ds.length < 1000000) (h : Dv.nx (killB (e'.set i (some (.list (ds ++ [r.d]), .o m))))) :
    ∃ d m ds n d', OwnL e' i [] ds d m n ∧ kidOk n r ∧ ds.length < 1000000 ∧ setP d [] (.list (ds ++ [r.d])) = some d' ∧ Dv.nx (killB (e'.set i (some (d', .o m)))) :=
  ⟨_, m, ds, n, _, ⟨e, rfl, ⟨m, rfl, hm⟩⟩, hk, hl, rfl, h⟩
end VL
set_option maxRecDepth 100000
set_option maxHeartbeats 4000000
namespace VL
open PySem PySem.Spec PyProof.Rows L2
section
variable {env e : VEnv} {Dv : DV} {w u : WS} {we wa wb : WE} {wl : WA} {wo : WO} {wf : WF} {t t2 : WT} {i : Nat} {Q : R → VEnv → Prop} {X : Exn → VEnv → Prop} {QA : List R → VEnv → Prop} {QB : Bool → VEnv → Prop} {q : R → Prop} {x y : Int} {m m' : Md} {ds ds' : List D} {s s' : Str} {b b' : Bool} {d d' : D} {n : Option Nat}
theorem i_sub (h : q ⟨.int (x - y), mA⟩) : woSub ⟨.int x, m⟩ ⟨.int y, m'⟩ q := ⟨x, y, rfl, rfl, h⟩
theorem i_lt (h : q ⟨.bool (decide (x < y)), mA⟩) : woLt ⟨.int x, m⟩ ⟨.int y, m'⟩ q := ⟨x, y, rfl, rfl, h⟩
theorem i_le (h : q ⟨.bool (decide (x ≤ y)), mA⟩) : woLe ⟨.int x, m⟩ ⟨.int y, m'⟩ q := ⟨x, y, rfl, rfl, h⟩
theorem i_gt (h : q ⟨.bool (decide (y < x)), mA⟩) : woGt ⟨.int x, m⟩ ⟨.int y, m'⟩ q := ⟨x, y, rfl, rfl, h⟩
theorem i_add (h : q ⟨.int (x + y), mA⟩) : woAdd ⟨.int x, m⟩ ⟨.int y, m'⟩ q := h
theorem i_addL (hl : ds.length + ds'.length ≤ sizeLine) (h : q (cpR (ds ++ ds') (isB m || isB m'))) : woAdd ⟨.list ds, m⟩ ⟨.list ds', m'⟩ q := ⟨hl, h⟩
theorem i_mul (hc : CMul x y ∨ CMulW x y) (h : q ⟨.int (x * y), mA⟩) : woMul ⟨.int x, m⟩ ⟨.int y, m'⟩ q := ⟨hc, h⟩
theorem i_mod (hc : 0 < y) (h : q ⟨.int (x % y), mA⟩) : woMod ⟨.int x, m⟩ ⟨.int y, m'⟩ q := ⟨x, y, rfl, rfl, hc, h⟩
theorem i_fd (hc : CDiv x y ∨ CDivW x y) (h : q ⟨.int (x / y), mA⟩) : woFd ⟨.int x, m⟩ ⟨.int y, m'⟩ q := ⟨x, y, rfl, rfl, hc, h⟩
theorem i_pow (hc : CPow x y) (h : q ⟨.int (x ^ y.toNat), mA⟩) : woPow ⟨.int x, m⟩ ⟨.int y, m'⟩ q := ⟨x, y, rfl, rfl, hc, h⟩
theorem i_eqI (h : q ⟨.bool (decide (x = y)), mA⟩) : woEq ⟨.int x, m⟩ ⟨.int y, m'⟩ q := h
theorem i_eqD (h0 : scalD d d' = none) (h1 : SeqAt.shaped d = true) (h2 : SeqAt.shaped d' = true) (h : q ⟨.bool (PyData.eqv d d'), mA⟩) : woEq ⟨d, m⟩ ⟨d', m'⟩ q := by
  unfold woEq; simp only [h0]; exact ⟨h1, h2, h⟩
theorem i_neI (h : q ⟨.bool (!decide (x = y)), mA⟩) : woNe ⟨.int x, m⟩ ⟨.int y, m'⟩ q := h
theorem i_neD (h0 : scalD d d' = none) (h1 : SeqAt.shaped d = true) (h2 : SeqAt.shaped d' = true) (h : q ⟨.bool (!PyData.eqv d d'), mA⟩) : woNe ⟨d, m⟩ ⟨d', m'⟩ q := by
  unfold woNe; simp only [h0]; exact ⟨h1, h2, h⟩
theorem i_isN (h : q ⟨.bool (isNon d), mA⟩) : woIsN ⟨d, m⟩ ⟨.none, m'⟩ q := ⟨rfl, h⟩
theorem i_notN (h : q ⟨.bool (!isNon d), mA⟩) : woNotN ⟨d, m⟩ ⟨.none, m'⟩ q := ⟨rfl, h⟩
theorem i_lenL (h : q ⟨.int ds.length, mA⟩) : wLen [⟨.list ds, m⟩] q := ⟨_, rfl, h⟩
theorem i_lenT (h : q ⟨.int ds.length, mA⟩) : wLen [⟨.tuple ds, m⟩] q := ⟨_, rfl, h⟩
theorem i_lenS {ns : List Int} (h : q ⟨.int ns.length, mA⟩) : wLen [⟨scriptD ns, m⟩] q := by rw [wLen_scr]; exact h
theorem i_abs (h : q ⟨.int (if x < 0 then -x else x), mA⟩) : wAbs [⟨.int x, m⟩] q := ⟨_, _, rfl, rfl, h⟩
theorem i_max2 (h : q ⟨.int (if y > x then y else x), mA⟩) : wMax2 [⟨.int x, m⟩, ⟨.int y, m'⟩] q := ⟨_, _, _, _, rfl, rfl, rfl, h⟩
theorem i_min2 (h : q ⟨.int (if y < x then y else x), mA⟩) : wMin2 [⟨.int x, m⟩, ⟨.int y, m'⟩] q := ⟨_, _, _, _, rfl, rfl, rfl, h⟩
theorem i_lst {rs : List R} {n : Option Nat} (hj : joinM rs = some n) (hl : rs.length ≤ 1000) (h : q ⟨.list (rs.map (·.d)), .o (succM n)⟩) : wLst rs q := by
  unfold wLst; rw [hj]; exact ⟨hl, h⟩
theorem i_tup {rs : List R} {n : Option Nat} (hj : joinM rs = some n) (hl : rs.length ≤ 1000) (h : q ⟨.tuple (rs.map (·.d)), .o n⟩) : wTup rs q := by
  unfold wTup; rw [hj]; exact ⟨hl, h⟩
end
end VL
namespace VL
open PySem PySem.Spec PyProof.Rows L2
end VL
set_option maxRecDepth 100000
set_option maxHeartbeats 4000000
namespace VL
open PySem PySem.Spec PyProof.Rows L2
def wList : WF := fun rs Q => ∃ r, rs = [r] ∧ match r.d with
  | .list ds => Q (cpR ds (isB r.m))
  | .tuple ds => Q (cpR ds (isB r.m))
  | _ => False
section
variable {X : Cx} {c : Cn} {W : WX} {pos p p2 pos2 : Pos} {wa : WA} {we wb wc : WE} {e e' a b cc : Expr}
theorem Res.tupS {L : List (List Addr)} {Tm l la : List Addr} {env : VEnv} {σ : Sg} {H : Hp} {ds : List D} {m : Md} {v : V} (h : Res c (L.flatten ++ (Tm ++ la)) H ⟨.tuple ds, m⟩ v l) (hm : isB m = false) (S : Sim c L (Tm ++ la) env σ H) (hl : ∀ b ∈ l, b ∈ la) :
    ∃ a xs, v = .ref a ∧ H a = some (.tup xs) ∧ RSs c.K (AT c.B (L.flatten ++ Tm)) H xs ds := by
  cases m with
  | b => cases hm
  | o m => exact (Res.shared (m := m) h rfl S hl).tup_inv
theorem s_list : CallS c (fun xs H Q => ∃ p ys, xs = [.ref p] ∧ (SqL c.K H p ys ∨ SqT c.K H p ys) ∧ ∀ l, H l = none → Q (.ref l) (upd H l (.lst ys))) wList := by
  intro L Tm l env σ H rs vs Qv Q S h ⟨r, e, q⟩ k
  subst e
  obtain ⟨v, rfl, hr⟩ := ress1 h
  obtain ⟨d, m⟩ := r
  have r1 := hr.read
  simp only at q r1
  split at q
  · obtain ⟨a, us, rfl, ha, _, r1'⟩ := r1.lst_inv
    refine ⟨a, us, rfl, .inl (SqL.of ha), fun p np => cp_end S np r1' (fun hm => ?_) q k⟩
    obtain ⟨a', us', e1, ha', s1⟩ := Res.lstS (m := m) hr hm S fun b hb => hb
    cases e1
    rw [ha] at ha'; cases ha'
    exact s1
  · obtain ⟨a, us, rfl, ha, r1'⟩ := r1.tup_inv
    refine ⟨a, us, rfl, .inr (SqT.of ha), fun p np => cp_end S np r1' (fun hm => ?_) q k⟩
    obtain ⟨a', us', e1, ha', s1⟩ := Res.tupS (m := m) hr hm S fun b hb => hb
    cases e1
    rw [ha] at ha'; cases ha'
    exact s1
  · exact q.elim
theorem ve_list1 (hm : X.mg "list" = none) (ha : PA X [e] (rdA c W wa)) (hK : c.K = X.K := by rfl) (hg : Gl X "list" := by rfl) (he : starEach [e] X.env = (false, eval e X.env) :: starEach [] X.env := by rfl) (hpl : (backTo pos (starEach [] X.env)).any (·.1) = false := by rfl) : PE X (.Call (.Name "list" p) [e] [] pos) (rdE c W (wCB wList wa)) :=
  ve_callTy call_list_of (by rw [← hK]; exact s_list) hm (by decide +kernel) ha hg (by decide) (by decide) he hpl
end
end VL
set_option maxRecDepth 100000
set_option maxHeartbeats 4000000
namespace VL
open PySem PySem.Spec PyProof.Rows L2
section
variable {K : PySem.W.Frag} {A : Addr → Prop} {H : Hp}
theorem ROs.erase : ∀ {m : Option Nat} {vs : List V} {ds : List D} {l : List Addr} (t : Nat), ROs K A H m vs ds l → ∃ l' : List Addr, l'.Sublist l ∧ ROs K A H m (vs.eraseIdx t) (ds.eraseIdx t) l'
  | _, _, _, _, _, .nil => ⟨[], List.Sublist.refl _, .nil⟩
  | _, _, _, _, 0, .cons _ r => ⟨_, List.sublist_append_right _ _, r⟩
  | _, _, _, _, t + 1, .cons h r => by
    obtain ⟨l', s, r'⟩ := ROs.erase t r
    exact ⟨_, (List.Sublist.refl _).append s, .cons h r'⟩
end
def wAppPop (i j : Nat) (wk : WE) : WS := fun env Dv => isL env i [] ∧ isL env j [] ∧ wk env (fun r e => ∃ kk t y xs ys m n m' n', r.d = .int kk ∧ i ≠ j ∧ e[i]? = some (some (.list xs, .o m)) ∧ popM m = some n ∧ e[j]? = some (some (.list ys, .o m')) ∧ popM m' = some n' ∧
  -(2 ^ 62) ≤ kk ∧ kk < 2 ^ 62 ∧ seqIndex? kk ys.length = some t ∧ ys[t]? = some y ∧ flatD y = true ∧ xs.length < 1000000 ∧ Dv.nx (killB ((killB (e.set j (some (.list (ys.eraseIdx t), .o m')))).set i (some (.list (xs ++ [y]), .o m))))) Dv.ex
theorem killB_get {e : VEnv} {i : Nat} {d : D} {m : Option Nat} (h : e[i]? = some (some (d, .o m))) : (killB e)[i]? = some (some (d, .o m)) := by
  unfold killB
  rw [List.getElem?_map, h]
  rfl
section
variable {X : Cx} {c : Cn} {W : WX} {pos px py apx apy cpx cpy : Pos} {wk : WE} {k : Expr} {x y : Str}
theorem vs_appPop (i j : Nat) (hk : PE X k (rdE c W wk)) (hN : X.N[i]? = some x := by rfl) (hN2 : X.N[j]? = some y := by rfl)
    (hx : PE X (.Name x px) (tVar i) := by exact pe_var (by rfl) (by first | exact Or.inl rfl | exact Or.inr (Or.inl rfl) | exact Or.inr (Or.inr rfl)) (by decide) (by decide))
    (hy : PE X (.Name y py) (tVar j) := by exact pe_var (by rfl) (by first | exact Or.inl rfl | exact Or.inr (Or.inl rfl) | exact Or.inr (Or.inr rfl)) (by decide) (by decide))
    (hp : PE X (.Name y py) (tVar j) → PE X k (rdE c W wk) → PE X (.Call (.Attribute (.Name y py) "pop" apy) [k] [] cpy) (tBM X.K "list" rPopAt (tVar j) (tCons (rdE c W wk) tNil)) := by exact fun hy hk => pe_bm PySem.F.plainAttrs_list PySem.F.slot_list_pop PySem.F.type_list_pop mt_popAt hy (pa_cons hk pa_nil))
    (hb : PE X (.Name x px) (tVar i) → PE X (.Call (.Attribute (.Name y py) "pop" apy) [k] [] cpy) (tBM X.K "list" rPopAt (tVar j) (tCons (rdE c W wk) tNil)) → PE X (.Call (.Attribute (.Name x px) "append" apx) [.Call (.Attribute (.Name y py) "pop" apy) [k] [] cpy] [] cpx) (tBM X.K "list" rAppend (tVar i) (tCons (tBM X.K "list" rPopAt (tVar j) (tCons (rdE c W wk) tNil)) tNil)) := by exact fun hx hq => pe_bm PySem.F.plainAttrs_list PySem.F.slot_list_append PySem.F.type_list_append mt_append hx (pa_cons hq pa_nil)) :
    PS X (.Expr (.Call (.Attribute (.Name x px) "append" apx) [.Call (.Attribute (.Name y py) "pop" apy) [k] [] cpy] [] cpx) pos) (rdS c W (wAppPop i j wk)) := PS.imp (ps_expr (hb hx (hp hy hk))) fun D σ H h => by
  obtain ⟨env, L, Dv, S, ⟨l1, l2, q⟩, kn, kr, kx⟩ := h
  obtain ⟨d1, m1, ds1, e1, g1⟩ := l1
  obtain ⟨d2, m2, ds2, e2, g2⟩ := l2
  obtain ⟨vx, lx, hvx, _, rx⟩ := S.sl.get e1
  obtain ⟨vy, ly, hvy, _, ry⟩ := S.sl.get e2
  have g1' : d1 = .list ds1 := Option.some.inj g1
  have g2' : d2 = .list ds2 := Option.some.inj g2
  subst g1'; subst g2'
  obtain ⟨ax, usx, rfl, hax, _, _⟩ := rx.read.lst_inv
  obtain ⟨ay, usy, rfl, hay, _, _⟩ := ry.read.lst_inv
  refine ⟨.ref ax, hvx, .inl ⟨rfl, _, .inl (.inl hax)⟩, .ref ay, hvy, .inl ⟨rfl, _, .inl (.inl hay)⟩, rd_arg S q kx fun r v l L2 env2 H2 ⟨kk, t, z, xs, ys, m, n, m', n', ek, hne, ei, pn, ej, pn', b1, b2, hs, hz, fz, hl, q2⟩ sm S2 hr => ?_⟩
  obtain ⟨d, md⟩ := r
  cases ek
  have := hr.read
  cases this
  obtain ⟨a, us, ea, ha, hlen, rus, up⟩ := S2.mutL (p := []) ej hvy rfl rfl rfl pn'
  cases ea
  obtain ⟨w, hw, rw⟩ := rus.get hz
  have fin : ∃ L', Sim c L' [] (killB (env2.set j (some (.list (ys.eraseIdx t), .o m')))) σ (upd H2 ay (.lst (us.eraseIdx t))) := up (us.eraseIdx t) (ys.eraseIdx t) _ (fun lk rk nd hlk => by
    obtain ⟨lk', s, rk'⟩ := rk.erase t
    exact ⟨lk', fun b hb => .inl (s.subset hb), nd.sublist s, fun T' h1 _ => ⟨lk', List.Perm.refl _, ROs.mono (fun b o x _ => AT.less h1 x) rk'⟩⟩) rfl
  obtain ⟨L3, S3⟩ := fin
  have ei3 : (killB (env2.set j (some (.list (ys.eraseIdx t), .o m'))))[i]? = some (some (.list xs, .o m)) := killB_get (by rw [List.getElem?_set_ne (Ne.symm hne)]; exact ei)
  obtain ⟨a3, us3, ea3, ha3, hlen3, _, up3⟩ := S3.mutL (p := []) ei3 hvx rfl rfl rfl pn
  cases ea3
  have rw3 : ∀ A', RS c.K A' (upd H2 ay (.lst (us.eraseIdx t))) w z := fun A' => ((rw.flat (A' := fun _ => False) fz).keep (Kp.write ha trivial fun q => q)).flat fz
  obtain ⟨L4, S4⟩ := up3 (us3 ++ [w]) (xs ++ [z]) _ (fun lk rk nd hlk => ⟨lk, fun b hb => .inl hb, nd, fun T' h1 _ => ⟨lk, List.Perm.refl _, by
    have := ROs.append (ROs.mono (fun b o x _ => AT.less h1 x) rk) (ROs.cons (l1 := []) (l2 := []) (.flat (rw3 (AT c.B T')) fz) .nil)
    simpa using this⟩⟩) rfl
  have hs' : seqIndex? kk us.length = some t := by rw [hlen]; exact hs
  exact ⟨ay, us, kk, t, w, rfl, rfl, ha, by omega, by omega, hs', hw, ax, us3, w, rfl, rfl, ha3, by rw [hlen3]; exact line_big hl, kn _ L4 σ _ q2 S4⟩
end
end VL
set_option maxRecDepth 100000
set_option maxHeartbeats 4000000
namespace VL
open PySem PySem.Spec PyProof.Rows L2
theorem atI_ixq {α : Type} {xs : List α} {i : Int} {x : α} (h : atI xs i = some x) : ∃ j, ixN xs.length i = some j ∧ xs[j]? = some x := by
  unfold atI at h
  cases hj : ixN xs.length i with
  | none => rw [hj] at h; cases h
  | some j => rw [hj] at h; exact ⟨j, rfl, h⟩
theorem atI_ofq {α : Type} {xs : List α} {i : Int} {j : Nat} {x : α} (hj : ixN xs.length i = some j) (h : xs[j]? = some x) : atI xs i = some x := by
  unfold atI
  rw [hj]; exact h
theorem setP_mk_l {ds : List D} {i : Int} {p : List Int} {e d0 d0' : D} {j : Nat} (hj : ixN ds.length i = some j) (h0 : ds[j]? = some d0) (h1 : setP d0 p e = some d0') : setP (.list ds) (i :: p) e = some (.list (ds.set j d0')) := by
  unfold setP; rw [hj]; simp only [Option.bind_some]; rw [h0]; simp only [Option.bind_some]; rw [h1]; rfl
theorem setP_mk_t {ds : List D} {i : Int} {p : List Int} {e d0 d0' : D} {j : Nat} (hj : ixN ds.length i = some j) (h0 : ds[j]? = some d0) (h1 : setP d0 p e = some d0') : setP (.tuple ds) (i :: p) e = some (.tuple (ds.set j d0')) := by
  unfold setP; rw [hj]; simp only [Option.bind_some]; rw [h0]; simp only [Option.bind_some]; rw [h1]; rfl
def tupP : D → List Int → Prop
  | _, [] => True
  | .tuple ds, i :: p => ∃ d, atI ds i = some d ∧ tupP d p
  | _, _ => False
theorem NavP.tup {K : PySem.W.Frag} {H H' : Hp} (ht : ∀ b xs, H b = some (.tup xs) → H' b = some (.tup xs)) : ∀ {p : List Int} {A : Addr → Prop} {d : D} {v w : V}, RS K A H v d → tupP d p → NavP H v p w → NavP H' v p w
  | [], _, _, _, _, _, _, n => n
  | i :: p, A, d, v, w, r, t, n => by
    match d, t, r with
    | .tuple ds, ⟨d0, a0, t0⟩, r =>
      obtain ⟨a, xs, u, rfl, ha, hu, nn⟩ := n
      obtain ⟨a', xs', ea, ha', rs⟩ := r.tup_inv
      cases ea
      have hx : xs = xs' := by
        rcases ha with ha | ha
        · rw [ha] at ha'; cases ha'
        · rw [ha] at ha'; cases ha'; rfl
      subst hx
      obtain ⟨j, hj, hj2⟩ := atI_ixq a0
      obtain ⟨u', hu', ru⟩ := rs.get hj2
      have : atI xs i = some u' := atI_ofq (by rw [rs.len]; exact hj) hu'
      rw [hu] at this; cases this
      exact ⟨a, xs, u, rfl, .inr (ht _ _ ha'), hu, NavP.tup ht ru t0 nn⟩
end VL
set_option maxRecDepth 100000
set_option maxHeartbeats 4000000
namespace VL
open PySem PySem.Spec PyProof.Rows L2
theorem setP_same : ∀ {p : List Int} {d e : D}, getP d p = some e → setP d p e = some d
  | [], d, e, h => by cases h; rfl
  | i :: p, d, e, h => by
    match d, h with
    | .list ds, h =>
      obtain ⟨d0, a0, h⟩ := Option.bind_eq_some_iff.mp (show (atI ds i).bind (fun d => getP d p) = some e from h)
      obtain ⟨j, hj, h0⟩ := atI_ixq a0
      have := setP_mk_l hj h0 (setP_same h)
      rw [this]
      congr 2
      exact List.set_getElem?_self h0
    | .tuple ds, h =>
      obtain ⟨d0, a0, h⟩ := Option.bind_eq_some_iff.mp (show (atI ds i).bind (fun d => getP d p) = some e from h)
      obtain ⟨j, hj, h0⟩ := atI_ixq a0
      have := setP_mk_t hj h0 (setP_same h)
      rw [this]
      congr 2
      exact List.set_getElem?_self h0
    | .none, h => cases h
    | .bool _, h => cases h
    | .int _, h => cases h
    | .str _, h => cases h
    | .dict _, h => cases h
where
  List.set_getElem?_self {α : Type} {l : List α} {j : Nat} {x : α} (h : l[j]? = some x) : l.set j x = l := by
    apply List.ext_getElem?
    intro k
    rw [List.getElem?_set]
    split
    · rename_i e
      subst e
      have hl := (List.getElem?_eq_some_iff.mp h).1
      simp [hl, h]
      have := List.getElem?_eq_getElem hl
      rw [this] at h
      exact (Option.some.inj h).symm
    · rfl
section
variable {X : Cx} {c : Cn} {W : WX} {pos px ppx apx cpx pos2 p3 : Pos} {wp : WP} {o : Expr} {tx : Str} {z : Int} {j3 : _}
end
end VL
set_option maxRecDepth 100000
set_option maxHeartbeats 4000000
namespace VL
open PySem PySem.Spec PyProof.Rows L2
section
variable {env e : VEnv} {Dv : DV} {wa wb wc we : WE} {wo wo' : WO} {i j t : Nat} {Q : R → VEnv → Prop} {X : Exn → VEnv → Prop} {q : R → Prop} {m m' : Md} {ds : List D} {n : Int} {z : Int}
theorem i_listF (f : flatAll ds = true) (h : q ⟨.list ds, mA⟩) : wList [⟨.list ds, m⟩] q := ⟨_, rfl, by show q (cpR ds _); rw [cpR_flat f]; exact h⟩
end
end VL
set_option maxRecDepth 100000
set_option maxHeartbeats 4000000
namespace VL
open PySem PySem.Spec PyProof.Rows L2
section
variable {X : Cx} {c : Cn} {W : WX} {apos cpos : Pos} {wl wx : WE} {o e : Expr} {k : Nat}
end
def woIn : WO := fun ra rb Q => ∃ ds, rb.d = .list ds ∧ SeqAt.shaped ra.d = true ∧ SeqAt.shaped (.list ds) = true ∧ Q ⟨.bool (ds.any fun z => PyData.eqv z ra.d), mA⟩
def woNotIn : WO := fun ra rb Q => ∃ ds, rb.d = .list ds ∧ SeqAt.shaped ra.d = true ∧ SeqAt.shaped (.list ds) = true ∧ Q ⟨.bool (!ds.any fun z => PyData.eqv z ra.d), mA⟩
section
variable {X : Cx} {c : Cn} {k : Nat}
theorem s_in : OpS c (rInD c.K) woIn := by
  intro L Tm la lb env σ H ra rb x y Qv Q S h1 h2 ⟨ds, e, s1, s2, q⟩ k
  obtain ⟨d, m⟩ := rb
  cases e
  exact ⟨ra.d, ds, h1.read.dp (SeqAt.canLay_of_shaped s1), h2.read.dp (SeqAt.canLay_of_shaped s2), s1, s2, flat_end1 S q (.bl _) rfl k⟩
theorem s_notIn : OpS c (rNotInD c.K) woNotIn := by
  intro L Tm la lb env σ H ra rb x y Qv Q S h1 h2 ⟨ds, e, s1, s2, q⟩ k
  obtain ⟨d, m⟩ := rb
  cases e
  exact ⟨ra.d, ds, h1.read.dp (SeqAt.canLay_of_shaped s1), h2.read.dp (SeqAt.canLay_of_shaped s2), s1, s2, flat_end1 S q (.bl _) rfl k⟩
theorem c_in (hr : Room k X.A) (hK : c.K = X.K := by rfl) : CmpOk X c .In woIn := ⟨_, op_inD (by have := hr.un; omega), by rw [← hK]; exact s_in⟩
theorem c_notIn (hr : Room k X.A) (hK : c.K = X.K := by rfl) : CmpOk X c .NotIn woNotIn := ⟨_, op_notInD (by have := hr.un; omega), by rw [← hK]; exact s_notIn⟩
end
end VL
set_option maxRecDepth 100000
set_option maxHeartbeats 4000000
namespace VL
open PySem PySem.Spec PyProof.Rows L2
theorem rs_ints_inv {K : PySem.W.Frag} {A : Addr → Prop} {H : Hp} : ∀ {ns : List Int} {vs : List V}, RSs K A H vs (ns.map .int) → vs = ns.map V.int
  | [], _, .nil => rfl
  | n :: ns, _, .cons h r => by
    cases h
    rw [rs_ints_inv r]; rfl
section
variable {X : Cx} {c : Cn} {W : WX} {pos p p1 p2 p3 : Pos} {wa : WA} {we : WE} {e : Expr} {k : Nat}
end
section
variable {q : R → Prop} {m : Md} {ns : List Int} {ds : List D} {Q : R → VEnv → Prop} {env : VEnv} {X : Exn → VEnv → Prop} {we : WE}
end
end VL
set_option maxRecDepth 100000
set_option maxHeartbeats 4000000
namespace VL
open PySem PySem.Spec PyProof.Rows L2
def wExt (wp : WP) (we : WE) : WS := fun env Dv => wp env (fun i p e => isL e i p ∧ we e (fun r e' => ∃ d m ds n zs d', r.d = .list zs ∧ (flatAll zs = true ∨ (r.m = .o none ∧ n = none)) ∧ OwnL e' i p ds d m n ∧ ds.length + zs.length < 1000000 ∧
  setP d p (.list (ds ++ zs)) = some d' ∧ Dv.nx (killB (e'.set i (some (d', .o m))))) Dv.ex) Dv.ex
def wClr (wp : WP) : WS := fun env Dv => wp env (fun i p e => ∃ d m ds n d', OwnL e i p ds d m n ∧ setP d p (.list []) = some d' ∧ Dv.nx (killB (e.set i (some (d', .o m))))) Dv.ex
section
variable {X : Cx} {c : Cn} {W : WX} {pos apos cpos : Pos} {wp : WP} {we : WE} {o e : Expr}
theorem vs_ext (ho : PE X o (rdP c W wp)) (he : PE X e (rdE c W we))
    (hb : PE X o (rdP c W wp) → PE X e (rdE c W we) → PE X (.Call (.Attribute o "extend" apos) [e] [] cpos) (tBM X.K "list" rExtend (rdP c W wp) (tCons (rdE c W we) tNil)) := by exact fun ho he => pe_bm PySem.F.plainAttrs_list PySem.F.slot_list_extend PySem.F.type_list_extend mt_extend ho (pa_cons he pa_nil)) :
    PS X (.Expr (.Call (.Attribute o "extend" apos) [e] [] cpos) pos) (rdS c W (wExt wp we)) := PS.imp (ps_expr (hb ho he)) fun D σ H h => by
  obtain ⟨env, L, Dv, S, q, k, kr, kx⟩ := h
  refine rd_tgt S q kx fun i p v v0 L1 env1 H1 ⟨h0, h1⟩ S1 hv nav => ?_
  obtain ⟨_, _, _, _, ty⟩ := h0.ty S1 hv nav (K := X.K)
  refine ⟨ty, rd_arg S1 h1 kx fun r y l L2 env2 H2 ⟨d, m, ds, n, zs, d', ez, fz, ⟨e1, e2, mp, e3, e4⟩, e6, e7, h2⟩ sm S2 hr => ?_⟩
  obtain ⟨a, xs, rfl, ha, hl, _, up⟩ := S2.mutL e1 hv (nav.keep sm) e2 e3 e4
  have r1 := hr.read
  rw [ez] at r1
  obtain ⟨b, us, rfl, hb, _, r1'⟩ := r1.lst_inv
  suffices hk : _ by
    obtain ⟨L3, S3⟩ := up (xs ++ us) _ d' hk e7
    exact ⟨a, b, xs, us, rfl, rfl, ha, hb, by rw [hl, r1'.len]; exact Nat.le_of_lt (line_big e6), k _ L3 σ _ h2 S3⟩
  · rcases fz with fz | ⟨fm, fn⟩
    · refine fun lk rk nd hlk => ⟨lk, fun b hb => .inl hb, nd, fun T' h1 h2 => ⟨_, List.Perm.refl _, ?_⟩⟩
      have rk' : ROs c.K (AT c.B T') H2 n xs ds lk := ROs.mono (fun b o x _ => AT.less h1 x) rk
      have := ROs.append rk' (flat_kidsM (A' := AT c.B T') (m := n) r1' fz)
      simpa using this
    · subst fn
      obtain ⟨rd_, rm⟩ := r
      cases fm
      cases ez
      rcases RO.lst_inv hr.dep with ⟨fm, _, _⟩ | ⟨n', b', us', lkk, hn', eb, hb', rkk, el⟩
      · cases fm
      cases hn'
      cases eb
      rw [hb] at hb'
      cases hb'
      subst el
      have ndl := (List.nodup_append.mp S2.nd).2.1
      refine fun lk rk nd hlk => ⟨lk ++ lkk, fun b hb => (List.mem_append.mp hb).imp id fun z => List.mem_cons_of_mem _ z, List.nodup_append.mpr ⟨nd, (List.nodup_cons.mp ndl).2, fun b hb b' hb' z => by subst z; exact (hlk b hb).2 (List.mem_cons_of_mem _ hb')⟩, fun T' h1 h2 => ⟨_, List.Perm.refl _, ?_⟩⟩
      exact ROs.append (ROs.mono (fun b o x _ => AT.less h1 x) rk) (ROs.mono (fun b o x _ => AT.less h1 x) rkk)
theorem vs_clr (ho : PE X o (rdP c W wp))
    (hb : PE X o (rdP c W wp) → PE X (.Call (.Attribute o "clear" apos) [] [] cpos) (tBM0 X.K "list" rClear (rdP c W wp)) := by exact fun ho => pe_bm0 PySem.F.plainAttrs_list PySem.F.slot_list_clear PySem.F.type_list_clear mt_clear ho) :
    PS X (.Expr (.Call (.Attribute o "clear" apos) [] [] cpos) pos) (rdS c W (wClr wp)) := PS.imp (ps_expr (hb ho)) fun D σ H h => by
  obtain ⟨env, L, Dv, S, q, k, kr, kx⟩ := h
  refine rd_tgt S q kx fun i p v v0 L1 env1 H1 ⟨d, m, ds, n, d', ⟨e1, e2, mp, e3, e4⟩, e7, h2⟩ S1 hv nav => ?_
  obtain ⟨a, xs, rfl, ha, hl, _, up⟩ := S1.mutL e1 hv nav e2 e3 e4
  obtain ⟨L3, S3⟩ := up [] [] d' (fun lk rk nd hlk => ⟨[], fun b hb => (by cases hb), List.nodup_nil, fun T' h1 h2 => ⟨[], List.Perm.refl _, .nil⟩⟩) e7
  exact ⟨Or.inl ⟨rfl, xs, SqL.of ha⟩, a, xs, rfl, rfl, ha, k _ L3 σ _ h2 S3⟩
end
def wSetPop (i j : Nat) (wk : WE) : WS := fun env Dv => isL env j [] ∧ wk env (fun r e => ∃ kk t y ys m' n', r.d = .int kk ∧ i ≠ j ∧ e[j]? = some (some (.list ys, .o m')) ∧ popM m' = some n' ∧
  -(2 ^ 62) ≤ kk ∧ kk < 2 ^ 62 ∧ seqIndex? kk ys.length = some t ∧ ys[t]? = some y ∧ flatD y = true ∧ Dv.nx ((killB (e.set j (some (.list (ys.eraseIdx t), .o m')))).set i (some (y, mA)))) Dv.ex
section
variable {X : Cx} {c : Cn} {W : WX} {pos px py apx apy cpx cpy : Pos} {wk : WE} {k : Expr} {x y : Str}
theorem vs_setPop (i j : Nat) (hk : PE X k (rdE c W wk)) (hND : X.N.Nodup) (hN : X.N[i]? = some x := by rfl) (hN2 : X.N[j]? = some y := by rfl) (hx : Loc X.env.scope x := by first | exact .inl rfl | exact .inr rfl) (hf : X.fn x = true ∨ X.env.scope.names.lookup x = some .local := by first | exact .inl rfl | exact .inr rfl | assumption)
    (hy : PE X (.Name y py) (tVar j) := by exact pe_var (by rfl) (by first | exact Or.inl rfl | exact Or.inr (Or.inl rfl) | exact Or.inr (Or.inr rfl)) (by decide) (by decide))
    (hp : PE X (.Name y py) (tVar j) → PE X k (rdE c W wk) → PE X (.Call (.Attribute (.Name y py) "pop" apy) [k] [] cpy) (tBM X.K "list" rPopAt (tVar j) (tCons (rdE c W wk) tNil)) := by exact fun hy hk => pe_bm PySem.F.plainAttrs_list PySem.F.slot_list_pop PySem.F.type_list_pop mt_popAt hy (pa_cons hk pa_nil))
    (hs : swapsWithSole [.Name x px] (.Call (.Attribute (.Name y py) "pop" apy) [k] [] cpy) pos.line X.env = pure false := by rfl) (hw : swappedStores [.Name x px] (.Call (.Attribute (.Name y py) "pop" apy) [k] [] cpy) X.env = pure none := by rfl) (pf : PinF c [i] := by first | exact pinF_nil rfl | exact pinF_one rfl (by decide) | assumption) :
    PS X (.Assign [.Name x px] (.Call (.Attribute (.Name y py) "pop" apy) [k] [] cpy) pos) (rdS c W (wSetPop i j wk)) := PS.imp (ps_asg (hp hy hk) (pg_name hND hN hx hf) hs hw) fun D σ H h => by
  obtain ⟨env, L, Dv, S, ⟨l2, q⟩, kn, kr, kx⟩ := h
  obtain ⟨d2, m2, ds2, e2, g2⟩ := l2
  obtain ⟨vy, ly, hvy, _, ry⟩ := S.sl.get e2
  have g2' : d2 = .list ds2 := Option.some.inj g2
  subst g2'
  obtain ⟨ay, usy, rfl, hay, _, _⟩ := ry.read.lst_inv
  refine ⟨.ref ay, hvy, .inl ⟨rfl, _, .inl (.inl hay)⟩, rd_arg S q kx fun r v l L2 env2 H2 ⟨kk, t, z, ys, m', n', ek, hne, ej, pn', b1, b2, hs, hz, fz, q2⟩ sm S2 hr => ?_⟩
  obtain ⟨d, md⟩ := r
  cases ek
  have := hr.read
  cases this
  obtain ⟨a, us, ea, ha, hlen, rus, up⟩ := S2.mutL (p := []) ej hvy rfl rfl rfl pn'
  cases ea
  obtain ⟨w, hw, rw⟩ := rus.get hz
  have fin : ∃ L', Sim c L' [] (killB (env2.set j (some (.list (ys.eraseIdx t), .o m')))) σ (upd H2 ay (.lst (us.eraseIdx t))) := up (us.eraseIdx t) (ys.eraseIdx t) _ (fun lk rk nd hlk => by
    obtain ⟨lk', s, rk'⟩ := rk.erase t
    exact ⟨lk', fun b hb => .inl (s.subset hb), nd.sublist s, fun T' h1 _ => ⟨lk', List.Perm.refl _, ROs.mono (fun b o x _ => AT.less h1 x) rk'⟩⟩) rfl
  obtain ⟨L3, S3⟩ := fin
  have rw3 : RS c.K (fun _ => True) (upd H2 ay (.lst (us.eraseIdx t))) w z := ((rw.flat (A' := fun _ => False) fz).keep (Kp.write ha trivial fun q => q)).flat fz
  have hr3 : Res c (L3.flatten ++ ([] ++ [])) (upd H2 ay (.lst (us.eraseIdx t))) ⟨z, mA⟩ w [] := Res.flat rw3 fz
  obtain ⟨L4, S4, _⟩ := Sim.put (i := i) (Tm := []) (l := []) S3 hr3 pf
  have hs' : seqIndex? kk us.length = some t := by rw [hlen]; exact hs
  exact ⟨ay, us, kk, t, w, rfl, rfl, ha, by omega, by omega, hs', hw, kn _ L4 _ _ q2 S4⟩
end
def wFor_enumerate (g : Tg) (wa : WA) (w : WS) : WS := fun env Dv => wa env (fun rs e => ∃ r ds, rs = [r] ∧ r.d = .list ds ∧ isB r.m = false ∧ ∃ (I : Nat → VEnv → Prop) (e0 : VEnv), envLe e0 e ∧ I 0 e0 ∧
  (∀ i d e, ds[i]? = some d → I i e → ∃ rs, g.f ⟨.tuple [.int (i : Nat), d], mS⟩ = some rs ∧ w (putAll e g.is rs) { Dv with nx := fun e2 => ∃ e3, envLe e3 e2 ∧ I (i + 1) e3 }) ∧ (∀ e, I ds.length e → Dv.nx e)) Dv.ex
section
variable {X : Cx} {c : Cn} {W : WX} {pos p cpos tpos : Pos} {g : Tg} {wa : WA} {w : WS} {elts : List Expr} {kk : Nat} {a : Expr} {body : List Stmt}
theorem vs_for_enumerate (hp : PassesOwn (model X.prog X.w) X.A X.env X.xe) (hc : X.calm = true) (hm : X.mg "enumerate" = none) (ha : PA X [a] (rdA c W wa)) (hg : TgOk X (.Tuple elts kk tpos) g) (hb : ∀ hd, PSs X body (rdS (c.with hd) W w)) (hK : c.K = X.K := by rfl)
    (hge : Gl X "enumerate" := by rfl) (hs1 : starEach [a] X.env = [(false, eval a X.env)] := by rfl) (hs : ∀ x, foldedSetIterable (.Call (.Name "enumerate" p) [a] [] cpos) X.env x = pure x := by intro _; rfl) (pf : PinF c g.is := by first | exact pinF_nil rfl | exact pinF_one rfl (by decide) | assumption) :
    PS X (.For (.Tuple elts kk tpos) (.Call (.Name "enumerate" p) [a] [] cpos) body [] pos) (rdS c W (wFor_enumerate g wa w)) := by
  obtain ⟨t, hpg, run⟩ := hg.ok
  refine PS.imp (ps_for (tb := fun D σ H => ∃ hd, rdS (c.with hd) W w D σ H) hp hc (pi_enum hge hm ha hs1) hpg ⟨fun pins s σ H D I hh => hh.elim fun hd z => (hb hd).run pins s σ H D I z⟩ hs) fun D σ H h => ?_
  obtain ⟨env, L, Dv, S, q, k, kr, kx⟩ := h
  refine rd_args S q kx fun rs vs l L1 e1 H1 ⟨r, ds, ers, hd, hmb, I, e0, le, i0, step, last⟩ S1 hrs => ?_
  subst ers
  obtain ⟨v, evs, hr⟩ := ress1 hrs
  subst evs
  have sh := hr.share0 hmb S1
  have S2 : Sim c L1 [] e1 σ H1 := Sim.drop (Tm := []) (l := l) S1
  obtain ⟨L0, S0⟩ := (S2.addhd sh).lower le
  rw [hd] at sh S0
  obtain ⟨a0, xs0, rfl, ha0, _, _⟩ := sh.lst_inv
  rw [← hK]
  refine ⟨a0, xs0, rfl, SqL.of ha0, ?_⟩
  refine ⟨fun i m σ H => m = ds.length - i ∧ i ≤ ds.length ∧ ∃ e L, Sim (c.with ((.ref a0, .list ds) :: c.hd)) L [] e σ H ∧ I i e, ⟨ds.length, by simp, Nat.zero_le _, e0, L0, S0, i0⟩, ?_⟩
  rintro i m σ2 H2 ⟨rfl, hi, e, L, S, ii⟩
  have hh := S.hd _ List.mem_cons_self
  obtain ⟨a', xs, ea, ha', _, rs⟩ := hh.lst_inv
  cases ea
  by_cases hlt : i < ds.length
  · obtain ⟨x, hx, rx⟩ := rs.get (List.getElem?_eq_getElem hlt)
    refine .inr ⟨⟨xs, x, SqL.of ha', hx⟩, fun σ' H' => ∃ e L, Sim (c.with ((.ref a0, .list ds) :: c.hd)) L [] e σ' H' ∧ I (i + 1) e, fun σ' H' ⟨e, L, S, ii⟩ => ⟨ds.length - (i + 1), by omega, rfl, hlt, e, L, S, ii⟩, fun y H' hy => ?_⟩
    obtain ⟨T, x', rfl, nT, rfl, hxx⟩ := hy
    have ex : x' = x := Option.some.inj ((hxx xs (SqL.of ha')).symm.trans hx)
    subst ex
    obtain ⟨qs, hq, hw⟩ := step i _ e (List.getElem?_eq_getElem hlt) ii
    have st := Step.new (o := .tup [.int (i : Nat), x']) S nT
    have S3 : Sim (c.with ((.ref a0, .list ds) :: c.hd)) L [] e σ2 (upd H2 T (.tup [.int (i : Nat), x'])) := st.drop.sim0
    have hsm : Same H2 (upd H2 T (.tup [.int (i : Nat), x'])) := same_new nT
    have hit : Res (c.with ((.ref a0, .list ds) :: c.hd)) (L.flatten ++ []) (upd H2 T (.tup [.int (i : Nat), x'])) ⟨.tuple [.int (i : Nat), ds[i]], mS⟩ (.ref T) [] :=
      RO.sh (.tup upd_same (.cons (.int _) (.cons (rx.keep (Kp.same hsm)) .nil)))
    obtain ⟨vs, l', s, rr, hl', go⟩ := run (c.with ((.ref a0, .list ds) :: c.hd)) _ _ _ _ _ qs hK hit hq
    have el : l' = [] := List.sublist_nil.mp s
    subst el
    obtain ⟨L3, S4⟩ := Sim.putAll (is := g.is) (Tm := []) (l := []) rr (by simpa using S3) (fun b hb => by simpa using hb) pf
    refine go σ2 _ ⟨(.ref a0, .list ds) :: c.hd, _, L3, _, S4, hw, fun env' L' σ' H'' ⟨e3, le3, i3⟩ S' => ?_, fun r v l H' e h hr => kr r v l H' e h ⟨hr.fr, hr.nd, hr.own, hr.res, let ⟨L, σ, q, z⟩ := hr.sim; ⟨L, σ, q.unhd, z⟩⟩, fun ex env' L' σ' H' cls d hx S' he => kx ex env' L' σ' H' cls d hx S'.unhd he⟩
    obtain ⟨L4, S5⟩ := S'.lower le3
    exact ⟨e3, L4, S5, i3⟩
  · have e' : i = ds.length := by omega
    subst e'
    exact .inl ⟨⟨xs, SqL.of ha', by rw [rs.len]; exact Nat.le_refl _⟩, k e L σ2 H2 (last e ii) S.unhd⟩
end
end VL
set_option maxRecDepth 100000
set_option maxHeartbeats 4000000
namespace VL
open PySem PySem.Spec PyProof.Rows L2
section
variable {κ α : Type} [DecidableEq κ]
def lookK (kvs : List (κ × α)) (k : κ) : Option α := (kvs.find? fun p => decide (p.1 = k)).map (·.2)
def putKK (kvs : List (κ × α)) (k : κ) (v : α) : List (κ × α) :=
  if (kvs.any fun kv => decide (kv.1 = k)) = true then kvs.map (fun kv => if kv.1 = k then (kv.1, v) else kv) else kvs ++ [(k, v)]
theorem lookK_nil {k : κ} : lookK ([] : List (κ × α)) k = none := rfl
theorem lookK_pos {p : κ × α} {r : List (κ × α)} {k : κ} (e : p.1 = k) : lookK (p :: r) k = some p.2 := by simp [lookK, List.find?_cons, e]
theorem lookK_neg {p : κ × α} {r : List (κ × α)} {k : κ} (e : ¬ p.1 = k) : lookK (p :: r) k = lookK r k := by simp [lookK, List.find?_cons, e]
theorem lookK_map (k j : κ) (y : α) : ∀ kvs : List (κ × α), lookK (kvs.map fun kv => if kv.1 = k then (kv.1, y) else kv) j = (lookK kvs j).map fun x => if j = k then y else x
  | [] => rfl
  | p :: r => by
    by_cases h : p.1 = k
    · by_cases hj : p.1 = j
      · rw [lookK_pos hj, List.map_cons, if_pos h, lookK_pos (p := (p.1, y)) hj]
        simp [← hj, h]
      · rw [lookK_neg hj, List.map_cons, if_pos h, lookK_neg (p := (p.1, y)) hj, lookK_map k j y r]
    · by_cases hj : p.1 = j
      · rw [lookK_pos hj, List.map_cons, if_neg h, lookK_pos hj]
        simp [← hj, h]
      · rw [lookK_neg hj, List.map_cons, if_neg h, lookK_neg hj, lookK_map k j y r]
theorem lookK_any (k : κ) : ∀ kvs : List (κ × α), (kvs.any fun kv => decide (kv.1 = k)) = (lookK kvs k).isSome
  | [] => rfl
  | p :: r => by
    by_cases h : p.1 = k
    · rw [lookK_pos h]; simp [h]
    · rw [lookK_neg h, ← lookK_any k r]; simp [h]
theorem lookK_snoc (k j : κ) (y : α) : ∀ kvs : List (κ × α), lookK kvs k = none → lookK (kvs ++ [(k, y)]) j = if j = k then some y else lookK kvs j
  | [], _ => by
    by_cases h : j = k
    · subst h; simp [lookK]
    · simp [lookK, h, Ne.symm h]
  | p :: r, hn => by
    by_cases h : p.1 = k
    · rw [lookK_pos h] at hn; cases hn
    · rw [lookK_neg h] at hn
      by_cases hj : p.1 = j
      · rw [List.cons_append, lookK_pos hj, lookK_pos hj, if_neg (fun z => h (hj.trans z))]
      · rw [List.cons_append, lookK_neg hj, lookK_neg hj, lookK_snoc k j y r hn]
theorem lookK_put (kvs : List (κ × α)) (k j : κ) (y : α) : lookK (putKK kvs k y) j = if j = k then some y else lookK kvs j := by
  unfold putKK
  rw [lookK_any]
  split
  · rename_i h
    rw [lookK_map]
    by_cases hj : j = k
    · subst hj
      obtain ⟨x, hx⟩ := Option.isSome_iff_exists.mp h
      rw [hx]; simp
    · simp [hj]
  · rename_i h
    exact lookK_snoc k j y kvs (by simpa using h)
theorem putKK_new {kvs : List (κ × α)} {k : κ} (y : α) (h : lookK kvs k = none) : putKK kvs k y = kvs ++ [(k, y)] := by
  unfold putKK
  rw [lookK_any, h]; rfl
theorem putKK_all {p : α → Prop} {kvs : List (κ × α)} {k : κ} {y : α} (h : ∀ q ∈ kvs, p q.2) (hy : p y) : ∀ q ∈ putKK kvs k y, p q.2 := by
  intro q hq
  unfold putKK at hq
  split at hq
  · obtain ⟨z, hz, rfl⟩ := List.mem_map.mp hq
    split
    · exact hy
    · exact h z hz
  · rcases List.mem_append.mp hq with z | z
    · exact h q z
    · rw [List.mem_singleton.mp z]; exact hy
end
def dctI (kvs : List (Int × D)) : D := mkDict false (kvs.map fun p => (.int p.1, p.2))
def dctT (kvs : List (List Int × D)) : D := mkDict true (kvs.map fun p => (.tuple (p.1.map .int), p.2))
theorem flat_dI (kvs : List (Int × D)) : flatD (dctI kvs) = false := flat_dict
theorem flat_dT (kvs : List (List Int × D)) : flatD (dctT kvs) = false := flat_dict
def flatKV {κ : Type} (kvs : List (κ × D)) : Prop := ∀ p ∈ kvs, flatD p.2 = true
section
variable {K : PySem.W.Frag} {A A' : Addr → Prop} {H H' : Hp}
inductive PrI (K : PySem.W.Frag) (A : Addr → Prop) (H : Hp) : List (Key × V) → List (Int × D) → Prop
  | nil : PrI K A H [] []
  | cons {i : Int} {v : V} {d : D} {r : List (Key × V)} {s : List (Int × D)} : RS K A H v d → PrI K A H r s → PrI K A H ((.inl i, v) :: r) ((i, d) :: s)
inductive PrT (K : PySem.W.Frag) (A : Addr → Prop) (H : Hp) : List (List Key × V) → List (List Int × D) → Prop
  | nil : PrT K A H [] []
  | cons {i : List Int} {v : V} {d : D} {r : List (List Key × V)} {s : List (List Int × D)} : RS K A H v d → PrT K A H r s → PrT K A H ((i.map .inl, v) :: r) ((i, d) :: s)
theorem kD_int {k : Key} {i : Int} (h : kD k = .int i) : k = .inl i := by
  cases k with
  | inl j => cases h; rfl
  | inr x => cases h
theorem kDs_int : ∀ {k : List Key} {i : List Int}, k.map kD = i.map PyData.int → k = i.map .inl
  | [], [], _ => rfl
  | [], _ :: _, h => by cases h
  | _ :: _, [], h => by cases h
  | k :: ks, i :: is, h => by
    simp only [List.map_cons, List.cons.injEq] at h
    rw [kD_int h.1, kDs_int h.2]; rfl
theorem PrI.of : ∀ {k' : List (Key × V)} {kvs : List (Int × D)}, (k'.map fun p => kD p.1) = (kvs.map fun p => PyData.int p.1) → RSs K A H (k'.map (·.2)) (kvs.map (·.2)) → PrI K A H k' kvs
  | [], [], _, _ => .nil
  | [], _ :: _, h, _ => by cases h
  | _ :: _, [], h, _ => by cases h
  | (k, v) :: r, (i, d) :: s, h, hv => by
    simp only [List.map_cons, List.cons.injEq] at h
    cases hv with
    | cons h1 h2 =>
      rw [kD_int h.1]
      exact .cons h1 (PrI.of h.2 h2)
theorem PrT.of : ∀ {k' : List (List Key × V)} {kvs : List (List Int × D)}, (k'.map fun p => PyData.tuple (p.1.map kD)) = (kvs.map fun p => PyData.tuple (p.1.map PyData.int)) → RSs K A H (k'.map (·.2)) (kvs.map (·.2)) → PrT K A H k' kvs
  | [], [], _, _ => .nil
  | [], _ :: _, h, _ => by cases h
  | _ :: _, [], h, _ => by cases h
  | (k, v) :: r, (i, d) :: s, h, hv => by
    simp only [List.map_cons, List.cons.injEq, PyData.tuple.injEq] at h
    cases hv with
    | cons h1 h2 =>
      have := kDs_int h.1
      rw [this]
      exact .cons h1 (PrT.of h.2 h2)
theorem PrI.vals {k' : List (Key × V)} {kvs : List (Int × D)} (h : PrI K A H k' kvs) : RSs K A H (k'.map (·.2)) (kvs.map (·.2)) := by
  induction h with
  | nil => exact .nil
  | cons h _ ih => exact .cons h ih
theorem PrT.vals {k' : List (List Key × V)} {kvs : List (List Int × D)} (h : PrT K A H k' kvs) : RSs K A H (k'.map (·.2)) (kvs.map (·.2)) := by
  induction h with
  | nil => exact .nil
  | cons h _ ih => exact .cons h ih
theorem PrI.keys {k' : List (Key × V)} {kvs : List (Int × D)} (h : PrI K A H k' kvs) : (k'.map fun p => kD p.1) = (kvs.map fun p => PyData.int p.1) := by
  induction h with
  | nil => rfl
  | cons h _ ih => rw [List.map_cons, List.map_cons, ih]; rfl
theorem kD_inls : ∀ is : List Int, (is.map Sum.inl).map kD = is.map PyData.int
  | [] => rfl
  | i :: is => by rw [List.map_cons, List.map_cons, kD_inls is]; rfl
theorem PrT.keys {k' : List (List Key × V)} {kvs : List (List Int × D)} (h : PrT K A H k' kvs) : (k'.map fun p => PyData.tuple (p.1.map kD)) = (kvs.map fun p => PyData.tuple (p.1.map PyData.int)) := by
  induction h with
  | nil => rfl
  | @cons i v d r s h _ ih => rw [List.map_cons, List.map_cons, ih]; show PyData.tuple ((i.map Sum.inl).map kD) :: _ = _; rw [kD_inls]
theorem PrI.look {k' : List (Key × V)} {kvs : List (Int × D)} (h : PrI K A H k' kvs) (i : Int) : (lookK kvs i = none ∧ valV k' (.inl i) = none) ∨ ∃ d v, lookK kvs i = some d ∧ valV k' (.inl i) = some v ∧ RS K A H v d := by
  induction h with
  | nil => exact .inl ⟨rfl, rfl⟩
  | @cons j v d r s h _ ih =>
    by_cases e : j = i
    · exact .inr ⟨d, v, lookK_pos e, valV_pos (by show (Sum.inl j : Key) = _; rw [e]), h⟩
    · rw [lookK_neg e, valV_neg (show ¬ (Sum.inl j : Key) = .inl i from fun z => e (Sum.inl.inj z))]
      exact ih
theorem inls_inj : ∀ {a b : List Int}, a.map (Sum.inl : Int → Key) = b.map Sum.inl → a = b
  | [], [], _ => rfl
  | [], _ :: _, h => by cases h
  | _ :: _, [], h => by cases h
  | a :: as, b :: bs, h => by
    simp only [List.map_cons, List.cons.injEq, Sum.inl.injEq] at h
    rw [h.1, inls_inj h.2]
theorem PrT.look {k' : List (List Key × V)} {kvs : List (List Int × D)} (h : PrT K A H k' kvs) (i : List Int) : (lookK kvs i = none ∧ valV k' (i.map .inl) = none) ∨ ∃ d v, lookK kvs i = some d ∧ valV k' (i.map .inl) = some v ∧ RS K A H v d := by
  induction h with
  | nil => exact .inl ⟨rfl, rfl⟩
  | @cons j v d r s h _ ih =>
    by_cases e : j = i
    · exact .inr ⟨d, v, lookK_pos e, valV_pos (by show j.map Sum.inl = _; rw [e]), h⟩
    · rw [lookK_neg e, valV_neg (show ¬ j.map (Sum.inl : Int → Key) = i.map .inl from fun z => e (inls_inj z))]
      exact ih
theorem PrI.any {k' : List (Key × V)} {kvs : List (Int × D)} (h : PrI K A H k' kvs) (i : Int) : (k'.any fun kv => decide (kv.1 = .inl i)) = kvs.any fun kv => decide (kv.1 = i) := by
  induction h with
  | nil => rfl
  | @cons j v d r s h _ ih =>
    rw [List.any_cons, List.any_cons, ih]
    congr 1
    by_cases e : j = i
    · simp [e]
    · have : ¬ (Sum.inl j : Key) = .inl i := fun z => e (Sum.inl.inj z)
      simp [e]
theorem PrT.any {k' : List (List Key × V)} {kvs : List (List Int × D)} (h : PrT K A H k' kvs) (i : List Int) : (k'.any fun kv => decide (kv.1 = i.map .inl)) = kvs.any fun kv => decide (kv.1 = i) := by
  induction h with
  | nil => rfl
  | @cons j v d r s h _ ih =>
    rw [List.any_cons, List.any_cons, ih]
    congr 1
    by_cases e : j = i
    · simp [e]
    · have : ¬ j.map (Sum.inl : Int → Key) = i.map .inl := fun z => e (inls_inj z)
      simp [e, this]
theorem PrI.mapp {k' : List (Key × V)} {kvs : List (Int × D)} (h : PrI K A H k' kvs) (i : Int) {v : V} {d : D} (hv : RS K A H v d) : PrI K A H (k'.map fun kv => if kv.1 = .inl i then (kv.1, v) else kv) (kvs.map fun kv => if kv.1 = i then (kv.1, d) else kv) := by
  induction h with
  | nil => exact .nil
  | @cons j v0 d0 r s h _ ih =>
    rw [List.map_cons, List.map_cons]
    by_cases e : j = i
    · rw [if_pos (show (Sum.inl j : Key) = .inl i by rw [e]), if_pos e]
      exact .cons hv ih
    · rw [if_neg (show ¬ (Sum.inl j : Key) = .inl i from fun z => e (Sum.inl.inj z)), if_neg e]
      exact .cons h ih
theorem PrT.mapp {k' : List (List Key × V)} {kvs : List (List Int × D)} (h : PrT K A H k' kvs) (i : List Int) {v : V} {d : D} (hv : RS K A H v d) : PrT K A H (k'.map fun kv => if kv.1 = i.map .inl then (kv.1, v) else kv) (kvs.map fun kv => if kv.1 = i then (kv.1, d) else kv) := by
  induction h with
  | nil => exact .nil
  | @cons j v0 d0 r s h _ ih =>
    rw [List.map_cons, List.map_cons]
    by_cases e : j = i
    · rw [if_pos (show j.map (Sum.inl : Int → Key) = i.map .inl by rw [e]), if_pos e]
      exact .cons hv ih
    · rw [if_neg (show ¬ j.map (Sum.inl : Int → Key) = i.map .inl from fun z => e (inls_inj z)), if_neg e]
      exact .cons h ih
theorem PrI.snoc {k' : List (Key × V)} {kvs : List (Int × D)} (h : PrI K A H k' kvs) (i : Int) {v : V} {d : D} (hv : RS K A H v d) : PrI K A H (k' ++ [(.inl i, v)]) (kvs ++ [(i, d)]) := by
  induction h with
  | nil => exact .cons hv .nil
  | cons h _ ih => exact .cons h ih
theorem PrT.snoc {k' : List (List Key × V)} {kvs : List (List Int × D)} (h : PrT K A H k' kvs) (i : List Int) {v : V} {d : D} (hv : RS K A H v d) : PrT K A H (k' ++ [(i.map .inl, v)]) (kvs ++ [(i, d)]) := by
  induction h with
  | nil => exact .cons hv .nil
  | cons h _ ih => exact .cons h ih
theorem PrI.put {k' : List (Key × V)} {kvs : List (Int × D)} (h : PrI K A H k' kvs) (i : Int) {v : V} {d : D} (hv : RS K A H v d) : PrI K A H (putK k' (.inl i) v) (putKK kvs i d) := by
  unfold putK putKK
  rw [h.any i]
  split
  · exact h.mapp i hv
  · exact h.snoc i hv
theorem PrT.put {k' : List (List Key × V)} {kvs : List (List Int × D)} (h : PrT K A H k' kvs) (i : List Int) {v : V} {d : D} (hv : RS K A H v d) : PrT K A H (putK k' (i.map .inl) v) (putKK kvs i d) := by
  unfold putK putKK
  rw [h.any i]
  split
  · exact h.mapp i hv
  · exact h.snoc i hv
theorem PrI.len {k' : List (Key × V)} {kvs : List (Int × D)} (h : PrI K A H k' kvs) : k'.length = kvs.length := by
  induction h with
  | nil => rfl
  | cons h _ ih => simp [ih]
theorem PrT.len {k' : List (List Key × V)} {kvs : List (List Int × D)} (h : PrT K A H k' kvs) : k'.length = kvs.length := by
  induction h with
  | nil => rfl
  | cons h _ ih => simp [ih]
theorem PrI.keep {k' : List (Key × V)} {kvs : List (Int × D)} (h : PrI K A H k' kvs) (f : flatKV kvs) (k : Kp (fun _ => False) H H') : PrI K A' H' k' kvs := by
  induction h with
  | nil => exact .nil
  | @cons j v d r s h _ ih =>
    have fd : flatD d = true := f (j, d) List.mem_cons_self
    exact .cons (((h.flat (A' := fun _ => False) fd).keep k).flat fd) (ih fun p hp => f p (List.mem_cons_of_mem _ hp))
theorem PrT.keep {k' : List (List Key × V)} {kvs : List (List Int × D)} (h : PrT K A H k' kvs) (f : flatKV kvs) (k : Kp (fun _ => False) H H') : PrT K A' H' k' kvs := by
  induction h with
  | nil => exact .nil
  | @cons j v d r s h _ ih =>
    have fd : flatD d = true := f (j, d) List.mem_cons_self
    exact .cons (((h.flat (A' := fun _ => False) fd).keep k).flat fd) (ih fun p hp => f p (List.mem_cons_of_mem _ hp))
theorem flatKV_all {κ : Type} : ∀ {kvs : List (κ × D)}, flatKV kvs → flatAll (kvs.map (·.2)) = true
  | [], _ => rfl
  | p :: r, f => by
    rw [List.map_cons, flatAll, flatKV_all fun q hq => f q (List.mem_cons_of_mem _ hq), f p List.mem_cons_self]; rfl
theorem mkD_I {t : Bool} {ds : List (D × D)} {kvs : List (Int × D)} (h : mkDict t ds = dctI kvs) : t = false ∧ ds = kvs.map fun p => (.int p.1, p.2) := by
  cases t with
  | false => exact ⟨rfl, by simpa [mkDict, dctI] using h⟩
  | true =>
    exfalso
    unfold dctI mkDict at h
    simp only [if_true, PyData.dict.injEq] at h
    cases kvs with
    | nil => cases h
    | cons p r => simp at h
theorem RS.dI_inv {v : V} {kvs : List (Int × D)} (h : RS K A H v (dctI kvs)) : ∃ a k', v = .ref a ∧ H a = some (.dK k') ∧ A a ∧ PrI K A H k' kvs := by
  generalize e : dctI kvs = d at h
  cases h with
  | non => simp [dctI, mkDict] at e
  | bl b => simp [dctI, mkDict] at e
  | int i => simp [dctI, mkDict] at e
  | str x => simp [dctI, mkDict] at e
  | lst _ _ _ => simp [dctI, mkDict] at e
  | tup _ _ => simp [dctI, mkDict] at e
  | scr _ =>
    cases kvs with
    | nil => simp [dctI, mkDict, scriptD] at e
    | cons p r => simp [dctI, mkDict, scriptD] at e
  | opq _ =>
    cases kvs with
    | nil => simp [dctI, mkDict, opD] at e
    | cons p r => simp [dctI, mkDict, opD] at e
  | wtp _ =>
    cases kvs with
    | nil => simp [dctI, mkDict, wtD] at e
    | cons p r => simp [dctI, mkDict, wtD] at e
  | ins _ _ _ _ _ =>
    cases kvs with
    | nil => simp [dctI, mkDict, insD] at e
    | cons p r => simp [dctI, mkDict, insD] at e
  | dct ha aa ek r =>
    obtain ⟨rfl, rfl⟩ := mkD_I e.symm
    rcases ha with ⟨_, k', hk, rfl⟩ | ⟨ht, _⟩
    · refine ⟨_, k', rfl, hk, aa, PrI.of ?_ ?_⟩
      · simpa [List.map_map, Function.comp_def] using ek
      · simpa [List.map_map, Function.comp_def] using r
    · cases ht
theorem RS.dT_inv {v : V} {kvs : List (List Int × D)} (h : RS K A H v (dctT kvs)) : ∃ a k', v = .ref a ∧ H a = some (.dT k') ∧ A a ∧ PrT K A H k' kvs := by
  generalize e : dctT kvs = d at h
  cases h with
  | non => simp [dctT, mkDict] at e
  | bl b => simp [dctT, mkDict] at e
  | int i => simp [dctT, mkDict] at e
  | str x => simp [dctT, mkDict] at e
  | lst _ _ _ => simp [dctT, mkDict] at e
  | tup _ _ => simp [dctT, mkDict] at e
  | scr _ => simp [dctT, mkDict, scriptD] at e
  | opq _ => simp [dctT, mkDict, opD] at e
  | wtp _ => simp [dctT, mkDict, wtD] at e
  | ins _ _ _ _ _ => simp [dctT, mkDict, insD] at e
  | @dct a kv t ds ha aa ek r =>
    cases t with
    | false =>
      exfalso
      rcases ha with ⟨_, k', hk, rfl⟩ | ⟨ht, _⟩
      · have e2 : ds = (PyData.none, PyData.none) :: kvs.map fun p => (PyData.tuple (p.1.map .int), p.2) := by simpa [dctT, mkDict] using e.symm
        rw [e2] at ek
        cases k' with
        | nil => simp at ek
        | cons p r =>
          simp only [List.map_cons, List.cons.injEq] at ek
          have := ek.1
          cases hp : p.1 with
          | inl i => rw [hp] at this; cases this
          | inr x => rw [hp] at this; cases this
      · cases ht
    | true =>
      have e2 : ds = kvs.map fun p => (PyData.tuple (p.1.map .int), p.2) := by simpa [dctT, mkDict] using e.symm
      subst e2
      rcases ha with ⟨ht, _⟩ | ⟨_, k', hk, rfl⟩
      · cases ht
      · refine ⟨_, k', rfl, hk, aa, PrT.of ?_ ?_⟩
        · simpa [List.map_map, Function.comp_def] using ek
        · simpa [List.map_map, Function.comp_def] using r
theorem RO.dI_inv {v : V} {kvs : List (Int × D)} {l : List Addr} (h : RO K A H none v (dctI kvs) l) : ∃ a k', v = .ref a ∧ H a = some (.dK k') ∧ a ∈ l ∧ PrI K (fun _ => True) H k' kvs := by
  have hr : RS K (fun _ => True) H v (dctI kvs) := RO.share (RO.mono (fun _ _ _ _ => trivial) h) fun _ _ => trivial
  obtain ⟨a, k', rfl, hk, _, pr⟩ := hr.dI_inv
  refine ⟨a, k', rfl, hk, ?_, pr⟩
  generalize e : dctI kvs = d at h
  generalize em : (none : Option Nat) = m at h
  generalize ev : V.ref a = v at h
  cases h with
  | sh r => cases em
  | flat r f => subst e; rw [flat_dI] at f; cases f
  | lst _ _ _ => simp [dctI, mkDict] at e
  | opq _ => cases kvs <;> simp [dctI, mkDict, opD] at e
  | wtp _ => cases kvs <;> simp [dctI, mkDict, wtD] at e
  | ins _ _ _ _ _ => cases kvs <;> simp [dctI, mkDict, insD] at e
  | tup _ _ => simp [dctI, mkDict] at e
  | dct _ _ _ _ => cases ev; exact List.mem_cons_self
theorem RO.dT_inv {v : V} {kvs : List (List Int × D)} {l : List Addr} (h : RO K A H none v (dctT kvs) l) : ∃ a k', v = .ref a ∧ H a = some (.dT k') ∧ a ∈ l ∧ PrT K (fun _ => True) H k' kvs := by
  have hr : RS K (fun _ => True) H v (dctT kvs) := RO.share (RO.mono (fun _ _ _ _ => trivial) h) fun _ _ => trivial
  obtain ⟨a, k', rfl, hk, _, pr⟩ := hr.dT_inv
  refine ⟨a, k', rfl, hk, ?_, pr⟩
  generalize e : dctT kvs = d at h
  generalize em : (none : Option Nat) = m at h
  generalize ev : V.ref a = v at h
  cases h with
  | sh r => cases em
  | flat r f => subst e; rw [flat_dT] at f; cases f
  | lst _ _ _ => simp [dctT, mkDict] at e
  | opq _ => cases kvs <;> simp [dctT, mkDict, opD] at e
  | wtp _ => cases kvs <;> simp [dctT, mkDict, wtD] at e
  | ins _ _ _ _ _ => cases kvs <;> simp [dctT, mkDict, insD] at e
  | tup _ _ => simp [dctT, mkDict] at e
  | dct _ _ _ _ => cases ev; exact List.mem_cons_self
theorem RO.mkI {a : Addr} {k' : List (Key × V)} {kvs : List (Int × D)} (ha : H a = some (.dK k')) (pr : PrI K (fun _ => True) H k' kvs) (f : flatKV kvs) : RO K A H none (.ref a) (dctI kvs) [a] := by
  refine RO.dct (l := []) (n := none) rfl (.inl ⟨rfl, k', ha, rfl⟩) ?_ ?_
  · have := pr.keys
    simpa [List.map_map, Function.comp_def] using this
  · have := flat_kidsM (A' := A) (m := none) pr.vals (flatKV_all f)
    simpa [List.map_map, Function.comp_def] using this
theorem RO.mkT {a : Addr} {k' : List (List Key × V)} {kvs : List (List Int × D)} (ha : H a = some (.dT k')) (pr : PrT K (fun _ => True) H k' kvs) (f : flatKV kvs) : RO K A H none (.ref a) (dctT kvs) [a] := by
  refine RO.dct (l := []) (n := none) rfl (.inr ⟨rfl, k', ha, rfl⟩) ?_ ?_
  · have := pr.keys
    simpa [List.map_map, Function.comp_def] using this
  · have := flat_kidsM (A' := A) (m := none) pr.vals (flatKV_all f)
    simpa [List.map_map, Function.comp_def] using this
end
def wDNewK : WE := fun env Q _ => Q ⟨dctI [], mA⟩ env
section
variable {X : Cx} {c : Cn} {W : WX} {pos tpos : Pos} {wd wk we : WE} {o i e : Expr} {k : Nat}
theorem flatKV_nil {κ : Type} : flatKV ([] : List (κ × D)) := fun _ h => by cases h
theorem ve_dnewK : PE X (.Dict [] [] pos) (rdE c W wDNewK) := PE.imp pe_dnewK fun σ H Q h => by
  obtain ⟨env, L, Tm, Qv, X, S, q, k, kx⟩ := h
  intro p np
  exact k ⟨dctI [], mA⟩ _ [p] L env _ q (Step.new S np) (RO.mkI upd_same .nil flatKV_nil)
def wDGet (wd wk : WE) : WE := fun env Q X => wd env (fun r e => wk e (fun rk e' =>
  (∃ kvs i d, r.d = dctI kvs ∧ rk.d = .int i ∧ lookK kvs i = some d ∧ flatD d = true ∧ Q ⟨d, mA⟩ e') ∨ ∃ kvs is d, r.d = dctT kvs ∧ rk.d = .tuple (is.map .int) ∧ lookK kvs is = some d ∧ flatD d = true ∧ Q ⟨d, mA⟩ e') X) X
theorem RS.tI_inv {K : PySem.W.Frag} {A : Addr → Prop} {H : Hp} {v : V} {is : List Int} (h : RS K A H v (.tuple (is.map .int))) : ∃ a, v = .ref a ∧ H a = some (.tup ((is.map (Sum.inl : Int → Key)).map kV)) := by
  obtain ⟨a, xs, rfl, ha, r⟩ := h.tup_inv
  refine ⟨a, rfl, ?_⟩
  rw [rs_ints_inv r] at ha
  rw [ha, List.map_map]; rfl
theorem ve_dget (hr : Room k X.A) (ho : PE X o (rdE c W wd)) (hi : PE X i (rdE c W wk)) (hs : NoSl i := by exact fun _ _ => rfl) : PE X (.Subscript o i pos) (rdE c W (wDGet wd wk)) := PE.imp (pe_dget (by have := hr.un; omega) ho hi hs) fun σ H Q h => by
  obtain ⟨env, L, Tm, Qv, X, S, q, k, kx⟩ := h
  refine ⟨env, L, Tm, _, X, S, q, fun r v l L1 env1 H1 h1 st1 r1 => ?_, kx⟩
  refine ⟨env1, L1, Tm ++ l, _, X, st1.sim, h1, fun rk y lb L2 env2 H2 h2 st2 r2 => ?_, kx.step st1⟩
  have r1' := (r1.keep st2.same st2.gr).read
  rcases h2 with ⟨kvs, i, d, e1, e2, e3, f, h2⟩ | ⟨kvs, is, d, e1, e2, e3, f, h2⟩
  · obtain ⟨dk, mk⟩ := rk
    cases e2
    have r2' := r2.read
    cases r2'
    rw [e1] at r1'
    obtain ⟨a, k', rfl, hk, _, pr⟩ := r1'.dI_inv
    rcases pr.look i with ⟨z, _⟩ | ⟨d', v', z1, z2, z3⟩
    · rw [z] at e3; cases e3
    · rw [z1] at e3
      have ed := Option.some.inj e3
      subst ed
      refine ⟨a, v', rfl, ?_, k ⟨d', mA⟩ _ [] L2 env2 H2 h2 (st1.trans st2).drop (Res.flat z3 f)⟩
      rw [← z2]; exact DGet.k (k := .inl i) hk
  · have r2' := r2.read
    rw [e2] at r2'
    obtain ⟨b, rfl, hb⟩ := r2'.tI_inv
    rw [e1] at r1'
    obtain ⟨a, k', rfl, hk, _, pr⟩ := r1'.dT_inv
    rcases pr.look is with ⟨z, _⟩ | ⟨d', v', z1, z2, z3⟩
    · rw [z] at e3; cases e3
    · rw [z1] at e3
      have ed := Option.some.inj e3
      subst ed
      refine ⟨a, v', rfl, ?_, k ⟨d', mA⟩ _ [] L2 env2 H2 h2 (st1.trans st2).drop (Res.flat z3 f)⟩
      rw [← z2]; exact DGet.t hk hb
def wDIn (b : Bool) (wk wd : WE) : WE := fun env Q X => wk env (fun rk e => wd e (fun r e' =>
  (∃ kvs i, r.d = dctI kvs ∧ rk.d = .int i ∧ Q ⟨.bool (b == (lookK kvs i).isSome), mA⟩ e') ∨ ∃ kvs is, r.d = dctT kvs ∧ rk.d = .tuple (is.map .int) ∧ Q ⟨.bool (b == (lookK kvs is).isSome), mA⟩ e') X) X
theorem rd_din {K : PySem.W.Frag} {σ : Sg} {H : Hp} {Q : VK} {b : Bool} (h : rdE c W (wDIn b wk wd) σ H Q) : rdE c W wk σ H fun y H1 => rdE c W wd σ H1 fun x H2 => ∃ a o, x = .ref a ∧ DGet H2 a y o ∧ Q (.bl (b == o.isSome)) H2 := by
  obtain ⟨env, L, Tm, Qv, X, S, q, k, kx⟩ := h
  refine ⟨env, L, Tm, _, X, S, q, fun rk y l L1 env1 H1 h1 st1 r1 => ?_, kx⟩
  refine ⟨env1, L1, Tm ++ l, _, X, st1.sim, h1, fun r v lb L2 env2 H2 h2 st2 r2 => ?_, kx.step st1⟩
  have r1' := (r1.keep st2.same st2.gr).read
  have r2' := r2.read
  rcases h2 with ⟨kvs, i, e1, e2, h2⟩ | ⟨kvs, is, e1, e2, h2⟩
  · rw [e2] at r1'
    cases r1'
    rw [e1] at r2'
    obtain ⟨a, k', rfl, hk, _, pr⟩ := r2'.dI_inv
    refine ⟨a, valV k' (.inl i), rfl, DGet.k (k := .inl i) hk, ?_⟩
    have e : (valV k' (.inl i)).isSome = (lookK kvs i).isSome := by
      rcases pr.look i with ⟨z1, z2⟩ | ⟨d', v', z1, z2, z3⟩
      · rw [z1, z2]; rfl
      · rw [z1, z2]; rfl
    rw [e]
    exact k ⟨.bool _, mA⟩ _ [] L2 env2 H2 h2 (st1.trans st2).drop (Res.flat (A := fun _ => True) (.bl _) rfl)
  · rw [e2] at r1'
    obtain ⟨b', rfl, hb⟩ := r1'.tI_inv
    rw [e1] at r2'
    obtain ⟨a, k', rfl, hk, _, pr⟩ := r2'.dT_inv
    refine ⟨a, valV k' (is.map .inl), rfl, DGet.t hk hb, ?_⟩
    have e : (valV k' (is.map .inl)).isSome = (lookK kvs is).isSome := by
      rcases pr.look is with ⟨z1, z2⟩ | ⟨d', v', z1, z2, z3⟩
      · rw [z1, z2]; rfl
      · rw [z1, z2]; rfl
    rw [e]
    exact k ⟨.bool _, mA⟩ _ [] L2 env2 H2 h2 (st1.trans st2).drop (Res.flat (A := fun _ => True) (.bl _) rfl)
theorem beq_true_b (b : Bool) : (true == b) = b := by cases b <;> rfl
theorem beq_false_b (b : Bool) : (false == b) = !b := by cases b <;> rfl
theorem vt_din (hr : Room k X.A) (hi : PE X i (rdE c W wk)) (ho : PE X o (rdE c W wd)) (hm : behindInMarks .In o = false := by first | exact nomark _ | with_unfolding_all rfl) : PT X (.Compare i [.In] [o] pos) (rdT c W (wTest (wDIn true wk wd))) := PT.imp (pt_cmp (pc_din (by have := hr.un; omega) hi ho) hm) fun σ H Q h => by
  refine rd_test' (t := tDIn (rdE c W wk) (rdE c W wd)) (fun σ H Q h => ?_) h
  have := rd_din (K := c.K) h
  simp only [beq_true_b] at this
  exact this
theorem vt_dnotin (hr : Room k X.A) (hi : PE X i (rdE c W wk)) (ho : PE X o (rdE c W wd)) (hm : behindInMarks .NotIn o = false := by first | exact nomark _ | with_unfolding_all rfl) : PT X (.Compare i [.NotIn] [o] pos) (rdT c W (wTest (wDIn false wk wd))) := PT.imp (pt_cmp (pc_dnotin (by have := hr.un; omega) hi ho) hm) fun σ H Q h => by
  refine rd_test' (t := tDNotIn (rdE c W wk) (rdE c W wd)) (fun σ H Q h => ?_) h
  have := rd_din (K := c.K) h
  simp only [beq_false_b] at this
  exact this
def wDPut (j : Nat) (wk we : WE) : WS := fun env Dv => we env (fun r e => flatD r.d = true ∧ (∃ d m, e[j]? = some (some (d, m))) ∧ wk e (fun rk e2 =>
  (∃ kvs i, e2[j]? = some (some (dctI kvs, mA)) ∧ rk.d = .int i ∧ flatKV kvs ∧ kvs.length < 1000000 ∧ Dv.nx (killB (e2.set j (some (dctI (putKK kvs i r.d), mA))))) ∨
  ∃ kvs is, e2[j]? = some (some (dctT kvs, mA)) ∧ rk.d = .tuple (is.map .int) ∧ flatKV kvs ∧ kvs.length < 1000000 ∧ Dv.nx (killB (e2.set j (some (dctT (putKK kvs is r.d), mA))))) Dv.ex) Dv.ex
theorem vs_dput {x : Str} {px : Pos} (j : Nat) (hr : Room k X.A) (hi : PE X i (rdE c W wk)) (he : PE X e (rdE c W we)) (hN : X.N[j]? = some x := by rfl)
    (hx : PE X (.Name x px) (tVar j) := by exact pe_var (by rfl) (by first | exact Or.inl rfl | exact Or.inr (Or.inl rfl) | exact Or.inr (Or.inr rfl)) (by decide) (by decide))
    (hs : swapsWith e (some (.Subscript (.Name x px) i tpos)) pos.line X.env = pure false := by rfl) :
    PS X (.Assign [.Subscript (.Name x px) i tpos] e pos) (rdS c W (wDPut j wk we)) := PS.imp (ps_dput (by have := hr.un; omega) hx hi he hs) fun D σ H h => by
  obtain ⟨env, L, Dv, S, q, kn, kr, kx⟩ := h
  refine rd_first S q kx fun r v l L1 env1 H1 ⟨fr, ⟨d0, m0, ej⟩, h1⟩ S1 hr1 => ?_
  obtain ⟨vx, lx, hvx, _, rx⟩ := S1.sl.get ej
  refine ⟨vx, hvx, ?_⟩
  have S1' : Sim c L1 [] env1 σ H1 := Sim.drop (Tm := []) (l := l) S1
  refine rd_arg S1' h1 kx fun rk y l2 L2 env2 H2 h2 sm S2 hr2 => ?_
  have r2' := hr2.read
  have rv : RS c.K (fun _ => True) H2 v r.d := (hr1.read.keep (Kp.same sm)).flat fr
  rcases h2 with ⟨kvs, i, e1, e2, f, hl, h2⟩ | ⟨kvs, is, e1, e2, f, hl, h2⟩
  · rw [e2] at r2'
    cases r2'
    obtain ⟨v1, l1, hv1, hL1, ro⟩ := S2.sl.get e1
    rw [hvx] at hv1; cases hv1
    obtain ⟨a, k', rfl, hk, al, pr⟩ := (RO.dI_inv ro.dep)
    have kp : Kp (fun _ => False) H2 (upd H2 a (.dK (putK k' (.inl i) v))) := Kp.write hk trivial fun z => z
    have rv2 : RS c.K (fun _ => True) (upd H2 a (.dK (putK k' (.inl i) v))) v r.d := ((rv.flat (A' := fun _ => False) fr).keep kp).flat fr
    have S3 := S2.change (i := j) (d := dctI (putKK kvs i r.d)) (m := none) (li := [a]) (o' := .dK (putK k' (.inl i) v)) hvx hL1 al hk trivial (RO.mkI upd_same ((pr.keep f kp).put i rv2) (putKK_all (p := fun d => flatD d = true) f fr)) (fun b hb => by rw [List.mem_singleton.mp hb]; exact .inl al) (by simp)
    exact ⟨a, _, rfl, DPut.k (k := .inl i) hk (by rw [pr.len]; exact line_big hl), kn _ _ σ _ h2 S3⟩
  · rw [e2] at r2'
    obtain ⟨b, rfl, hb⟩ := r2'.tI_inv
    obtain ⟨v1, l1, hv1, hL1, ro⟩ := S2.sl.get e1
    rw [hvx] at hv1; cases hv1
    obtain ⟨a, k', rfl, hk, al, pr⟩ := (RO.dT_inv ro.dep)
    have kp : Kp (fun _ => False) H2 (upd H2 a (.dT (putK k' (is.map .inl) v))) := Kp.write hk trivial fun z => z
    have rv2 : RS c.K (fun _ => True) (upd H2 a (.dT (putK k' (is.map .inl) v))) v r.d := ((rv.flat (A' := fun _ => False) fr).keep kp).flat fr
    have S3 := S2.change (i := j) (d := dctT (putKK kvs is r.d)) (m := none) (li := [a]) (o' := .dT (putK k' (is.map .inl) v)) hvx hL1 al hk trivial (RO.mkT upd_same ((pr.keep f kp).put is rv2) (putKK_all (p := fun d => flatD d = true) f fr)) (fun b hb => by rw [List.mem_singleton.mp hb]; exact .inl al) (by simp)
    exact ⟨a, _, rfl, DPut.t hk hb (by rw [pr.len]; exact line_big hl), kn _ _ σ _ h2 S3⟩
end
end VL
set_option maxRecDepth 100000
set_option maxHeartbeats 4000000
namespace VL
open PySem PySem.Spec PyProof.Rows L2
def seedF (ns : List Int) : Int := ns.foldl (fun s c => (s * 48271 + c % 1000003 + 1) % 2147483647) 5
def cellF (ns : List Int) (p : Int) : Int := if p < ns.length then (ns[p.toNat]?).getD 0 else (seedF (cutL ns none (some 63)) + 7919 * p) % 1000003
def mixF (c k : Int) : Int := (((c % 2147483629 + 1013 * k + 7919) ^ 3 % 2147483647) * 40699 + 3793 * k * k + 11) % 2147483399 / 101
def rowSt (ns : List Int) (p c : Int) (sz : List Int) : Nat → Int × List Int
  | 0 => (c, [])
  | k + 1 => if c < 10 ^ 18 then ((rowSt ns p c sz k).1, (rowSt ns p c sz k).2 ++ [mixF c k % (sz[k]?).getD 1])
    else if 0 < (rowSt ns p c sz k).1 then ((rowSt ns p c sz k).1 / (sz[k]?).getD 1, (rowSt ns p c sz k).2 ++ [(rowSt ns p c sz k).1 % (sz[k]?).getD 1])
    else ((rowSt ns p c sz k).1, (rowSt ns p c sz k).2 ++ [mixF (cellF ns ((p + 1 + k) % 63)) k % (sz[k]?).getD 1])
def rowF (ns : List Int) (p : Int) (sz : List Int) : List Int := (rowSt ns p (cellF ns p) sz sz.length).2
def RowIn : List Int → List Int → Prop
  | [], [] => True
  | s :: r, x :: xs => (0 ≤ x ∧ x < s) ∧ RowIn r xs
  | _, _ => False
theorem RowIn.of : ∀ {sz xs : List Int}, xs.length = sz.length → (∀ (i : Nat) s x, sz[i]? = some s → xs[i]? = some x → 0 ≤ x ∧ x < s) → RowIn sz xs
  | [], [], _, _ => True.intro
  | [], _ :: _, h, _ => by cases h
  | _ :: _, [], h, _ => by cases h
  | s :: sz, x :: xs, h, q => ⟨q 0 s x rfl rfl, RowIn.of (by simpa using h) fun i s x h1 h2 => q (i + 1) s x (by simpa using h1) (by simpa using h2)⟩
def sp_law_cell : FSpec := fun ds Q _ => ∃ ns p, ds = [scriptD ns, .int p] ∧ 0 ≤ p ∧ p < 1000 ∧ ns.length ≤ 63 ∧ Q ⟨.int (cellF ns p), mA⟩
def sp_law_mix : FSpec := fun ds Q _ => ∃ c k, ds = [.int c, .int k] ∧ 0 ≤ k ∧ k < 10000 ∧ Q ⟨.int (mixF c k), mA⟩
def sp_law_row : FSpec := fun ds Q _ => ∃ (ns : List Int) (p : Int) (sz : List Int), ds = [scriptD ns, .int p, .list (sz.map .int)] ∧ 0 ≤ p ∧ p < 1000 ∧ ns.length ≤ 63 ∧ sz.length ≤ 500 ∧ (∀ s ∈ sz, 0 < s ∧ s < 2 ^ 5000) ∧ Q ⟨.list ((rowF ns p sz).map .int), mA⟩
end VL
set_option maxRecDepth 100000
set_option maxHeartbeats 4000000
namespace VL
open PySem PySem.Spec PyProof.Rows L2
def Shape (n : Nat) (t : List (List Int)) : Prop := t.length = n ∧ ∀ r ∈ t, r.length = n ∧ ∀ x ∈ r, 0 ≤ x ∧ x < n
def ent (t : List (List Int)) (a b : Int) : Int := ((t[a.toNat]?).getD [])[b.toNat]?.getD 0
def cellG (w n f a b : Int) : Int :=
  if w = 1 then (2 * b - a) % n else if w = 2 then (f * a + (1 - f) * b) % n
  else if w = 3 ∧ n > 2 ∧ a < 2 ∧ b = n - 1 then 1 - a
  else if w = 6 ∧ a < n - 1 ∧ b = n - 1 then (a + 1) % (n - 1)
  else if w = 4 ∧ a < n / 2 ∧ b < n / 2 then (2 * b - a) % (n / 2)
  else if w = 4 ∧ a ≥ n / 2 ∧ b ≥ n / 2 then n / 2 + (2 * b - a - n / 2) % (n - n / 2)
  else a
theorem cellG_range {w n f a b : Int} (hn : 1 ≤ n) (h0 : 0 ≤ a) (h1 : a < n) : 0 ≤ cellG w n f a b ∧ cellG w n f a b < n := by
  have md : ∀ x k : Int, 0 < k → 0 ≤ x % k ∧ x % k < k := fun x k h => ⟨Int.emod_nonneg _ (by omega), Int.emod_lt_of_pos _ h⟩
  unfold cellG
  split
  · exact md _ _ (by omega)
  split
  · exact md _ _ (by omega)
  split
  · omega
  split
  · rename_i h
    have := md (a + 1) (n - 1) (by omega)
    omega
  split
  · rename_i h
    have := md (2 * b - a) (n / 2) (by omega)
    omega
  split
  · rename_i h
    have := md (2 * b - a - n / 2) (n - n / 2) (by omega)
    omega
  · omega
def tabT (g : Int → Int → Int) (n : Nat) : List (List Int) := (List.range n).map fun a : Nat => (List.range n).map fun b : Nat => g (a : Nat) (b : Nat)
def madeT (w : Int) (n : Nat) (f : Int) : List (List Int) := if w = 5 ∧ n = 4 then [[0, 3, 1, 2], [2, 1, 3, 0], [3, 0, 2, 1], [1, 2, 0, 3]] else tabT (cellG w n f) n
theorem tabT_shape {g : Int → Int → Int} {n : Nat} (h : ∀ a b : Nat, a < n → b < n → 0 ≤ g a b ∧ g a b < n) : Shape n (tabT g n) := by
  refine ⟨by simp [tabT], fun r hr => ?_⟩
  obtain ⟨a, ha, rfl⟩ := List.mem_map.mp hr
  refine ⟨by simp, fun x hx => ?_⟩
  obtain ⟨b, hb, rfl⟩ := List.mem_map.mp hx
  exact h a b (by simpa using ha) (by simpa using hb)
theorem madeT_shape {w f : Int} {n : Nat} (hn : 1 ≤ n) : Shape n (madeT w n f) := by
  unfold madeT
  split
  · rename_i h
    obtain ⟨_, rfl⟩ := h
    unfold Shape
    decide
  · exact tabT_shape fun a b ha hb => cellG_range (by omega) (by omega) (by omega)
def rgI (n : Nat) : List Int := (List.range n).map fun i : Nat => (i : Int)
def Relaid (n : Nat) (t : List (List Int)) (s : List Int) (r : List (List Int)) : Prop := Shape n r ∧ ∀ a b : Nat, a < n → b < n → ent r ((s[a]?).getD 0) ((s[b]?).getD 0) = (s[(ent t a b).toNat]?).getD 0
def Made (n : Nat) (t : List (List Int)) : Prop := ∃ w f : Int, 0 ≤ w ∧ w < 7 ∧ 1 ≤ f ∧ f ≤ 1000 ∧ Int.gcd f n = 1 ∧ t = madeT w n f
def IsTab (n : Nat) (t : List (List Int)) : Prop := Made n t ∨ ∃ t0 s, Made n t0 ∧ s.Perm (rgI n) ∧ Relaid n t0 s t
theorem Made.shape {n : Nat} {t : List (List Int)} (hn : 1 ≤ n) (h : Made n t) : Shape n t := by
  obtain ⟨w, f, _, _, _, _, _, rfl⟩ := h
  exact madeT_shape hn
theorem IsTab.shape {n : Nat} {t : List (List Int)} (hn : 1 ≤ n) (h : IsTab n t) : Shape n t := by
  rcases h with h | ⟨t0, s, _, _, h⟩
  · exact h.shape hn
  · exact h.1
def sp_law_is_whole : FSpec := fun ds Q _ => ∃ n, ds = [.int n] ∧ Q ⟨.bool true, mA⟩
end VL
set_option maxRecDepth 100000
set_option maxHeartbeats 4000000
namespace VL
open PySem PySem.Spec PyProof.Rows L2
def atR (r : List Int) (a : Int) : Int := (r[a.toNat]?).getD 0
theorem ent_rg {t : List (List Int)} {n : Nat} {a b : Int} (h : Shape n t) (a0 : 0 ≤ a) (a1 : a < n) (b0 : 0 ≤ b) (b1 : b < n) : 0 ≤ ent t a b ∧ ent t a b < n := by
  have hl : a.toNat < t.length := by rw [h.1]; omega
  obtain ⟨q1, q2⟩ := h.2 _ (List.getElem_mem hl)
  have hb : b.toNat < (t[a.toNat]).length := by rw [q1]; omega
  have e : ent t a b = (t[a.toNat])[b.toNat] := by
    unfold ent
    rw [List.getElem?_eq_getElem hl]
    show ((t[a.toNat])[b.toNat]?).getD 0 = _
    rw [List.getElem?_eq_getElem hb]; rfl
  rw [e]
  exact q2 _ (List.getElem_mem hb)
section
variable {env e : VEnv} {Dv : DV} {q : R → Prop} {m m' : Md} {ds : List D} {t : List (List Int)} {r : List Int} {n : Nat} {a b A B v : Int} {i k : Nat} {wi : WE} {X : Exn → VEnv → Prop} {Q : Nat → List Int → VEnv → Prop}
end
section
variable {t : List (List Int)} {r : List Int} {m m' : Md} {q : R → Prop}
end
section
variable {wa : WE} {w : WS} {Dv : DV} {t : List (List Int)} {r : List Int} {m : Md} {i : Nat} {e : VEnv}
end
end VL
set_option maxRecDepth 100000
set_option maxHeartbeats 4000000
namespace VL
open PySem PySem.Spec PyProof.Rows L2
section
variable {env e : VEnv} {Dv : DV} {q : R → Prop} {m m' : Md} {ds : List D} {t : List (List Int)} {r : List Int} {s : List (Int × Int)} {n : Nat} {a b A B v : Int} {i j k : Nat} {wi we wd wk wa wl : WE} {w : WS} {X : Exn → VEnv → Prop} {Q : R → VEnv → Prop}
end
end VL
set_option maxRecDepth 100000
set_option maxHeartbeats 4000000
namespace VL
open PySem PySem.Spec PyProof.Rows L2
def AskedB (K : PySem.W.Frag) (cl : Str → Option Addr) (y : String) (l : List Str) : Prop := ∀ x D, cl x = some D → PySem.W.kitOne K (.ref D) (.type y) = some (l.contains x)
def KitTAt (K : PySem.W.Frag) (x : Str) (y : String) (b : Bool) : Prop := ∃ C : Addr, PySem.W.nsIn K mainGlobals x = some (some (.ref C)) ∧ PySem.W.kitOne K (.ref C) (.type y) = some b
theorem KitTAt.mk {K : PySem.W.Frag} {x : Str} {y : String} {b : Bool} {C : Addr} (h1 : PySem.W.nsIn K mainGlobals x = some (some (.ref C))) (h2 : PySem.W.kitOne K (.ref C) (.type y) = some b) : KitTAt K x y b := ⟨C, h1, h2⟩
section
variable {P : Program} {w : World} {K : PySem.W.Frag} {mg : Str → Option Value} {base h : Heap} {names : List Str}
theorem askedB_of {y : String} {l : List Str} (X : K.In h) (G : h.Ns mainGlobals mg) (hl : ∀ x, names.contains x = true → KitTAt K x y (l.contains x)) : AskedB K (clOf names mg) y l := by
  intro x D ex
  obtain ⟨h1, h2⟩ := clOf_inv ex
  obtain ⟨C, e1, e2⟩ := hl x h1
  have g := PySem.W.mg_of X G e1
  rw [h2] at g
  cases g
  exact e2
end
section
variable {X : Cx} {c : Cn} {W : WX} {pos : Pos}
end
end VL
set_option maxRecDepth 100000
set_option maxHeartbeats 4000000
namespace VL
open PySem PySem.Spec PyProof.Rows L2
section
variable {X : Cx} {c : Cn} {W : WX} {pos p p2 pos2 : Pos} {wa wb : WE} {a b : Expr}
end
end VL
set_option maxRecDepth 100000
set_option maxHeartbeats 4000000
namespace VL
open PySem PySem.Spec PyProof.Rows L2
inductive Out (α : Type) where
  | ok (a : α) | exn (x : Exn) | stuck
namespace Out
variable {α β γ : Type}
def bind (m : Out α) (k : α → Out β) : Out β := match m with | .ok a => k a | .exn x => .exn x | .stuck => .stuck
def map (f : α → β) (m : Out α) : Out β := m.bind fun a => .ok (f a)
@[simp] theorem bind_ok (a : α) (k : α → Out β) : (Out.ok a).bind k = k a := Eq.trans rfl rfl
@[simp] theorem bind_exn (x : Exn) (k : α → Out β) : (Out.exn x).bind k = .exn x := Eq.trans rfl rfl
@[simp] theorem bind_stuck (k : α → Out β) : (Out.stuck : Out α).bind k = .stuck := Eq.trans rfl rfl
@[simp] theorem bind_assoc (m : Out α) (k : α → Out β) (l : β → Out γ) : (m.bind k).bind l = m.bind fun a => (k a).bind l := by cases m <;> rfl
@[simp] theorem map_ok (a : α) (f : α → β) : (Out.ok a).map f = .ok (f a) := Eq.trans rfl rfl
@[simp] theorem bind_id (m : Out α) : (m.bind fun a => .ok a) = m := by cases m <;> rfl
end Out
def lift {α : Type} : Option α → Out α | some a => .ok a | none => .stuck
@[simp] theorem lift_some {α : Type} (a : α) : lift (some a) = .ok a := Eq.trans rfl rfl
@[simp] theorem lift_none {α : Type} : lift (none : Option α) = .stuck := Eq.trans rfl rfl
def noX {α : Type} : Out α → Out α | .exn _ => .stuck | m => m
@[simp] theorem noX_ok {α : Type} (a : α) : noX (.ok a) = .ok a := Eq.trans rfl rfl
def Sat {α : Type} (m : Out α) (Q : α → Prop) (X : Exn → Prop) : Prop := match m with | .ok a => Q a | .exn x => X x | .stuck => False
section
variable {α β : Type} {m : Out α} {k : α → Out β} {Q Q' : α → Prop} {R : β → Prop} {X X' : Exn → Prop}
@[simp] theorem sat_ok {a : α} : Sat (.ok a) Q X ↔ Q a := ⟨fun h => h, fun h => h⟩
@[simp] theorem sat_exn {x : Exn} : Sat (.exn x : Out α) Q X ↔ X x := ⟨fun h => h, fun h => h⟩
@[simp] theorem sat_stuck : Sat (.stuck : Out α) Q X ↔ False := ⟨fun h => h, fun h => h⟩
theorem sat_bind : Sat (m.bind k) R X ↔ Sat m (fun a => Sat (k a) R X) X := by cases m <;> exact Iff.rfl
theorem Sat.mono (h : Sat m Q X) (hq : ∀ a, Q a → Q' a) (hx : ∀ x, X x → X' x) : Sat m Q' X' := by
  cases m with
  | ok a => exact hq _ h
  | exn x => exact hx _ h
  | stuck => exact h
theorem Sat.imp (h : Sat m Q X) (hq : ∀ a, Q a → Q' a) : Sat m Q' X := h.mono hq fun _ h => h
theorem sat_lift {α : Type} {o : Option α} {Q : α → Prop} {X : Exn → Prop} : Sat (lift o) Q X ↔ ∃ a, o = some a ∧ Q a := by cases o <;> simp
theorem sat_noX : Sat (noX m) Q X ↔ Sat m Q fun _ => False := by cases m <;> exact Iff.rfl
theorem Sat.eq (h : Sat m (fun a => a = v) fun _ => False) : m = .ok v := by
  cases m with
  | ok a => exact congrArg _ h
  | exn x => exact h.elim
  | stuck => exact h.elim
end
inductive Fl (ρ σ : Type) where
  | ret (r : ρ) | nxt (s : σ)
def flowT {ρ σ : Type} (k : σ → Out ρ) : Fl ρ σ → Out ρ | .ret r => .ok r | .nxt s => k s
def flowF {ρ σ τ : Type} (k : σ → Out (Fl ρ τ)) : Fl ρ σ → Out (Fl ρ τ) | .ret r => .ok (.ret r) | .nxt s => k s
@[simp] theorem flowT_ret {ρ σ : Type} (k : σ → Out ρ) (r : ρ) : flowT k (.ret r) = .ok r := Eq.trans rfl rfl
@[simp] theorem flowT_nxt {ρ σ : Type} (k : σ → Out ρ) (s : σ) : flowT k (.nxt s) = k s := Eq.trans rfl rfl
@[simp] theorem flowF_ret {ρ σ τ : Type} (k : σ → Out (Fl ρ τ)) (r : ρ) : flowF k (.ret r) = .ok (.ret r) := Eq.trans rfl rfl
@[simp] theorem flowF_nxt {ρ σ τ : Type} (k : σ → Out (Fl ρ τ)) (s : σ) : flowF k (.nxt s) = k s := Eq.trans rfl rfl
section
variable {α β σ ρ : Type}
def forO (f : σ → α → Out σ) : σ → List α → Out σ
  | s, [] => .ok s
  | s, x :: xs => (f s x).bind fun s' => forO f s' xs
def forF (f : σ → α → Out (Fl ρ σ)) : σ → List α → Out (Fl ρ σ)
  | s, [] => .ok (.nxt s)
  | s, x :: xs => (f s x).bind (flowF fun s' => forF f s' xs)
def mapO (f : α → Out β) : List α → Out (List β)
  | [] => .ok []
  | x :: xs => (f x).bind fun y => (mapO f xs).bind fun ys => .ok (y :: ys)
def fmapO (p : α → Out Bool) (f : α → Out β) : List α → Out (List β)
  | [] => .ok []
  | x :: xs => (p x).bind fun b => if b = true then (f x).bind fun y => (fmapO p f xs).bind fun ys => .ok (y :: ys) else fmapO p f xs
def whileO (c : σ → Out Bool) (f : σ → Out σ) : Nat → σ → Out σ
  | 0, _ => .stuck
  | n + 1, s => (c s).bind fun b => if b = true then (f s).bind fun s' => whileO c f n s' else .ok s
end
@[irreducible] def fuel : Nat := 1000000000
abbrev Enc (α : Type) := α → D
def eI : Enc Int := PyData.int
def eB : Enc Bool := PyData.bool
def eS : Enc Str := PyData.str
def eN : Enc Unit := fun _ => PyData.none
def eScr : Enc (List Int) := scriptD
section
variable {α β γ δ ε ζ : Type}
def eL (e : Enc α) : Enc (List α) := fun xs => .list (xs.map e)
def eTL (e : Enc α) : Enc (List α) := fun xs => .tuple (xs.map e)
def e2 (a : Enc α) (b : Enc β) : Enc (α × β) := fun p => .tuple [a p.1, b p.2]
def e3 (a : Enc α) (b : Enc β) (c : Enc γ) : Enc (α × β × γ) := fun p => .tuple [a p.1, b p.2.1, c p.2.2]
def e4 (a : Enc α) (b : Enc β) (c : Enc γ) (d : Enc δ) : Enc (α × β × γ × δ) := fun p => .tuple [a p.1, b p.2.1, c p.2.2.1, d p.2.2.2]
def e5 (a : Enc α) (b : Enc β) (c : Enc γ) (d : Enc δ) (e : Enc ε) : Enc (α × β × γ × δ × ε) := fun p => .tuple [a p.1, b p.2.1, c p.2.2.1, d p.2.2.2.1, e p.2.2.2.2]
def e6 (a : Enc α) (b : Enc β) (c : Enc γ) (d : Enc δ) (e : Enc ε) (f : Enc ζ) : Enc (α × β × γ × δ × ε × ζ) := fun p => .tuple [a p.1, b p.2.1, c p.2.2.1, d p.2.2.2.1, e p.2.2.2.2.1, f p.2.2.2.2.2]
def eO (e : Enc α) : Enc (Option α) | none => .none | some a => e a
def eU (a : Enc α) (b : Enc β) : Enc (α ⊕ β) | .inl x => a x | .inr y => b y
def eK (e : Enc α) : Enc (List (Int × α)) := fun kvs => dctI (kvs.map fun p => (p.1, e p.2))
def eKT (e : Enc α) : Enc (List (List Int × α)) := fun kvs => dctT (kvs.map fun p => (p.1, e p.2))
end
class Fl_ {α : Type} (e : Enc α) : Prop where
  fl : ∀ a, flatD (e a) = true
class Nf {α : Type} (e : Enc α) : Prop where
  nf : ∀ a, flatD (e a) = false
section
variable {α β γ δ ε ζ : Type} {a : Enc α} {b : Enc β} {c : Enc γ} {d : Enc δ} {e : Enc ε} {f : Enc ζ}
instance : Fl_ eI := ⟨fun _ => rfl⟩
instance : Fl_ eB := ⟨fun _ => rfl⟩
instance : Fl_ eS := ⟨fun _ => rfl⟩
instance : Fl_ eN := ⟨fun _ => rfl⟩
instance : Nf eScr := ⟨fun _ => flat_script⟩
instance : Nf (eL a) := ⟨fun _ => rfl⟩
instance : Nf (eK a) := ⟨fun _ => flat_dI _⟩
instance : Nf (eKT a) := ⟨fun _ => flat_dT _⟩
theorem flatAll_map [h : Fl_ a] (xs : List α) : flatAll (xs.map a) = true := by
  induction xs with
  | nil => rfl
  | cons x xs ih => simp [flatAll, h.fl, ih]
instance [Fl_ a] : Fl_ (eTL a) := ⟨fun xs => by simpa [eTL, flatD] using flatAll_map xs⟩
instance [h : Fl_ a] : Fl_ (eO a) := ⟨fun | none => rfl | some x => h.fl x⟩
instance [h : Fl_ a] [g : Fl_ b] : Fl_ (eU a b) := ⟨fun | .inl x => h.fl x | .inr x => g.fl x⟩
instance [ha : Fl_ a] [hb : Fl_ b] : Fl_ (e2 a b) := ⟨fun p => by simp [e2, flatD, flatAll, ha.fl, hb.fl]⟩
instance [ha : Fl_ a] [hb : Fl_ b] [hc : Fl_ c] : Fl_ (e3 a b c) := ⟨fun p => by simp [e3, flatD, flatAll, ha.fl, hb.fl, hc.fl]⟩
instance [ha : Fl_ a] [hb : Fl_ b] [hc : Fl_ c] [hd : Fl_ d] : Fl_ (e4 a b c d) := ⟨fun p => by simp [e4, flatD, flatAll, ha.fl, hb.fl, hc.fl, hd.fl]⟩
instance [ha : Fl_ a] [hb : Fl_ b] [hc : Fl_ c] [hd : Fl_ d] [he : Fl_ e] : Fl_ (e5 a b c d e) := ⟨fun p => by simp [e5, flatD, flatAll, ha.fl, hb.fl, hc.fl, hd.fl, he.fl]⟩
instance [ha : Fl_ a] [hb : Fl_ b] [hc : Fl_ c] [hd : Fl_ d] [he : Fl_ e] [hf : Fl_ f] : Fl_ (e6 a b c d e f) := ⟨fun p => by simp [e6, flatD, flatAll, ha.fl, hb.fl, hc.fl, hd.fl, he.fl, hf.fl]⟩
instance nf2a [h : Nf a] : Nf (e2 a b) := ⟨fun p => by simp [e2, flatD, flatAll, h.nf]⟩
instance nf2b [h : Nf b] : Nf (e2 a b) := ⟨fun p => by simp [e2, flatD, flatAll, h.nf]⟩
instance nf3a [h : Nf a] : Nf (e3 a b c) := ⟨fun p => by simp [e3, flatD, flatAll, h.nf]⟩
instance nf3b [h : Nf b] : Nf (e3 a b c) := ⟨fun p => by simp [e3, flatD, flatAll, h.nf]⟩
instance nf3c [h : Nf c] : Nf (e3 a b c) := ⟨fun p => by simp [e3, flatD, flatAll, h.nf]⟩
instance nf4d [h : Nf d] : Nf (e4 a b c d) := ⟨fun p => by simp [e4, flatD, flatAll, h.nf]⟩
instance nf4a [h : Nf a] : Nf (e4 a b c d) := ⟨fun p => by simp [e4, flatD, flatAll, h.nf]⟩
instance nf5e [h : Nf e] : Nf (e5 a b c d e) := ⟨fun p => by simp [e5, flatD, flatAll, h.nf]⟩
instance nf5a [h : Nf a] : Nf (e5 a b c d e) := ⟨fun p => by simp [e5, flatD, flatAll, h.nf]⟩
end
section
variable {α β σ ρ τ : Type}
abbrev EG := VEnv → Prop
def RE (G : EG) (w : WE) (env env' : VEnv) (md : Md) (e : Enc α) (m : Out α) : Prop :=
  ∀ (Q : R → VEnv → Prop) (X : Exn → VEnv → Prop) (Xe : Exn → Prop), (∀ x v, G v → Xe x → X x v) → Sat m (fun a => Q ⟨e a, md⟩ env') Xe → w env Q X
def RT (G : EG) (w : WT) (env : VEnv) (m : Out Bool) : Prop :=
  ∀ (Q : Bool → VEnv → Prop) (X : Exn → VEnv → Prop) (Xe : Exn → Prop), (∀ x v, G v → Xe x → X x v) → Sat m (fun a => Q a env) Xe → w env Q X
def RA (G : EG) (w : WA) (env env' : VEnv) (f : τ → List R) (m : Out τ) : Prop :=
  ∀ (Q : List R → VEnv → Prop) (X : Exn → VEnv → Prop) (Xe : Exn → Prop), (∀ x v, G v → Xe x → X x v) → Sat m (fun a => Q (f a) env') Xe → w env Q X
def RB (G : EG) (w : WS) (env : VEnv) (m : Out β) (K : β → DV → Prop) : Prop :=
  ∀ (D : DV) (Xe : Exn → Prop), (∀ x v, G v → Xe x → D.ex x v) → Sat m (fun b => K b D) Xe → w env D
def KN (s : σ → VEnv) : σ → DV → Prop := fun V D => ∀ e, envLe (s V) e → D.nx e
def KT (e : Enc ρ) (md : Md) : ρ → DV → Prop := fun r D => ∀ v, D.rt ⟨e r, md⟩ v
def KF (e : Enc ρ) (md : Md) (s : σ → VEnv) : Fl ρ σ → DV → Prop
  | .ret r, D => ∀ v, D.rt ⟨e r, md⟩ v
  | .nxt V, D => ∀ e, envLe (s V) e → D.nx e
def wCut (w : WS) : WS := fun env D => ∃ J : VEnv → Prop, w env { D with nx := fun e => ∃ e', envLe e' e ∧ J e' } ∧ ∀ e, J e → D.nx e
theorem rdS_cut {c : Cn} {W : WX} {w : WS} : ∀ D σ H, rdS c W (wCut w) D σ H → rdS c W w D σ H := fun D σ H h => by
  obtain ⟨env, L, Dv, S, ⟨J, hw, hJ⟩, hn, hr, hx⟩ := h
  refine ⟨env, L, _, S, hw, fun env' L' σ' H' q S' => ?_, hr, hx⟩
  obtain ⟨e', le, j⟩ := q
  obtain ⟨L0, S0⟩ := S'.lower le
  exact hn e' L0 σ' H' (hJ _ j) S0
theorem vs_cut {X : Cx} {c : Cn} {W : WX} {w : WS} {st : Stmt} (h : PS X st (rdS c W w)) : PS X st (rdS c W (wCut w)) := PS.imp h rdS_cut
end
end VL
set_option maxRecDepth 100000
set_option maxHeartbeats 4000000
namespace VL
open PySem PySem.Spec PyProof.Rows L2
section
variable {α β γ δ σ ρ τ : Type} {G : EG} {env env1 env2 env3 : VEnv} {md m1 m2 m3 : Md} {a : Enc α} {b : Enc β} {c : Enc γ} {d : Enc δ} {wa wb wc we : WE} {wl wl' : WA} {wt wu : WT} {A : Out α} {B : Out β} {C : Out γ} {x : α} {y : β} {z : γ} {wo wo' : WO}
theorem re_c (v : D) (e : Enc α) (x : α) (h : e x = v := by rfl) : RE G (wC v) env env mA e (.ok x) := fun Q X Xe _ hs => by
  subst h; exact hs
theorem re_vF (i : Nat) (e : Enc α) (x : α) {m : Md} [f : Fl_ e] (h : env[i]? = some (some (e x, m)) := by rfl) : RE G (wVar i) env env mA e (.ok x) := fun Q X Xe _ hs => by
  refine ⟨_, _, h, ?_⟩
  unfold readR
  rw [if_pos (f.fl x)]; exact hs
theorem re_vS (i : Nat) (e : Enc α) (x : α) [f : Nf e] (h : env[i]? = some (some (e x, mS)) := by rfl) : RE G (wVar i) env env mS e (.ok x) := fun Q X Xe _ hs => by
  refine ⟨_, _, h, ?_⟩
  unfold readR
  rw [f.nf x]; exact hs
theorem re_vA (i : Nat) (e : Enc α) (x : α) [f : Nf e] (h : env[i]? = some (some (e x, mA)) := by rfl) : RE G (wVar i) env env .b e (.ok x) := fun Q X Xe _ hs => by
  refine ⟨_, _, h, ?_⟩
  unfold readR
  rw [f.nf x]; exact hs
theorem re_vB (i : Nat) (e : Enc α) (x : α) [f : Nf e] (h : env[i]? = some (some (e x, .b)) := by rfl) : RE G (wVar i) env env .b e (.ok x) := fun Q X Xe _ hs => by
  refine ⟨_, _, h, ?_⟩
  unfold readR
  rw [f.nf x]; exact hs
theorem re_mF (i : Nat) (e : Enc α) (x : α) {m : Md} [f : Fl_ e] (h : env[i]? = some (some (e x, m)) := by rfl) : RE G (wMv i) env env mA e (.ok x) := fun Q X Xe _ hs => by
  refine ⟨_, _, h, ?_⟩
  rw [if_pos (f.fl x)]; exact hs
theorem re_mO (i : Nat) (e : Enc α) (x : α) {n : Option Nat} [f : Nf e] (h : env[i]? = some (some (e x, .o n)) := by rfl) : RE G (wMv i) env (env.set i none) (.o n) e (.ok x) := fun Q X Xe _ hs => by
  refine ⟨_, _, h, ?_⟩
  rw [f.nf x]; exact hs
def OpP (wo : WO) (a : Enc α) (m1 : Md) (b : Enc β) (m2 : Md) (op : α → β → γ) (c : Enc γ) (md : Md) : Prop := ∀ x y Q, Q ⟨c (op x y), md⟩ → wo ⟨a x, m1⟩ ⟨b y, m2⟩ Q
def OpO (wo : WO) (a : Enc α) (m1 : Md) (b : Enc β) (m2 : Md) (op : α → β → Option γ) (c : Enc γ) (md : Md) : Prop := ∀ x y z Q, op x y = some z → Q ⟨c z, md⟩ → wo ⟨a x, m1⟩ ⟨b y, m2⟩ Q
theorem re_2P {op : α → β → γ} (ho : OpP wo a m1 b m2 op c md) (ha : RE G wa env env1 m1 a (.ok x)) (hb : RE G wb env1 env2 m2 b (.ok y)) : RE G (wBin wo wa wb) env env2 md c (.ok (op x y)) := fun Q X Xe hX hs =>
  ha _ _ Xe hX (hb _ _ Xe hX (ho x y _ hs))
theorem re_2 {op : α → β → Out γ} (ho : ∀ x y Q Xe, Sat (op x y) (fun z => Q ⟨c z, md⟩) Xe → wo ⟨a x, m1⟩ ⟨b y, m2⟩ Q) (ha : RE G wa env env1 m1 a A) (hb : RE G wb env1 env2 m2 b B) : RE G (wBin wo wa wb) env env2 md c (A.bind fun x => B.bind fun y => op x y) := fun Q X Xe hX hs =>
  ha _ _ Xe hX ((sat_bind.mp hs).imp fun x hs => hb _ _ Xe hX ((sat_bind.mp hs).imp fun y hs => ho x y _ _ hs))
theorem re_2Q {op : α → β → Option γ} (ho : OpO wo a m1 b m2 op c md) (ha : RE G wa env env1 m1 a (.ok x)) (hb : RE G wb env1 env2 m2 b (.ok y)) : RE G (wBin wo wa wb) env env2 md c (lift (op x y)) := fun Q X Xe hX hs =>
  ha _ _ Xe hX (hb _ _ Xe hX (let ⟨_, hz, hs⟩ := sat_lift.mp hs; ho x y _ _ hz hs))
theorem opP_out {op : α → β → γ} (ho : OpP wo a m1 b m2 op c md) : ∀ x y Q Xe, Sat (.ok (op x y)) (fun z => Q ⟨c z, md⟩) Xe → wo ⟨a x, m1⟩ ⟨b y, m2⟩ Q := fun x y Q _ h => ho x y Q h
theorem opO_out {op : α → β → Option γ} (ho : OpO wo a m1 b m2 op c md) : ∀ x y Q Xe, Sat (lift (op x y)) (fun z => Q ⟨c z, md⟩) Xe → wo ⟨a x, m1⟩ ⟨b y, m2⟩ Q := fun x y Q _ h => let ⟨_, hz, hs⟩ := sat_lift.mp h; ho x y _ Q hz hs
theorem re_eq {m m' : Out α} (h : RE G we env env1 md a m) (e : m = m' := by rfl) : RE G we env env1 md a m' := e ▸ h
theorem xo_add : OpP woAdd eI m1 eI m2 (fun x y => x + y) eI mA := fun x y Q h => i_add h
theorem xo_sub : OpP woSub eI m1 eI m2 (fun x y => x - y) eI mA := fun x y Q h => i_sub h
theorem xo_lt : OpP woLt eI m1 eI m2 (fun x y => decide (x < y)) eB mA := fun x y Q h => i_lt h
theorem xo_le : OpP woLe eI m1 eI m2 (fun x y => decide (x ≤ y)) eB mA := fun x y Q h => i_le h
theorem xo_gt : OpP woGt eI m1 eI m2 (fun x y => decide (x > y)) eB mA := fun x y Q h => i_gt h
theorem xo_eqI : OpP woEq eI m1 eI m2 (fun x y => decide (x = y)) eB mA := fun x y Q h => i_eqI h
theorem xo_neI : OpP woNe eI m1 eI m2 (fun x y => !decide (x = y)) eB mA := fun x y Q h => i_neI h
open Classical in
@[irreducible] noncomputable def mulO (x y : Int) : Option Int := if CMul x y ∨ CMulW x y then some (x * y) else none
open Classical in
@[irreducible] noncomputable def fdO (x y : Int) : Option Int := if CDiv x y ∨ CDivW x y then some (x / y) else none
@[irreducible] def modO (x y : Int) : Option Int := if 0 < y then some (x % y) else none
@[irreducible] def powO (x y : Int) : Option Int := if 0 ≤ y ∧ y ≤ 1000000 ∧ x.natAbs < 2 ^ 64 then some (x ^ y.toNat) else none
theorem xo_mul : OpO woMul eI m1 eI m2 mulO eI mA := fun x y z Q h q => by
  unfold mulO at h; split at h
  · cases h; exact i_mul (by assumption) q
  · cases h
theorem xo_fd : OpO woFd eI m1 eI m2 fdO eI mA := fun x y z Q h q => by
  unfold fdO at h; split at h
  · cases h; exact i_fd (by assumption) q
  · cases h
theorem xo_mod : OpO woMod eI m1 eI m2 modO eI mA := fun x y z Q h q => by
  unfold modO at h; split at h
  · cases h; exact i_mod (by assumption) q
  · cases h
theorem xo_pow : OpO woPow eI m1 eI m2 powO eI mA := fun x y z Q h q => by
  unfold powO at h; split at h
  · cases h; exact i_pow (by assumption) q
  · cases h
theorem re_mulL {y : Int} (k : Int) (ha : RE G wa env env1 m1 eI (.ok k)) (hb : RE G wb env1 env2 m2 eI (.ok y)) (h : -(2 ^ 64) < k ∧ k < 2 ^ 64 := by decide) : RE G (wBin woMul wa wb) env env2 mA eI (.ok (k * y)) := fun Q X Xe hX hs =>
  ha _ _ Xe hX (hb _ _ Xe hX (sat_ok.mpr (i_mul (.inl (.inl h)) hs)))
theorem re_mulR {x : Int} (k : Int) (ha : RE G wa env env1 m1 eI (.ok x)) (hb : RE G wb env1 env2 m2 eI (.ok k)) (h : -(2 ^ 64) < k ∧ k < 2 ^ 64 := by decide) : RE G (wBin woMul wa wb) env env2 mA eI (.ok (x * k)) := fun Q X Xe hX hs =>
  ha _ _ Xe hX (hb _ _ Xe hX (sat_ok.mpr (i_mul (.inl (.inr h)) hs)))
theorem re_modC {x : Int} (k : Int) (ha : RE G wa env env1 m1 eI (.ok x)) (hb : RE G wb env1 env2 m2 eI (.ok k)) (h : 0 < k := by decide) : RE G (wBin woMod wa wb) env env2 mA eI (.ok (x % k)) := fun Q X Xe hX hs =>
  ha _ _ Xe hX (hb _ _ Xe hX (sat_ok.mpr (i_mod h hs)))
theorem re_fdC {x : Int} (k : Int) (ha : RE G wa env env1 m1 eI (.ok x)) (hb : RE G wb env1 env2 m2 eI (.ok k)) (h : 0 < k ∧ k < 1073741824 := by decide) : RE G (wBin woFd wa wb) env env2 mA eI (.ok (x / k)) := fun Q X Xe hX hs =>
  ha _ _ Xe hX (hb _ _ Xe hX (sat_ok.mpr (i_fd (.inl h) hs)))
theorem re_powC (j k : Int) (ha : RE G wa env env1 m1 eI (.ok j)) (hb : RE G wb env1 env2 m2 eI (.ok k)) (h : CPow j k := by exact ⟨by decide, by decide, by decide⟩) : RE G (wBin woPow wa wb) env env2 mA eI (.ok (j ^ k.toNat)) := fun Q X Xe hX hs =>
  ha _ _ Xe hX (hb _ _ Xe hX (sat_ok.mpr (i_pow h hs)))
theorem re_neg {x : Int} (ha : RE G wa env env1 m1 eI (.ok x)) : RE G (wNeg wa) env env1 mA eI (.ok (-x)) := fun Q X Xe hX hs => ha _ _ Xe hX ⟨x, rfl, hs⟩
theorem re_negO {A : Out Int} (ha : RE G wa env env1 m1 eI A) : RE G (wNeg wa) env env1 mA eI (A.bind fun x => .ok (-x)) := fun Q X Xe hX hs => ha _ _ Xe hX ((sat_bind.mp hs).imp fun x h => ⟨x, rfl, h⟩)
theorem flat_L [f : Fl_ a] (xs : List α) : flatAll (xs.map a) = true := flatAll_map xs
@[irreducible] def catO (xs ys : List α) : Option (List α) := if xs.length + ys.length ≤ 1000000 then some (xs ++ ys) else none
theorem sizeL : 1000000 ≤ sizeLine := by rw [sizeLine_eq]; decide
theorem xo_catF [f : Fl_ a] : OpO woAdd (eL a) m1 (eL a) m2 catO (eL a) mA := fun x y z Q h q => by
  unfold catO at h; split at h
  · cases h
    refine i_addL (by rw [List.length_map, List.length_map]; exact Nat.le_trans (by assumption) sizeL) ?_
    rw [← List.map_append, cpR_flat (flat_L _)]; exact q
  · cases h
@[irreducible] def repO (xs : List α) (k : Int) : Option (List α) := if -(2 ^ 63) ≤ k ∧ k < 2 ^ 63 ∧ xs.length * k.toNat ≤ 1000000 then some (List.replicate k.toNat xs).flatten else none
theorem xo_rep [f : Fl_ a] : OpO woMul (eL a) m1 eI m2 repO (eL a) mA := fun x y z Q h q => by
  unfold repO at h; split at h
  · rename_i h'
    cases h
    refine ⟨h'.1, h'.2.1, by rw [List.length_map]; exact Nat.le_trans h'.2.2 sizeL, ?_⟩
    have e : (List.replicate y.toNat (x.map a)).flatten = ((List.replicate y.toNat x).flatten).map a := by
      rw [List.map_flatten, List.map_replicate]
    show Q (cpR (List.replicate y.toNat (x.map a)).flatten _)
    rw [e, cpR_flat (flat_L _)]
    exact q
  · cases h
theorem atI_map {α β : Type} {f : α → β} {xs : List α} {i : Int} {y : α} (h : atI xs i = some y) : atI (xs.map f) i = some (f y) := by
  obtain ⟨j, h1, h2⟩ := atI_ixq h
  exact atI_ofq (by rw [List.length_map]; exact h1) (by rw [List.getElem?_map, h2]; rfl)
theorem ix_end {ds : List D} {m m' : Md} {i : Int} {y : D} {q : R → Prop} (ha : atI ds i = some y) (h : q (subL m y)) : wIx ⟨.list ds, m⟩ ⟨.int i, m'⟩ q := ⟨i, rfl, y, ha, h⟩
theorem xo_ixF [f : Fl_ a] : OpO wIx (eL a) m1 eI m2 (fun xs i => atI xs i) a mA := fun x y z Q h q => ix_end (atI_map h) (by unfold subL; rw [if_pos (f.fl z)]; exact q)
theorem xo_ixN [f : Nf a] : OpO wIx (eL a) m1 eI m2 (fun xs i => atI xs i) a (kidM m1) := fun x y z Q h q => ix_end (atI_map h) (by unfold subL; rw [f.nf z]; exact q)
theorem xo_ixT [f : Fl_ a] : OpO wIx (eTL a) m1 eI m2 (fun xs i => atI xs i) a mA := fun x y z Q h q => ⟨y, rfl, a z, atI_map h, by unfold subT; rw [if_pos (f.fl z)]; exact q⟩
theorem xo_ixS {m1 m2 : Md} : OpO wIxS eScr m1 eI m2 (fun xs i => atI xs i) eI mA := fun x y z Q h q => ⟨x, y, z, rfl, rfl, h, q⟩
theorem re_tF {e : Enc α} {p : β} (i : Int) (v : α) [f : Fl_ e] (hb : RE G wb env env1 m1 b (.ok p)) (hi : RE G wc env1 env2 m2 eI (.ok i)) (h : ∃ ds, b p = .tuple ds ∧ atI ds i = some (e v) := by exact ⟨_, rfl, rfl⟩) : RE G (wBin wIx wb wc) env env2 mA e (.ok v) := fun Q X Xe hX hs =>
  hb _ _ Xe hX (hi _ _ Xe hX (by
    obtain ⟨ds, h1, h2⟩ := h
    refine ⟨i, rfl, ?_⟩
    simp only [h1]
    exact ⟨e v, h2, by unfold subT; rw [if_pos (f.fl v)]; exact hs⟩))
theorem re_tN {e : Enc α} {p : β} (i : Int) (v : α) [f : Nf e] (hb : RE G wb env env1 m1 b (.ok p)) (hi : RE G wc env1 env2 m2 eI (.ok i)) (h : ∃ ds, b p = .tuple ds ∧ atI ds i = some (e v) := by exact ⟨_, rfl, rfl⟩) : RE G (wBin wIx wb wc) env env2 m1 e (.ok v) := fun Q X Xe hX hs =>
  hb _ _ Xe hX (hi _ _ Xe hX (by
    obtain ⟨ds, h1, h2⟩ := h
    refine ⟨i, rfl, ?_⟩
    simp only [h1]
    exact ⟨e v, h2, by unfold subT; rw [f.nf v]; exact hs⟩))
theorem re_tFO {e : Enc α} {g : β → α} {B : Out β} (i : Int) [f : Fl_ e] (hb : RE G wb env env1 m1 b B) (hi : RE G wc env1 env2 m2 eI (.ok i)) (h : ∀ p, ∃ ds, b p = .tuple ds ∧ atI ds i = some (e (g p)) := by exact fun _ => ⟨_, rfl, rfl⟩) : RE G (wBin wIx wb wc) env env2 mA e (B.bind fun p => .ok (g p)) := fun Q X Xe hX hs =>
  hb _ _ Xe hX ((sat_bind.mp hs).imp fun p hs => re_tF (b := b) (G := G) (env := env1) (env1 := env1) (wb := fun env Q _ => Q ⟨b p, m1⟩ env) i (g p) (fun Q X Xe hX h => h) hi (h p) Q X Xe hX hs)
theorem ra_nil : RA G wNil env env (fun _ : Unit => []) (.ok ()) := fun Q X Xe _ h => h
theorem ra_cons {f : τ → List R} {M : Out τ} (ha : RE G wa env env1 m1 a A) (hl : RA G wl env1 env2 f M) : RA G (wCons wa wl) env env2 (fun t : α × τ => ⟨a t.1, m1⟩ :: f t.2) (A.bind fun x => M.bind fun t => .ok (x, t)) := fun Q X Xe hX hs =>
  ha _ _ Xe hX ((sat_bind.mp hs).imp fun x hs => hl _ _ Xe hX ((sat_bind.mp hs).imp fun t hs => hs))
theorem ra_consP {f : τ → List R} {t : τ} (ha : RE G wa env env1 m1 a (.ok x)) (hl : RA G wl env1 env2 f (.ok t)) : RA G (wCons wa wl) env env2 (fun t : α × τ => ⟨a t.1, m1⟩ :: f t.2) (.ok (x, t)) := fun Q X Xe hX hs =>
  ha _ _ Xe hX (hl _ _ Xe hX hs)
theorem re_lstP {f : τ → List R} {t : τ} {n : Option Nat} (xs : List α) (hl : RA G wl env env1 f (.ok t)) (hj : joinM (f t) = some n := by rfl) (hn : (f t).length ≤ 1000 := by exact Nat.le_of_ble_eq_true rfl) (he : PyData.list ((f t).map (·.d)) = eL a xs := by rfl) : RE G (wCB wLst wl) env env1 (.o (succM n)) (eL a) (.ok xs) := fun Q X Xe hX hs =>
  hl _ _ Xe hX (sat_ok.mpr (i_lst hj hn (by rw [he]; exact hs)))
theorem re_lst {f : τ → List R} {M : Out τ} {n : Option Nat} (g : τ → List α) (hl : RA G wl env env1 f M) (hj : ∀ t, joinM (f t) = some n := by exact fun _ => rfl) (hn : ∀ t, (f t).length ≤ 1000 := by exact fun _ => Nat.le_of_ble_eq_true rfl) (he : ∀ t, PyData.list ((f t).map (·.d)) = eL a (g t) := by exact fun _ => rfl) : RE G (wCB wLst wl) env env1 (.o (succM n)) (eL a) (M.bind fun t => .ok (g t)) := fun Q X Xe hX hs =>
  hl _ _ Xe hX ((sat_bind.mp hs).imp fun t hs => i_lst (hj t) (hn t) (by rw [he t]; exact hs))
theorem re_tupP {f : τ → List R} {t : τ} {n : Option Nat} (v : α) (hl : RA G wl env env1 f (.ok t)) (hj : joinM (f t) = some n := by rfl) (hn : (f t).length ≤ 1000 := by exact Nat.le_of_ble_eq_true rfl) (he : PyData.tuple ((f t).map (·.d)) = a v := by rfl) : RE G (wCB wTup wl) env env1 (.o n) a (.ok v) := fun Q X Xe hX hs =>
  hl _ _ Xe hX (sat_ok.mpr (i_tup hj hn (by rw [he]; exact hs)))
theorem re_tup {f : τ → List R} {M : Out τ} {n : Option Nat} (g : τ → α) (hl : RA G wl env env1 f M) (hj : ∀ t, joinM (f t) = some n := by exact fun _ => rfl) (hn : ∀ t, (f t).length ≤ 1000 := by exact fun _ => Nat.le_of_ble_eq_true rfl) (he : ∀ t, PyData.tuple ((f t).map (·.d)) = a (g t) := by exact fun _ => rfl) : RE G (wCB wTup wl) env env1 (.o n) a (M.bind fun t => .ok (g t)) := fun Q X Xe hX hs =>
  hl _ _ Xe hX ((sat_bind.mp hs).imp fun t hs => i_tup (hj t) (hn t) (by rw [he t]; exact hs))
theorem joinM_flat {rs : List R} (h : flatAll (rs.map (·.d)) = true) : joinM rs = some none := by
  induction rs with
  | nil => rfl
  | cons r rs ih =>
    simp only [List.map_cons, flatAll, Bool.and_eq_true] at h
    unfold joinM
    rw [if_pos h.1]; exact ih h.2
theorem flat_of_tup {v : α} {ds : List D} [f : Fl_ a] (h : PyData.tuple ds = a v) : flatAll ds = true := by
  have := f.fl v
  rw [← h] at this
  simpa [flatD] using this
theorem re_tupFP {f : τ → List R} {t : τ} (v : α) [fl : Fl_ a] (hl : RA G wl env env1 f (.ok t)) (hn : (f t).length ≤ 1000 := by exact Nat.le_of_ble_eq_true rfl) (he : PyData.tuple ((f t).map (·.d)) = a v := by rfl) : RE G (wCB wTup wl) env env1 mA a (.ok v) := re_tupP v hl (joinM_flat (flat_of_tup he)) hn he
theorem re_tupF {f : τ → List R} {M : Out τ} (g : τ → α) [fl : Fl_ a] (hl : RA G wl env env1 f M) (hn : ∀ t, (f t).length ≤ 1000 := by exact fun _ => Nat.le_of_ble_eq_true rfl) (he : ∀ t, PyData.tuple ((f t).map (·.d)) = a (g t) := by exact fun _ => rfl) : RE G (wCB wTup wl) env env1 mA a (M.bind fun t => .ok (g t)) := re_tup g hl (fun t => joinM_flat (flat_of_tup (he t))) hn he
theorem flat_of_lst {v : List α} {ds : List D} [f : Fl_ a] (h : PyData.list ds = eL a v) : flatAll ds = true := by
  cases h; exact flat_L v
theorem re_lstFP {f : τ → List R} {t : τ} (xs : List α) [fl : Fl_ a] (hl : RA G wl env env1 f (.ok t)) (hn : (f t).length ≤ 1000 := by exact Nat.le_of_ble_eq_true rfl) (he : PyData.list ((f t).map (·.d)) = eL a xs := by rfl) : RE G (wCB wLst wl) env env1 mA (eL a) (.ok xs) := re_lstP xs hl (joinM_flat (flat_of_lst he)) hn he
theorem re_lstF {f : τ → List R} {M : Out τ} (g : τ → List α) [fl : Fl_ a] (hl : RA G wl env env1 f M) (hn : ∀ t, (f t).length ≤ 1000 := by exact fun _ => Nat.le_of_ble_eq_true rfl) (he : ∀ t, PyData.list ((f t).map (·.d)) = eL a (g t) := by exact fun _ => rfl) : RE G (wCB wLst wl) env env1 mA (eL a) (M.bind fun t => .ok (g t)) := re_lst g hl (fun t => joinM_flat (flat_of_lst (he t))) hn he
theorem outR_A {rs : List R} {d : D} : outR rs ⟨d, mA⟩ = ⟨d, mA⟩ := outR_all
theorem re_callP {S : FSpec} {f : τ → List R} {t : τ} {M : Out β} (hl : RA G wl env env1 f (.ok t)) (hS : ∀ Q X, Sat M (fun r => Q ⟨b r, mA⟩) X → S ((f t).map (·.d)) Q X) (hg : G env1 := by trivial) : RE G (wCall S wl) env env1 mA b M := fun Q X Xe hX hs =>
  hl _ _ Xe hX (hS _ _ (hs.mono (fun r h => by rw [outR_A]; exact h) fun x h => hX x _ hg h))
theorem re_call {S : FSpec} {f : τ → List R} {T : Out τ} {M : τ → Out β} (hl : RA G wl env env1 f T) (hS : ∀ t Q X, Sat (M t) (fun r => Q ⟨b r, mA⟩) X → S ((f t).map (·.d)) Q X) (hg : G env1 := by trivial) : RE G (wCall S wl) env env1 mA b (T.bind M) := fun Q X Xe hX hs =>
  hl _ _ Xe hX ((sat_bind.mp hs).imp fun t hs => hS t _ _ (hs.mono (fun r h => by rw [outR_A]; exact h) fun x h => hX x _ hg h))
theorem re_callPS {S : FSpec} {f : τ → List R} {t : τ} {M : Out β} (hl : RA G wl env env1 f (.ok t)) (hS : ∀ Q X, Sat M (fun r => Q ⟨b r, mS⟩) X → S ((f t).map (·.d)) Q X) (hb : (f t).any (fun r => isB r.m) = false := by rfl) (hg : G env1 := by trivial) : RE G (wCall S wl) env env1 mS b M := fun Q X Xe hX hs =>
  hl _ _ Xe hX (hS _ _ (hs.mono (fun r h => by unfold outR; rw [hb]; exact h) fun x h => hX x _ hg h))
theorem re_cbP {wf : WF} {f : τ → List R} {t : τ} (v : β) (hl : RA G wl env env1 f (.ok t)) (hw : ∀ Q, Q ⟨b v, md⟩ → wf (f t) Q) : RE G (wCB wf wl) env env1 md b (.ok v) := fun Q X Xe hX hs => hl _ _ Xe hX (hw _ hs)
theorem re_cb {wf : WF} {f : τ → List R} {T : Out τ} {M : τ → Out β} (hl : RA G wl env env1 f T) (hw : ∀ t Q Xe, Sat (M t) (fun v => Q ⟨b v, md⟩) Xe → wf (f t) Q) : RE G (wCB wf wl) env env1 md b (T.bind M) := fun Q X Xe hX hs => hl _ _ Xe hX ((sat_bind.mp hs).imp fun t hs => hw t _ _ hs)
theorem len_L {m : Md} (xs : List α) : ∀ Q : R → Prop, Q ⟨eI (xs.length : Int), mA⟩ → wLen [⟨eL a xs, m⟩] Q := fun Q q => i_lenL (by rw [List.length_map]; exact q)
theorem len_TL {m : Md} (xs : List α) : ∀ Q : R → Prop, Q ⟨eI (xs.length : Int), mA⟩ → wLen [⟨eTL a xs, m⟩] Q := fun Q q => i_lenT (by rw [List.length_map]; exact q)
theorem len_Scr {m : Md} (xs : List Int) : ∀ Q : R → Prop, Q ⟨eI (xs.length : Int), mA⟩ → wLen [⟨eScr xs, m⟩] Q := fun Q q => i_lenS q
def absF (x : Int) : Int := if x < 0 then -x else x
def maxF (x y : Int) : Int := if y > x then y else x
def minF (x y : Int) : Int := if y < x then y else x
theorem bi_abs {m : Md} (x : Int) : ∀ Q : R → Prop, Q ⟨eI (absF x), mA⟩ → wAbs [⟨eI x, m⟩] Q := fun Q q => i_abs q
theorem bi_max {m m' : Md} (x y : Int) : ∀ Q : R → Prop, Q ⟨eI (maxF x y), mA⟩ → wMax2 [⟨eI x, m⟩, ⟨eI y, m'⟩] Q := fun Q q => i_max2 q
theorem bi_min {m m' : Md} (x y : Int) : ∀ Q : R → Prop, Q ⟨eI (minF x y), mA⟩ → wMin2 [⟨eI x, m⟩, ⟨eI y, m'⟩] Q := fun Q q => i_min2 q
theorem bi_listF {m : Md} [f : Fl_ a] (xs : List α) : ∀ Q : R → Prop, Q ⟨eL a xs, mA⟩ → wList [⟨eL a xs, m⟩] Q := fun Q q => i_listF (flat_L xs) q
end
end VL
set_option maxRecDepth 100000
set_option maxHeartbeats 4000000
namespace VL
open PySem PySem.Spec PyProof.Rows L2
class EqE {α : Type} [DecidableEq α] (e : Enc α) (n : outParam Nat) : Prop where
  lay : ∀ a, PyData.canLay0 (e a) = true
  dep : ∀ a, PyData.depth (e a) ≤ n
  eqv : ∀ a b, PyData.eqv (e a) (e b) = decide (a = b)
section
variable {α β γ δ ε : Type} [DecidableEq α] [DecidableEq β] [DecidableEq γ] [DecidableEq δ] [DecidableEq ε] {a : Enc α} {b : Enc β} {c : Enc γ} {d : Enc δ} {e : Enc ε} {n m k j l : Nat}
instance : EqE eI 0 := ⟨fun _ => rfl, fun _ => Nat.le_refl _, fun a b => by
  by_cases h : a = b
  · subst h; simp [eI, PyData.eqv]
  · simp [eI, PyData.eqv, h]⟩
instance : EqE eB 0 := ⟨fun _ => rfl, fun _ => Nat.le_refl _, fun a b => by cases a <;> cases b <;> rfl⟩
theorem eqvAll_map [h : EqE a n] : ∀ xs ys : List α, PyData.eqvAll (xs.map a) (ys.map a) = decide (xs = ys)
  | [], [] => rfl
  | [], y :: ys => by simp [PyData.eqvAll]
  | x :: xs, [] => by simp [PyData.eqvAll]
  | x :: xs, y :: ys => by
    have ih := eqvAll_map xs ys
    simp only [List.map_cons, PyData.eqvAll, h.eqv, ih]
    by_cases h1 : x = y <;> by_cases h2 : xs = ys <;> simp [h1, h2]
theorem layAll_map [h : EqE a n] : ∀ xs : List α, PyData.canLayAll0 (xs.map a) = true
  | [] => rfl
  | x :: xs => by simp [PyData.canLayAll0, h.lay, layAll_map xs]
theorem depAll_map [h : EqE a n] : ∀ xs : List α, PyData.depthAll (xs.map a) ≤ n
  | [] => by simp [PyData.depthAll]
  | x :: xs => by
    have := depAll_map xs
    have := h.dep x
    simp only [List.map_cons, PyData.depthAll]
    omega
instance [h : EqE a n] : EqE (eL a) (n + 1) := ⟨fun xs => by simpa [eL, PyData.canLay0] using layAll_map xs, fun xs => by have := depAll_map (a := a) xs; simp only [eL, PyData.depth]; omega, fun xs ys => by simpa [eL, PyData.eqv] using eqvAll_map xs ys⟩
instance [h : EqE a n] : EqE (eTL a) (n + 1) := ⟨fun xs => by simpa [eTL, PyData.canLay0] using layAll_map xs, fun xs => by have := depAll_map (a := a) xs; simp only [eTL, PyData.depth]; omega, fun xs ys => by simpa [eTL, PyData.eqv] using eqvAll_map xs ys⟩
instance [h : EqE a n] [g : EqE b m] : EqE (e2 a b) (max n m + 1) := ⟨fun p => by simp [e2, PyData.canLay0, PyData.canLayAll0, h.lay, g.lay], fun p => by
  have := h.dep p.1; have := g.dep p.2
  simp only [e2, PyData.depth, PyData.depthAll]; omega, fun p q => by
  obtain ⟨p1, p2⟩ := p; obtain ⟨q1, q2⟩ := q
  simp only [e2, PyData.eqv, PyData.eqvAll, h.eqv, g.eqv, Prod.mk.injEq, Bool.and_true, Bool.decide_and]⟩
instance [h : EqE a n] [g : EqE b m] [i : EqE c k] : EqE (e3 a b c) (max n (max m k) + 1) := ⟨fun p => by simp [e3, PyData.canLay0, PyData.canLayAll0, h.lay, g.lay, i.lay], fun p => by
  have := h.dep p.1; have := g.dep p.2.1; have := i.dep p.2.2
  simp only [e3, PyData.depth, PyData.depthAll]; omega, fun p q => by
  obtain ⟨p1, p2, p3⟩ := p; obtain ⟨q1, q2, q3⟩ := q
  simp only [e3, PyData.eqv, PyData.eqvAll, h.eqv, g.eqv, i.eqv, Prod.mk.injEq, Bool.and_true, Bool.decide_and]⟩
instance [h : EqE a n] [g : EqE b m] [i : EqE c k] [u : EqE d j] : EqE (e4 a b c d) (max n (max m (max k j)) + 1) := ⟨fun p => by simp [e4, PyData.canLay0, PyData.canLayAll0, h.lay, g.lay, i.lay, u.lay], fun p => by
  have := h.dep p.1; have := g.dep p.2.1; have := i.dep p.2.2.1; have := u.dep p.2.2.2
  simp only [e4, PyData.depth, PyData.depthAll]; omega, fun p q => by
  obtain ⟨p1, p2, p3, p4⟩ := p; obtain ⟨q1, q2, q3, q4⟩ := q
  simp only [e4, PyData.eqv, PyData.eqvAll, h.eqv, g.eqv, i.eqv, u.eqv, Prod.mk.injEq, Bool.and_true, Bool.decide_and]⟩
instance [h : EqE a n] [g : EqE b m] [i : EqE c k] [u : EqE d j] [v : EqE e l] : EqE (e5 a b c d e) (max n (max m (max k (max j l))) + 1) := ⟨fun p => by simp [e5, PyData.canLay0, PyData.canLayAll0, h.lay, g.lay, i.lay, u.lay, v.lay], fun p => by
  have := h.dep p.1; have := g.dep p.2.1; have := i.dep p.2.2.1; have := u.dep p.2.2.2.1; have := v.dep p.2.2.2.2
  simp only [e5, PyData.depth, PyData.depthAll]; omega, fun p q => by
  obtain ⟨p1, p2, p3, p4, p5⟩ := p; obtain ⟨q1, q2, q3, q4, q5⟩ := q
  simp only [e5, PyData.eqv, PyData.eqvAll, h.eqv, g.eqv, i.eqv, u.eqv, v.eqv, Prod.mk.injEq, Bool.and_true, Bool.decide_and]⟩
theorem EqE.shaped [h : EqE a n] (hn : n ≤ 64) (x : α) : SeqAt.shaped (a x) = true := by
  unfold SeqAt.shaped
  rw [Bool.and_eq_true]
  exact ⟨h.lay x, decide_eq_true (Nat.le_trans (h.dep x) hn)⟩
variable {m1 m2 : Md}
theorem xo_eqD [h : EqE a n] (hs : ∀ x y : α, scalD (a x) (a y) = none := by exact fun _ _ => rfl) (hn : n ≤ 64 := by decide) : OpP woEq a m1 a m2 (fun x y => decide (x = y)) eB mA := fun x y Q q =>
  i_eqD (hs x y) (EqE.shaped hn x) (EqE.shaped hn y) (by rw [h.eqv]; exact q)
theorem xo_neD [h : EqE a n] (hs : ∀ x y : α, scalD (a x) (a y) = none := by exact fun _ _ => rfl) (hn : n ≤ 64 := by decide) : OpP woNe a m1 a m2 (fun x y => !decide (x = y)) eB mA := fun x y Q q =>
  i_neD (hs x y) (EqE.shaped hn x) (EqE.shaped hn y) (by rw [h.eqv]; exact q)
theorem any_eq [h : EqE a n] (x : α) (xs : List α) : ((xs.map a).any fun z => PyData.eqv z (a x)) = decide (x ∈ xs) := by
  induction xs with
  | nil => rfl
  | cons y ys ih =>
    rw [List.map_cons, List.any_cons, ih, h.eqv]
    by_cases e : y = x
    · subst e; simp
    · have : ¬ x = y := fun z => e z.symm
      simp [e, this]
theorem xo_in [h : EqE a n] (hn : n + 1 ≤ 64 := by decide) : OpP woIn a m1 (eL a) m2 (fun x xs => decide (x ∈ xs)) eB mA := fun x xs Q q =>
  ⟨_, rfl, EqE.shaped (by omega) x, EqE.shaped (a := eL a) hn xs, by rw [any_eq]; exact q⟩
theorem xo_notIn [h : EqE a n] (hn : n + 1 ≤ 64 := by decide) : OpP woNotIn a m1 (eL a) m2 (fun x xs => !decide (x ∈ xs)) eB mA := fun x xs Q q =>
  ⟨_, rfl, EqE.shaped (by omega) x, EqE.shaped (a := eL a) hn xs, by rw [any_eq]; exact q⟩
end
section
variable {α β γ δ σ ρ τ : Type} {G : EG} {env env1 env2 env3 : VEnv} {md m1 m2 m3 : Md} {a : Enc α} {b : Enc β} {c : Enc γ} {d : Enc δ} {wa wb wc we : WE} {wl wl' : WA} {wt wu : WT} {A : Out α} {B : Out β} {C : Out γ} {x : α} {y : β} {z : γ} {wo wo' : WO}
theorem rt_val {A : Out Bool} (ha : RE G wa env env m1 eB A) : RT G (wTest wa) env A := fun Q X Xe hX hs => ha _ _ Xe hX (hs.imp fun b q => ⟨b, rfl, q⟩)
theorem rt_andP {p q : Bool} (h1 : RT G wt env (.ok p)) (h2 : RT G wu env (.ok q)) : RT G (wAnd wt wu) env (.ok (p && q)) := fun Q X Xe hX hs => h1 _ _ Xe hX (by
  cases p
  · exact hs
  · exact h2 _ _ Xe hX hs)
theorem rt_and {A B : Out Bool} (h1 : RT G wt env A) (h2 : RT G wu env B) : RT G (wAnd wt wu) env (A.bind fun p => if p = true then B else .ok false) := fun Q X Xe hX hs => h1 _ _ Xe hX ((sat_bind.mp hs).imp fun p hs => by
  cases p
  · exact hs
  · exact h2 _ _ Xe hX hs)
theorem rt_orP {p q : Bool} (h1 : RT G wt env (.ok p)) (h2 : RT G wu env (.ok q)) : RT G (wOr wt wu) env (.ok (p || q)) := fun Q X Xe hX hs => h1 _ _ Xe hX (by
  cases p
  · exact h2 _ _ Xe hX hs
  · exact hs)
theorem rt_or {A B : Out Bool} (h1 : RT G wt env A) (h2 : RT G wu env B) : RT G (wOr wt wu) env (A.bind fun p => if p = true then .ok true else B) := fun Q X Xe hX hs => h1 _ _ Xe hX ((sat_bind.mp hs).imp fun p hs => by
  cases p
  · exact h2 _ _ Xe hX hs
  · exact hs)
theorem rt_notP {p : Bool} (h1 : RT G wt env (.ok p)) : RT G (wNot wt) env (.ok (!p)) := fun Q X Xe hX hs => h1 _ _ Xe hX hs
theorem rt_not {A : Out Bool} (h1 : RT G wt env A) : RT G (wNot wt) env (A.bind fun p => .ok (!p)) := fun Q X Xe hX hs => h1 _ _ Xe hX ((sat_bind.mp hs).imp fun p hs => hs)
theorem rt_eq {m m' : Out Bool} (h : RT G wt env m) (e : m = m' := by rfl) : RT G wt env m' := e ▸ h
theorem rt_orF {B : Out Bool} (h1 : RT G wt env (.ok false)) (h2 : RT G wu env B) : RT G (wOr wt wu) env B := fun Q X Xe hX hs => h1 _ _ Xe hX (h2 _ _ Xe hX hs)
theorem re_andP {p q : Bool} (h1 : RE G wa env env mA eB (.ok p)) (h2 : RE G wb env env mA eB (.ok q)) : RE G (wAndV wa wb) env env mA eB (.ok (p && q)) := fun Q X Xe hX hs => h1 _ _ Xe hX ⟨p, rfl, by
  cases p
  · exact hs
  · exact h2 _ _ Xe hX hs⟩
theorem re_and {A B : Out Bool} (h1 : RE G wa env env mA eB A) (h2 : RE G wb env env mA eB B) : RE G (wAndV wa wb) env env mA eB (A.bind fun p => if p = true then B else .ok false) := fun Q X Xe hX hs => h1 _ _ Xe hX ((sat_bind.mp hs).imp fun p hs => ⟨p, rfl, by
  cases p
  · exact hs
  · exact h2 _ _ Xe hX hs⟩)
theorem re_orP {p q : Bool} (h1 : RE G wa env env mA eB (.ok p)) (h2 : RE G wb env env mA eB (.ok q)) : RE G (wOrV wa wb) env env mA eB (.ok (p || q)) := fun Q X Xe hX hs => h1 _ _ Xe hX ⟨p, rfl, by
  cases p
  · exact h2 _ _ Xe hX hs
  · exact hs⟩
theorem re_notP {p : Bool} (h1 : RE G wa env env1 mA eB (.ok p)) : RE G (wNotV wa) env env1 mA eB (.ok (!p)) := fun Q X Xe hX hs => h1 _ _ Xe hX ⟨p, rfl, hs⟩
theorem re_isi {T : String} (v : Bool) (ha : RE G wa env env1 m1 a (.ok x)) (h : noDict (a x) ∧ tyIs T (a x) = v := by exact ⟨True.intro, rfl⟩) : RE G (wIsi T wa) env env1 mA eB (.ok v) := fun Q X Xe hX hs =>
  ha _ _ Xe hX (by
    obtain ⟨h1, h2⟩ := h
    exact ⟨h1, by show Q ⟨.bool (tyIs T (a x)), mA⟩ env1; rw [h2]; exact hs⟩)
theorem re_isE {i : Nat} {ad : Addr} {v : Bool} {m : Md} (h : env[i]? = some (some (opD ad, m)) := by rfl) : RE G (wIsE i ad v) env env mA eB (.ok v) := fun Q X Xe hX hs => ⟨⟨_, h⟩, hs⟩
def RO_ (G : EG) (w : WPt) (env : VEnv) (m : Out (Option Int)) : Prop := ∀ (Q : Option Int → VEnv → Prop) (X : Exn → VEnv → Prop) (Xe : Exn → Prop), (∀ x v, G v → Xe x → X x v) → Sat m (fun o => Q o env) Xe → w env Q X
theorem ro_no : RO_ G wNoP env (.ok none) := fun Q X Xe _ hs => hs
theorem ro_ptP {i : Int} (h : RE G we env env m1 eI (.ok i)) : RO_ G (wPt we) env (.ok (some i)) := fun Q X Xe hX hs => h _ _ Xe hX ⟨i, rfl, hs⟩
theorem re_slF [f : Fl_ a] {wl wh : WPt} {xs : List α} {lo hi : Option Int} (ha : RE G wa env env m1 (eL a) (.ok xs)) (hl : RO_ G wl env (.ok lo)) (hh : RO_ G wh env (.ok hi)) : RE G (wSl wa wl wh) env env mA (eL a) (.ok (cutL xs lo hi)) := fun Q X Xe hX hs =>
  ha _ _ Xe hX (hl _ _ Xe hX (hh _ _ Xe hX (by
    show Q (cpR (cutL (xs.map a) lo hi) _) env
    rw [cutL_map, cpR_flat (flat_L _)]; exact hs)))
theorem re_slFO [f : Fl_ a] {wl wh : WPt} {Xs : Out (List α)} {lo hi : Out (Option Int)} (ha : RE G wa env env m1 (eL a) Xs) (hl : RO_ G wl env lo) (hh : RO_ G wh env hi) : RE G (wSl wa wl wh) env env mA (eL a) (Xs.bind fun xs => lo.bind fun lo => hi.bind fun hi => .ok (cutL xs lo hi)) := fun Q X Xe hX hs =>
  ha _ _ Xe hX ((sat_bind.mp hs).imp fun xs hs => hl _ _ Xe hX ((sat_bind.mp hs).imp fun lo hs => hh _ _ Xe hX ((sat_bind.mp hs).imp fun hi hs => by
    show Q (cpR (cutL (xs.map a) lo hi) _) env
    rw [cutL_map, cpR_flat (flat_L _)]; exact hs)))
theorem re_slScr {wl wh : WPt} {xs : List Int} {lo hi : Option Int} (ha : RE G wa env env m1 eScr (.ok xs)) (hl : RO_ G wl env (.ok lo)) (hh : RO_ G wh env (.ok hi)) : RE G (wSl wa wl wh) env env mA (eL eI) (.ok (cutL xs lo hi)) := fun Q X Xe hX hs =>
  ha _ _ Xe hX (hl _ _ Xe hX (hh _ _ Xe hX (by
    refine sat_ok.mpr ?_
    show slR ⟨scriptD xs, m1⟩ _ _ _
    rw [slr_scr, cutL_map, cpR_ints]; exact hs)))
def wWk (k : Nat) (w : WE) : WE := fun env Q X => w env (fun r e => (∃ m, r.m = .o m ∧ leM (some (k + 1)) m = true) ∧ Q ⟨r.d, .o (some (k + 1))⟩ e) X
theorem ve_wk {X : Cx} {c : Cn} {W : WX} {w : WE} {e : Expr} (k : Nat) (h : PE X e (rdE c W w)) : PE X e (rdE c W (wWk k w)) := PE.imp h fun σ H Q hh => by
  obtain ⟨env, L, Tm, Qv, X, S, q, kk, kx⟩ := hh
  refine ⟨env, L, Tm, _, X, S, q, fun r v l L' env' H' hq st hr => ?_, kx⟩
  obtain ⟨⟨m, hm, le⟩, hq⟩ := hq
  obtain ⟨d, m'⟩ := r
  cases hm
  have nd := st.sim.nd
  obtain ⟨nl, hb, _⟩ := st.sim.tmp
  obtain ⟨l', hs, q'⟩ := RO.weak (T := L'.flatten ++ (Tm ++ l)) le (by simp) hr.dep nl hb
  refine kk _ v l' L' env' H' hq (st.sub hs) ?_
  exact q' (L'.flatten ++ (Tm ++ l')) (mem_less fun b hb => hs.subset hb) fun b hb hb' => by
    by_cases z : b ∈ l'
    · exact z
    · exfalso
      have := (st.sim.tmp).2.2 b hb
      apply this
      rcases List.mem_append.mp hb' with y | y
      · exact List.mem_append_left _ y
      · rcases List.mem_append.mp y with y | y
        · exact List.mem_append_right _ y
        · exact absurd y z
theorem cpR_wk (xs : List D) (bb : Bool) (hb : bb = false) : ∃ m, (cpR xs bb).m = .o m ∧ leM (some 1) m = true := by
  subst hb
  unfold cpR
  split
  · exact ⟨none, rfl, rfl⟩
  · exact ⟨some 1, rfl, rfl⟩
theorem cpR_d (xs : List D) (bb : Bool) : (cpR xs bb).d = .list xs := rfl
theorem re_slN {wl wh : WPt} {xs : List α} {lo hi : Option Int} (ha : RE G wa env env m1 (eL a) (.ok xs)) (hl : RO_ G wl env (.ok lo)) (hh : RO_ G wh env (.ok hi)) (hb : isB m1 = false := by rfl) : RE G (wWk 0 (wSl wa wl wh)) env env (.o (some 1)) (eL a) (.ok (cutL xs lo hi)) := fun Q X Xe hX hs =>
  ha _ _ Xe hX (hl _ _ Xe hX (hh _ _ Xe hX (by
    show (fun r e => _) (cpR (cutL (xs.map a) lo hi) (isB m1)) env
    exact ⟨cpR_wk _ _ hb, by rw [cpR_d, cutL_map]; exact hs⟩)))
theorem re_catN {Xs Ys : Out (List α)} (ha : RE G wa env env1 m1 (eL a) Xs) (hb : RE G wb env1 env2 m2 (eL a) Ys) (h : (isB m1 || isB m2) = false := by rfl) : RE G (wWk 0 (wBin woAdd wa wb)) env env2 (.o (some 1)) (eL a) (Xs.bind fun xs => Ys.bind fun ys => lift (catO xs ys)) := fun Q X Xe hX hs =>
  ha _ _ Xe hX ((sat_bind.mp hs).imp fun xs hs => hb _ _ Xe hX ((sat_bind.mp hs).imp fun ys hs => by
    obtain ⟨v, hv, hs⟩ := sat_lift.mp hs
    unfold catO at hv
    split at hv
    · rename_i hl
      cases hv
      refine i_addL (by rw [List.length_map, List.length_map]; exact Nat.le_trans hl sizeL) ?_
      exact ⟨cpR_wk _ _ h, by rw [cpR_d, ← List.map_append]; exact hs⟩
    · cases hv))
theorem lookKI_map (kvs : List (Int × α)) (i : Int) : lookK (kvs.map fun p => (p.1, a p.2)) i = (lookK kvs i).map a := by
  induction kvs with
  | nil => rfl
  | cons p r ih =>
    by_cases e : p.1 = i
    · rw [List.map_cons, lookK_pos (p := (p.1, a p.2)) e, lookK_pos e]; rfl
    · rw [List.map_cons, lookK_neg (p := (p.1, a p.2)) e, lookK_neg e, ih]
theorem re_dget [f : Fl_ a] {Ks : Out (List (Int × α))} {I : Out Int} (hd : RE G wa env env1 m1 (eK a) Ks) (hi : RE G wb env1 env2 m2 eI I) : RE G (wDGet wa wb) env env2 mA a (Ks.bind fun kvs => I.bind fun i => lift (lookK kvs i)) := fun Q X Xe hX hs =>
  hd _ _ Xe hX ((sat_bind.mp hs).imp fun kvs hs => hi _ _ Xe hX ((sat_bind.mp hs).imp fun i hs => by
    obtain ⟨v, hv, hs⟩ := sat_lift.mp hs
    exact .inl ⟨_, i, a v, rfl, rfl, by rw [lookKI_map, hv]; rfl, f.fl v, hs⟩))
theorem re_din {bb : Bool} {Ks : Out (List (Int × α))} {I : Out Int} (hi : RE G wb env env1 m2 eI I) (hd : RE G wa env1 env2 m1 (eK a) Ks) : RE G (wDIn bb wb wa) env env2 mA eB (I.bind fun i => Ks.bind fun kvs => .ok (bb == (lookK kvs i).isSome)) := fun Q X Xe hX hs =>
  hi _ _ Xe hX ((sat_bind.mp hs).imp fun i hs => hd _ _ Xe hX ((sat_bind.mp hs).imp fun kvs hs => .inl ⟨_, i, rfl, rfl, by rw [lookKI_map, Option.isSome_map]; exact hs⟩))
theorem re_dnew : RE G wDNewK env env mA (eK a) (.ok []) := fun Q X Xe hX hs => hs
@[irreducible] def mapL (f : α → Out β) (xs : List α) : Out (List β) := if xs.length ≤ 1000000 then mapO f xs else .stuck
@[irreducible] def fmapL (p : α → Out Bool) (f : α → Out β) (xs : List α) : Out (List β) := if xs.length ≤ 1000000 then fmapO p f xs else .stuck
def rg (lo hi : Int) : List Int := (List.range (hi - lo).toNat).map fun k : Nat => lo + (k : Int)
@[irreducible] def rgO (lo hi : Int) : Option (List Int) := if -(2 ^ 62) ≤ lo ∧ lo < 2 ^ 62 ∧ -(2 ^ 62) ≤ hi ∧ hi < 2 ^ 62 then some (rg lo hi) else none
def KidE (c : Enc γ) (md : Md) (km : Option Nat) : Prop := ∀ z, kidOk km ⟨c z, md⟩
theorem kid_F [f : Fl_ c] : KidE c md none := fun z => .inl (f.fl z)
theorem kid_A : KidE c mA none := fun _ => kidOk_A
theorem kid_o {n : Option Nat} : KidE c (.o n) n := fun _ => .inr ⟨n, rfl, leM_refl n⟩
theorem lc_turns {tt : WT} {wl : WE} {km : Option Nat} {ent : α → VEnv} {P : α → Out Bool} {F : α → Out γ} {Xe : Exn → Prop}
    (hp : ∀ x, RT (fun _ => True) tt (ent x) (P x)) (hf : ∀ x, ∃ e', RE (fun _ => True) wl (ent x) e' md c (F x)) (hk : KidE c md km) {Q : List γ → Prop} :
    ∀ (xs : List α), Sat (fmapO (fun x => noX (P x)) (fun x => noX (F x)) xs) Q Xe → ∃ J : Nat → List D → Prop, J 0 [] ∧
      (∀ k x acc, xs[k]? = some x → J k acc → acc.length ≤ k ∧ wTurn tt wl km (ent x) (fun y => J (k + 1) (acc ++ [y])) (J (k + 1) acc)) ∧ ∀ acc, J xs.length acc → ∃ zs : List γ, acc = zs.map c ∧ Q zs := by
  intro xs hs
  refine ⟨fun k acc => ∃ zs : List γ, acc = zs.map c ∧ zs.length ≤ k ∧ Sat (fmapO (fun x => noX (P x)) (fun x => noX (F x)) (xs.drop k)) (fun r => Q (zs ++ r)) Xe, ⟨[], rfl, Nat.le_refl _, by simpa using hs⟩, fun k x acc hx hJ => ?_, fun acc hJ => ?_⟩
  · obtain ⟨zs, rfl, hl, hs⟩ := hJ
    refine ⟨by simpa using hl, ?_⟩
    have hd : xs.drop k = x :: xs.drop (k + 1) := by
      have := (List.getElem?_eq_some_iff.mp hx)
      obtain ⟨h1, h2⟩ := this
      rw [← h2]; exact List.drop_eq_getElem_cons h1
    rw [hd] at hs
    unfold fmapO at hs
    have hs := sat_noX.mp (sat_bind.mp hs)
    unfold wTurn
    refine hp x _ _ (fun _ => False) (fun _ _ _ h => h.elim) (hs.imp fun b hs => ?_)
    cases b
    · exact ⟨zs, rfl, by omega, hs⟩
    · rw [if_pos rfl]
      rw [if_pos rfl] at hs
      obtain ⟨e', hf⟩ := hf x
      refine hf _ _ (fun _ => False) (fun _ _ _ h => h.elim) ((sat_noX.mp (sat_bind.mp hs)).imp fun y hs => ⟨hk y, zs ++ [y], by simp, by simp; omega, ?_⟩)
      refine (sat_bind.mp hs).imp fun r hs => ?_
      rw [List.append_assoc]; exact hs
  · obtain ⟨zs, rfl, _, hs⟩ := hJ
    rw [List.drop_length] at hs
    exact ⟨zs, rfl, by simpa [fmapO] using hs⟩
theorem fmapO_true {f : α → Out β} (xs : List α) : fmapO (fun _ => .ok true) f xs = mapO f xs := by
  induction xs with
  | nil => rfl
  | cons x xs ih => simp [fmapO, mapO, ih]
theorem re_lc {g : Tg} {vs : List Nat} {tt : WT} {wl : WE} {km : Option Nat} {ent : α → VEnv} {P : α → Out Bool} {F : α → Out γ} {Xs : Out (List α)}
    (hi : RE G wa env env1 m1 (eL a) Xs) (hg : ∀ x, ∃ rs, g.f (itemR m1 (a x)) = some rs ∧ VL.putAll (wipeE (bEnv env1) vs) g.is rs = ent x)
    (hp : ∀ x, RT (fun _ => True) tt (ent x) (P x)) (hf : ∀ x, ∃ e', RE (fun _ => True) wl (ent x) e' md c (F x)) (hk : KidE c md km) :
    RE G (wLc vs g wa tt wl) env env1 (.o (succM km)) (eL c) (Xs.bind (fmapL (fun x => noX (P x)) (fun x => noX (F x)))) := fun Q X Xe hX hs =>
  hi _ _ Xe hX ((sat_bind.mp hs).imp fun xs hs => by
    unfold fmapL at hs
    split at hs
    · rename_i hl
      obtain ⟨J, j0, js, je⟩ := lc_turns hp hf hk xs hs
      refine ⟨xs.map a, rfl, by rw [List.length_map]; exact hl, km, J, j0, fun k d acc hd hJ => ?_, fun acc hJ => ?_⟩
      · rw [List.getElem?_map] at hd
        obtain ⟨x, hx, rfl⟩ := Option.map_eq_some_iff.mp hd
        obtain ⟨rs, h1, h2⟩ := hg x
        obtain ⟨h3, h4⟩ := js k x acc hx hJ
        exact ⟨rs, h1, h3, by rw [h2]; exact h4⟩
      · rw [List.length_map] at hJ
        obtain ⟨zs, rfl, q⟩ := je acc hJ
        exact q
    · exact hs.elim)
theorem re_lc1 {g : Tg} {vs : List Nat} {wl : WE} {km : Option Nat} {ent : α → VEnv} {F : α → Out γ} {Xs : Out (List α)}
    (hi : RE G wa env env1 m1 (eL a) Xs) (hg : ∀ x, ∃ rs, g.f (itemR m1 (a x)) = some rs ∧ VL.putAll (wipeE (bEnv env1) vs) g.is rs = ent x)
    (hf : ∀ x, ∃ e', RE (fun _ => True) wl (ent x) e' md c (F x)) (hk : KidE c md km) :
    RE G (wLc vs g wa wYes wl) env env1 (.o (succM km)) (eL c) (Xs.bind (mapL fun x => noX (F x))) :=
  re_eq (re_lc (P := fun _ => .ok true) hi hg (fun x Q X Xe _ h => h) hf hk) (by
    congr; funext xs; unfold fmapL mapL; split
    · exact fmapO_true xs
    · rfl)
theorem re_lcR {n i : Nat} {wl : WA} {vs : List Nat} {tt : WT} {we : WE} {km : Option Nat} {ent : Int → VEnv} {P : Int → Out Bool} {F : Int → Out γ} {f : τ → List R} {T : Out τ} {gl gh : τ → Int}
    (hi : RA G wl env env1 f T) (hr : ∀ t, (f t).length = n ∧ rangeOf (f t) = some (gl t, gh t)) (hg : ∀ x, (wipeE (bEnv env1) vs).set i (some (.int x, mA)) = ent x)
    (hp : ∀ x, RT (fun _ => True) tt (ent x) (P x)) (hf : ∀ x, ∃ e', RE (fun _ => True) we (ent x) e' md c (F x)) (hk : KidE c md km) :
    RE G (wLcR n vs i wl tt we) env env1 (.o (succM km)) (eL c) (T.bind fun t => (lift (rgO (gl t) (gh t))).bind (fmapL (fun x => noX (P x)) (fun x => noX (F x)))) := fun Q X Xe hX hs =>
  hi _ _ Xe hX ((sat_bind.mp hs).imp fun t hs => by
    obtain ⟨xs, hx, hs⟩ := sat_lift.mp (sat_bind.mp hs)
    unfold rgO at hx
    split at hx
    · rename_i hb
      cases hx
      unfold fmapL at hs
      have hlen : (rg (gl t) (gh t)).length = (gh t - gl t).toNat := by unfold rg; rw [List.length_map, List.length_range]
      split at hs
      · rename_i hl
        rw [hlen] at hl
        obtain ⟨J, j0, js, je⟩ := lc_turns hp hf hk _ hs
        refine ⟨gl t, gh t, (hr t).1, (hr t).2, ⟨hb.1, hb.2.1⟩, ⟨hb.2.2.1, hb.2.2.2⟩, by omega, km, J, j0, fun k acc hk hJ => ?_, fun acc hJ => ?_⟩
        · have hx : (rg (gl t) (gh t))[k]? = some (gl t + (k : Int)) := by
            unfold rg
            rw [List.getElem?_map, List.getElem?_range hk]; rfl
          rw [hg]
          exact js k _ acc hx hJ
        · rw [← hlen] at hJ
          obtain ⟨zs, rfl, q⟩ := je acc hJ
          exact q
      · exact hs.elim
    · cases hx)
theorem re_lcR1 {n i : Nat} {wl : WA} {vs : List Nat} {we : WE} {km : Option Nat} {ent : Int → VEnv} {F : Int → Out γ} {f : τ → List R} {T : Out τ} {gl gh : τ → Int}
    (hi : RA G wl env env1 f T) (hr : ∀ t, (f t).length = n ∧ rangeOf (f t) = some (gl t, gh t)) (hg : ∀ x, (wipeE (bEnv env1) vs).set i (some (.int x, mA)) = ent x)
    (hf : ∀ x, ∃ e', RE (fun _ => True) we (ent x) e' md c (F x)) (hk : KidE c md km) :
    RE G (wLcR n vs i wl wYes we) env env1 (.o (succM km)) (eL c) (T.bind fun t => (lift (rgO (gl t) (gh t))).bind (mapL fun x => noX (F x))) :=
  re_eq (re_lcR (P := fun _ => .ok true) hi hr hg (fun x Q X Xe _ h => h) hf hk) (by
    congr; funext t; congr; funext xs; unfold fmapL mapL; split
    · exact fmapO_true xs
    · rfl)
end
end VL
set_option maxRecDepth 100000
set_option maxHeartbeats 4000000
namespace VL
open PySem PySem.Spec PyProof.Rows L2
def wPre (w : WS) : WS := fun env D => ∃ e0, envLe e0 env ∧ w e0 D
theorem rdS_pre {c : Cn} {W : WX} {w : WS} : ∀ D σ H, rdS c W (wPre w) D σ H → rdS c W w D σ H := fun D σ H h => by
  obtain ⟨env, L, Dv, S, ⟨e0, le, hw⟩, k⟩ := h
  obtain ⟨L0, S0⟩ := S.lower le
  exact ⟨e0, L0, Dv, S0, hw, k⟩
theorem vs_pre {X : Cx} {c : Cn} {W : WX} {w : WS} {st : Stmt} (h : PS X st (rdS c W w)) : PS X st (rdS c W (wPre w)) := PS.imp h rdS_pre
theorem vss_pre {X : Cx} {c : Cn} {W : WX} {w : WS} {st : List Stmt} (h : PSs X st (rdS c W w)) : PSs X st (rdS c W (wPre w)) := PSs.imp h rdS_pre
section
variable {α β γ δ σ σ' ρ τ : Type} {G : EG} {env env1 env2 env3 : VEnv} {md m1 m2 m3 : Md} {a : Enc α} {b : Enc β} {c : Enc γ} {d : Enc δ} {e : Enc ρ} {wa wb wc we wi : WE} {wl wl' : WA} {wt wu : WT} {A : Out α} {B : Out β} {C : Out γ} {x : α} {y : β} {z : γ} {w u v : WS} {K KA KB : β → DV → Prop} {M MA MB : Out β} {s : σ → VEnv} {I J : Out Int}
def KR (e : Enc ρ) (md : Md) : Fl ρ σ → DV → Prop
  | .ret r, D => ∀ v, D.rt ⟨e r, md⟩ v
  | .nxt _, _ => True
theorem rb_next {V : σ} (h : envLe (s V) env) : RB G wNext env (.ok V) (KN s) := fun D Xe _ hs => hs env h
theorem rb_nextF {V : σ} (h : envLe (s V) env) : RB G wNext env (.ok (.nxt V)) (KF e md s) := fun D Xe _ hs => hs env h
theorem rb_retP (r : ρ) (h : RE G we env env1 md a (.ok x)) (hb : isB md = false := by rfl) (he : a x = e r := by rfl) : RB G (wSeq (wRet we) u) env (.ok r) (KT e md) := fun D Xe hX hs =>
  h _ _ Xe hX ⟨hb, by rw [he]; exact hs _⟩
theorem rb_retF (g : α → ρ) (h : RE G we env env1 md a A) (hb : isB md = false := by rfl) (he : ∀ x, a x = e (g x) := by exact fun _ => rfl) : RB G (wSeq (wRet we) u) env (A.bind fun x => .ok (.ret (g x))) (KF e md s) := fun D Xe hX hs =>
  h _ _ Xe hX ((sat_bind.mp hs).imp fun x hs => ⟨hb, by rw [he]; exact hs _⟩)
theorem rs_seqN {m : Out σ} {k : σ → Out β} (h1 : RB G w env m (KN s)) (h2 : ∀ V, RB G u (s V) (k V) K) : RB G (wSeq (wCut w) u) env (m.bind k) K := fun D Xe hX hs => by
  refine ⟨fun e => ∃ V, e = s V ∧ Sat (k V) (fun b => K b D) Xe, ?_, ?_⟩
  · refine h1 _ Xe hX ((sat_bind.mp hs).imp fun V hs e le => ⟨s V, le, V, rfl, hs⟩)
  · rintro _ ⟨V, rfl, hs⟩
    exact h2 V D Xe hX hs
theorem rs_seqT {m : Out (Fl ρ σ)} {k : σ → Out ρ} (h1 : RB G w env m (KF e md s)) (h2 : ∀ V, RB G u (s V) (k V) (KT e md)) : RB G (wSeq (wCut w) u) env (m.bind (flowT k)) (KT e md) := fun D Xe hX hs => by
  refine ⟨fun e' => ∃ V, e' = s V ∧ Sat (k V) (fun b => KT e md b D) Xe, ?_, ?_⟩
  · refine h1 _ Xe hX ((sat_bind.mp hs).imp fun V hs => ?_)
    cases V with
    | ret r => exact hs
    | nxt V => exact fun e le => ⟨s V, le, V, rfl, hs⟩
  · rintro _ ⟨V, rfl, hs⟩
    exact h2 V D Xe hX hs
theorem rs_seqF {m : Out (Fl ρ σ)} {k : σ → Out (Fl ρ σ')} {s' : σ' → VEnv} (h1 : RB G w env m (KF e md s)) (h2 : ∀ V, RB G u (s V) (k V) (KF e md s')) : RB G (wSeq (wCut w) u) env (m.bind (flowF k)) (KF e md s') := fun D Xe hX hs => by
  refine ⟨fun e' => ∃ V, e' = s V ∧ Sat (k V) (fun b => KF e md s' b D) Xe, ?_, ?_⟩
  · refine h1 _ Xe hX ((sat_bind.mp hs).imp fun V hs => ?_)
    cases V with
    | ret r => exact hs
    | nxt V => exact fun e le => ⟨s V, le, V, rfl, hs⟩
  · rintro _ ⟨V, rfl, hs⟩
    exact h2 V D Xe hX hs
theorem rs_pre (e0 : VEnv) (le : envLe e0 env) (h : RB G (wSeq w u) e0 M K) : RB G (wSeq (wPre w) u) env M K := fun D Xe hX hs => ⟨e0, le, h D Xe hX hs⟩
theorem rb_if {T : Out Bool} (ht : RT G wt env T) (h1 : RB G w env MA K) (h2 : RB G v env MB K) : RB G (wIf wt w v) env (T.bind fun p => if p = true then MA else MB) K := fun D Xe hX hs =>
  ht _ _ Xe hX ((sat_bind.mp hs).imp fun p hs => by
    cases p
    · exact h2 D Xe hX hs
    · exact h1 D Xe hX hs)
theorem kt_kt : ∀ b D n, KT e md b D → KT e md b { D with nx := n } := fun _ _ _ h => h
theorem kf_kr : ∀ b D n, KF e md s b D → KR e md b { D with nx := n } := fun b _ _ h => by
  cases b with
  | ret r => exact h
  | nxt V => exact True.intro
theorem rs_ifR {T : Out Bool} (hK : ∀ b D n, K b D → KA b { D with nx := n }) (ht : RT G wt env T) (h1 : RB G w env MA KA) (h2 : RB G u env MB K) : RB G (wSeq (wIf wt w wNext) u) env (T.bind fun p => if p = true then MA else MB) K := fun D Xe hX hs =>
  ht _ _ Xe hX ((sat_bind.mp hs).imp fun p hs => by
    cases p
    · exact h2 D Xe hX hs
    · exact h1 { D with nx := fun e => u e D } Xe hX (hs.imp fun b h => hK b D _ h))
theorem rs_ifFN (ht : RT G wt env (.ok false)) (h2 : RB G u env M K) : RB G (wSeq (wIf wt w wNext) u) env M K := fun D Xe hX hs =>
  ht _ _ Xe hX (h2 D Xe hX hs)
theorem rs_set {i : Nat} {k : α → Out β} (he : RE G we env env1 md a A) (s : α → VEnv) (h2 : ∀ x, RB G u (s x) (k x) K) (hs : ∀ x, env1.set i (some (a x, md)) = s x := by exact fun _ => rfl) : RB G (wSeq (wSet i we) u) env (A.bind k) K := fun D Xe hX h =>
  he _ _ Xe hX ((sat_bind.mp h).imp fun x h => by
    have := h2 x D Xe hX h
    rw [← hs x] at this
    exact this)
theorem rs_asg {g : Tg} {k : α → Out β} (he : RE G we env env1 md a A) (s : α → VEnv) (h2 : ∀ x, RB G u (s x) (k x) K) (hs : ∀ x, ∃ rs, g.f ⟨a x, md⟩ = some rs ∧ VL.putAll env1 g.is rs = s x := by exact fun _ => ⟨_, rfl, rfl⟩) : RB G (wSeq (wAsg g we) u) env (A.bind k) K := fun D Xe hX h =>
  he _ _ Xe hX ((sat_bind.mp h).imp fun x h => by
    obtain ⟨rs, h1, e1⟩ := hs x
    refine ⟨rs, h1, ?_⟩
    have := h2 x D Xe hX h
    rw [← e1] at this
    exact this)
theorem rs_expr {k : α → Out β} (he : RE G we env env1 md a A) (h2 : ∀ x, RB G u env1 (k x) K) : RB G (wSeq (wExpr we) u) env (A.bind k) K := fun D Xe hX h =>
  he _ _ Xe hX ((sat_bind.mp h).imp fun x h => h2 x D Xe hX h)
@[irreducible] def appO (xs : List α) (v : α) : Option (List α) := if xs.length < 1000000 then some (xs ++ [v]) else none
@[irreducible] def setO (xs : List α) (i : Int) (v : α) : Option (List α) := (ixN xs.length i).map fun j => xs.set j v
@[irreducible] def setI (xs : List α) (i : Int) (v : α) : List α := match ixN xs.length i with | some j => xs.set j v | none => xs
@[irreducible] def extO (xs ys : List α) : Option (List α) := if xs.length + ys.length < 1000000 then some (xs ++ ys) else none
@[irreducible] def popO (xs : List α) (i : Int) : Option (α × List α) := if -(2 ^ 62) ≤ i ∧ i < 2 ^ 62 then (ixN xs.length i).bind fun j => (xs[j]?).map fun v => (v, xs.eraseIdx j) else none
@[irreducible] def putO (kvs : List (Int × α)) (k : Int) (v : α) : Option (List (Int × α)) := if kvs.length < 1000000 then some (putKK kvs k v) else none
theorem rs_app {i : Nat} {m n : Option Nat} {xs : List α} {k : List α → Out β} (he : RE G we env env1 m1 a A) (s : List α → VEnv) (h2 : ∀ ys, RB G u (s ys) (k ys) K)
    (h0 : isL env i [] := by exact ⟨_, _, _, rfl, rfl⟩) (hi : env1[i]? = some (some (eL a xs, .o m)) := by rfl) (hm : popM m = some n := by rfl) (hk : KidE a m1 n := by first | exact kid_F | exact kid_A | exact kid_o) (hs : ∀ ys, killB (env1.set i (some (eL a ys, .o m))) = s ys := by exact fun _ => rfl) :
    RB G (wSeq (wApp (wPVar i) we) u) env (A.bind fun v => (lift (appO xs v)).bind k) K := fun D Xe hX h =>
  ⟨let ⟨d, m, _, h, _⟩ := h0; ⟨_, h⟩, h0, he _ _ Xe hX ((sat_bind.mp h).imp fun v h => by
    obtain ⟨ys, hy, h⟩ := sat_lift.mp (sat_bind.mp h)
    unfold appO at hy
    split at hy
    · rename_i hl
      cases hy
      refine wApp_inner _ m n hi hm (hk v) (by rw [List.length_map]; exact hl) ?_
      have := h2 _ D Xe hX h
      rw [← hs] at this
      simpa [eL] using this
    · cases hy)⟩
theorem getP1 {xs : List (List α)} {i : Int} {r : List α} (h : atI xs i = some r) : getP (eL (eL a) xs) ([] ++ [i]) = some (eL a r) := by
  show (atI (xs.map (eL a)) i).bind (fun d => getP d []) = _
  rw [atI_map h]; rfl
theorem depP1 {xs : List (List α)} {i : Int} {r : List α} {m n1 n : Option Nat} (h : atI xs i = some r) (h1 : popM m = some n1) : depP m (eL (eL a) xs) ([] ++ [i]) = some n1 := by
  show (popM m).bind (fun n => (atI (xs.map (eL a)) i).bind fun d => depP n d []) = _
  rw [atI_map h, h1]; rfl
theorem setI_at {xs : List α} {i : Int} {r v : α} (h : atI xs i = some r) : ∃ j, ixN xs.length i = some j ∧ xs[j]? = some r ∧ setI xs i v = xs.set j v := by
  obtain ⟨j, h1, h2⟩ := atI_ixq h
  exact ⟨j, h1, h2, by unfold setI; rw [h1]⟩
theorem setP1 {xs : List (List α)} {i : Int} {r r' : List α} (h : atI xs i = some r) : setP (eL (eL a) xs) ([] ++ [i]) (eL a r') = some (eL (eL a) (setI xs i r')) := by
  obtain ⟨j, h1, h2, h3⟩ := setI_at (v := r') h
  have := setP_mk_l (p := []) (ds := xs.map (eL a)) (e := eL a r') (by rw [List.length_map]; exact h1) (show (xs.map (eL a))[j]? = some (eL a r) by rw [List.getElem?_map, h2]; rfl) rfl
  show setP (.list (xs.map (eL a))) [i] _ = _
  rw [this, h3]
  simp [eL, List.map_set]
theorem rs_app1 {i : Nat} {m n1 n : Option Nat} {xs : List (List α)} {k : List (List α) → Out β} (hw : RE G wi env env m3 eI I) (he : RE G we env env1 m1 a A) (s : List (List α) → VEnv) (h2 : ∀ ys, RB G u (s ys) (k ys) K)
    (h0 : env[i]? = some (some (eL (eL a) xs, .o m)) := by rfl) (hi : env1[i]? = some (some (eL (eL a) xs, .o m)) := by rfl) (hm1 : popM m = some n1 := by rfl) (hm : popM n1 = some n := by rfl) (hk : KidE a m1 n := by first | exact kid_F | exact kid_A | exact kid_o) (hs : ∀ ys, killB (env1.set i (some (eL (eL a) ys, .o m))) = s ys := by exact fun _ => rfl) :
    RB G (wSeq (wApp (wPSub (wPVar i) wi) we) u) env (I.bind fun j => (lift (atI xs j)).bind fun r => A.bind fun v => (lift (appO r v)).bind fun r' => k (setI xs j r')) K := fun D Xe hX h =>
  ⟨⟨_, h0⟩, hw _ _ Xe hX ((sat_bind.mp h).imp fun j h => by
    obtain ⟨r, hr, h⟩ := sat_lift.mp (sat_bind.mp h)
    refine ⟨j, _, _, rfl, h0, getP1 hr, ⟨_, _, _, h0, getP1 hr⟩, ?_⟩
    refine he _ _ Xe hX ((sat_bind.mp h).imp fun v h => ?_)
    obtain ⟨ys, hy, h⟩ := sat_lift.mp (sat_bind.mp h)
    unfold appO at hy
    split at hy
    · rename_i hl
      cases hy
      refine ⟨_, m, r.map a, n, eL (eL a) (setI xs j (r ++ [v])), ⟨hi, getP1 hr, n1, depP1 (n := n) hr hm1, hm⟩, hk v, by rw [List.length_map]; exact hl, ?_, ?_⟩
      · have e : PyData.list (r.map a ++ [a v]) = eL a (r ++ [v]) := by simp [eL]
        show setP _ _ (.list (r.map a ++ [a v])) = _
        rw [e]; exact setP1 hr
      · have := h2 _ D Xe hX h
        rw [← hs] at this
        exact this
    · cases hy)⟩
theorem setO_at {xs ys : List α} {i : Int} {v : α} (h : setO xs i v = some ys) : ∃ j, ixN xs.length i = some j ∧ ys = xs.set j v := by
  unfold setO at h
  obtain ⟨j, h1, h2⟩ := Option.map_eq_some_iff.mp h
  exact ⟨j, h1, h2.symm⟩
theorem rs_put {i : Nat} {m n : Option Nat} {xs : List α} {k : List α → Out β} (he : RE G we env env1 m1 a A) (hw : RE G wi env1 env1 m3 eI I) (s : List α → VEnv) (h2 : ∀ ys, RB G u (s ys) (k ys) K)
    (hi : env1[i]? = some (some (eL a xs, .o m)) := by rfl) (hm : popM m = some n := by rfl) (hk : KidE a m1 n := by first | exact kid_F | exact kid_A | exact kid_o) (hs : ∀ ys, killB (env1.set i (some (eL a ys, .o m))) = s ys := by exact fun _ => rfl) :
    RB G (wSeq (wPut (wPVar i) wi we) u) env (A.bind fun v => I.bind fun j => (lift (setO xs j v)).bind k) K := fun D Xe hX h =>
  he _ _ Xe hX ((sat_bind.mp h).imp fun v h => ⟨⟨_, hi⟩, hw _ _ Xe hX ((sat_bind.mp h).imp fun j h => by
    obtain ⟨ys, hy, h⟩ := sat_lift.mp (sat_bind.mp h)
    obtain ⟨t, ht, rfl⟩ := setO_at hy
    refine ⟨_, m, xs.map a, n, j, t, eL a (xs.set t v), rfl, ⟨hi, rfl, m, rfl, hm⟩, hk v, by rw [List.length_map]; exact ht, ?_, ?_⟩
    · show some (PyData.list ((xs.map a).set t (a v))) = _
      simp [eL, List.map_set]
    · have := h2 _ D Xe hX h
      rw [← hs] at this
      exact this)⟩)
theorem putKI_map (kvs : List (Int × α)) (i : Int) (v : α) : putKK (kvs.map fun p => (p.1, a p.2)) i (a v) = (putKK kvs i v).map fun p => (p.1, a p.2) := by
  unfold putKK
  simp only [List.any_map, Function.comp_def]
  split
  · rw [List.map_map, List.map_map]
    refine List.map_congr_left fun p _ => ?_
    simp only [Function.comp_def]
    split <;> rfl
  · simp
theorem flatK_map {κ : Type} [f : Fl_ a] (kvs : List (κ × α)) : flatKV (kvs.map fun p => (p.1, a p.2)) := fun p hp => by
  obtain ⟨q, _, rfl⟩ := List.mem_map.mp hp
  exact f.fl q.2
theorem rs_dput [f : Fl_ a] {i : Nat} {kvs : List (Int × α)} {k : List (Int × α) → Out β} (he : RE G we env env1 m1 a A) (hw : RE G wi env1 env2 m3 eI I) (s : List (Int × α) → VEnv) (h2 : ∀ ys, RB G u (s ys) (k ys) K)
    (h0 : ∃ d m, env1[i]? = some (some (d, m)) := by exact ⟨_, _, rfl⟩) (hi : env2[i]? = some (some (eK a kvs, mA)) := by rfl) (hs : ∀ ys, killB (env2.set i (some (eK a ys, mA))) = s ys := by exact fun _ => rfl) :
    RB G (wSeq (wDPut i wi we) u) env (A.bind fun v => I.bind fun j => (lift (putO kvs j v)).bind k) K := fun D Xe hX h =>
  he _ _ Xe hX ((sat_bind.mp h).imp fun v h => ⟨f.fl v, h0, hw _ _ Xe hX ((sat_bind.mp h).imp fun j h => by
    obtain ⟨ys, hy, h⟩ := sat_lift.mp (sat_bind.mp h)
    unfold putO at hy
    split at hy
    · rename_i hl
      cases hy
      refine .inl ⟨_, j, hi, rfl, flatK_map kvs, by rw [List.length_map]; exact hl, ?_⟩
      have := h2 _ D Xe hX h
      rw [← hs] at this
      rw [putKI_map]
      exact this
    · cases hy)⟩)
theorem popO_at {xs ys : List α} {i : Int} {v : α} (h : popO xs i = some (v, ys)) : ∃ j, -(2 ^ 62) ≤ i ∧ i < 2 ^ 62 ∧ ixN xs.length i = some j ∧ xs[j]? = some v ∧ ys = xs.eraseIdx j := by
  unfold popO at h
  split at h
  · rename_i hb
    obtain ⟨j, h1, h2⟩ := Option.bind_eq_some_iff.mp h
    obtain ⟨y, h3, h4⟩ := Option.map_eq_some_iff.mp h2
    cases h4
    exact ⟨j, hb.1, hb.2, h1, h3, rfl⟩
  · cases h
theorem map_eraseIdx' {α β : Type} (f : α → β) (xs : List α) (j : Nat) : (xs.eraseIdx j).map f = (xs.map f).eraseIdx j := by
  induction xs generalizing j with
  | nil => rfl
  | cons x xs ih => cases j with
    | zero => rfl
    | succ j => simp [ih]
theorem rs_setPop [f : Fl_ a] {i j : Nat} {m n : Option Nat} {xs : List α} {k : α × List α → Out β} (hw : RE G wi env env1 m3 eI I) (s : α × List α → VEnv) (h2 : ∀ ys, RB G u (s ys) (k ys) K)
    (h0 : isL env j [] := by exact ⟨_, _, _, rfl, rfl⟩) (hi : env1[j]? = some (some (eL a xs, .o m)) := by rfl) (hm : popM m = some n := by rfl) (hij : i ≠ j := by decide) (hs : ∀ y, (killB (env1.set j (some (eL a y.2, .o m)))).set i (some (a y.1, mA)) = s y := by exact fun _ => rfl) :
    RB G (wSeq (wSetPop i j wi) u) env (I.bind fun q => (lift (popO xs q)).bind k) K := fun D Xe hX h =>
  ⟨h0, hw _ _ Xe hX ((sat_bind.mp h).imp fun q h => by
    obtain ⟨⟨v, ys⟩, hy, h⟩ := sat_lift.mp (sat_bind.mp h)
    obtain ⟨t, b1, b2, ht, hv, rfl⟩ := popO_at hy
    refine ⟨q, t, a v, xs.map a, m, n, rfl, hij, hi, hm, b1, b2, by rw [List.length_map]; exact (ixN_seq ht).1, by rw [List.getElem?_map, hv]; rfl, f.fl v, ?_⟩
    have := h2 (v, xs.eraseIdx t) D Xe hX h
    rw [← hs] at this
    rw [← map_eraseIdx']
    exact this)⟩
theorem rs_appPop [f : Fl_ a] {i j : Nat} {m n m' n' : Option Nat} {xs zs : List α} {k : List α × List α → Out β} (hw : RE G wi env env1 m3 eI I) (s : List α × List α → VEnv) (h2 : ∀ ys, RB G u (s ys) (k ys) K)
    (h0 : isL env i [] := by exact ⟨_, _, _, rfl, rfl⟩) (h0' : isL env j [] := by exact ⟨_, _, _, rfl, rfl⟩) (hz : env1[i]? = some (some (eL a zs, .o m')) := by rfl) (hi : env1[j]? = some (some (eL a xs, .o m)) := by rfl) (hm' : popM m' = some n' := by rfl) (hm : popM m = some n := by rfl) (hij : i ≠ j := by decide)
    (hs : ∀ y, killB ((killB (env1.set j (some (eL a y.2, .o m)))).set i (some (eL a y.1, .o m'))) = s y := by exact fun _ => rfl) :
    RB G (wSeq (wAppPop i j wi) u) env (I.bind fun q => (lift (popO xs q)).bind fun p => (lift (appO zs p.1)).bind fun z => k (z, p.2)) K := fun D Xe hX h =>
  ⟨h0, h0', hw _ _ Xe hX ((sat_bind.mp h).imp fun q h => by
    obtain ⟨⟨v, ys⟩, hy, h⟩ := sat_lift.mp (sat_bind.mp h)
    obtain ⟨z, hz', h⟩ := sat_lift.mp (sat_bind.mp h)
    obtain ⟨t, b1, b2, ht, hv, rfl⟩ := popO_at hy
    unfold appO at hz'
    split at hz'
    · rename_i hl
      cases hz'
      refine ⟨q, t, a v, zs.map a, xs.map a, m', n', m, n, rfl, hij, hz, hm', hi, hm, b1, b2, by rw [List.length_map]; exact (ixN_seq ht).1, by rw [List.getElem?_map, hv]; rfl, f.fl v, by rw [List.length_map]; exact hl, ?_⟩
      have := h2 (zs ++ [v], xs.eraseIdx t) D Xe hX h
      rw [← hs] at this
      rw [← map_eraseIdx']
      simpa [eL] using this
    · cases hz')⟩
theorem rs_ext [f : Fl_ a] {i : Nat} {m n : Option Nat} {xs : List α} {Zs : Out (List α)} {k : List α → Out β} (he : RE G we env env1 m1 (eL a) Zs) (s : List α → VEnv) (h2 : ∀ ys, RB G u (s ys) (k ys) K)
    (h0 : isL env i [] := by exact ⟨_, _, _, rfl, rfl⟩) (hi : env1[i]? = some (some (eL a xs, .o m)) := by rfl) (hm : popM m = some n := by rfl) (hs : ∀ ys, killB (env1.set i (some (eL a ys, .o m))) = s ys := by exact fun _ => rfl) :
    RB G (wSeq (wExt (wPVar i) we) u) env (Zs.bind fun v => (lift (extO xs v)).bind k) K := fun D Xe hX h =>
  ⟨let ⟨d, m, _, h, _⟩ := h0; ⟨_, h⟩, h0, he _ _ Xe hX ((sat_bind.mp h).imp fun v h => by
    obtain ⟨ys, hy, h⟩ := sat_lift.mp (sat_bind.mp h)
    unfold extO at hy
    split at hy
    · rename_i hl
      cases hy
      refine ⟨_, m, xs.map a, n, v.map a, eL a (xs ++ v), rfl, .inl (flat_L v), ⟨hi, rfl, m, rfl, hm⟩, by rw [List.length_map, List.length_map]; exact hl, by simp [eL, setP], ?_⟩
      have := h2 _ D Xe hX h
      rw [← hs] at this
      exact this
    · cases hy)⟩
theorem drop_cons {xs : List α} {k : Nat} {x : α} (h : xs[k]? = some x) : xs.drop k = x :: xs.drop (k + 1) := by
  obtain ⟨h1, h2⟩ := List.getElem?_eq_some_iff.mp h
  rw [← h2]; exact List.drop_eq_getElem_cons h1
theorem rb_for {g : Tg} {Xs : Out (List α)} {F : σ → α → Out σ} (st : σ) (hi : RE G we env env1 m1 (eL a) Xs) (h0 : envLe (s st) env1) (ent : σ → α → VEnv)
    (hb : ∀ st x, RB G w (ent st x) (F st x) (KN s)) (hg : ∀ st x, ∃ rs, g.f (itemR mS (a x)) = some rs ∧ VL.putAll (s st) g.is rs = ent st x := by exact fun _ _ => ⟨_, rfl, rfl⟩) (hm : isB m1 = false := by rfl) :
    RB G (wFor g we w) env (Xs.bind fun xs => forO F st xs) (KN s) := fun D Xe hX hs =>
  hi _ _ Xe hX ((sat_bind.mp hs).imp fun xs hs => by
    refine ⟨xs.map a, rfl, hm, fun k e => ∃ V, e = s V ∧ Sat (forO F V (xs.drop k)) (fun b => KN s b D) Xe, s st, h0, ⟨st, rfl, hs⟩, fun k d e hd hJ => ?_, fun e hJ => ?_⟩
    · obtain ⟨V, rfl, hs⟩ := hJ
      rw [List.getElem?_map] at hd
      obtain ⟨x, hx, rfl⟩ := Option.map_eq_some_iff.mp hd
      obtain ⟨rs, h1, h2⟩ := hg V x
      refine ⟨rs, h1, ?_⟩
      rw [h2]
      rw [drop_cons hx] at hs
      exact hb V x { D with nx := fun e2 => _ } Xe hX ((sat_bind.mp hs).imp fun V' hs e le => ⟨s V', le, V', rfl, hs⟩)
    · obtain ⟨V, rfl, hs⟩ := hJ
      rw [List.length_map, List.drop_length] at hs
      exact hs _ (envLe.refl _))
theorem rb_forF {g : Tg} {Xs : Out (List α)} {F : σ → α → Out (Fl ρ σ)} (st : σ) (hi : RE G we env env1 m1 (eL a) Xs) (h0 : envLe (s st) env1) (ent : σ → α → VEnv)
    (hb : ∀ st x, RB G w (ent st x) (F st x) (KF e md s)) (hg : ∀ st x, ∃ rs, g.f (itemR mS (a x)) = some rs ∧ VL.putAll (s st) g.is rs = ent st x := by exact fun _ _ => ⟨_, rfl, rfl⟩) (hm : isB m1 = false := by rfl) :
    RB G (wFor g we w) env (Xs.bind fun xs => forF F st xs) (KF e md s) := fun D Xe hX hs =>
  hi _ _ Xe hX ((sat_bind.mp hs).imp fun xs hs => by
    refine ⟨xs.map a, rfl, hm, fun k e' => ∃ V, e' = s V ∧ Sat (forF F V (xs.drop k)) (fun b => KF e md s b D) Xe, s st, h0, ⟨st, rfl, hs⟩, fun k d e' hd hJ => ?_, fun e' hJ => ?_⟩
    · obtain ⟨V, rfl, hs⟩ := hJ
      rw [List.getElem?_map] at hd
      obtain ⟨x, hx, rfl⟩ := Option.map_eq_some_iff.mp hd
      obtain ⟨rs, h1, h2⟩ := hg V x
      refine ⟨rs, h1, ?_⟩
      rw [h2]
      rw [drop_cons hx] at hs
      refine hb V x { D with nx := fun e2 => _ } Xe hX ((sat_bind.mp hs).imp fun V' hs => ?_)
      cases V' with
      | ret r => exact hs
      | nxt V' => exact fun e le => ⟨s V', le, V', rfl, hs⟩
    · obtain ⟨V, rfl, hs⟩ := hJ
      rw [List.length_map, List.drop_length] at hs
      exact hs _ (envLe.refl _))
theorem rg_get {lo hi : Int} {k : Nat} (hk : k < (hi - lo).toNat) : (rg lo hi)[k]? = some (lo + (k : Int)) := by
  unfold rg
  rw [List.getElem?_map, List.getElem?_range hk]; rfl
theorem rg_len (lo hi : Int) : (rg lo hi).length = (hi - lo).toNat := by unfold rg; rw [List.length_map, List.length_range]
theorem rb_forR {n i : Nat} {f : τ → List R} {T : Out τ} {gl gh : τ → Int} {F : σ → Int → Out σ} (st : σ) (hi : RA G wl env env1 f T) (hr : ∀ t, (f t).length = n ∧ rangeOf (f t) = some (gl t, gh t)) (h0 : envLe (s st) env1) (ent : σ → Int → VEnv)
    (hb : ∀ st x, RB G w (ent st x) (F st x) (KN s)) (hg : ∀ st x, (s st).set i (some (.int x, mA)) = ent st x := by exact fun _ _ => rfl) :
    RB G (wForR n i wl w) env (T.bind fun t => (lift (rgO (gl t) (gh t))).bind fun xs => forO F st xs) (KN s) := fun D Xe hX hs =>
  hi _ _ Xe hX ((sat_bind.mp hs).imp fun t hs => by
    obtain ⟨xs, hx, hs⟩ := sat_lift.mp (sat_bind.mp hs)
    unfold rgO at hx
    split at hx
    · rename_i hbd
      cases hx
      refine ⟨gl t, gh t, (hr t).1, (hr t).2, ⟨hbd.1, hbd.2.1⟩, ⟨hbd.2.2.1, hbd.2.2.2⟩, fun k e => ∃ V, e = s V ∧ Sat (forO F V ((rg (gl t) (gh t)).drop k)) (fun b => KN s b D) Xe, s st, h0, ⟨st, rfl, hs⟩, fun k e hk hJ => ?_, fun e hJ => ?_⟩
      · obtain ⟨V, rfl, hs⟩ := hJ
        rw [hg]
        rw [drop_cons (rg_get hk)] at hs
        exact hb V _ { D with nx := fun e2 => _ } Xe hX ((sat_bind.mp hs).imp fun V' hs e le => ⟨s V', le, V', rfl, hs⟩)
      · obtain ⟨V, rfl, hs⟩ := hJ
        rw [← rg_len, List.drop_length] at hs
        exact hs _ (envLe.refl _)
    · cases hx)
theorem rb_forRF {n i : Nat} {f : τ → List R} {T : Out τ} {gl gh : τ → Int} {F : σ → Int → Out (Fl ρ σ)} (st : σ) (hi : RA G wl env env1 f T) (hr : ∀ t, (f t).length = n ∧ rangeOf (f t) = some (gl t, gh t)) (h0 : envLe (s st) env1) (ent : σ → Int → VEnv)
    (hb : ∀ st x, RB G w (ent st x) (F st x) (KF e md s)) (hg : ∀ st x, (s st).set i (some (.int x, mA)) = ent st x := by exact fun _ _ => rfl) :
    RB G (wForR n i wl w) env (T.bind fun t => (lift (rgO (gl t) (gh t))).bind fun xs => forF F st xs) (KF e md s) := fun D Xe hX hs =>
  hi _ _ Xe hX ((sat_bind.mp hs).imp fun t hs => by
    obtain ⟨xs, hx, hs⟩ := sat_lift.mp (sat_bind.mp hs)
    unfold rgO at hx
    split at hx
    · rename_i hbd
      cases hx
      refine ⟨gl t, gh t, (hr t).1, (hr t).2, ⟨hbd.1, hbd.2.1⟩, ⟨hbd.2.2.1, hbd.2.2.2⟩, fun k e' => ∃ V, e' = s V ∧ Sat (forF F V ((rg (gl t) (gh t)).drop k)) (fun b => KF e md s b D) Xe, s st, h0, ⟨st, rfl, hs⟩, fun k e' hk hJ => ?_, fun e' hJ => ?_⟩
      · obtain ⟨V, rfl, hs⟩ := hJ
        rw [hg]
        rw [drop_cons (rg_get hk)] at hs
        refine hb V _ { D with nx := fun e2 => _ } Xe hX ((sat_bind.mp hs).imp fun V' hs => ?_)
        cases V' with
        | ret r => exact hs
        | nxt V' => exact fun e le => ⟨s V', le, V', rfl, hs⟩
      · obtain ⟨V, rfl, hs⟩ := hJ
        rw [← rg_len, List.drop_length] at hs
        exact hs _ (envLe.refl _)
    · cases hx)
theorem rb_while {P : σ → Out Bool} {F : σ → Out σ} (st : σ) (h0 : envLe (s st) env) (ht : ∀ st, RT G wt (s st) (P st)) (hb : ∀ st, RB G w (s st) (F st) (KN s)) :
    RB G (wWhile wt w) env (whileO P F fuel st) (KN s) := fun D Xe hX hs => by
  refine ⟨fun e m => ∃ V, e = s V ∧ Sat (whileO P F m V) (fun b => KN s b D) Xe, s st, fuel, h0, ⟨st, rfl, hs⟩, ?_⟩
  rintro e m ⟨V, rfl, hs⟩
  cases m with
  | zero => exact hs.elim
  | succ m =>
    refine ht V _ _ Xe hX ((sat_bind.mp hs).imp fun p hs => ?_)
    cases p
    · exact hs _ (envLe.refl _)
    · exact hb V { D with nx := fun e2 => _ } Xe hX ((sat_bind.mp hs).imp fun V' hs e le => ⟨s V', m, le, ⟨V', rfl, hs⟩, Nat.lt_succ_self m⟩)
theorem envLe.len : ∀ {e e' : VEnv}, envLe e e' → e.length = e'.length
  | [], [], _ => _root_.rfl
  | _ :: _, _ :: _, h => by simp [envLe.len h.2]
  | [], _ :: _, h => h.elim
  | _ :: _, [], h => h.elim
theorem envLe_set {x : Option (D × Md)} : ∀ {e e' : VEnv} (h : envLe e e') (i : Nat) (_ : True), envLe (e.set i x) (e'.set i x)
  | [], [], _, _, _ => True.intro
  | _ :: _, _ :: _, h, 0, _ => ⟨slLe.refl _, h.2⟩
  | _ :: _, _ :: _, h, i + 1, _ => ⟨h.1, envLe_set h.2 i True.intro⟩
  | [], _ :: _, h, _, _ => h.elim
  | _ :: _, [], h, _, _ => h.elim
def GE (e0 : VEnv) : EG := fun v => envLe e0 v
end
theorem of_KT {ρ : Type} {w : WS} {env : VEnv} {m : Out ρ} {e : Enc ρ} {md : Md} {Qv : R → Prop} {Xv : Exn → Prop} (h : RB (fun _ => True) w env m (KT e md)) (hs : Sat m (fun r => Qv ⟨e r, md⟩) Xv) : w env ⟨fun _ => Qv ⟨.none, mA⟩, fun r _ => Qv r, fun ex _ => Xv ex⟩ :=
  h _ Xv (fun _ _ _ h => h) (hs.imp fun _ q _ => q)
end VL
set_option maxRecDepth 100000
set_option maxHeartbeats 4000000
namespace VL
open PySem PySem.Spec PyProof.Rows L2
theorem el_nil : envLe [] [] := True.intro
theorem el_c {s s' : Option (D × Md)} {e e' : VEnv} (h : slLe s s') (g : envLe e e') : envLe (s :: e) (s' :: e') := ⟨h, g⟩
theorem sl_n {s : Option (D × Md)} : slLe none s := True.intro
theorem sl_o {d : D} {m m' : Option Nat} (h : leM m m' = true := by rfl) : slLe (some (d, .o m)) (some (d, .o m')) := ⟨rfl, h⟩
theorem argS_F {α : Type} {e : Enc α} [f : Fl_ e] (x : α) : argS (e x) = some (e x, mA) := by unfold argS; rw [if_pos (f.fl x)]
theorem argS_N {α : Type} {e : Enc α} [f : Nf e] (x : α) : argS (e x) = some (e x, mS) := by unfold argS; rw [f.nf x]; rfl
section
variable {α β γ δ σ σ' ρ τ : Type} {G : EG} {env env1 env2 env3 : VEnv} {md m1 m2 m3 : Md} {a : Enc α} {b : Enc β} {e : Enc ρ} {wa wb wc we wi : WE} {wl wl' : WA} {wt wu : WT} {A : Out α} {w u v : WS} {K KA KB : β → DV → Prop} {M MA MB : Out β} {s : σ → VEnv}
theorem kx : ∀ b D n, K b D → (fun (_ : β) (_ : DV) => True) b { D with nx := n } := fun _ _ _ _ => True.intro
theorem re_mulLO {B : Out Int} (k : Int) (ha : RE G wa env env1 m1 eI (.ok k)) (hb : RE G wb env1 env2 m2 eI B) (h : -(2 ^ 64) < k ∧ k < 2 ^ 64 := by decide) : RE G (wBin woMul wa wb) env env2 mA eI (B.bind fun y => .ok (k * y)) := fun Q X Xe hX hs =>
  ha _ _ Xe hX (hb _ _ Xe hX ((sat_bind.mp hs).imp fun y hs => i_mul (.inl (.inl h)) hs))
theorem re_modCO {A : Out Int} (k : Int) (ha : RE G wa env env1 m1 eI A) (hb : RE G wb env1 env2 m2 eI (.ok k)) (h : 0 < k := by decide) : RE G (wBin woMod wa wb) env env2 mA eI (A.bind fun x => .ok (x % k)) := fun Q X Xe hX hs =>
  ha _ _ Xe hX ((sat_bind.mp hs).imp fun x hs => hb _ _ Xe hX (sat_ok.mpr (i_mod h hs)))
theorem bi_lenT {d : D} {m : Md} {n : Int} (h : ∃ ds, d = .tuple ds ∧ (ds.length : Int) = n) : ∀ Q : R → Prop, Q ⟨eI n, mA⟩ → wLen [⟨d, m⟩] Q := fun Q q => by
  obtain ⟨ds, rfl, rfl⟩ := h
  exact i_lenT q
def wWs (w : WE) : WE := fun env Q X => w env (fun r e => (∃ m, r.m = .o m) ∧ Q ⟨r.d, mS⟩ e) X
theorem ve_ws {X : Cx} {c : Cn} {W : WX} {w : WE} {e : Expr} (h : PE X e (rdE c W w)) : PE X e (rdE c W (wWs w)) := PE.imp h fun σ H Q hh => by
  obtain ⟨env, L, Tm, Qv, X, S, q, kk, kx⟩ := hh
  refine ⟨env, L, Tm, _, X, S, q, fun r v l L' env' H' hq st hr => ?_, kx⟩
  obtain ⟨⟨m, hm⟩, hq⟩ := hq
  obtain ⟨d, m'⟩ := r
  cases hm
  refine kk _ v [] L' env' H' hq st.drop ?_
  have := Res.shared hr rfl st.sim fun b hb => hb
  rw [List.append_nil]
  exact .sh this
theorem re_ws {m : Option Nat} (h : RE G we env env1 (.o m) a A) : RE G (wWs we) env env1 mS a A := fun Q X Xe hX hs => h _ _ Xe hX (hs.imp fun x q => ⟨⟨m, rfl⟩, q⟩)
theorem rb_forTLF {g : Tg} {Xs : Out (List α)} {F : σ → α → Out (Fl ρ σ)} (st : σ) (hi : RE G we env env1 m1 (eTL a) Xs) (h0 : envLe (s st) env1) (ent : σ → α → VEnv)
    (hb : ∀ st x, RB G w (ent st x) (F st x) (KF e md s)) (hg : ∀ st x, ∃ rs, g.f (itemR mS (a x)) = some rs ∧ VL.putAll (s st) g.is rs = ent st x := by exact fun _ _ => ⟨_, rfl, rfl⟩) (hm : isB m1 = false := by rfl) :
    RB G (wFor g we w) env (Xs.bind fun xs => forF F st xs) (KF e md s) := fun D Xe hX hs =>
  hi _ _ Xe hX ((sat_bind.mp hs).imp fun xs hs => by
    refine ⟨xs.map a, rfl, hm, fun k e' => ∃ V, e' = s V ∧ Sat (forF F V (xs.drop k)) (fun b => KF e md s b D) Xe, s st, h0, ⟨st, rfl, hs⟩, fun k d e' hd hJ => ?_, fun e' hJ => ?_⟩
    · obtain ⟨V, rfl, hs⟩ := hJ
      rw [List.getElem?_map] at hd
      obtain ⟨x, hx, rfl⟩ := Option.map_eq_some_iff.mp hd
      obtain ⟨rs, h1, h2⟩ := hg V x
      refine ⟨rs, h1, ?_⟩
      rw [h2]
      rw [drop_cons hx] at hs
      refine hb V x { D with nx := fun e2 => _ } Xe hX ((sat_bind.mp hs).imp fun V' hs => ?_)
      cases V' with
      | ret r => exact hs
      | nxt V' => exact fun e le => ⟨s V', le, V', rfl, hs⟩
    · obtain ⟨V, rfl, hs⟩ := hJ
      rw [List.length_map, List.drop_length] at hs
      exact hs _ (envLe.refl _))
theorem rb_retI (h : RE G we env env1 md a A) (hb : isB md = false := by rfl) : RB G (wSeq (wRet we) u) env A (KT a md) := fun D Xe hX hs =>
  h _ _ Xe hX (hs.imp fun x hs => ⟨hb, hs _⟩)
theorem rb_retP' {x : α} (r : ρ) (h : RE G we env env1 md a (.ok x)) (hb : isB md = false := by rfl) (he : a x = e r := by rfl) : RB G (wSeq (wRet we) u) env (.ok r) (KT e md) := rb_retP r h hb he
theorem rb_retRP {x : α} (r : ρ) (h : RE G we env env1 md a (.ok x)) (hb : isB md = false := by rfl) (he : a x = e r := by rfl) : RB G (wSeq (wRet we) u) env (.ok (.ret r : Fl ρ σ)) (KR e md) := fun D Xe hX hs =>
  h _ _ Xe hX ⟨hb, by rw [he]; exact hs _⟩
theorem rb_ifP {p : Bool} (ht : RT G wt env (.ok p)) (h1 : RB G w env MA K) (h2 : RB G v env MB K) : RB G (wIf wt w v) env (if p = true then MA else MB) K := rb_if ht h1 h2
theorem rs_ifRP {p : Bool} (hK : ∀ b D n, K b D → KA b { D with nx := n }) (ht : RT G wt env (.ok p)) (h1 : RB G w env MA KA) (h2 : RB G u env MB K) : RB G (wSeq (wIf wt w wNext) u) env (if p = true then MA else MB) K := rs_ifR hK ht h1 h2
theorem rb_forP {g : Tg} {xs : List α} {F : σ → α → Out σ} (st : σ) (hi : RE G we env env1 m1 (eL a) (.ok xs)) (h0 : envLe (s st) env1) (ent : σ → α → VEnv)
    (hb : ∀ st x, RB G w (ent st x) (F st x) (KN s)) (hg : ∀ st x, ∃ rs, g.f (itemR mS (a x)) = some rs ∧ VL.putAll (s st) g.is rs = ent st x := by exact fun _ _ => ⟨_, rfl, rfl⟩) (hm : isB m1 = false := by rfl) :
    RB G (wFor g we w) env (forO F st xs) (KN s) := rb_for st hi h0 ent hb hg hm
theorem rb_forFP {g : Tg} {xs : List α} {F : σ → α → Out (Fl ρ σ)} (st : σ) (hi : RE G we env env1 m1 (eL a) (.ok xs)) (h0 : envLe (s st) env1) (ent : σ → α → VEnv)
    (hb : ∀ st x, RB G w (ent st x) (F st x) (KF e md s)) (hg : ∀ st x, ∃ rs, g.f (itemR mS (a x)) = some rs ∧ VL.putAll (s st) g.is rs = ent st x := by exact fun _ _ => ⟨_, rfl, rfl⟩) (hm : isB m1 = false := by rfl) :
    RB G (wFor g we w) env (forF F st xs) (KF e md s) := rb_forF st hi h0 ent hb hg hm
theorem rb_forRP {n i : Nat} {f : τ → List R} {t : τ} (lo hi' : Int) {F : σ → Int → Out σ} (st : σ) (hi : RA G wl env env1 f (.ok t)) (hr : (f t).length = n ∧ rangeOf (f t) = some (lo, hi')) (h0 : envLe (s st) env1) (ent : σ → Int → VEnv)
    (hb : ∀ st x, RB G w (ent st x) (F st x) (KN s)) (hg : ∀ st x, (s st).set i (some (.int x, mA)) = ent st x := by exact fun _ _ => rfl) :
    RB G (wForR n i wl w) env ((lift (rgO lo hi')).bind fun xs => forO F st xs) (KN s) :=
  rb_forR (f := fun _ : Unit => f t) (T := .ok ()) (gl := fun _ => lo) (gh := fun _ => hi') st (fun Q X Xe hX h => hi Q X Xe hX h) (fun _ => hr) h0 ent hb hg
theorem rb_forRFP {n i : Nat} {f : τ → List R} {t : τ} (lo hi' : Int) {F : σ → Int → Out (Fl ρ σ)} (st : σ) (hi : RA G wl env env1 f (.ok t)) (hr : (f t).length = n ∧ rangeOf (f t) = some (lo, hi')) (h0 : envLe (s st) env1) (ent : σ → Int → VEnv)
    (hb : ∀ st x, RB G w (ent st x) (F st x) (KF e md s)) (hg : ∀ st x, (s st).set i (some (.int x, mA)) = ent st x := by exact fun _ _ => rfl) :
    RB G (wForR n i wl w) env ((lift (rgO lo hi')).bind fun xs => forF F st xs) (KF e md s) :=
  rb_forRF (f := fun _ : Unit => f t) (T := .ok ()) (gl := fun _ => lo) (gh := fun _ => hi') st (fun Q X Xe hX h => hi Q X Xe hX h) (fun _ => hr) h0 ent hb hg
def enumF (xs : List α) : List (Int × α) := xs.zipIdx.map fun p => ((p.2 : Int), p.1)
theorem rb_forEFP {g : Tg} {xs : List α} {F : σ → Int × α → Out (Fl ρ σ)} (st : σ) (hi : RE G we env env1 m1 (eL a) (.ok xs)) (h0 : envLe (s st) env1) (ent : σ → Int × α → VEnv)
    (hb : ∀ st x, RB G w (ent st x) (F st x) (KF e md s)) (hg : ∀ st x, ∃ rs, g.f ⟨.tuple [.int x.1, a x.2], mS⟩ = some rs ∧ VL.putAll (s st) g.is rs = ent st x := by exact fun _ _ => ⟨_, rfl, rfl⟩) (hm : isB m1 = false := by rfl) :
    RB G (wFor_enumerate g (wCons we wNil) w) env (forF F st (enumF xs)) (KF e md s) := fun D Xe hX hs =>
  hi _ _ Xe hX (sat_ok.mpr (by
    refine ⟨_, xs.map a, rfl, rfl, hm, fun k e' => ∃ V, e' = s V ∧ Sat (forF F V ((enumF xs).drop k)) (fun b => KF e md s b D) Xe, s st, h0, ⟨st, rfl, by rw [List.drop_zero]; exact hs⟩, fun k d e' hd hJ => ?_, fun e' hJ => ?_⟩
    · obtain ⟨V, rfl, hs⟩ := hJ
      rw [List.getElem?_map] at hd
      obtain ⟨x, hx, rfl⟩ := Option.map_eq_some_iff.mp hd
      obtain ⟨rs, h1, h2⟩ := hg V ((k : Int), x)
      refine ⟨rs, h1, ?_⟩
      rw [h2]
      have hz : (enumF xs)[k]? = some ((k : Int), x) := by
        unfold enumF
        rw [List.getElem?_map, List.getElem?_zipIdx, hx]; simp
      rw [drop_cons hz] at hs
      refine hb V _ { D with nx := fun e2 => _ } Xe hX ((sat_bind.mp hs).imp fun V' hs => ?_)
      cases V' with
      | ret r => exact hs
      | nxt V' => exact fun e le => ⟨s V', le, V', rfl, hs⟩
    · obtain ⟨V, rfl, hs⟩ := hJ
      have hl : (xs.map a).length = (enumF xs).length := by simp [enumF]
      rw [hl, List.drop_length] at hs
      exact hs _ (envLe.refl _)))
theorem re_lc1P {γ : Type} {c : Enc γ} {g : Tg} {vs : List Nat} {wl : WE} (km : Option Nat) (md : Md) {ent : α → VEnv} {F : α → Out γ} {xs : List α}
    (hi : RE G wa env env1 m1 (eL a) (.ok xs)) (hg : ∀ x, ∃ rs, g.f (itemR m1 (a x)) = some rs ∧ VL.putAll (wipeE (bEnv env1) vs) g.is rs = ent x)
    (hf : ∀ x, ∃ e', RE (fun _ => True) wl (ent x) e' md c (F x)) (hk : KidE c md km) :
    RE G (wLc vs g wa wYes wl) env env1 (.o (succM km)) (eL c) (mapL (fun x => noX (F x)) xs) := re_lc1 hi hg hf hk
theorem re_lcRP {γ : Type} {c : Enc γ} {n i : Nat} {wl : WA} {vs : List Nat} {tt : WT} {we : WE} (km : Option Nat) (md : Md) (lo hi' : Int) {ent : Int → VEnv} {P : Int → Out Bool} {F : Int → Out γ} {f : τ → List R} {t : τ}
    (hi : RA G wl env env1 f (.ok t)) (hr : (f t).length = n ∧ rangeOf (f t) = some (lo, hi')) (hg : ∀ x, (wipeE (bEnv env1) vs).set i (some (.int x, mA)) = ent x)
    (hp : ∀ x, RT (fun _ => True) tt (ent x) (P x)) (hf : ∀ x, ∃ e', RE (fun _ => True) we (ent x) e' md c (F x)) (hk : KidE c md km) :
    RE G (wLcR n vs i wl tt we) env env1 (.o (succM km)) (eL c) ((lift (rgO lo hi')).bind (fmapL (fun x => noX (P x)) (fun x => noX (F x)))) :=
  re_lcR (f := fun _ : Unit => f t) (T := .ok ()) (gl := fun _ => lo) (gh := fun _ => hi') (fun Q X Xe hX h => hi Q X Xe hX h) (fun _ => hr) hg hp hf hk
theorem re_lcR1P {γ : Type} {c : Enc γ} {n i : Nat} {wl : WA} {vs : List Nat} {we : WE} (km : Option Nat) (md : Md) (lo hi' : Int) {ent : Int → VEnv} {F : Int → Out γ} {f : τ → List R} {t : τ}
    (hi : RA G wl env env1 f (.ok t)) (hr : (f t).length = n ∧ rangeOf (f t) = some (lo, hi')) (hg : ∀ x, (wipeE (bEnv env1) vs).set i (some (.int x, mA)) = ent x)
    (hf : ∀ x, ∃ e', RE (fun _ => True) we (ent x) e' md c (F x)) (hk : KidE c md km) :
    RE G (wLcR n vs i wl wYes we) env env1 (.o (succM km)) (eL c) ((lift (rgO lo hi')).bind (mapL fun x => noX (F x))) :=
  re_lcR1 (f := fun _ : Unit => f t) (T := .ok ()) (gl := fun _ => lo) (gh := fun _ => hi') (fun Q X Xe hX h => hi Q X Xe hX h) (fun _ => hr) hg hf hk
theorem envLe_setN : ∀ {e e' : VEnv} (_ : envLe e e') (i : Nat) (_ : e[i]? = some none), envLe e (e'.set i none)
  | [], [], _, _, _ => True.intro
  | s :: _, _ :: _, h, 0, z => ⟨by simp at z; rw [z]; exact True.intro, h.2⟩
  | _ :: _, _ :: _, h, i + 1, z => ⟨h.1, envLe_setN h.2 i (by simpa using z)⟩
  | [], _ :: _, h, _, _ => h.elim
  | _ :: _, [], h, _, _ => h.elim
end
section
variable {α β σ ρ : Type} {X : Exn → Prop}
theorem sat_forO {f : σ → α → Out σ} {xs : List α} {s0 : σ} {Q : σ → Prop} (Inv : Nat → σ → Prop) (h0 : Inv 0 s0) (step : ∀ k s x, xs[k]? = some x → Inv k s → Sat (f s x) (Inv (k + 1)) X) (last : ∀ s, Inv xs.length s → Q s) : Sat (forO f s0 xs) Q X := by
  induction xs generalizing s0 Inv with
  | nil => exact last _ h0
  | cons x xs ih =>
    unfold forO
    refine sat_bind.mpr ((step 0 s0 x rfl h0).imp fun s h => ?_)
    exact ih (fun k => Inv (k + 1)) h (fun k s y hy hi => step (k + 1) s y (by simpa using hy) hi) fun s h => last s h
theorem sat_whileO {c : σ → Out Bool} {f : σ → Out σ} {Q : σ → Prop} (Inv : σ → Prop) (μ : σ → Nat) : ∀ {n : Nat} {s0 : σ}, μ s0 < n → Inv s0 → (∀ s, Inv s → Sat (c s) (fun b => if b = true then Sat (f s) (fun s' => Inv s' ∧ μ s' < μ s) X else Q s) X) → Sat (whileO c f n s0) Q X
  | 0, _, h, _, _ => absurd h (Nat.not_lt_zero _)
  | n + 1, s0, h, hi, step => by
    unfold whileO
    refine sat_bind.mpr ((step s0 hi).imp fun b hb => ?_)
    cases b
    · exact hb
    · rw [if_pos rfl] at hb ⊢
      exact sat_bind.mpr (hb.imp fun s' ⟨h1, h2⟩ => sat_whileO Inv μ (by omega) h1 step)
theorem forO_ok {f : σ → α → Out σ} {g : σ → α → σ} {xs : List α} (s0 : σ) (h : ∀ s, ∀ x ∈ xs, f s x = .ok (g s x)) : forO f s0 xs = .ok (xs.foldl g s0) := by
  induction xs generalizing s0 with
  | nil => rfl
  | cons x xs ih =>
    unfold forO
    rw [h s0 x List.mem_cons_self]
    exact ih _ fun s y hy => h s y (List.mem_cons_of_mem _ hy)
theorem mapO_ok {f : α → Out β} {g : α → β} {xs : List α} (h : ∀ x ∈ xs, f x = .ok (g x)) : mapO f xs = .ok (xs.map g) := by
  induction xs with
  | nil => rfl
  | cons x xs ih =>
    unfold mapO
    rw [h x List.mem_cons_self, ih fun y hy => h y (List.mem_cons_of_mem _ hy)]; rfl
theorem mapL_ok {f : α → Out β} {g : α → β} {xs : List α} (hl : xs.length ≤ 1000000) (h : ∀ x ∈ xs, f x = .ok (g x)) : mapL f xs = .ok (xs.map g) := by
  unfold mapL; rw [if_pos hl]; exact mapO_ok h
theorem mapL_pure {g : α → β} {xs : List α} (hl : xs.length ≤ 1000000) : mapL (fun x => .ok (g x)) xs = .ok (xs.map g) := mapL_ok hl fun _ _ => rfl
theorem fmapO_ok {p : α → Out Bool} {f : α → Out β} {q : α → Bool} {g : α → β} {xs : List α} (hp : ∀ x ∈ xs, p x = .ok (q x)) (h : ∀ x ∈ xs, q x = true → f x = .ok (g x)) : fmapO p f xs = .ok ((xs.filter q).map g) := by
  induction xs with
  | nil => rfl
  | cons x xs ih =>
    unfold fmapO
    rw [hp x List.mem_cons_self, ih (fun y hy => hp y (List.mem_cons_of_mem _ hy)) fun y hy => h y (List.mem_cons_of_mem _ hy)]
    by_cases e : q x = true
    · simp [e, h x List.mem_cons_self e]
    · simp [e]
theorem fmapL_ok {p : α → Out Bool} {f : α → Out β} {q : α → Bool} {g : α → β} {xs : List α} (hl : xs.length ≤ 1000000) (hp : ∀ x ∈ xs, p x = .ok (q x)) (h : ∀ x ∈ xs, q x = true → f x = .ok (g x)) : fmapL p f xs = .ok ((xs.filter q).map g) := by
  unfold fmapL; rw [if_pos hl]; exact fmapO_ok hp h
theorem appO_ok {xs : List α} {v : α} (h : xs.length < 1000000) : appO xs v = some (xs ++ [v]) := by unfold appO; exact if_pos h
theorem extO_ok {xs ys : List α} (h : xs.length + ys.length < 1000000) : extO xs ys = some (xs ++ ys) := by unfold extO; exact if_pos h
theorem catO_ok {xs ys : List α} (h : xs.length + ys.length ≤ 1000000) : catO xs ys = some (xs ++ ys) := by unfold catO; exact if_pos h
theorem rgO_ok {lo hi : Int} (h : -(2 ^ 62) ≤ lo ∧ lo < 2 ^ 62 ∧ -(2 ^ 62) ≤ hi ∧ hi < 2 ^ 62) : rgO lo hi = some (rg lo hi) := by unfold rgO; exact if_pos h
theorem modO_ok {x y : Int} (h : 0 < y) : modO x y = some (x % y) := by unfold modO; exact if_pos h
theorem mulO_ok {x y : Int} (h : CMul x y ∨ CMulW x y) : mulO x y = some (x * y) := by unfold mulO; exact if_pos h
theorem fdO_ok {x y : Int} (h : CDiv x y ∨ CDivW x y) : fdO x y = some (x / y) := by unfold fdO; exact if_pos h
theorem powO_ok {x y : Int} (h : 0 ≤ y ∧ y ≤ 1000000 ∧ x.natAbs < 2 ^ 64) : powO x y = some (x ^ y.toNat) := by unfold powO; exact if_pos h
theorem putO_ok {kvs : List (Int × α)} {k : Int} {v : α} (h : kvs.length < 1000000) : putO kvs k v = some (putKK kvs k v) := by unfold putO; exact if_pos h
theorem repO_ok {xs : List α} {k : Int} (h0 : -(2 ^ 63) ≤ k) (h1 : k < 2 ^ 63) (h : xs.length * k.toNat ≤ 1000000) : repO xs k = some (List.replicate k.toNat xs).flatten := by unfold repO; exact if_pos ⟨h0, h1, h⟩
theorem rep1_ok {x : α} {k : Int} (h0 : 0 ≤ k) (h1 : k ≤ 1000000) : repO [x] k = some (List.replicate k.toNat x) := by
  rw [repO_ok (by omega) (by omega) (by simp; omega)]
  simp
theorem atI_nat {xs : List α} {k : Nat} {x : α} (h : xs[k]? = some x) : atI xs (k : Int) = some x := atI_nat' h
theorem atI_get {xs : List α} {i : Int} (h0 : 0 ≤ i) (h1 : i < xs.length) : atI xs i = some (xs[i.toNat]'(by omega)) := atI_pos h0 (List.getElem?_eq_getElem (by omega))
theorem ixN_nn {n : Nat} {i : Int} (h0 : 0 ≤ i) (h1 : i < n) : ixN n i = some i.toNat := by
  unfold ixN
  rw [if_pos h0, if_pos (by omega)]
theorem setO_ok {xs : List α} {i : Int} {v : α} (h0 : 0 ≤ i) (h1 : i < xs.length) : setO xs i v = some (xs.set i.toNat v) := by
  unfold setO; rw [ixN_nn h0 h1]; rfl
theorem setI_ok {xs : List α} {i : Int} {v : α} (h0 : 0 ≤ i) (h1 : i < xs.length) : setI xs i v = xs.set i.toNat v := by
  unfold setI; rw [ixN_nn h0 h1]
theorem popO_ok {xs : List α} {i : Int} (h0 : 0 ≤ i) (h1 : i < xs.length) (h2 : i < 2 ^ 62) : popO xs i = some (xs[i.toNat]'(by omega), xs.eraseIdx i.toNat) := by
  unfold popO
  rw [if_pos ⟨by omega, h2⟩, ixN_nn h0 h1]
  show (xs[i.toNat]?).map _ = _
  rw [List.getElem?_eq_getElem (by omega)]; rfl
theorem rg_nat (n : Nat) : rg 0 (n : Int) = (List.range n).map fun k : Nat => (k : Int) := by
  unfold rg; simp
theorem mem_rg {lo hi x : Int} : x ∈ rg lo hi ↔ lo ≤ x ∧ x < hi := by
  unfold rg
  rw [List.mem_map]
  constructor
  · rintro ⟨k, hk, rfl⟩
    rw [List.mem_range] at hk
    omega
  · intro h
    exact ⟨(x - lo).toNat, by rw [List.mem_range]; omega, by omega⟩
end
end VL
set_option maxRecDepth 100000
set_option maxHeartbeats 4000000
namespace VL
open PySem PySem.Spec PyProof.Rows L2
theorem depP_none : ∀ {p : List Int} {d e : D}, getP d p = some e → depP none d p = some none
  | [], _, _, _ => rfl
  | i :: p, d, e, h => by
    match d, h with
    | .list ds, h =>
      obtain ⟨d0, a0, g0⟩ := Option.bind_eq_some_iff.mp (show (atI ds i).bind (fun d => getP d p) = some e from h)
      show (popM none).bind (fun n => (atI ds i).bind fun d => depP n d p) = _
      rw [a0]
      exact depP_none g0
    | .tuple ds, h =>
      obtain ⟨d0, a0, g0⟩ := Option.bind_eq_some_iff.mp (show (atI ds i).bind (fun d => getP d p) = some e from h)
      show (atI ds i).bind (fun d => depP none d p) = _
      rw [a0]
      exact depP_none g0
    | .none, h => cases h
    | .bool _, h => cases h
    | .int _, h => cases h
    | .str _, h => cases h
    | .dict _, h => cases h
theorem setP_snoc : ∀ {p : List Int} {d e e' d' : D} {i : Int} {y : D}, getP d p = some e → setP e [i] y = some e' → setP d p e' = some d' → setP d (p ++ [i]) y = some d'
  | [], d, e, e', d', i, y, h1, h2, h3 => by cases h1; cases h3; exact h2
  | k :: p, d, e, e', d', i, y, h1, h2, h3 => by
    match d, h1, h3 with
    | .list ds, h1, h3 =>
      obtain ⟨d0, a0, g0⟩ := Option.bind_eq_some_iff.mp (show (atI ds k).bind (fun d => getP d p) = some e from h1)
      obtain ⟨j, hj, h3⟩ := Option.bind_eq_some_iff.mp (show (ixN ds.length k).bind (fun j => (ds[j]?).bind fun d => (setP d p e').map fun d' => .list (ds.set j d')) = some d' from h3)
      obtain ⟨d1, h4, h3⟩ := Option.bind_eq_some_iff.mp h3
      obtain ⟨d2, h5, h6⟩ := Option.map_eq_some_iff.mp h3
      have : atI ds k = some d1 := atI_ofq hj h4
      rw [a0] at this; cases this
      have ih := setP_snoc g0 h2 h5
      show (ixN ds.length k).bind (fun j => (ds[j]?).bind fun d => (setP d (p ++ [i]) y).map fun d' => .list (ds.set j d')) = some d'
      rw [hj]
      show (ds[j]?).bind _ = _
      rw [h4]
      show (setP d0 (p ++ [i]) y).map _ = _
      rw [ih]
      exact congrArg some h6
    | .tuple ds, h1, h3 =>
      obtain ⟨d0, a0, g0⟩ := Option.bind_eq_some_iff.mp (show (atI ds k).bind (fun d => getP d p) = some e from h1)
      obtain ⟨j, hj, h3⟩ := Option.bind_eq_some_iff.mp (show (ixN ds.length k).bind (fun j => (ds[j]?).bind fun d => (setP d p e').map fun d' => .tuple (ds.set j d')) = some d' from h3)
      obtain ⟨d1, h4, h3⟩ := Option.bind_eq_some_iff.mp h3
      obtain ⟨d2, h5, h6⟩ := Option.map_eq_some_iff.mp h3
      have : atI ds k = some d1 := atI_ofq hj h4
      rw [a0] at this; cases this
      have ih := setP_snoc g0 h2 h5
      show (ixN ds.length k).bind (fun j => (ds[j]?).bind fun d => (setP d (p ++ [i]) y).map fun d' => .tuple (ds.set j d')) = some d'
      rw [hj]
      show (ds[j]?).bind _ = _
      rw [h4]
      show (setP d0 (p ++ [i]) y).map _ = _
      rw [ih]
      exact congrArg some h6
    | .none, h, _ => cases h
    | .bool _, h, _ => cases h
    | .int _, h, _ => cases h
    | .str _, h, _ => cases h
    | .dict _, h, _ => cases h
theorem tupP_snoc : ∀ {p : List Int} {d : D} {ds : List D} {i : Int} {q : D}, getP d p = some (.tuple ds) → tupP d p → atI ds i = some q → tupP d (p ++ [i])
  | [], d, ds, i, q, h, _, ha => by cases h; exact ⟨q, ha, True.intro⟩
  | k :: p, d, ds, i, q, h, t, ha => by
    match d, h, t with
    | .tuple es, h, ⟨d0, a0, t0⟩ =>
      obtain ⟨d1, a1, g1⟩ := Option.bind_eq_some_iff.mp (show (atI es k).bind (fun d => getP d p) = some _ from h)
      rw [a0] at a1; cases a1
      exact ⟨d0, a0, tupP_snoc g1 t0 ha⟩
section
variable {X : Cx} {c : Cn} {W : WX} {pos px ppx apx cpx pos2 p3 : Pos} {wp : WP} {o : Expr} {tx : Str} {z : Int} {j3 : _}
end
section
variable {α β γ δ σ ρ τ : Type} {G : EG} {env env1 env2 env3 : VEnv} {md m1 m2 m3 : Md} {a : Enc σ} {b : Enc β} {c : Enc γ} {wi we : WE} {wp : WP} {w u v : WS} {K : δ → DV → Prop}
def RP (G : EG) (wp : WP) (env env' : VEnv) (j : Nat) (C : D) (b : Enc β) (a : Enc σ) (t : Bool) (M : Out (β × (β → σ))) : Prop :=
  ∀ (Q : Nat → List Int → VEnv → Prop) (X : Exn → VEnv → Prop) (Xe : Exn → Prop), (∀ x v, G v → Xe x → X x v) →
    Sat M (fun r => ∀ p, getP C p = some (b r.1) → (∀ y, setP C p (b y) = some (a (r.2 y))) → (t = true → tupP C p) → Q j p env') Xe → wp env Q X
theorem rp_var (j : Nat) (a : Enc σ) (x : σ) {m : Md} (h : env[j]? = some (some (a x, m)) := by rfl) : RP G (wPVar j) env env j (a x) a a true (.ok (x, fun y => y)) := fun Q X Xe _ hs =>
  ⟨⟨_, h⟩, hs [] rfl (fun _ => rfl) fun _ => True.intro⟩
theorem rp_tup {j : Nat} {C : D} {m : Md} {t : Bool} {M : Out (β × (β → σ))} (k : Int) (g : β → γ) (f : β → γ → β) (hp : RP G wp env env1 j C b a t M) (hi : RE G wi env1 env2 m1 eI (.ok k)) (hj : env2[j]? = some (some (C, m)) := by rfl)
    (hg : ∀ x, ∃ ds, b x = .tuple ds ∧ atI ds k = some (c (g x)) := by exact fun _ => ⟨_, rfl, rfl⟩) (hs : ∀ x y, setP (b x) [k] (c y) = some (b (f x y)) := by exact fun _ _ => rfl) :
    RP G (wPSub wp wi) env env2 j C c a t (M.bind fun r => .ok (g r.1, fun y => r.2 (f r.1 y))) := fun Q X Xe hX h =>
  hp _ _ Xe hX ((sat_bind.mp h).imp fun r h p h1 h2 h3 => hi _ _ Xe hX (by
    obtain ⟨ds, e1, e2⟩ := hg r.1
    have h1' := h1
    have hq : getP C (p ++ [k]) = some (c (g r.1)) := by
      rw [getP_snoc, h1, e1]
      show (atI ds k).bind _ = _
      rw [e2]; rfl
    refine ⟨k, _, _, rfl, hj, hq, h (p ++ [k]) hq (fun y => setP_snoc h1' (hs _ _) (h2 _)) fun ht => ?_⟩
    rw [e1] at h1
    exact tupP_snoc h1 (h3 ht) e2))
theorem rp_ix {j : Nat} {C : D} {m : Md} {t : Bool} {M : Out (List γ × (List γ → σ))} {I : Out Int} (hp : RP G wp env env1 j C (eL c) a t M) (hi : RE G wi env1 env2 m1 eI I) (hj : env2[j]? = some (some (C, m)) := by rfl) :
    RP G (wPSub wp wi) env env2 j C c a false (M.bind fun r => I.bind fun q => (lift (atI r.1 q)).bind fun x => .ok (x, fun y => r.2 (setI r.1 q y))) := fun Q X Xe hX h =>
  hp _ _ Xe hX ((sat_bind.mp h).imp fun r h p h1 h2 h3 => hi _ _ Xe hX ((sat_bind.mp h).imp fun q h => by
    obtain ⟨x, hx, h⟩ := sat_lift.mp (sat_bind.mp h)
    have hq : getP C (p ++ [q]) = some (c x) := by
      rw [getP_snoc, h1]
      show (atI (r.1.map c) q).bind _ = _
      rw [atI_map hx]; rfl
    refine ⟨q, _, _, rfl, hj, hq, h (p ++ [q]) hq (fun y => ?_) fun ht => (by cases ht)⟩
    refine setP_snoc h1 ?_ (h2 _)
    obtain ⟨k, e1, e2, e3⟩ := setI_at (v := y) hx
    have := setP_mk_l (p := []) (ds := r.1.map c) (e := c y) (by rw [List.length_map]; exact e1) (show (r.1.map c)[k]? = some (c x) by rw [List.getElem?_map, e2]; rfl) rfl
    show setP (.list (r.1.map c)) [q] _ = _
    rw [this, e3]
    simp [eL, List.map_set]))
theorem own_of {env : VEnv} {j : Nat} {C : D} {p : List Int} {ds : List D} (hj : env[j]? = some (some (C, mA))) (h : getP C p = some (.list ds)) : OwnL env j p ds C none none := ⟨hj, h, none, depP_none h, rfl⟩
theorem rs_appP {j : Nat} {C : D} {t : Bool} {M : Out (List γ × (List γ → σ))} {A : Out γ} {k : σ → Out δ} (hp : RP G wp env env1 j C (eL c) a t M) (he : RE G we env1 env2 m1 c A) (s : σ → VEnv) (h2 : ∀ ys, RB G u (s ys) (k ys) K)
    (hj1 : env1[j]? = some (some (C, mA)) := by rfl) (hj : env2[j]? = some (some (C, mA)) := by rfl) (hk : KidE c m1 none := by first | exact kid_F | exact kid_A | exact kid_o) (hs : ∀ ys, killB (env2.set j (some (a ys, mA))) = s ys := by exact fun _ => rfl) :
    RB G (wSeq (wApp wp we) u) env (M.bind fun r => A.bind fun v => (lift (appO r.1 v)).bind fun y => k (r.2 y)) K := fun D Xe hX h =>
  hp _ _ Xe hX ((sat_bind.mp h).imp fun r h p h1 h3 _ => ⟨⟨_, _, _, hj1, h1⟩, he _ _ Xe hX ((sat_bind.mp h).imp fun v h => by
    obtain ⟨ys, hy, h⟩ := sat_lift.mp (sat_bind.mp h)
    unfold appO at hy
    split at hy
    · rename_i hl
      cases hy
      refine ⟨C, none, r.1.map c, none, a (r.2 (r.1 ++ [v])), own_of hj h1, hk v, by rw [List.length_map]; exact hl, ?_, ?_⟩
      · have := h3 (r.1 ++ [v])
        simpa [eL] using this
      · have := h2 _ D Xe hX h
        rw [← hs] at this
        exact this
    · cases hy)⟩)
theorem rs_clrP {j : Nat} {C : D} {t : Bool} {M : Out (List γ × (List γ → σ))} {k : σ → Out δ} (hp : RP G wp env env1 j C (eL c) a t M) (s : σ → VEnv) (h2 : ∀ ys, RB G u (s ys) (k ys) K)
    (hj : env1[j]? = some (some (C, mA)) := by rfl) (hs : ∀ ys, killB (env1.set j (some (a ys, mA))) = s ys := by exact fun _ => rfl) :
    RB G (wSeq (wClr wp) u) env (M.bind fun r => k (r.2 [])) K := fun D Xe hX h =>
  hp _ _ Xe hX ((sat_bind.mp h).imp fun r h p h1 h3 _ => by
    refine ⟨C, none, r.1.map c, none, a (r.2 []), own_of hj h1, h3 [], ?_⟩
    have := h2 _ D Xe hX h
    rw [← hs] at this
    exact this)
end
section
variable {α β γ σ ρ τ : Type} {G : EG} {env env1 : VEnv} {md m1 m2 : Md} {a : Enc α} {b : Enc β} {we : WE} {A : Out α}
theorem re_someP {x : Option α} (h : RE G we env env1 md (eO a) (.ok x)) : RE G we env env1 md a (lift x) := fun Q X Xe hX hs =>
  h _ _ Xe hX (sat_ok.mpr (by
    obtain ⟨y, rfl, hy⟩ := sat_lift.mp hs
    exact hy))
theorem isNon_O (h : ∀ x, isNon (a x) = false) (x : Option α) : isNon (eO a x) = x.isNone := by
  cases x with
  | none => rfl
  | some x => exact h x
theorem xo_isNO (h : ∀ x, isNon (a x) = false) : OpP woIsN (eO a) m1 eN m2 (fun x _ => x.isNone) eB mA := fun x y Q q => i_isN (by rw [isNon_O h]; exact q)
theorem xo_notNO (h : ∀ x, isNon (a x) = false) : OpP woNotN (eO a) m1 eN m2 (fun x _ => !x.isNone) eB mA := fun x y Q q => i_notN (by rw [isNon_O h]; exact q)
end
end VL
set_option maxRecDepth 100000
set_option maxHeartbeats 4000000
namespace VL
open PySem PySem.Spec PyProof.Rows L2
section
variable {prog : Program} {w : World} {A : Around} {E : Value → Shared → Prop} {s : Shared}
end
section
variable {X : Cx} {pos : Pos}
end
section
variable {α β γ δ σ ρ τ : Type} {G : EG} {env env1 env2 env3 : VEnv} {md m1 m2 m3 : Md} {a : Enc α} {we : WE} {w u v : WS} {K : δ → DV → Prop} {A : Out (List α)}
theorem re_isiS {T : String} {b : Enc α} {x : Option α} (ha : RE G we env env1 m1 (eO b) (.ok x)) (h : ∀ y, noDict (b y) ∧ tyIs T (b y) = true := by exact fun _ => ⟨True.intro, rfl⟩) (h0 : tyIs T .none = false := by rfl) : RE G (wIsi T we) env env1 mA eB (.ok x.isSome) := fun Q X Xe hX hs =>
  ha _ _ Xe hX (by
    cases x with
    | none => exact ⟨True.intro, by show Q ⟨.bool (tyIs T .none), mA⟩ env1; rw [h0]; exact hs⟩
    | some y =>
      obtain ⟨h1, h2⟩ := h y
      exact ⟨h1, by show Q ⟨.bool (tyIs T (b y)), mA⟩ env1; rw [h2]; exact hs⟩)
end
end VL
set_option maxRecDepth 100000
set_option maxHeartbeats 4000000
namespace VL
open PySem PySem.Spec PyProof.Rows L2
section
variable {α β γ : Type} [DecidableEq α] {a : Enc α} {n : Nat} {m1 m2 : Md}
end
theorem bS_fl {α : Type} {e : Enc α} [h : Fl_ e] (x : α) : bS (some (e x, mA)) = some (e x, mA) := by
  show (if flatD (e x) = true then _ else _) = _
  rw [if_pos (h.fl x)]
theorem bEnv_c (s : Option (D × Md)) (e : VEnv) : bEnv (s :: e) = bS s :: bEnv e := rfl
theorem bEnv_n : bEnv [] = [] := rfl
end VL
set_option maxRecDepth 100000
set_option maxHeartbeats 4000000
namespace VL
open PySem PySem.Spec PyProof.Rows L2
open PySem.W (HoldAll maxOf minOf max_tuple_datum min_tuple_datum Datum DatumOrd)
section
variable {X : Cx} {c : Cn} {W : WX} {pos p p2 p3 : Pos} {wa : WA} {e e' e2 : Expr} {we : WE}
end
section
variable {α β γ σ ρ τ : Type} {G : EG} {env env1 env2 env3 : VEnv} {md m1 m2 m3 : Md} {a : Enc α} {b : Enc β} {wa wb we : WE}
variable [DecidableEq α] {n : Nat}
end
end VL
set_option maxRecDepth 100000
set_option maxHeartbeats 4000000
namespace VL
open PySem PySem.Spec PyProof.Rows L2
section
variable {α β γ σ ρ τ : Type} {G : EG} {env env1 env2 env3 : VEnv} {md m1 m2 m3 : Md} {a : Enc α} {b : Enc β} {wl : WA} {we : WE}
end
end VL
set_option maxRecDepth 100000
set_option maxHeartbeats 4000000
namespace VL
open PySem PySem.Spec PyProof.Rows L2
theorem IntsAre.at {us : List Value} {ns : List Int} (h : IntsAre us ns) : ∀ j (h1 : j < us.length), ∃ t, us[j] = .int (ns.getD j 0) t := by
  induction h with
  | nil => intro j h1; simp at h1
  | cons a t h ih =>
    intro j h1
    cases j with
    | zero => exact ⟨t, rfl⟩
    | succ j => simpa using ih j (by simpa using h1)
section
variable {α β : Type} {a : Enc α} {b : Enc β} {m1 m2 : Md}
end
section
variable {β : Type} {G : EG} {w u : WS} {env : VEnv} {m : Out β} {K : β → DV → Prop}
end
end VL
set_option maxRecDepth 100000
set_option maxHeartbeats 4000000
namespace VL
open PySem PySem.Spec PyProof.Rows L2
abbrev FSpecM := List D → (R → D → Prop) → (Exn → Prop) → Prop
def Fr (l : List Addr) (H H' : Hp) : Prop := ∀ b o, H b = some o → b ∉ l → H' b = some o
section
variable {c : Cn} {T : List Addr} {H : Hp}
end
section
variable {P : Program} {w : World} {K : PySem.W.Frag} {mg : Str → Option Value} {base : Heap} {cl : Str → Option Addr} {h : Heap}
end
section
variable {X : Cx} {c : Cn} {W : WX} {pos : Pos} {w : WE} {wa : WA} {e : Expr} {es : List Expr}
end
theorem Ress.pick {c : Cn} {T l : List Addr} {H : Hp} {rs : List R} {vs : List V} (h : Ress c T H rs vs l) {j : Nat} {d : D} (e : rs[j]? = some ⟨d, mA⟩) : ∃ v lj lo, vs[j]? = some v ∧ RO c.K (AT c.B T) H none v d lj ∧ l.Perm (lo ++ lj) ∧
    ∀ (k : Nat) r w, k ≠ j → rs[k]? = some r → vs[k]? = some w → ∃ lk, (∀ b ∈ lk, b ∈ lo) ∧ Res c T H r w lk := by
  induction h generalizing j with
  | nil => simp at e
  | @cons r rs v vs l1 l2 hr hrs ih =>
    cases j with
    | zero =>
      simp at e; subst e
      refine ⟨v, l1, l2, rfl, hr.dep, List.perm_append_comm, fun k r w hk e1 e2 => ?_⟩
      obtain ⟨k, rfl⟩ : ∃ k', k = k' + 1 := ⟨k - 1, by omega⟩
      rw [List.getElem?_cons_succ] at e1 e2
      exact rest hrs e1 e2
    | succ j =>
      obtain ⟨v', lj, lo, g1, g2, g3, g4⟩ := ih (j := j) (by simpa using e)
      refine ⟨v', lj, l1 ++ lo, by simpa using g1, g2, by rw [List.append_assoc]; exact g3.append_left l1, fun k r' w hk e1 e2 => ?_⟩
      cases k with
      | zero =>
        simp at e1 e2; subst e1; subst e2
        exact ⟨l1, fun b hb => List.mem_append_left _ hb, hr⟩
      | succ k =>
        obtain ⟨lk, s, q⟩ := g4 k r' w (by omega) (by simpa using e1) (by simpa using e2)
        exact ⟨lk, fun b hb => List.mem_append_right _ (s b hb), q⟩
where
  rest {c : Cn} {T l : List Addr} {H : Hp} {rs : List R} {vs : List V} (h : Ress c T H rs vs l) {k : Nat} {r : R} {w : V} (e1 : rs[k]? = some r) (e2 : vs[k]? = some w) : ∃ lk, (∀ b ∈ lk, b ∈ l) ∧ Res c T H r w lk := by
    induction h generalizing k with
    | nil => simp at e1
    | @cons r0 rs v0 vs l1 l2 hr _ ih =>
      cases k with
      | zero => simp at e1 e2; subst e1; subst e2; exact ⟨l1, fun b hb => List.mem_append_left _ hb, hr⟩
      | succ k =>
        obtain ⟨lk, s, q⟩ := ih (by simpa using e1) (by simpa using e2)
        exact ⟨lk, fun b hb => List.mem_append_right _ (s b hb), q⟩
section
variable {c : Cn} {L : List (List Addr)} {Tm l lj l' lr : List Addr} {env : VEnv} {σ : Sg} {H H' : Hp} {i : Nat} {v : V} {d' : D}
theorem Fr.kp {A : Addr → Prop} (f : Fr lj H H') (m : ∀ b ∈ lj, ∃ o, H b = some o ∧ mutO o) (a : ∀ b, A b → b ∉ lj) : Kp A H H' :=
  ⟨fun b o x e => f b o e (a b x), fun b xs e => f b _ e fun z => by obtain ⟨o, e2, q⟩ := m b z; rw [e] at e2; cases e2; exact q, fun b o u e => f b _ e fun z => by obtain ⟨o, e2, q⟩ := m b z; rw [e] at e2; cases e2; exact q⟩
end
def rdX (c : Cn) (W : WX) (w : WE) : TE := fun σ H Q => ∃ env L Qv X, Sim c L [] env σ H ∧ w env Qv X ∧
  (∀ r v l L' env' H', Qv r env' → Sim c L' l env' σ H' → Res c (L'.flatten ++ l) H' r v l → Q v H') ∧
  (∀ ex env' L' H' cls d, X ex env' → Sim c L' [] env' σ H' → ExR c H' ex cls d → W cls d σ H')
section
variable {X : Cx} {c : Cn} {W : WX} {pos p : Pos} {wa : WA} {we : WE} {e : Expr} {es : List Expr} {x : Str} {n k j : Nat} {S : FSpecM}
end
section
variable {X : Cx} {c : Cn} {W : WX} {pos : Pos} {we : WE} {wt : WT} {w u : WS} {e : Expr} {a b : List Stmt}
theorem vs_exprX (he : PE X e (rdX c W we)) (hs : swapsWith e none pos.line X.env = pure false := by rfl) : PS X (.Expr e pos) (rdS c W (wExpr we)) := PS.imp (ps_expr he hs) fun D σ H h => by
  obtain ⟨env, L, Dv, S, q, k, kr, kx⟩ := h
  exact ⟨env, L, _, _, S, q, fun r v l L' env' H' hq S' hr => k _ L' _ H' hq (Sim.drop (Tm := []) (l := l) S'), fun ex env' L' H' cls d hx S' he => kx ex env' L' σ H' cls d hx S' he⟩
end
section
variable {α β σ ρ τ ι : Type} {G : EG} {env env1 : VEnv} {md : Md} {a : Enc α} {e : Enc ρ} {b : Enc β} {we : WE} {wl : WA} {u w v : WS} {wt : WT} {γ : Type} {M : Out γ} {K KA : γ → DV → Prop} {s : τ → VEnv}
def RX (G : EG) (w : WE) (env : VEnv) (md : Md) (e : Enc ρ) (s : τ → VEnv) (m : Out (ρ × τ)) : Prop :=
  ∀ (Q : R → VEnv → Prop) (X : Exn → VEnv → Prop) (Xe : Exn → Prop), (∀ x v, G v → Xe x → X x v) → Sat m (fun p => Q ⟨e p.1, md⟩ (s p.2)) Xe → w env Q X
end
theorem envLe.get : ∀ {e e' : VEnv} {j : Nat} {d : D}, envLe e e' → e[j]? = some (some (d, mA)) → e'[j]? = some (some (d, mA))
  | [], _, _, _, _, h => by simp at h
  | _ :: _, [], _, _, h, _ => h.elim
  | s :: e, s' :: e', 0, d, h, g => by
    simp at g; subst g
    have h := h.1
    match s', h with
    | none, h => exact h.elim
    | some (d', .b), h => exact h.elim
    | some (d', .o m), h =>
      obtain ⟨rfl, h⟩ := h
      cases m with
      | none => rfl
      | some k => cases h
  | s :: e, s' :: e', j + 1, d, h, g => by simpa using envLe.get (j := j) h.2 (by simpa using g)
end VL
set_option maxRecDepth 100000
set_option maxHeartbeats 4000000
namespace XD
open PySem PySem.Spec PyProof.Rows L2 VL
@[irreducible] noncomputable def F_law_cell (script_ : (List Int)) (place_ : Int) : Out Int :=
  (if (decide (place_ < (script_.length : Int))) = true then (lift (atI script_ place_)) else ((Out.ok (5)).bind fun (seed_ : Int) => ((forO (fun (V3 : Int) (cell_here_ : Int) => ((Out.ok (((((V3 * 48271) + (cell_here_ % 1000003)) + 1) % 2147483647))).bind fun (seed_ : Int) => (Out.ok seed_))) seed_ (cutL script_ none (some (63)))).bind fun (V3 : Int) => (Out.ok ((V3 + (7919 * place_)) % 1000003)))))
def sp_law_cell : FSpec := fun ds Q X => ∃ (script_ : (List Int)) (place_ : Int), ds = [eScr script_, eI place_] ∧ Sat (F_law_cell script_ place_) (fun r => Q ⟨eI r, mA⟩) X
@[irreducible] noncomputable def F_law_mix (cell_here_ : Int) (k_ : Int) : Out Int :=
  (((lift (powO (((cell_here_ % 2147483629) + (1013 * k_)) + 7919) 3)).bind fun t1 => .ok (t1 % 2147483647)).bind fun (one_ : Int) => (((((Out.ok ((one_ * 40699))).bind fun t1 => (lift (mulO (3793 * k_) k_)).bind fun t2 => .ok ((t1 + t2))).bind fun t1 => (Out.ok (11)).bind fun t2 => .ok ((t1 + t2))).bind fun t1 => .ok (t1 % 2147483399)).bind fun (two_ : Int) => (Out.ok (two_ / 101))))
def sp_law_mix : FSpec := fun ds Q X => ∃ (cell_here_ : Int) (k_ : Int), ds = [eI cell_here_, eI k_] ∧ Sat (F_law_mix cell_here_ k_) (fun r => Q ⟨eI r, mA⟩) X
@[irreducible] noncomputable def F_law_row (script_ : (List Int)) (place_ : Int) (sizes_ : (List Int)) : Out (List Int) :=
  ((F_law_cell script_ place_).bind fun (cell_here_ : Int) => ((Out.ok (cell_here_)).bind fun (left_ : Int) => ((Out.ok (([] : (List Int)))).bind fun (some_ : (List Int)) => (((lift (rgO 0 (sizes_.length : Int))).bind fun xs => forO (fun (V18 : (List Int) × Int) (k_ : Int) => ((if (decide (cell_here_ < (10 ^ ((18 : Int).toNat) : Int))) = true then (((F_law_mix cell_here_ k_).bind fun t1 => (lift (atI sizes_ k_)).bind fun t2 => lift (modO t1 t2)).bind fun v => (lift (appO V18.1 v)).bind fun some_ => (Out.ok (some_, V18.2))) else ((if (decide (V18.2 > 0)) = true then (((Out.ok (V18.2)).bind fun t1 => (lift (atI sizes_ k_)).bind fun t2 => lift (modO t1 t2)).bind fun v => (lift (appO V18.1 v)).bind fun some_ => (((Out.ok (V18.2)).bind fun t1 => (lift (atI sizes_ k_)).bind fun t2 => lift (fdO t1 t2)).bind fun (left_ : Int) => (Out.ok (some_, left_)))) else ((F_law_cell script_ (((place_ + 1) + k_) % 63)).bind fun (other_ : Int) => (((F_law_mix other_ k_).bind fun t1 => (lift (atI sizes_ k_)).bind fun t2 => lift (modO t1 t2)).bind fun v => (lift (appO V18.1 v)).bind fun some_ => (Out.ok (some_, V18.2))))).bind fun (V24 : (List Int) × Int) => (Out.ok (V24.1, V24.2)))).bind fun (V23 : (List Int) × Int) => (Out.ok (V23.1, V23.2)))) (some_, left_) xs).bind fun (V18 : (List Int) × Int) => (Out.ok V18.1)))))
def sp_law_row : FSpec := fun ds Q X => ∃ (script_ : (List Int)) (place_ : Int) (sizes_ : (List Int)), ds = [eScr script_, eI place_, (eL eI) sizes_] ∧ Sat (F_law_row script_ place_ sizes_) (fun r => Q ⟨(eL eI) r, mA⟩) X
@[irreducible] noncomputable def F_law_plaited (names_ : (List Int)) (signs_ : (List (Int × Int))) (some_ : (List Int)) (strands_ : Int) : Out (List (List Int)) :=
  ((lift (repO ([false]) strands_)).bind fun (seen_ : (List Bool)) => ((Out.ok (([] : (List (List Int))))).bind fun (walks_ : (List (List Int))) => (((lift (rgO 0 strands_)).bind fun xs => forO (fun (V161 : (List (List Int)) × (List Bool)) (start_ : Int) => ((((lift (atI V161.2 start_)).bind fun t1 => .ok (!t1)).bind fun p => if p = true then ((Out.ok (([] : (List Int)))).bind fun (walk_ : (List Int)) => ((Out.ok (start_)).bind fun (at_ : Int) => ((whileO (fun (V209 : (List Bool) × (List Int) × Int) => ((lift (atI V209.1 V209.2.2)).bind fun t1 => .ok (!t1))) (fun (V209 : (List Bool) × (List Int) × Int) => ((Out.ok (true)).bind fun v => (Out.ok (V209.2.2)).bind fun j => (lift (setO V209.1 j v)).bind fun seen_ => (((lift (rgO 0 (names_.length : Int))).bind fun xs => forO (fun (V217 : (List Int) × Int) (k_ : Int) => (((lift (atI some_ ((8 * k_) + 10))).bind fun t1 => (Out.ok ((strands_ - 1))).bind fun t2 => lift (modO t1 t2)).bind fun (low_ : Int) => ((if (decide (V217.2 = low_)) = true then (((lift (atI names_ k_)).bind fun t1 => ((Out.ok (signs_)).bind fun t1 => (lift (atI names_ k_)).bind fun t2 => lift (lookK t1 t2)).bind fun t2 => lift (mulO t1 t2)).bind fun v => (lift (appO V217.1 v)).bind fun walk_ => ((Out.ok ((low_ + 1))).bind fun (at_ : Int) => (Out.ok (walk_, at_)))) else ((if (decide (V217.2 = (low_ + 1))) = true then ((((lift (atI names_ k_)).bind fun t1 => .ok (-t1)).bind fun t1 => ((Out.ok (signs_)).bind fun t1 => (lift (atI names_ k_)).bind fun t2 => lift (lookK t1 t2)).bind fun t2 => lift (mulO t1 t2)).bind fun v => (lift (appO V217.1 v)).bind fun walk_ => ((Out.ok (low_)).bind fun (at_ : Int) => (Out.ok (walk_, at_)))) else (Out.ok (V217.1, V217.2))).bind fun (V223 : (List Int) × Int) => (Out.ok (V223.1, V223.2)))).bind fun (V222 : (List Int) × Int) => (Out.ok (V222.1, V222.2))))) (V209.2.1, V209.2.2) xs).bind fun (V217 : (List Int) × Int) => (Out.ok (seen_, V217.1, V217.2))))) fuel (V161.2, walk_, at_)).bind fun (V209 : (List Bool) × (List Int) × Int) => ((Out.ok (V209.2.1)).bind fun v => (lift (appO V161.1 v)).bind fun walks_ => (Out.ok (walks_, V209.1)))))) else (Out.ok (V161.1, V161.2))).bind fun (V208 : (List (List Int)) × (List Bool)) => (Out.ok (V208.1, V208.2)))) (walks_, seen_) xs).bind fun (V161 : (List (List Int)) × (List Bool)) => (Out.ok V161.1))))
def sp_law_plaited : FSpec := fun ds Q X => ∃ (names_ : (List Int)) (signs_ : (List (Int × Int))) (some_ : (List Int)) (strands_ : Int), ds = [(eL eI) names_, (eK eI) signs_, (eL eI) some_, eI strands_] ∧ Sat (F_law_plaited names_ signs_ some_ strands_) (fun r => Q ⟨(eL (eL eI)) r, mA⟩) X
@[irreducible] noncomputable def F_law_any (names_ : (List Int)) (some_ : (List Int)) (rings_ : Int) : Out (List (List Int)) :=
  ((Out.ok (([] : (List Int)))).bind fun (left_ : (List Int)) => ((forO (fun (V232 : (List Int)) (one_ : Int) => ((Out.ok ([one_, -one_])).bind fun v => (lift (extO V232 v)).bind fun left_ => (Out.ok left_))) left_ names_).bind fun (V232 : (List Int)) => (((lift (rgO 0 rings_)).bind (mapL (fun k_ : Int => noX (Out.ok (([] : (List Int))))))).bind fun (walks_ : (List (List Int))) => (((lift (rgO 0 (2 * (names_.length : Int)))).bind fun xs => forO (fun (V233 : (List Int) × (List (List Int))) (k_ : Int) => ((Out.ok (((4 * k_) + 5))).bind fun (at_ : Int) => (((lift (atI some_ at_)).bind fun t1 => (Out.ok ((V233.1.length : Int))).bind fun t2 => lift (modO t1 t2)).bind fun q => (lift (popO V233.1 q)).bind fun p235 => (((lift (atI some_ (at_ + 1))).bind fun t1 => (Out.ok (rings_)).bind fun t2 => lift (modO t1 t2)).bind fun j => (lift (atI V233.2 j)).bind fun r => (Out.ok (p235.1)).bind fun v => (lift (appO r v)).bind fun r2 => (fun walks_ => (Out.ok (p235.2, walks_))) (setI V233.2 j r2))))) (V232, walks_) xs).bind fun (V233 : (List Int) × (List (List Int))) => (Out.ok V233.2)))))
def sp_law_any : FSpec := fun ds Q X => ∃ (names_ : (List Int)) (some_ : (List Int)) (rings_ : Int), ds = [(eL eI) names_, (eL eI) some_, eI rings_] ∧ Sat (F_law_any names_ some_ rings_) (fun r => Q ⟨(eL (eL eI)) r, mA⟩) X
@[irreducible] noncomputable def F_law_mixed (names_ : (List Int)) (some_ : (List Int)) : Out (List Int) :=
  ((Out.ok (names_)).bind fun (left_ : (List Int)) => ((Out.ok (([] : (List Int)))).bind fun (found_ : (List Int)) => (((lift (rgO 0 (names_.length : Int))).bind fun xs => forO (fun (V32 : (List Int) × (List Int)) (k_ : Int) => (((lift (atI some_ ((8 * k_) + 9))).bind fun t1 => (Out.ok ((V32.2.length : Int))).bind fun t2 => lift (modO t1 t2)).bind fun q => (lift (popO V32.2 q)).bind fun p => (lift (appO V32.1 p.1)).bind fun z => (fun p34 => (Out.ok (p34.1, p34.2))) (z, p.2))) (found_, left_) xs).bind fun (V32 : (List Int) × (List Int)) => (Out.ok V32.1))))
def sp_law_mixed : FSpec := fun ds Q X => ∃ (names_ : (List Int)) (some_ : (List Int)), ds = [(eL eI) names_, (eL eI) some_] ∧ Sat (F_law_mixed names_ some_) (fun r => Q ⟨(eL eI) r, mA⟩) X
@[irreducible] noncomputable def F_law_drawn (script_ : (List Int)) (place_ : Int) (most_ : Int) : Out ((List (List Int)) × (List (Int × Int))) :=
  ((Out.ok ([(most_ + 1), 5, 4, 3, 3])).bind fun (sizes_ : (List Int)) => ((((Out.ok (script_)).bind fun x => ((Out.ok (place_)).bind fun x => (((Out.ok (sizes_)).bind fun t1 => (lift (repO ([80, 5, 2, 3]) (2 * most_))).bind fun t2 => lift (catO t1 t2)).bind fun x => (Out.ok ()).bind fun t => .ok (x, t)).bind fun t => .ok (x, t)).bind fun t => .ok (x, t)).bind (fun (t : (List Int) × Int × (List Int) × Unit) => F_law_row t.1 t.2.1 t.2.2.1)).bind fun (some_ : (List Int)) => ((Out.ok (([] : (List Int)))).bind fun (names_ : (List Int)) => ((Out.ok (([] : (List (Int × Int))))).bind fun (signs_ : (List (Int × Int))) => ((Out.ok (0)).bind fun (last_ : Int) => ((((lift (atI some_ 0)).bind fun x => (Out.ok ()).bind fun t => .ok (x, t)).bind fun (t : Int × Unit) => (lift (rgO (0) (t.1))).bind fun xs => forO (fun (V239 : Int × (List Int) × (List (Int × Int))) (k_ : Int) => (((lift (atI some_ ((8 * k_) + 8))).bind fun t1 => ((Out.ok ([0, 1, (10 ^ ((58 : Int).toNat) : Int)])).bind fun t1 => (lift (atI some_ 3)).bind fun t2 => lift (atI t1 t2)).bind fun t2 => lift (mulO t1 t2)).bind fun (step_ : Int) => ((Out.ok (((V239.1 + 1) + step_))).bind fun (last_ : Int) => ((Out.ok (last_)).bind fun v => (lift (appO V239.2.1 v)).bind fun names_ => ((((lift (atI some_ ((8 * k_) + 7))).bind fun t1 => .ok (2 * t1)).bind fun t1 => (Out.ok (1)).bind fun t2 => .ok ((t1 - t2))).bind fun v => (Out.ok (last_)).bind fun j => (lift (putO V239.2.2 j v)).bind fun signs_ => (Out.ok (last_, names_, signs_))))))) (last_, names_, signs_) xs).bind fun (V239 : Int × (List Int) × (List (Int × Int))) => ((((lift (atI some_ 2)).bind fun t1 => (Out.ok (2)).bind fun t2 => .ok (decide (t1 < t2))).bind fun p => if p = true then ((((F_law_mixed V239.2.1 some_).bind fun x => ((Out.ok (V239.2.2)).bind fun x => ((Out.ok (some_)).bind fun x => (((Out.ok (2)).bind fun t1 => (lift (atI some_ 4)).bind fun t2 => .ok ((t1 + t2))).bind fun x => (Out.ok ()).bind fun t => .ok (x, t)).bind fun t => .ok (x, t)).bind fun t => .ok (x, t)).bind fun t => .ok (x, t)).bind (fun (t : (List Int) × (List (Int × Int)) × (List Int) × Int × Unit) => F_law_plaited t.1 t.2.1 t.2.2.1 t.2.2.2.1)).bind fun (walks_ : (List (List Int))) => (Out.ok walks_)) else ((((lift (atI some_ 1)).bind fun x => (Out.ok (minF (V239.2.1.length : Int) 1, ())).bind fun t => .ok (x, t)).bind fun (t : Int × Int × Unit) => .ok (maxF t.1 t.2.1)).bind fun (rings_ : Int) => ((F_law_any V239.2.1 some_ rings_).bind fun (walks_ : (List (List Int))) => (Out.ok walks_)))).bind fun (V240 : (List (List Int))) => (((Out.ok (V240)).bind fun x => ((mapL (fun one_ : Int => noX (((Out.ok (one_)).bind fun x => ((lift (lookK V239.2.2 one_)).bind fun x => (Out.ok ()).bind fun t => .ok (x, t)).bind fun t => .ok (x, t)).bind fun (t : Int × Int × Unit) => .ok (t.1, t.2.1))) V239.2.1).bind fun x => (Out.ok ()).bind fun t => .ok (x, t)).bind fun t => .ok (x, t)).bind fun (t : (List (List Int)) × (List (Int × Int)) × Unit) => .ok (t.1, t.2.1)))))))))
def sp_law_drawn : FSpec := fun ds Q X => ∃ (script_ : (List Int)) (place_ : Int) (most_ : Int), ds = [eScr script_, eI place_, eI most_] ∧ Sat (F_law_drawn script_ place_ most_) (fun r => Q ⟨(e2 (eL (eL eI)) (eL (e2 eI eI))) r, mA⟩) X
@[irreducible] noncomputable def F_law_copy (drawing_ : ((List (List Int)) × (List (Int × Int)))) : Out ((List (List Int)) × (List (Int × Int))) :=
  (((mapL (fun walk_ : (List Int) => noX (Out.ok (walk_))) drawing_.1).bind fun x => (Out.ok (drawing_.2, ())).bind fun t => .ok (x, t)).bind fun (t : (List (List Int)) × (List (Int × Int)) × Unit) => .ok (t.1, t.2.1))
def sp_law_copy : FSpec := fun ds Q X => ∃ (drawing_ : ((List (List Int)) × (List (Int × Int)))), ds = [(e2 (eL (eL eI)) (eL (e2 eI eI))) drawing_] ∧ Sat (F_law_copy drawing_) (fun r => Q ⟨(e2 (eL (eL eI)) (eL (e2 eI eI))) r, mA⟩) X
@[irreducible] noncomputable def F_law_is_whole (one_ : Int) : Out Bool :=
  (Out.ok (!(false)))
def sp_law_is_whole : FSpec := fun ds Q X => ∃ (one_ : Int), ds = [eI one_] ∧ Sat (F_law_is_whole one_) (fun r => Q ⟨eB r, mA⟩) X
end XD
set_option maxRecDepth 100000
set_option maxHeartbeats 4000000
namespace XA
open PySem PySem.Spec PyProof.Rows L2 VL
end XA
set_option maxRecDepth 100000
set_option maxHeartbeats 4000000
namespace XC
open PySem PySem.Spec PyProof.Rows L2 VL
end XC
set_option maxRecDepth 100000
set_option maxHeartbeats 4000000
namespace XS
open PySem PySem.Spec PyProof.Rows L2 VL
@[irreducible] noncomputable def F_law_is_drawing (found_ : ((List (List Int)) × (List (Int × Int)))) : Out Bool :=
  (if (!decide (2 = 2)) = true then (Out.ok false) else ((forF (fun (V257 : Unit) (walk_ : (List Int)) => ((forF (fun (V259 : Unit) (one_ : Int) => (((XD.F_law_is_whole one_).bind fun t1 => .ok (!t1)).bind fun p => if p = true then (Out.ok (Fl.ret false)) else (Out.ok (Fl.nxt ())))) () walk_).bind (flowF fun (V259 : Unit) => (Out.ok (Fl.nxt ()))))) () found_.1).bind (flowT fun (V257 : Unit) => ((forF (fun (V260 : Unit) (entry_ : (Int × Int)) => (if (!decide (2 = 2)) = true then (Out.ok (Fl.ret false)) else ((((XD.F_law_is_whole entry_.1).bind fun t1 => .ok (!t1)).bind fun p => if p = true then .ok true else ((XD.F_law_is_whole entry_.2).bind fun t1 => .ok (!t1))).bind fun p => if p = true then (Out.ok (Fl.ret false)) else (Out.ok (Fl.nxt ()))))) () found_.2).bind (flowT fun (V260 : Unit) => (Out.ok true))))))
def sp_law_is_drawing : FSpec := fun ds Q X => ∃ (found_ : ((List (List Int)) × (List (Int × Int)))), ds = [(e2 (eL (eL eI)) (eL (e2 eI eI))) found_] ∧ Sat (F_law_is_drawing found_) (fun r => Q ⟨eB r, mA⟩) X
end XS
set_option maxRecDepth 100000
set_option maxHeartbeats 4000000
namespace XT
open PySem PySem.Spec PyProof.Rows L2 VL
end XT
set_option maxRecDepth 100000
set_option maxHeartbeats 4000000
namespace XF
open PySem PySem.Spec PyProof.Rows L2 VL
@[irreducible] noncomputable def F_law_drawn (script_ : (List Int)) (place_ : Int) (most_ : Int) : Out ((List (List Int)) × (List (Int × Int))) :=
  ((Out.ok ([(most_ + 1), 5, 4, 3, 3])).bind fun (sizes_ : (List Int)) => ((((Out.ok (script_)).bind fun x => ((Out.ok (place_)).bind fun x => (((Out.ok (sizes_)).bind fun t1 => (lift (repO ([80, 5, 2, 3]) (2 * most_))).bind fun t2 => lift (catO t1 t2)).bind fun x => (Out.ok ()).bind fun t => .ok (x, t)).bind fun t => .ok (x, t)).bind fun t => .ok (x, t)).bind (fun (t : (List Int) × Int × (List Int) × Unit) => XD.F_law_row t.1 t.2.1 t.2.2.1)).bind fun (some_ : (List Int)) => ((Out.ok (([] : (List Int)))).bind fun (names_ : (List Int)) => ((Out.ok (([] : (List (Int × Int))))).bind fun (signs_ : (List (Int × Int))) => ((Out.ok (0)).bind fun (last_ : Int) => ((((lift (atI some_ 0)).bind fun x => (Out.ok ()).bind fun t => .ok (x, t)).bind fun (t : Int × Unit) => (lift (rgO (0) (t.1))).bind fun xs => forO (fun (V239 : Int × (List Int) × (List (Int × Int))) (k_ : Int) => (((lift (atI some_ ((8 * k_) + 8))).bind fun t1 => ((Out.ok ([0, 1, (10 ^ ((9 : Int).toNat) : Int)])).bind fun t1 => (lift (atI some_ 3)).bind fun t2 => lift (atI t1 t2)).bind fun t2 => lift (mulO t1 t2)).bind fun (step_ : Int) => ((Out.ok (((V239.1 + 1) + step_))).bind fun (last_ : Int) => ((Out.ok (last_)).bind fun v => (lift (appO V239.2.1 v)).bind fun names_ => ((((lift (atI some_ ((8 * k_) + 7))).bind fun t1 => .ok (2 * t1)).bind fun t1 => (Out.ok (1)).bind fun t2 => .ok ((t1 - t2))).bind fun v => (Out.ok (last_)).bind fun j => (lift (putO V239.2.2 j v)).bind fun signs_ => (Out.ok (last_, names_, signs_))))))) (last_, names_, signs_) xs).bind fun (V239 : Int × (List Int) × (List (Int × Int))) => ((((lift (atI some_ 2)).bind fun t1 => (Out.ok (2)).bind fun t2 => .ok (decide (t1 < t2))).bind fun p => if p = true then ((((XD.F_law_mixed V239.2.1 some_).bind fun x => ((Out.ok (V239.2.2)).bind fun x => ((Out.ok (some_)).bind fun x => (((Out.ok (2)).bind fun t1 => (lift (atI some_ 4)).bind fun t2 => .ok ((t1 + t2))).bind fun x => (Out.ok ()).bind fun t => .ok (x, t)).bind fun t => .ok (x, t)).bind fun t => .ok (x, t)).bind fun t => .ok (x, t)).bind (fun (t : (List Int) × (List (Int × Int)) × (List Int) × Int × Unit) => XD.F_law_plaited t.1 t.2.1 t.2.2.1 t.2.2.2.1)).bind fun (walks_ : (List (List Int))) => (Out.ok walks_)) else ((((lift (atI some_ 1)).bind fun x => (Out.ok (minF (V239.2.1.length : Int) 1, ())).bind fun t => .ok (x, t)).bind fun (t : Int × Int × Unit) => .ok (maxF t.1 t.2.1)).bind fun (rings_ : Int) => ((XD.F_law_any V239.2.1 some_ rings_).bind fun (walks_ : (List (List Int))) => (Out.ok walks_)))).bind fun (V240 : (List (List Int))) => (((Out.ok (V240)).bind fun x => ((mapL (fun one_ : Int => noX (((Out.ok (one_)).bind fun x => ((lift (lookK V239.2.2 one_)).bind fun x => (Out.ok ()).bind fun t => .ok (x, t)).bind fun t => .ok (x, t)).bind fun (t : Int × Int × Unit) => .ok (t.1, t.2.1))) V239.2.1).bind fun x => (Out.ok ()).bind fun t => .ok (x, t)).bind fun t => .ok (x, t)).bind fun (t : (List (List Int)) × (List (Int × Int)) × Unit) => .ok (t.1, t.2.1)))))))))
def sp_law_drawn : FSpec := fun ds Q X => ∃ (script_ : (List Int)) (place_ : Int) (most_ : Int), ds = [eScr script_, eI place_, eI most_] ∧ Sat (F_law_drawn script_ place_ most_) (fun r => Q ⟨(e2 (eL (eL eI)) (eL (e2 eI eI))) r, mA⟩) X
end XF
set_option maxRecDepth 100000
set_option maxHeartbeats 4000000
namespace VL
open PySem PySem.Spec PyProof.Rows L2
section
variable {α β γ δ : Type} {a : Enc α} {b : Enc β} {c : Enc γ} {d : Enc δ} {n m k j : Nat}
def eX3 (a : Enc α) (b : Enc β) (c : Enc γ) : Enc (α × β × γ) := fun p => .list [a p.1, b p.2.1, c p.2.2]
def eX4 (a : Enc α) (b : Enc β) (c : Enc γ) (d : Enc δ) : Enc (α × β × γ × δ) := fun p => .list [a p.1, b p.2.1, c p.2.2.1, d p.2.2.2]
instance : Nf (eX3 a b c) := ⟨fun _ => rfl⟩
instance : Nf (eX4 a b c d) := ⟨fun _ => rfl⟩
variable [DecidableEq α] [DecidableEq β] [DecidableEq γ] [DecidableEq δ]
instance [h : EqE a n] [g : EqE b m] [i : EqE c k] : EqE (eX3 a b c) (max n (max m k) + 1) := ⟨fun p => by simp [eX3, PyData.canLay0, PyData.canLayAll0, h.lay, g.lay, i.lay], fun p => by
  have := h.dep p.1; have := g.dep p.2.1; have := i.dep p.2.2
  simp only [eX3, PyData.depth, PyData.depthAll]; omega, fun p q => by
  obtain ⟨p1, p2, p3⟩ := p; obtain ⟨q1, q2, q3⟩ := q
  simp only [eX3, PyData.eqv, PyData.eqvAll, h.eqv, g.eqv, i.eqv, Prod.mk.injEq, Bool.and_true, Bool.decide_and]⟩
instance [h : EqE a n] [g : EqE b m] [i : EqE c k] [u : EqE d j] : EqE (eX4 a b c d) (max n (max m (max k j)) + 1) := ⟨fun p => by simp [eX4, PyData.canLay0, PyData.canLayAll0, h.lay, g.lay, i.lay, u.lay], fun p => by
  have := h.dep p.1; have := g.dep p.2.1; have := i.dep p.2.2.1; have := u.dep p.2.2.2
  simp only [eX4, PyData.depth, PyData.depthAll]; omega, fun p q => by
  obtain ⟨p1, p2, p3, p4⟩ := p; obtain ⟨q1, q2, q3, q4⟩ := q
  simp only [eX4, PyData.eqv, PyData.eqvAll, h.eqv, g.eqv, i.eqv, u.eqv, Prod.mk.injEq, Bool.and_true, Bool.decide_and]⟩
end
section
variable {α β τ : Type} {b : Enc β} {G : EG} {env env1 env2 : VEnv} {wb wc : WE} {wl : WA} {m1 m2 : Md}
end
end VL
set_option maxRecDepth 100000
set_option maxHeartbeats 4000000
namespace VL
open PySem PySem.Spec PyProof.Rows L2
section
variable {X : Cx} {c : Cn} {W : WX} {apos cpos : Pos} {wd wk wx : WE} {o e f : Expr} {k : Nat}
end
section
variable {α : Type} {a : Enc α} {G : EG} {env env1 env2 env3 : VEnv} {wd wk wx : WE} {m1 m2 m3 : Md}
end
end VL
set_option maxRecDepth 100000
set_option maxHeartbeats 4000000
namespace VL
open PySem PySem.Spec PyProof.Rows L2
inductive At where
  | i (n : Int) | b (v : Bool) | s (x : Str)
deriving DecidableEq
def eA : Enc At | .i n => .int n | .b v => .bool v | .s x => .str x
instance : Fl_ eA := ⟨fun | .i _ => rfl | .b _ => rfl | .s _ => rfl⟩
def asI : At → Option Int | .i n => some n | _ => none
def asB : At → Option Bool | .b n => some n | _ => none
def asS : At → Option Str | .s n => some n | _ => none
@[simp] theorem asI_i (n : Int) : asI (.i n) = some n := Eq.trans rfl rfl
@[simp] theorem asB_b (n : Bool) : asB (.b n) = some n := Eq.trans rfl rfl
@[simp] theorem asS_s (n : Str) : asS (.s n) = some n := Eq.trans rfl rfl
def asP : List At → Option (Int × Int) | [.i a, .i b] => some (a, b) | _ => none
@[simp] theorem asP_i (a b : Int) : asP [.i a, .i b] = some (a, b) := Eq.trans rfl rfl
section
variable {α β : Type} {G : EG} {env env1 : VEnv} {md : Md} {a : Enc α} {b : Enc β} {we : WE}
variable {m1 m2 : Md}
end
def anyD (x : D) : List D → Option Bool
  | [] => some false
  | z :: ds => (scalD z x).bind fun b => (anyD x ds).map fun r => b || r
def woInT (neg : Bool) : WO := fun ra rb Q => ∃ ds b, rb.d = .tuple ds ∧ ds ≠ [] ∧ anyD ra.d ds = some b ∧ Q ⟨.bool (if neg then !b else b), mA⟩
section
variable {X : Cx} {c : Cn}
theorem scal_flat {K : PySem.W.Frag} {A : Addr → Prop} {H : Hp} {x y : V} {d e : D} {b : Bool} (h1 : RS K A H x d) (h2 : RS K A H y e) (h : scalD d e = some b) : flatV x = true ∧ flatV y = true ∧ eqV x y = b := by
  unfold scalD at h
  split at h <;> first | (cases h; done) | (cases h1; cases h2; cases h; exact ⟨rfl, rfl, rfl⟩) | (cases h1; cases h2; cases h; exact ⟨rfl, rfl, by simp [eqV, Bool.beq_eq_decide_eq]⟩)
theorem any_in {K : PySem.W.Frag} {A : Addr → Prop} {H : Hp} {x : V} {d : D} (h1 : RS K A H x d) : ∀ {xs : List V} {ds : List D} {b : Bool}, RSs K A H xs ds → anyD d ds = some b → xs.all flatV = true ∧ inV x xs = b ∧ (ds ≠ [] → flatV x = true)
  | _, _, b, .nil, h => by cases h; exact ⟨rfl, rfl, fun z => (z rfl).elim⟩
  | _, _, b, .cons h0 r, h => by
    obtain ⟨b1, hb1, h⟩ := Option.bind_eq_some_iff.mp h
    obtain ⟨b2, hb2, rfl⟩ := Option.map_eq_some_iff.mp h
    obtain ⟨f1, f2, e⟩ := scal_flat h0 h1 hb1
    obtain ⟨g1, g2, _⟩ := any_in h1 r hb2
    refine ⟨by rw [List.all_cons, f1, g1]; rfl, ?_, fun _ => f2⟩
    show (_ :: _ : List V).any _ = _
    rw [List.any_cons, e]
    exact congrArg _ g2
theorem s_inT {neg : Bool} : OpS c (rIn c.K neg) (woInT neg) := by
  intro L Tm la lb env σ H ra rb x y Qv Q S h1 h2 ⟨ds, b, e, ne, hb, q⟩ k
  obtain ⟨d, m⟩ := rb
  cases e
  obtain ⟨a, xs, rfl, ha, r⟩ := h2.read.tup_inv
  obtain ⟨f1, f2, f3⟩ := any_in h1.read r hb
  refine ⟨a, xs, rfl, .inr (SqT.of ha), f3 ne, f1, ?_⟩
  have e : (if neg = true then !inV x xs else inV x xs) = if neg = true then !b else b := by rw [f2]
  rw [e]
  exact flat_end1 S q (.bl _) rfl k
theorem c_notInT (hK : c.K = X.K := by rfl) : CmpOk X c .NotIn (woInT true) := ⟨_, op_notIn_seq, by rw [← hK]; exact s_inT⟩
end
section
variable {α β : Type} [DecidableEq α] {a : Enc α} {b : Enc β} {m1 m2 : Md}
theorem any_of {f : β → α} (hs : ∀ (x : α) (y : β), scalD (b y) (a x) = some (decide (x = f y))) (x : α) : ∀ ys : List β, anyD (a x) (ys.map b) = some (decide (x ∈ ys.map f))
  | [] => rfl
  | y :: ys => by
    rw [List.map_cons, List.map_cons]
    show (scalD (b y) (a x)).bind _ = _
    rw [hs, any_of hs x ys]
    show some (decide (x = f y) || decide (x ∈ ys.map f)) = _
    by_cases h : x = f y <;> simp [h]
theorem xo_notInT2 {f : β → α} (hs : ∀ (x : α) (y : β), scalD (b y) (a x) = some (decide (x = f y))) : OpP (woInT true) a m1 (e2 b b) m2 (fun x p => !decide (x ∈ [f p.1, f p.2])) eB mA := fun x p Q q => ⟨[b p.1, b p.2], _, rfl, by simp, any_of hs x [p.1, p.2], q⟩
theorem hs_I : ∀ (x : Int) (y : Int), scalD (eI y) (eI x) = some (decide (x = id y)) := fun x y => by
  show some (decide (y = x)) = some (decide (x = y))
  congr 1
  rw [decide_eq_decide]; exact eq_comm
end
section
variable {X : Cx} {c : Cn} {W : WX} {pos : Pos} {wa wb : WE} {a b : Expr}
end
section
variable {α : Type} {a : Enc α} {m1 m2 : Md}
end
section
variable {α δ : Type} {G : EG} {env env1 : VEnv} {md : Md} {a : Enc α} {we : WE} {u : WS} {K : δ → DV → Prop} {A : Out (List α)}
end
section
variable {X : Cx} {c : Cn} {W : WX} {pos p : Pos} {wa : WA} {e : Expr}
end
section
variable {α : Type} {a : Enc α} {m : Md}
end
end VL
set_option maxRecDepth 100000
set_option maxHeartbeats 4000000
namespace VL
open PySem PySem.Spec PyProof.Rows L2
section
variable {X : Cx} {c : Cn} {W : WX} {pos p p2 apos cpos : Pos} {wa : WA} {e o : Expr} {we wk : WE}
end
section
variable {X : Cx}
end
end VL
set_option maxRecDepth 100000
set_option maxHeartbeats 4000000
namespace VL
open PySem PySem.Spec PyProof.Rows L2
section
variable {X : Cx} {c : Cn} {W : WX} {pos p apos cpos px : Pos} {o i : Expr} {wd wk : WE} {x : Str} {k : Nat}
def dropKK {α : Type} (kvs : List (Int × α)) (k : Int) : List (Int × α) := kvs.filter fun p => decide (p.1 ≠ k)
theorem PrI.drop {K : PySem.W.Frag} {A : Addr → Prop} {H : Hp} {k' : List (Key × V)} {kvs : List (Int × D)} (h : PrI K A H k' kvs) (i : Int) : PrI K A H (dropK k' (.inl i)) (dropKK kvs i) := by
  induction h with
  | nil => exact .nil
  | @cons j v d r s hv _ ih =>
    unfold dropK dropKK at ih ⊢
    rw [List.filter_cons, List.filter_cons]
    by_cases e : j = i
    · rw [if_neg (by simp [e]), if_neg (by simp [e])]; exact ih
    · rw [if_pos (by simpa using e), if_pos (by simpa using e)]; exact .cons hv ih
end
section
variable {α β γ : Type} {G : EG} {env env1 : VEnv} {md m1 : Md} {a : Enc α} {wd wk we : WE} {u : WS} {K : β → DV → Prop}
end
end VL
set_option maxRecDepth 100000
set_option maxHeartbeats 4000000
namespace VL
open PySem PySem.Spec PyProof.Rows L2
section
variable {prog : Program} {w : World} {A : Around} {E : Value → Shared → Prop} {s : Shared}
end
section
variable {X : Cx} {pos p2 px tpos p3 : Pos} {o value hi : Expr} {tv to th : TE}
end
section
variable {X : Cx} {c : Cn} {W : WX} {pos p2 px tpos : Pos} {hi e : Expr} {we : WE} {x : Str}
end
section
variable {α β : Type} {G : EG} {env env1 : VEnv} {a : Enc α} {we : WE} {u : WS} {K : β → DV → Prop}
end
end VL
set_option maxRecDepth 100000
set_option maxHeartbeats 4000000
namespace VL
open PySem PySem.Spec PyProof.Rows L2
section
variable {P : Program} {w : World} {K : PySem.W.Frag} {mg : Str → Option Value} {base : Heap} {cl : Str → Option Addr} {h : Heap}
end
section
variable {c : Cn} {L : List (List Addr)} {Tm l lj lr : List Addr} {env : VEnv} {σ : Sg} {H H' : Hp}
end
section
variable {X : Cx} {c : Cn} {W : WX} {pos p : Pos} {wa : WA} {we : WE} {e : Expr} {es : List Expr} {x : Str} {n k j : Nat} {S : FSpec}
end
section
variable {β ρ τ ι : Type} {G : EG} {env env1 : VEnv} {md : Md} {b : Enc β} {wl : WA}
end
end VL
set_option maxRecDepth 100000
set_option maxHeartbeats 4000000
namespace VL
open PySem PySem.Spec PyProof.Rows L2
section
variable {X : Cx} {c : Cn} {W : WX} {pos px px2 ppx dpx tpos pos2 : Pos} {wp : WP} {o : Expr} {tx dx : Str} {b : Bool} {j3 : _} {kr : Nat}
end
section
variable {α σ δ : Type} {G : EG} {env env1 : VEnv} {a : Enc σ} {wp : WP} {u : WS} {K : δ → DV → Prop}
end
end VL
set_option maxRecDepth 100000
set_option maxHeartbeats 4000000
namespace VL
open PySem PySem.Spec PyProof.Rows L2
section
variable {prog : Program} {w : World} {A : Around} {E : Value → Shared → Prop} {s : Shared}
end
section
variable {X : Cx} {c : Cn} {W : WX} {pos p p1 p2 p3 : Pos} {e : Expr} {te : TE} {we : WE} {wa : WA} {k : Nat}
end
section
variable {α β : Type} {G : EG} {env env1 : VEnv} {md m : Md} {a : Enc α} {b : Enc β} {we : WE}
end
section
variable {α : Type} {e : Enc α} {m : Md} {x : α} {rs : List R} {n : Option (Option Nat)}
end
end VL
set_option maxRecDepth 100000
set_option maxHeartbeats 4000000
namespace VL
open PySem PySem.Spec PyProof.Rows L2
section
variable {X : Cx} {c : Cn} {W : WX} {pos p cpos tpos : Pos} {g : Tg} {wa : WA} {w : WS} {elts : List Expr} {kk : Nat} {a b : Expr} {body : List Stmt}
end
section
variable {α β σ ρ : Type} {G : EG} {env env1 env2 : VEnv} {m1 m2 md : Md} {a : Enc α} {b : Enc β} {e : Enc ρ} {wa wb : WE} {w : WS} {s : σ → VEnv}
end
end VL
set_option maxRecDepth 100000
set_option maxHeartbeats 4000000
namespace VL
open PySem PySem.Spec PyProof.Rows L2
section
variable {X : Cx} {c : Cn} {W : WX} {pos apos cpos px : Pos} {wa wb wk wv : WE} {wo : WO} {r2 : R2} {a b e f : Expr} {x : Str}
end
section
variable {α β γ δ σ ρ τ : Type} {G : EG} {env env1 : VEnv} {md m1 m2 : Md} {a : Enc α} {b : Enc β} {e : Enc ρ} {we wk wv wb : WE} {wo : WO} {s : τ → VEnv}
def eqG (d e : D) : Option Bool := match scalD d e with
  | some b => some b
  | none => if (SeqAt.shaped d && SeqAt.shaped e) = true then some (PyData.eqv d e) else none
variable {mm1 mm2 : Md}
theorem woEq_G {ra rb : R} {Q : R → Prop} {z : Bool} (h : eqG ra.d rb.d = some z) (q : Q ⟨.bool z, mA⟩) : woEq ra rb Q := by
  unfold eqG at h
  unfold woEq
  cases e : scalD ra.d rb.d with
  | some b => rw [e] at h; cases h; exact q
  | none =>
    rw [e] at h
    simp only at h
    split at h
    · rename_i hs
      cases h
      rw [Bool.and_eq_true] at hs
      exact ⟨hs.1, hs.2, q⟩
    · cases h
theorem xo_eqG {a : Enc α} {b : Enc β} : OpO woEq a mm1 b mm2 (fun x y => eqG (a x) (b y)) eB mA := fun x y z Q h q => woEq_G h q
end
end VL
set_option maxRecDepth 100000
set_option maxHeartbeats 4000000
namespace VL
open PySem PySem.Spec PyProof.Rows L2
section
variable {α β ρ σ τ ι γ : Type} {G : EG} {env env1 : VEnv} {md m1 : Md} {a : Enc α} {e : Enc ρ} {we : WE} {wl : WA} {u w v : WS} {wt : WT} {A : Out α} {s : τ → VEnv} {K : γ → DV → Prop}
end
end VL
set_option maxRecDepth 100000
set_option maxHeartbeats 4000000
namespace VL
open PySem PySem.Spec PyProof.Rows L2
section
variable {X : Cx} {c : Cn} {W : WX} {pos p px pc : Pos} {wa : WA} {e : Expr} {x : Str}
end
section
variable {α β : Type} {G : EG} {env : VEnv} {md m1 m2 : Md} {a : Enc α} {b : Enc β} {wa wb we : WE}
end
end VL
set_option maxRecDepth 100000
set_option maxHeartbeats 4000000
namespace VL
open PySem PySem.Spec PyProof.Rows L2
open PySem.W (dataLe dataLt AllAlike Sortable EachIs alike alikeAll)
section
variable {X : Cx} {c : Cn} {W : WX} {pos p : Pos} {wa : WA} {e : Expr} {β : Type} {fv : β → V} {fd : β → D}
end
section
variable {X : Cx} {c : Cn} {W : WX} {pos p : Pos} {wa : WA} {e : Expr}
end
class OrdE {α : Type} (e : Enc α) (lt : outParam (α → α → Bool)) : Prop where
  lt : ∀ a b, dataLt (e a) (e b) = lt a b
  al : ∀ a b, alike (e a) (e b) = true
  nn : ∀ a, e a ≠ .none ∧ ∀ xs, e a ≠ .tuple xs
def lexB {α : Type} [DecidableEq α] (lt : α → α → Bool) : List α → List α → Bool
  | [], [] => false
  | [], _ :: _ => true
  | _ :: _, [] => false
  | x :: xs, y :: ys => if x = y then lexB lt xs ys else lt x y
def ltI (a b : Int) : Bool := decide (a < b)
instance : OrdE eI ltI := ⟨fun a b => PySem.W.dataLt_int a b, fun _ _ => by simp [eI, alike], fun _ => ⟨by simp [eI], by simp [eI]⟩⟩
section
variable {α : Type} [DecidableEq α] {a : Enc α} {lt : α → α → Bool} {n : Nat}
theorem alike_map [o : OrdE a lt] : ∀ xs ys : List α, alikeAll (xs.map a) (ys.map a) = true
  | [], _ => by simp [alikeAll]
  | _ :: _, [] => by simp [alikeAll]
  | x :: xs, y :: ys => by simp [alikeAll, o.al, alike_map xs ys]
theorem dataLt_map [o : OrdE a lt] [h : EqE a n] : ∀ xs ys : List α, dataLt (.list (xs.map a)) (.list (ys.map a)) = lexB lt xs ys
  | [], [] => by rw [PySem.W.dataLt_list]; rfl
  | [], y :: ys => by
    have := PySem.W.dataLt_list [] ((y :: ys).map a)
    rw [List.map_nil, this]
    have e : (PyData.list []) = (PyData.list (([] : List Int).map .int)) := rfl
    have d := PySem.W.dataLt_ints [] [0]
    simp only [lexB]
    rw [List.map_cons]
    have := PySem.W.toks_all_cons (a y) (ys.map a)
    rw [this]
    simp only [PySem.W.keyToksAll]
    rfl
  | x :: xs, [] => by
    rw [List.map_nil, PySem.W.dataLt_list, List.map_cons, PySem.W.toks_all_cons]
    simp only [PySem.W.keyToksAll, lexB]
    rfl
  | x :: xs, y :: ys => by
    have ih := dataLt_map xs ys
    rw [PySem.W.dataLt_list] at ih ⊢
    rw [List.map_cons, List.map_cons, PySem.W.dataLt_cons (o.al x y), h.eqv, o.lt, ih]
    simp only [lexB, decide_eq_true_eq]
instance [o : OrdE a lt] [h : EqE a n] : OrdE (eL a) (lexB lt) := ⟨fun xs ys => dataLt_map xs ys, fun xs ys => by
  have := alike_map (a := a) xs ys
  simpa [eL, alike] using this, fun _ => ⟨by simp [eL], by simp [eL]⟩⟩
end
end VL
set_option maxRecDepth 100000
set_option maxHeartbeats 4000000
namespace VL
open PySem PySem.Spec PyProof.Rows L2
section
variable {X : Cx} {c : Cn} {W : WX} {pos p p2 q px apos cpos : Pos} {e : Expr} {te : TE} {we : WE} {x : Str}
end
section
variable {α β γ : Type} {G : EG} {env env1 : VEnv} {md : Md} {a : Enc α} {we : WE} {u : WS} {M : Out γ} {K : γ → DV → Prop}
end
end VL
set_option maxRecDepth 100000
set_option maxHeartbeats 4000000
namespace VL
open PySem PySem.Spec PyProof.Rows L2
section
variable {α β γ : Type} {G : EG} {env env1 env2 : VEnv} {m1 m2 md : Md} {a : Enc α} {b : Enc β} {c : Enc γ} {wa wb : WE}
end
section
variable {c : Cn} {L : List (List Addr)} {Tm : List Addr} {H H1 H3 : Hp} {Dn : Addr} {km : Option Nat} {acc : List V} {accD : List D} {lk : List Addr}
theorem Acc.grow (A : Acc c L Tm H1 Dn km acc accD lk H) (sm : Same H H3) : Acc c L Tm H1 Dn km acc accD lk H3 :=
  ⟨A.same.trans sm, A.nd, fun b hb => let ⟨n, o, e⟩ := A.new b hb; ⟨n, o, sm _ _ e⟩, sm _ _ A.at_, ROs.keepT A.kids sm fun b hb => .inl hb⟩
end
section
variable {X : Cx} {c : Cn} {W : WX} {we wl : WE} {wa : WA} {tt : WT} {g : Tg} {vs : List Nat}
end
section
variable {X : Cx} {c : Cn} {W : WX} {wl : WE} {wa : WA} {tt : WT} {a b elt : Expr} {elts : List Expr} {kk : Nat} {tpos : Pos} {ifs : List Expr} {scope : Scope} {pos p cpos : Pos}
end
section
variable {α β γ : Type} {G : EG} {env env1 env2 : VEnv} {m1 m2 : Md} {a : Enc α} {b : Enc β} {c : Enc γ} {wa wb : WE}
end
end VL
set_option maxRecDepth 100000
set_option maxHeartbeats 4000000
namespace VL
open PySem PySem.Spec PyProof.Rows L2
section
variable {X : Cx} {c : Cn} {W : WX} {pos px ppx apx cpx pos2 p3 : Pos} {wp : WP} {o : Expr} {tx : Str}
end
section
variable {α β γ δ σ ρ τ : Type} {G : EG} {env env1 env2 env3 : VEnv} {md m1 m2 m3 : Md} {a : Enc σ} {b : Enc β} {c : Enc γ} {wi we : WE} {wp : WP} {w u v : WS} {K : δ → DV → Prop}
end
end VL
set_option maxRecDepth 100000
set_option maxHeartbeats 4000000
namespace VL
open PySem PySem.Spec PyProof.Rows L2
def Cn.pinW (c : Cn) (i : Nat) (v : V) : Cn := { c with pin := (i, v) :: c.pin }
section
variable {X : Cx} {c : Cn} {W : WX} {pos px : Pos} {g : Tg} {w : WS} {tg : Expr} {x : Str} {body : List Stmt}
theorem Sim.pinned {i : Nat} {v : V} {L : List (List Addr)} {Tm : List Addr} {e : VEnv} {σ : Sg} {H : Hp} (S : Sim c L Tm e σ H) (h : σ[i]? = some (some v)) : Sim (c.pinW i v) L Tm e σ H :=
  ⟨up S.sl, S.nd, S.own, S.fr, S.hd, fun p hp => by
    rcases List.mem_cons.mp hp with z | z
    · subst z; exact h
    · exact S.pin p z⟩
where
  up {c : Cn} {i : Nat} {v : V} {T : List Addr} {H : Hp} {e : VEnv} {σ : Sg} {L : List (List Addr)} (h : Slots c T H e σ L) : Slots (c.pinW i v) T H e σ L := by
    induction h with
    | nil => exact .nil
    | non _ ih => exact .non ih
    | bor r _ ih => exact .bor r ih
    | own r _ ih => exact .own r ih
theorem Sim.unpin {i : Nat} {v : V} {L : List (List Addr)} {Tm : List Addr} {e : VEnv} {σ : Sg} {H : Hp} (S : Sim (c.pinW i v) L Tm e σ H) : Sim c L Tm e σ H :=
  ⟨un S.sl, S.nd, S.own, S.fr, S.hd, fun p hp => S.pin p (List.mem_cons_of_mem _ hp)⟩
where
  un {c : Cn} {i : Nat} {v : V} {T : List Addr} {H : Hp} {e : VEnv} {σ : Sg} {L : List (List Addr)} (h : Slots (c.pinW i v) T H e σ L) : Slots c T H e σ L := by
    induction h with
    | nil => exact .nil
    | non _ ih => exact .non ih
    | bor r _ ih => exact .bor r ih
    | own r _ ih => exact .own r ih
end
section
variable {α β σ ρ : Type} {G : EG} {env env1 env2 : VEnv} {m1 m2 md : Md} {a : Enc α} {b : Enc β} {e : Enc ρ} {w : WS} {s : σ → VEnv}
end
end VL
set_option maxRecDepth 100000
set_option maxHeartbeats 4000000
namespace VL
open PySem PySem.Spec PyProof.Rows L2
section
variable {X : Cx} {c : Cn} {W : WX} {pos apos cpos : Pos} {wp : WP} {we : WE} {o e : Expr}
end
section
variable {α β γ δ σ ρ τ : Type} {G : EG} {env env1 env2 env3 : VEnv} {md m1 m2 m3 : Md} {a : Enc α} {we : WE} {u : WS} {K : β → DV → Prop}
end
end VL
set_option maxRecDepth 100000
set_option maxHeartbeats 4000000
namespace VL
open PySem PySem.Spec PyProof.Rows L2
def Cn.pool (c : Cn) (R : List Addr) (H1 : Hp) : Cn := { c with P0 := fun b => c.P0 b ∧ b ∉ R, H0 := fun b => if b ∈ R then H1 b else c.H0 b, rw := c.rw.filter fun b => decide (b ∉ R) }
section
variable {c : Cn} {R R1 R2 : List Addr} {H1 H : Hp} {L : List (List Addr)} {Tm : List Addr} {e : VEnv} {σ : Sg}
theorem pool_rw {b : Addr} : b ∈ (c.pool R H1).rw ↔ b ∈ c.rw ∧ b ∉ R := by
  show b ∈ c.rw.filter _ ↔ _
  rw [List.mem_filter]; simp
theorem pool_own (hR : ∀ b ∈ R, ∃ o, H1 b = some o) {b : Addr} : (c.pool R H1).Own b ↔ b ∉ R ∧ c.Own b := by
  unfold Cn.Own
  rw [pool_rw]
  show (if b ∈ R then H1 b else c.H0 b) = none ∨ _ ↔ _
  by_cases h : b ∈ R
  · obtain ⟨o, ho⟩ := hR b h
    rw [if_pos h, ho]; simp [h]
  · rw [if_neg h]; simp [h]
theorem pool_B (hR : ∀ b ∈ R, ∃ o, H1 b = some o) {b : Addr} : (c.pool R H1).B b ↔ b ∉ R ∧ c.B b := by
  unfold Cn.B
  rw [pool_own hR]
  show (c.P0 b ∧ b ∉ R) ∨ _ ↔ _
  constructor
  · rintro (⟨h1, h2⟩ | ⟨h1, h2⟩)
    · exact ⟨h2, .inl h1⟩
    · exact ⟨h1, .inr h2⟩
  · rintro ⟨h1, h2 | h2⟩
    · exact .inl ⟨h2, h1⟩
    · exact .inr ⟨h1, h2⟩
theorem Slots.reAT {c' : Cn} (hK : c'.K = c.K) {T T' : List Addr} (hm : ∀ b, AT c.B T b → AT c'.B T' b) (h : Slots c T H e σ L) : Slots c' T' H e σ L := by
  induction h with
  | nil => exact .nil
  | non _ ih => exact .non ih
  | bor r _ ih => exact .bor (by rw [hK]; exact r) ih
  | own r _ ih => exact .own (by rw [hK]; exact RO.mono (fun b _ a _ => hm b a) r) ih
theorem pool_AT (hR : ∀ b ∈ R, ∃ o, H1 b = some o) {T : List Addr} {b : Addr} (h : AT (c.pool R H1).B T b) : AT c.B T b := ⟨((pool_B hR).mp h.1).2, h.2⟩
end
section
variable {X : Cx} {c : Cn} {W : WX} {pos : Pos} {g : Tg} {we : WE} {w : WS} {tg iter : Expr} {body : List Stmt}
end
section
variable {σ ρ : Type} {G : EG} {env env1 env2 : VEnv} {md : Md} {e : Enc ρ} {we : WE} {w : WS} {s : σ → VEnv}
end
end VL
set_option maxRecDepth 100000
set_option maxHeartbeats 4000000
namespace VL
open PySem PySem.Spec PyProof.Rows L2
end VL
set_option maxRecDepth 100000
set_option maxHeartbeats 4000000
namespace VL
open PySem PySem.Spec PyProof.Rows L2
open PySem.W (dataLt alike)
end VL
set_option maxRecDepth 100000
set_option maxHeartbeats 4000000
namespace VL
open PySem PySem.Spec PyProof.Rows L2
section
variable {X : Cx} {c : Cn} {W : WX} {pos px ppx py ppy apx cpx pos2 pos3 p3 : Pos} {wp : WP} {o : Expr} {tx ty : Str} {z : Int} {j3 : _}
end
section
variable {α β γ δ σ ρ τ : Type} {G : EG} {env env1 env2 env3 : VEnv} {md m1 m2 m3 : Md} {a : Enc σ} {wp : WP} {w u v : WS} {K : δ → DV → Prop}
end
end VL
set_option maxRecDepth 100000
set_option maxHeartbeats 4000000
namespace VL
open PySem PySem.Spec PyProof.Rows L2
open PySem.W (dataLe dataLt AllAlike Sortable EachIs alike alikeAll)
section
variable {X : Cx} {c : Cn} {W : WX} {pos p : Pos} {wa : WA} {e : Expr} {β : Type} {fv : β → V} {fd : β → D}
end
section
variable {α : Type} [DecidableEq α] {a : Enc α} {lt : α → α → Bool} {n : Nat}
end
end VL
set_option maxRecDepth 100000
set_option maxHeartbeats 4000000
namespace VL
open PySem PySem.Spec PyProof.Rows L2
section
variable {X : Cx} {c : Cn} {W : WX} {pos : Pos} {g : Tg} {we : WE} {w : WS} {tg iter : Expr} {body : List Stmt}
end
section
variable {σ ρ : Type} {G : EG} {env env1 env2 : VEnv} {md : Md} {e : Enc ρ} {we : WE} {w : WS} {s : σ → VEnv}
end
end VL
set_option maxRecDepth 100000
set_option maxHeartbeats 4000000
namespace VL
open PySem PySem.Spec PyProof.Rows L2
def MA (A : Addr → Prop) (H : Hp) : Addr → Prop := fun b => A b ∧ ∃ o, H b = some o ∧ mutO o
section
variable {K : PySem.W.Frag} {A : Addr → Prop} {H : Hp}
mutual
theorem RS.mut : ∀ {v : V} {d : D}, RS K A H v d → RS K (MA A H) H v d
  | _, _, .non => .non
  | _, _, .bl b => .bl b
  | _, _, .int i => .int i
  | _, _, .str x => .str x
  | _, _, .lst h a r => .lst h ⟨a, _, h, trivial⟩ (RSs.mut r)
  | _, _, .tup h r => .tup h (RSs.mut r)
  | _, _, .dct h a e r => .dct h ⟨a, h.mut⟩ e (RSs.mut r)
  | _, _, .scr h => .scr h
  | _, _, .opq a => .opq a
  | _, _, .wtp a => .wtp a
  | _, _, .ins h a c e r => .ins h ⟨a, _, h, trivial⟩ c e (RSs.mut r)
theorem RSs.mut : ∀ {v : List V} {d : List D}, RSs K A H v d → RSs K (MA A H) H v d
  | _, _, .nil => .nil
  | _, _, .cons h r => .cons (RS.mut h) (RSs.mut r)
end
mutual
theorem RO.mut : ∀ {m : Option Nat} {v : V} {d : D} {l : List Addr}, RO K A H m v d l → RO K (MA A H) H m v d l
  | _, _, _, _, .sh h => .sh h.mut
  | _, _, _, _, .flat h f => .flat h.mut f
  | _, _, _, _, .lst p h r => .lst p h (ROs.mut r)
  | _, _, _, _, .opq a => .opq a
  | _, _, _, _, .wtp a => .wtp a
  | _, _, _, _, .ins p h c e r => .ins p h c e (ROs.mut r)
  | _, _, _, _, .tup h r => .tup h (ROs.mut r)
  | _, _, _, _, .dct p h e r => .dct p h e (ROs.mut r)
theorem ROs.mut : ∀ {m : Option Nat} {v : List V} {d : List D} {l : List Addr}, ROs K A H m v d l → ROs K (MA A H) H m v d l
  | _, _, _, _, .nil => .nil
  | _, _, _, _, .cons h r => .cons (RO.mut h) (ROs.mut r)
end
mutual
theorem RO.ownMut : ∀ {m : Option Nat} {v : V} {d : D} {l : List Addr}, RO K A H m v d l → ∀ b ∈ l, ∃ o, H b = some o ∧ mutO o
  | _, _, _, _, .sh h, b, hb => (by cases hb)
  | _, _, _, _, .flat h f, b, hb => (by cases hb)
  | _, _, _, _, .lst p h r, b, hb => (List.mem_cons.mp hb).elim (fun z => by rw [z]; exact ⟨_, h, trivial⟩) fun z => ROs.ownMut r b z
  | _, _, _, _, .opq a, b, hb => (by cases hb)
  | _, _, _, _, .wtp a, b, hb => (by cases hb)
  | _, _, _, _, .ins p h c e r, b, hb => (List.mem_cons.mp hb).elim (fun z => by rw [z]; exact ⟨_, h, trivial⟩) fun z => ROs.ownMut r b z
  | _, _, _, _, .tup h r, b, hb => ROs.ownMut r b hb
  | _, _, _, _, .dct p h e r, b, hb => (List.mem_cons.mp hb).elim (fun z => by rw [z]; exact h.mut) fun z => ROs.ownMut r b z
theorem ROs.ownMut : ∀ {m : Option Nat} {v : List V} {d : List D} {l : List Addr}, ROs K A H m v d l → ∀ b ∈ l, ∃ o, H b = some o ∧ mutO o
  | _, _, _, _, .nil, b, hb => by cases hb
  | _, _, _, _, .cons h r, b, hb => (List.mem_append.mp hb).elim (fun z => RO.ownMut h b z) fun z => ROs.ownMut r b z
end
end
theorem Slots.ownMut {c : Cn} {T : List Addr} {H : Hp} {env : VEnv} {σ : Sg} {L : List (List Addr)} (h : Slots c T H env σ L) : ∀ b ∈ L.flatten, ∃ o, H b = some o ∧ mutO o := by
  induction h with
  | nil => intro b hb; cases hb
  | non _ ih => intro b hb; exact ih b (by simpa using hb)
  | bor _ _ ih => intro b hb; exact ih b (by simpa using hb)
  | own r _ ih =>
    intro b hb
    rw [List.flatten_cons] at hb
    exact (List.mem_append.mp hb).elim (fun z => r.ownMut b z) fun z => ih b z
theorem Slots.reMA {c c' : Cn} (hK : c'.K = c.K) {T T' : List Addr} {H : Hp} {e : VEnv} {σ : Sg} {L : List (List Addr)} (hm : ∀ b, MA (AT c.B T) H b → AT c'.B T' b) (h : Slots c T H e σ L) : Slots c' T' H e σ L := by
  induction h with
  | nil => exact .nil
  | non _ ih => exact .non ih
  | bor r _ ih => exact .bor (by rw [hK]; exact r) ih
  | own r _ ih => exact .own (by rw [hK]; exact RO.mono (fun b _ a _ => hm b a) r.mut) ih
def Cn.su (c : Cn) (R : List Addr) (H1 : Hp) (hs : List (V × D)) : Cn := { c.pool R H1 with hd := hs ++ c.hd }
def XdL (R : List Addr) (H1 : Hp) : Prop := ∀ b ∈ R, ∃ fs, H1 b = some (.xd fs)
section
variable {c : Cn} {R : List Addr} {H1 H : Hp} {L : List (List Addr)} {Tm : List Addr} {e : VEnv} {σ : Sg} {hs : List (V × D)}
theorem XdL.is (hR : XdL R H1) : ∀ b ∈ R, ∃ o, H1 b = some o := fun b hb => let ⟨fs, h⟩ := hR b hb; ⟨_, h⟩
theorem XdL.no (hR : XdL R H1) {b : Addr} (h : ∃ o, H1 b = some o ∧ mutO o) : b ∉ R := fun hb => by
  obtain ⟨fs, q⟩ := hR b hb
  obtain ⟨o, h1, h2⟩ := h
  rw [q] at h1
  cases h1
  exact h2
theorem su_AT (hR : XdL R H1) {T : List Addr} {b : Addr} (h : AT (c.su R H1 hs).B T b) : AT c.B T b := pool_AT hR.is h
theorem Sim.toSu (hR : XdL R H1) (hh : ∀ p ∈ hs, RS c.K (fun _ => True) H1 p.1 p.2 ∧ flatD p.2 = true) (S : Sim c L [] e σ H1) : Sim (c.su R H1 hs) L [] e σ H1 := by
  have hm : ∀ b, MA (AT c.B (L.flatten ++ [])) H1 b → AT (c.su R H1 hs).B (L.flatten ++ []) b := fun b h =>
    ⟨(pool_B (c := c) hR.is).mpr ⟨hR.no h.2, h.1.1⟩, h.1.2⟩
  refine ⟨Slots.reMA (c := c) (c' := c.su R H1 hs) rfl hm S.sl, S.nd, fun a ha => ?_, fun b o hb hn => ?_, fun p hp => ?_, S.pin⟩
  · have h1 := S.own a ha
    have h2 := S.sl.ownMut a (by simpa using ha)
    exact ⟨(pool_own (c := c) hR.is).mpr ⟨hR.no h2, h1.1⟩, h1.2⟩
  · replace hb : (if b ∈ R then H1 b else c.H0 b) = some o := hb
    replace hn : b ∉ (c.pool R H1).rw := hn
    rw [pool_rw] at hn
    by_cases h : b ∈ R
    · rwa [if_pos h] at hb
    · rw [if_neg h] at hb
      exact S.fr b o hb fun z => hn ⟨z, h⟩
  · rcases List.mem_append.mp hp with z | z
    · exact (hh p z).1.flat (hh p z).2
    · exact (S.hd p z).mut.mono fun b _ a _ => hm b a
theorem su_kept (S : Sim (c.su R H1 hs) L Tm e σ H) {b : Addr} {o : HO} (hb : b ∈ R) (ho : H1 b = some o) : H b = some o :=
  S.fr b o (by show (if b ∈ R then H1 b else c.H0 b) = _; rw [if_pos hb]; exact ho) fun z => (pool_rw.mp (show b ∈ (c.pool R H1).rw from z)).2 hb
theorem su_fr (hf : ∀ b ∈ R, ∀ o, c.H0 b = some o → b ∉ c.rw → H1 b = some o) (fr : ∀ b o, (c.su R H1 hs).H0 b = some o → b ∉ (c.su R H1 hs).rw → H b = some o) : ∀ b o, c.H0 b = some o → b ∉ c.rw → H b = some o := fun b o hb hn => by
  refine fr b o ?_ fun z => hn (pool_rw.mp (show b ∈ (c.pool R H1).rw from z)).1
  show (if b ∈ R then H1 b else c.H0 b) = _
  by_cases h : b ∈ R
  · rw [if_pos h]; exact hf b h o hb hn
  · rw [if_neg h]; exact hb
theorem Sim.unSu (hR : XdL R H1) (hf : ∀ b ∈ R, ∀ o, c.H0 b = some o → b ∉ c.rw → H1 b = some o) (S : Sim (c.su R H1 hs) L Tm e σ H) : Sim c L Tm e σ H :=
  ⟨Slots.reAT (c := c.su R H1 hs) (c' := c) rfl (fun b h => su_AT hR h) S.sl, S.nd, fun a ha => ⟨((pool_own (c := c) hR.is).mp (S.own a ha).1).2, (S.own a ha).2⟩, su_fr hf S.fr, fun p hp => (S.hd p (List.mem_append_right _ hp)).mono fun b _ a _ => su_AT hR a, S.pin⟩
theorem Res.unSu (hR : XdL R H1) {T l : List Addr} {r : VL.R} {v : V} (h : Res (c.su R H1 hs) T H r v l) : Res c T H r v l := by
  obtain ⟨d, m⟩ := r
  cases m with
  | b => exact h
  | o m => exact RO.mono (fun b _ a _ => su_AT hR a) (Res.dep h)
end
def FldOk (ex : Exn) : Prop := ∀ f dt, ex.fld = some (f, dt) → flatD dt = true
def XfH (ex : Exn) (d : Option Addr) (R : List Addr) (H1 : Hp) (hs : List (V × D)) : Prop :=
  XdL R H1 ∧ match ex.fld with
    | none => d = none
    | some (f, dt) => ∃ dd v, d = some dd ∧ dd ∈ R ∧ H1 dd = some (.xd [(f, v)]) ∧ (v, dt) ∈ hs ∧ flatD dt = true
def wTryF (w : WS) (l : List Str) (i : Nat) (ws : Addr → Exn → WS) : WS := fun env Dv => w env { Dv with ex := fun ex e => if catch_ l ex = true then FldOk ex ∧ ∀ a, ws a ex (e.set i (some (opD a, mS))) { Dv with nx := fun e' => Dv.nx (e'.set i none), ex := fun _ _ => False } else Dv.ex ex e }
section
variable {X : Cx} {c : Cn} {W : WX} {pos np pos' : Pos} {w : WS} {l : List Str} {i : Nat} {x n : Str} {body suite : List Stmt} {b₀ : Stmt} {ws : Addr → Exn → WS}
theorem vs_tryF (hs : X.stack = X.env :: X.outer) (hf : X.env.frame = some X.env.locals) (hN : X.N.Nodup) (cs : Clause c.K X.mg c.cl x l) (tk : Takes X W)
    (hb : ∀ (W' : WX) (pn : List (Addr × Obj)) (xe : Value → Shared → Prop), Takes (X.tr pn xe) W' → PassesOwn (model X.prog X.w) X.A X.env xe → PSs (X.tr pn xe) body (rdS c W' w))
    (hsu : ∀ (a : Addr) (oe : Obj) (ex : Exn) (D : Addr) (d : Option Addr) (pn : List (Addr × Obj)) (R : List Addr) (H1 : Hp) (hs : List (V × VL.D)), c.cl ex.cls = some D → XfH ex d R H1 hs → Zc (.ref D) d oe → (∃ vs, oe.data = .fields vs) → PSs (X.suite a ((a, oe) :: pn)) (b₀ :: suite) (rdS (c.su R H1 hs) W0 (ws a ex)))
    (hK : c.K = X.K := by rfl) (hi : X.N[i]? = some n := by rfl) (hln : X.env.kindOf n = some .local := by rfl) (hg : Gl X x := by rfl) (hx : x ≠ "__debug__" := by decide) (pf : PinF c [i] := by first | exact pinF_nil rfl | exact pinF_one rfl (by decide) | assumption) : PS X (.Try body [.ExceptHandler (some (.Name x np)) (some n) (b₀ :: suite) pos'] [] [] pos) (rdS c W (wTryF w l i ws)) := by
  obtain ⟨C, hC, ct⟩ := cs
  refine PS.imp (ps_try_as (tb := fun W' => rdS c W' w) (ts := fun a cls d D σ H => ∃ ex DD R H1 hs, cls = Value.ref DD ∧ c.cl ex.cls = some DD ∧ XfH ex d R H1 hs ∧ rdS (c.su R H1 hs) W0 (ws a ex) D σ H) (Wout := W) hs hf hN hi hln (c := .ref C) ⟨hg, by simpa using hx, Or.inl hC⟩ tk hb (fun a oe cls d pn hz hv => ⟨fun pins s σ H D I hh => ?_⟩)) fun D σ H h => ?_
  · obtain ⟨ex, DD, R, H1, hs, e1, e2, e3, hr⟩ := hh
    subst e1
    exact (hsu a oe ex DD d pn R H1 hs e2 e3 hz hv).run pins s σ H D I hr
  · obtain ⟨env, L, Dv, S, q, k, kr, kx⟩ := h
    refine ⟨env, L, _, S, q, k, kr, fun ex env' L' σ' H' cls d hq S' he => ?_⟩
    obtain ⟨DD, e1, e2, e3⟩ := he
    subst e2
    refine ⟨catch_ l ex, by rw [← hK]; exact ct ex DD e1, fun hb a na => ?_, fun hb => ?_⟩
    · replace hq : FldOk ex ∧ ∀ a, ws a ex (env'.set i (some (opD a, mS))) { Dv with nx := fun e' => Dv.nx (e'.set i none), ex := fun _ _ => False } := by simpa only [hb, if_true] using hq
      obtain ⟨hfl, hq⟩ := hq
      have key : ∃ R hs, XfH ex d R H' hs ∧ ∀ p ∈ hs, RS c.K (fun _ => True) H' p.1 p.2 ∧ flatD p.2 = true := by
        cases hfe : ex.fld with
        | none =>
          rw [hfe] at e3
          exact ⟨[], [], ⟨fun b hb => (by cases hb), by rw [hfe]; exact e3⟩, fun p hp => (by cases hp)⟩
        | some z =>
          obtain ⟨f, dt⟩ := z
          rw [hfe] at e3
          obtain ⟨dd, v, e4, e5, e6⟩ := e3
          have fl := hfl f dt hfe
          refine ⟨[dd], [(v, dt)], ⟨fun b hb => (by rw [List.mem_singleton.mp hb]; exact ⟨_, e5⟩), by rw [hfe]; exact ⟨dd, v, e4, List.mem_singleton.mpr rfl, e5, List.mem_singleton.mpr rfl, fl⟩⟩, fun p hp => by rw [List.mem_singleton.mp hp]; exact ⟨e6, fl⟩⟩
      obtain ⟨R, hs', xf, hh⟩ := key
      have hR := xf.1
      have hr : Res c (L'.flatten ++ ([] ++ [])) H' ⟨opD a, mS⟩ (.ref a) [] := RO.sh (.opq a)
      obtain ⟨L2, S2, _⟩ := Sim.put (i := i) (Tm := []) (l := []) S' hr pf
      have hfr : ∀ b ∈ R, ∀ o, c.H0 b = some o → b ∉ c.rw → H' b = some o := fun b _ o h1 h2 => S'.fr b o h1 h2
      refine ⟨ex, DD, R, H', hs', rfl, e1, xf, _, L2, _, Sim.toSu hR hh S2, hq a, fun e3 L3 σ3 H3 h3 S3 => ?_, fun r v l H' e h hr => kr r v l H' e h ⟨su_fr hfr hr.fr, hr.nd, fun b hb => ⟨((pool_own (c := c) hR.is).mp (hr.own b hb).1).2, (hr.own b hb).2⟩, hr.res.unSu hR, let ⟨L, σ, q, z⟩ := hr.sim; ⟨L, σ, q.unSu hR hfr, z.unSu hR⟩⟩, fun ex env' L' σ' H' cls d hx _ _ => hx.elim⟩
      obtain ⟨L4, S4⟩ := (S3.unSu hR hfr).kill (i := i) pf
      exact k _ L4 _ H3 h3 S4
    · replace hq : Dv.ex ex env' := by simpa [hb] using hq
      exact kx ex env' L' σ' H' _ d hq S' ⟨DD, e1, rfl, e3⟩
end
def rIsEF (K : PySem.W.Frag) (D a : Addr) (d : Option Addr) : List V → Hp → VK → Prop := fun xs H Q => ∃ (c : V) (cv : Value) (b : Bool), xs = [.ref a, c] ∧ (∀ u, RelV c u → u = cv) ∧ PySem.W.kitOne K (.ref D) cv = some b ∧ (∀ dd, d = some dd → ∃ fs, H dd = some (.xd fs)) ∧ Q (.bl b) H
theorem call_isEF {X : Cx} {a D : Addr} {d : Option Addr} {oe : Obj} {pn : List (Addr × Obj)} (C : ExcC X.K D) (hz : Zc (.ref D) d oe) (hf : ∃ vs, oe.data = .fields vs) : CallR (X.suite a ((a, oe) :: pn)) (.builtin "isinstance") (rIsEF X.K D a d) := by
  intro pins s σ H xs us Q I r h
  obtain ⟨c, cv, b, rfl, hcv, e, hd, q⟩ := h
  cases r with
  | cons rx rr =>
    cases rr with
    | cons rt rr =>
      cases rr
      cases rx
      have ec := hcv _ rt
      subst ec
      obtain ⟨hget, _⟩ := I.pin (a, oe) (List.mem_append.mpr (.inl List.mem_cons_self))
      obtain ⟨vs, hv⟩ := hf
      have J : ∃ od, PySem.W.InstAt s.heap a oe D od := by
        cases d with
        | none =>
          obtain ⟨oc, od, oda, osl⟩ := oe
          obtain ⟨h1, h2⟩ := hz
          dsimp only at h1 h2 hv
          subst h1 h2 hv
          exact ⟨none, hget, rfl, rfl, trivial⟩
        | some dd =>
          obtain ⟨fs, ea⟩ := hd dd rfl
          have hx : ObjOk X.prog X.w H s.heap dd (.xd fs) := I.hok dd _ ea
          obtain ⟨mA, hns, _⟩ := hx
          obtain ⟨od, ho, _⟩ := lookIn_ns hns
          exact ⟨some od, hget, hz.1, by unfold PySem.W.notCls; rw [hv] <;> rfl, by rw [hz.2]; exact ho⟩
      obtain ⟨od, J⟩ := J
      obtain ⟨cd, hc, _⟩ := PySem.W.any_some C.hd
      exact PySem.W.kia_one (PySem.W.kitx_exc (od := od) (by rw [hc]; rfl) C.hg C.hk C.hs C.ha C.hn C.ht C.hm) I.kIn J e (fun z => nomatch z) fun tk => ⟨.bl b, H, I.kept (t' := tk) fun _ _ z => z, rfl, q⟩
section
variable {X : Cx} {c : Cn} {W : WX} {pos : Pos} {R : List Addr} {H1 : Hp} {hs : List (V × VL.D)}
theorem XfH.dict {ex : Exn} {d : Option Addr} (h : XfH ex d R H1 hs) {dd : Addr} (e : d = some dd) : ∃ f v dt, ex.fld = some (f, dt) ∧ dd ∈ R ∧ H1 dd = some (.xd [(f, v)]) ∧ (v, dt) ∈ hs ∧ flatD dt = true := by
  obtain ⟨_, h⟩ := h
  cases q : ex.fld with
  | none => rw [q] at h; rw [h] at e; cases e
  | some z =>
    obtain ⟨f, dt⟩ := z
    rw [q] at h
    obtain ⟨dd', v, e1, e2, e3, e4, e5⟩ := h
    rw [e1] at e; cases e
    exact ⟨f, v, dt, rfl, e2, e3, e4, e5⟩
theorem ve_isEF {a D : Addr} {d : Option Addr} {ex : Exn} {oe : Obj} {pn : List (Addr × Obj)} {nn y : Str} {p p1 p2 : Pos} {l : List Str} (T : ExcAll X.K c.cl) (eD : c.cl ex.cls = some D) (xf : XfH ex d R H1 hs) (hz : Zc (.ref D) d oe) (hf : ∃ vs, oe.data = .fields vs) (hk : Asked X.K X.mg c.cl y l) (hm : X.mg "isinstance" = none) (i : Nat) (hK : c.K = X.K := by rfl) (hi : X.N[i]? = some nn := by rfl) (hv : Vis X.env.scope nn := by exact Or.inl rfl) (hg : Gl X "isinstance" := by rfl) (hgy : Gl (X.suite a ((a, oe) :: pn)) y := by rfl) (hd : (nn == ("__debug__" : Str)) = false := by decide) (hcd : (nn == ("__classdict__" : Str)) = false := by decide) (hdy : (y == ("__debug__" : Str)) = false := by decide)
    (hst : starEach [.Name nn p1, .Name y p2] X.env = (false, eval (.Name nn p1) X.env) :: starEach [.Name y p2] X.env := by rfl) (hpl : (backTo pos (starEach [.Name y p2] X.env)).any (·.1) = false := by rfl) :
    PE (X.suite a ((a, oe) :: pn)) (.Call (.Name "isinstance" p) [.Name nn p1, .Name y p2] [] pos) (rdE (c.su R H1 hs) W (wIsE i a (l.contains ex.cls))) := by
  obtain ⟨C, hC, hq⟩ := hk
  have hy : PE (X.suite a ((a, oe) :: pn)) (.Name y p2) (tC (.ref C)) := pe_glob (X := X.suite a ((a, oe) :: pn)) (v := .ref C) hgy hC rfl hdy
  exact PE.imp (pe_callB (X := X.suite a ((a, oe) :: pn)) (call_isEF (T _ _ eD) hz hf) hg hm (by decide +kernel) (pa_cons (pe_var (X := X.suite a ((a, oe) :: pn)) (i := i) hi hv hd hcd) (pa_cons hy pa_nil) hst) (by decide) (by decide) hst hpl) fun σ H Q h => by
    obtain ⟨env, L, Tm, Qv, X, S, ⟨⟨m, q⟩, q2⟩, k, kx⟩ := h
    obtain ⟨v, l, hv, hl, r⟩ := S.sl.get q
    have := RS.opq_inv r.read
    subst this
    refine ⟨_, hv, .ref C, .ref C, _, rfl, fun u z => z, hq _ _ eD, fun dd e => ?_, k _ _ [] L env H q2 (Step.refl S) (Res.flat (A := fun _ => True) (.bl _) rfl)⟩
    obtain ⟨f, v, dt, _, e2, e3, _⟩ := xf.dict e
    exact ⟨_, su_kept S e2 e3⟩
def NoFld (K : PySem.W.Frag) (cl : Str → Option Addr) (x f : Str) : Prop := ∀ C, cl x = some C → PySem.W.findIn K (.ref C) f = some none
def wXf (i : Nat) (a : Addr) (ex : Exn) (x f : Str) : WE := fun env Q _ => (∃ m, env[i]? = some (some (opD a, m))) ∧ ex.cls = x ∧ ∃ dt, ex.fld = some (f, dt) ∧ Q ⟨dt, mA⟩ env
theorem ve_xf {a D : Addr} {d : Option Addr} {ex : Exn} {oe : Obj} {pn : List (Addr × Obj)} {nn x f : Str} {p1 : Pos} (T : ExcAll X.K c.cl) (eD : c.cl ex.cls = some D) (xf : XfH ex d R H1 hs) (hz : Zc (.ref D) d oe) (hf : ∃ vs, oe.data = .fields vs) (hno : NoFld X.K c.cl x f) (i : Nat) (hK : c.K = X.K := by rfl) (hi : X.N[i]? = some nn := by rfl) (hv : Vis X.env.scope nn := by exact Or.inl rfl) (hd : (nn == ("__debug__" : Str)) = false := by decide) (hcd : (nn == ("__classdict__" : Str)) = false := by decide)
    (hb : attributeBase (.Name nn p1) f X.env (eval (.Name nn p1) X.env) = eval (.Name nn p1) X.env := by rfl) :
    PE (X.suite a ((a, oe) :: pn)) (.Attribute (.Name nn p1) f pos) (rdE (c.su R H1 hs) W (wXf i a ex x f)) := by
  have E := T _ _ eD
  by_cases hx : ex.cls = x
  · have hn : PySem.W.findIn X.K (.ref D) f = some none := hno D (by rw [← hx]; exact eD)
    refine PE.imp (pe_xf (X := X) (C := D) (d := d) ⟨E.hg, E.hk, E.hs, E.hd⟩ hn hz hf (pe_var (X := X.suite a ((a, oe) :: pn)) (i := i) hi hv hd hcd) hb) fun σ H Q h => ?_
    obtain ⟨env, L, Tm, Qv, X, S, ⟨⟨m, q⟩, _, dt, ef, q2⟩, k, kx⟩ := h
    obtain ⟨v, l, hv, hl, r⟩ := S.sl.get q
    have := RS.opq_inv r.read
    subst this
    have hxf := xf.2
    rw [ef] at hxf
    obtain ⟨dd, v, e1, e2, e3, e4, e5⟩ := hxf
    have hrd : RS c.K _ H v dt := S.hd (v, dt) (List.mem_append_left _ e4)
    refine ⟨_, hv, rfl, rfl, dd, _, v, e1, su_kept S e2 e3, by simp [List.lookup], k _ _ [] L env H q2 (Step.refl S) (Res.flat hrd e5)⟩
  · exact ⟨fun pins s σ H Q I h => by
      obtain ⟨env, L, Tm, Qv, X, S, ⟨_, h2, _⟩, k, kx⟩ := h
      exact absurd h2 hx⟩
end
end VL
set_option maxRecDepth 100000
set_option maxHeartbeats 4000000
namespace VL
open PySem PySem.Spec PyProof.Rows L2
def spInit (K : PySem.W.Frag) (f : Str) : Sp := fun vs H Q E => ∃ (a C : Addr) (y : V), vs = [.ref a, y] ∧ OexC K C ∧ PySem.W.findIn K (.ref C) f = some none ∧ H a = some (exo a C none) ∧ ∀ dx, H dx = none → dx ≠ a → Q .non (upd (upd H dx (exd dx [(f, y)])) a (exo a C (some dx)))
section
variable {P : Program} {w : World} {K : PySem.W.Frag} {mg : Str → Option Value} {base : Heap} {cl : Str → Option Addr}
theorem init_ok {fld q prm : Str} {st : Stmt} {fI : Addr} {fd : FuncData} (F : Fun K "__init__" q st fI fd) (sc : FnScope ["self", prm] ["self", prm] (defScope st))
    (body : ∀ (cdv : Value) (A : Around) (outer : List Env) (s : Shared) (H : Hp) (E : XK), PSs (cxOf (L2.CX P w) P w K mg base ["self", prm] q (defScope st) fI cdv A outer s H E) (defBody st) (tOst K fld (tVar 0) (tVar 1))) :
    FnOk P w K mg base (L2.CX P w) 1 fI fd ["self", prm] (spInit K fld) := by
  refine F.okX sc (fun vs H Q E h => ?_) (fun cdv A outer s H vs Q E hr h => ?_)
  · obtain ⟨a, C, y, rfl, _⟩ := h; rfl
  · obtain ⟨a, C, y, rfl, T, hno, ea, q⟩ := h
    exact ⟨_, body cdv A outer s H E, y, rfl, .ref a, rfl, a, C, rfl, T, hno, .inl ⟨ea, fun dx h1 h2 => q dx h1 h2⟩⟩
def ErrF (P : Program) (w : World) (K : PySem.W.Frag) (mg : Str → Option Value) (base : Heap) (cl : Str → Option Addr) (x f : Str) : Prop := ∃ (C fI : Addr) (fd : FuncData) (ps : List Str), cl x = some C ∧ mg x = some (.ref C) ∧ OexC K C ∧ PySem.W.findIn K (.ref C) f = some none ∧
  PySem.W.findIn K (.ref C) "__init__" = some (some (.ref fI)) ∧ PySem.W.typeIn K (.ref fI) = some (.type "function") ∧ FnOk P w K mg base (L2.CX P w) 1 fI fd ps (spInit K f) ∧ Binds K fd ps []
end
def wRaiseF (x f : Str) (we : WE) : WS := fun env Dv => we env (fun r e => flatD r.d = true ∧ Dv.ex ⟨x, some (f, r.d)⟩ e) (fun ex e => Dv.ex ex e)
theorem vs_raiseF {X : Cx} {c : Cn} {W : WX} {we : WE} {e : Expr} {x f : Str} {p pos pos2 : Pos} {kk : Nat} (T : ErrF X.prog X.w X.K X.mg X.base c.cl x f) (hr : Room kk X.A) (h2 : 2 ≤ kk) (hc : X.calm = true) (tk : Takes X W) (he : PE X e (rdE c W we)) (hK : c.K = X.K := by rfl) (hg : Gl X x := by rfl) (hdb : (x == ("__debug__" : Str)) = false := by decide)
    (hst : starEach [e] X.env = (false, eval e X.env) :: starEach [] X.env := by rfl) (hpl : (backTo pos2 (starEach [] X.env)).any (·.1) = false := by rfl) : PS X (.Raise (some (.Call (.Name x p) [e] [] pos2)) none pos) (rdS c W (wRaiseF x f we)) := by
  obtain ⟨C, fI, fd, ps, e1, gC, O, hno, iC, tI, F1, hb⟩ := T
  have hx : Passes (L2.CX X.prog X.w) X (fun _ _ _ => False) := fun pins σ H s e s' I h => by
    obtain ⟨a, B, H', cls, d, _, _, _, _, _, _, _, hF⟩ := h
    exact hF.elim
  refine PS.imp (ps_raise hc tk (pmk_oex (dvs := []) (ds := []) O iC tI F1 (hr.mono h2) hb .nil hx hg gC (pa_cons he pa_nil hst) hdb hst hpl)) fun D σ H h => ?_
  obtain ⟨env, L, Dv, S, q, k, kr, kx⟩ := h
  refine rd_first S q kx fun r v l L1 env1 H1 hh S1 hr => ?_
  obtain ⟨fl, hq⟩ := hh
  refine ⟨by show 1 ≤ 1000; omega, fun a na => ⟨a, C, v, rfl, O, hno, upd_same, fun dx hd hne => ⟨rfl, dx, [(f, v)], upd_same, ?_, ?_, ?_⟩⟩⟩
  · rw [upd_ne hne]; exact upd_same
  · rwa [upd_ne hne] at hd
  · have hd1 : H1 dx = none := by rwa [upd_ne hne] at hd
    have eH : upd (del (upd (upd (upd H1 a (exo a C none)) dx (exd dx [(f, v)])) a (exo a C (some dx))) a) dx (.xd [(f, v)]) = upd H1 dx (.xd [(f, v)]) := by
      funext b
      by_cases h1 : b = dx
      · subst h1; rw [upd_same, upd_same]
      · rw [upd_ne h1, upd_ne h1]
        by_cases h2 : b = a
        · subst h2; rw [del_same, na]
        · rw [del_ne h2, upd_ne h2, upd_ne h1, upd_ne h2]
    rw [eH]
    have S0 : Sim c L1 [] env1 σ H1 := Sim.less S1 (List.nil_sublist _)
    have S2 : Sim c L1 [] env1 σ (upd H1 dx (.xd [(f, v)])) := (Step.new (o := .xd [(f, v)]) S0 hd1).sim0
    exact kx ⟨x, some (f, r.d)⟩ env1 L1 σ _ (.ref C) (some dx) hq S2 ⟨C, e1, rfl, dx, v, rfl, upd_same, hr.read.keep (Kp.same (same_new hd1))⟩
def clsBody : Stmt → List Stmt
  | .ClassDef _ _ _ body _ _ _ _ _ _ _ => body
  | _ => []
end VL
set_option maxRecDepth 100000
set_option maxHeartbeats 4000000
namespace VL
open PySem PySem.Spec PyProof.Rows L2
def InitAt (K : PySem.W.Frag) (x f q : Str) (st : Stmt) : Prop := ∃ (C fI : Addr) (oc : Value) (od an : Option Addr) (osl : Array (Option Value)) (kV doc pm cdv ct : Value),
  PySem.W.nsIn K mainGlobals x = some (some (.ref C)) ∧ OexC K C ∧ PySem.W.findIn K (.ref C) f = some none ∧ PySem.W.findIn K (.ref C) "__init__" = some (some (.ref fI)) ∧ PySem.W.typeIn K (.ref fI) = some (.type "function") ∧
  K.lookup fI = some ⟨oc, od, .func (PySem.W.fnOf "__init__" q (defArgs st) (defBody st) (defScope st) .none kV doc pm an cdv ct), osl⟩ ∧ PySem.W.codeIn K cdv q = true ∧ PySem.W.keepIn K (.ref fI) = true
section
variable {P : Program} {w : World} {K : PySem.W.Frag} {mg : Str → Option Value} {base h : Heap} {names : List Str} {x f q prm : Str} {st : Stmt}
theorem InitAt.mk {C fI : Addr} {oc : Value} {od an dd : Option Addr} {osl : Array (Option Value)} {kV doc pm cdv ct : Value} {nm q' : Str} {N : Addr} {bs bm : List Value} {sn : List Str} {sub : List Value} {ab : Bool} {col : Option Bool} {k0 k1 k2 k3 k5 : Option Value}
    (h1 : PySem.W.nsIn K mainGlobals x = some (some (.ref C))) (h2 : K.lookup C = some (excClassObj nm q' C N bs bm true sn sub ab col dd k0 k1 k2 k3 k5 "ValueError.__new__")) (h3 : PySem.HandSPX.refsVE bm = true)
    (h4 : PySem.W.findIn K (.ref C) "__setattr__" = some (some (.builtin "object.__setattr__"))) (h5 : PySem.W.subIn K (.ref C) (.type "BaseException") = some true) (h6 : PySem.W.typeIn K (.ref C) = some (.type "type")) (h7 : PySem.W.keepIn K (.ref C) = true)
    (h8 : PySem.W.findIn K (.ref C) f = some none) (h9 : PySem.W.findIn K (.ref C) "__init__" = some (some (.ref fI))) (h10 : PySem.W.typeIn K (.ref fI) = some (.type "function"))
    (h11 : K.lookup fI = some ⟨oc, od, .func (PySem.W.fnOf "__init__" q (defArgs st) (defBody st) (defScope st) .none kV doc pm an cdv ct), osl⟩) (h12 : PySem.W.codeIn K cdv q = true) (h13 : PySem.W.keepIn K (.ref fI) = true) : InitAt K x f q st :=
  ⟨C, fI, oc, od, an, osl, kV, doc, pm, cdv, ct, h1, ⟨⟨nm, q', N, bs, bm, sn, sub, ab, col, dd, k0, k1, k2, k3, k5, h2, h3⟩, h4, h5, h6, h7⟩, h8, h9, h10, h11, h12, h13⟩
theorem InitAt.errF (X : K.In h) (G : h.Ns mainGlobals mg) (a : InitAt K x f q st) (hx : names.contains x = true) (sc : FnScope ["self", prm] ["self", prm] (defScope st))
    (hb : ∀ (kV doc pm : Value) (an : Option Addr) (cdv ct : Value) (us : List Value), us.length = 2 → bindArgs (PySem.W.fnOf "__init__" q (defArgs st) (defBody st) (defScope st) .none kV doc pm an cdv ct) ⟨us, []⟩ = pure ((["self", prm] : List Str).zip us))
    (body : ∀ (f' : Addr) (cdv : Value) (A : Around) (outer : List Env) (s : Shared) (H : Hp) (E : XK), PSs (cxOf (L2.CX P w) P w K mg base ["self", prm] q (defScope st) f' cdv A outer s H E) (defBody st) (tOst K f (tVar 0) (tVar 1))) : ErrF P w K mg base (clOf names mg) x f := by
  obtain ⟨C, fI, oc, od, an, osl, kV, doc, pm, cdv, ct, h1, O, h8, h9, h10, h11, h12, h13⟩ := a
  have g := PySem.W.mg_of X G h1
  have F := fun_mk (st := st) h11 h12 h13
  exact ⟨C, fI, _, ["self", prm], clOf_at hx g, g, O, h8, h9, h10, init_ok F sc (body fI), F.binds (ps := ["self", prm]) hb⟩
theorem InitAt.noFld (X : K.In h) (G : h.Ns mainGlobals mg) (a : InitAt K x f q st) : NoFld K (clOf names mg) x f := by
  obtain ⟨C, fI, oc, od, an, osl, kV, doc, pm, cdv, ct, h1, O, h8, _⟩ := a
  have g := PySem.W.mg_of X G h1
  intro C' e
  have := (clOf_inv e).2
  rw [g] at this
  cases this
  exact h8
end
section
variable {α β ρ σ : Type} {G : EG} {env env1 : VEnv} {m1 md : Md} {e : Enc α} {u : WS}
theorem rb_raiseF {K : β → DV → Prop} [fl : Fl_ e] {x f : Str} {we : WE} {M : Out α} (he : RE G we env env1 m1 e M) (hg : G env1 := by trivial) : RB G (wSeq (wRaiseF x f we) u) env (M.bind fun v => .exn ⟨x, some (f, e v)⟩) K := fun D Xe hX hs =>
  he _ _ Xe (fun ex v h1 h2 => hX ex v h1 h2) ((sat_bind.mp hs).imp fun v hs => ⟨fl.fl v, hX _ _ hg hs⟩)
end
def fldB (x : Exn) : Bool := match x.fld with
  | none => true
  | some (_, dt) => flatD dt
theorem fldB_ok {x : Exn} (h : fldB x = true) : FldOk x := fun f dt e => by
  unfold fldB at h
  rw [e] at h
  exact h
def tryFO {β : Type} (m : Out β) (l : List Str) (h : Exn → Out β) : Out β := match m with
  | .exn x => if l.contains x.cls = true then (if fldB x = true then noX (h x) else .stuck) else .exn x
  | m => m
section
variable {β ρ σ : Type} {G : EG} {env : VEnv} {K : β → DV → Prop} {md : Md} {e : Enc ρ} {w : WS} {s : σ → VEnv}
theorem rb_tryF {l : List Str} {i : Nat} {m : Out β} {h : Exn → Out β} {ws : Addr → Exn → WS} (e0 : VEnv) (hw : RB (GE e0) w env m K) (hh : ∀ ad x, RB (fun _ => True) (ws ad x) (e0.set i (some (opD ad, mS))) (h x) K) (hl : ∀ v, envLe e0 v → i < v.length := by exact fun v h => by rw [← envLe.len h]; exact Nat.le_of_ble_eq_true rfl) (hG : ∀ x, G x := by exact fun _ => True.intro) (hK : ∀ b D ex', K b D → K b { D with ex := ex' } := by exact fun _ _ _ h => h) (hK' : ∀ b D, K b D → K b { D with nx := fun e' => D.nx (e'.set i none), ex := fun _ _ => False } := by exact fun _ _ h => h) :
    RB G (wTryF w l i fun ad x => wPre (ws ad x)) env (tryFO m l h) K := fun D Xe hX hs => by
  refine hw { D with ex := _ } (fun x => Sat (if l.contains x.cls = true then (if fldB x = true then noX (h x) else .stuck) else .exn x) (fun b => K b D) Xe) (fun x v' hg hx => ?_) ?_
  · show if catch_ l x = true then _ else _
    unfold catch_
    split
    · rename_i hc
      rw [if_pos hc] at hx
      split at hx
      · rename_i hf
        refine ⟨fldB_ok hf, fun ad => ⟨e0.set i (some (opD ad, mS)), envLe_set hg _ True.intro, hh ad x _ (fun _ => False) (fun _ _ _ h => h.elim) ((sat_noX.mp hx).imp fun b q => hK' _ _ q)⟩⟩
      · exact hx.elim
    · rename_i hc
      rw [if_neg hc] at hx
      exact hX x v' (hG _) hx
  · cases m with
    | ok b => exact hK _ _ _ hs
    | exn x => exact hs
    | stuck => exact hs
theorem rb_tryFNF {l : List Str} {i : Nat} {m : Out (Fl ρ σ)} {h : Exn → Out (Fl ρ σ)} {ws : Addr → Exn → WS} (e0 : VEnv) (hw : RB (GE e0) w env m (KF e md s)) (hh : ∀ ad x, RB (fun _ => True) (ws ad x) (e0.set i (some (opD ad, mS))) (h x) (KF e md s)) (hi : ∀ V, (s V)[i]? = some none := by exact fun _ => rfl) (hl : ∀ v, envLe e0 v → i < v.length := by exact fun v h => by rw [← envLe.len h]; exact Nat.le_of_ble_eq_true rfl) (hG : ∀ x, G x := by exact fun _ => True.intro) :
    RB G (wTryF w l i fun ad x => wPre (ws ad x)) env (tryFO m l h) (KF e md s) := rb_tryF e0 hw hh hl hG (fun b _ _ h => by cases b <;> exact h) fun b D k => by
  cases b with
  | ret r => exact k
  | nxt V => exact fun e le => k _ (envLe_setN le i (hi V))
end
class DecE {α : Type} (e : Enc α) (dec : outParam (D → Option α)) : Prop where
  ok : ∀ d a, dec d = some a → d = e a
  id : ∀ a, dec (e a) = some a
def decI : D → Option Int
  | .int i => some i
  | _ => none
instance : DecE eI decI := ⟨fun d a h => by
  cases d <;> simp [decI] at h
  subst h; rfl, fun _ => rfl⟩
def decA : D → Option At
  | .int i => some (.i i)
  | .bool b => some (.b b)
  | .str x => some (.s x)
  | _ => none
def decAs : List D → Option (List At)
  | [] => some []
  | d :: ds => match decA d, decAs ds with
    | some a, some as => some (a :: as)
    | _, _ => none
def decTA : D → Option (List At)
  | .tuple ds => decAs ds
  | _ => none
theorem decA_ok : ∀ d a, decA d = some a → d = eA a := fun d a h => by
  cases d <;> simp [decA] at h <;> subst h <;> rfl
theorem decAs_ok : ∀ ds as, decAs ds = some as → ds = as.map eA
  | [], as, h => by cases h; rfl
  | d :: ds, as, h => by
    unfold decAs at h
    split at h
    · rename_i a as' h1 h2
      cases h
      rw [decA_ok d a h1, decAs_ok ds as' h2]; rfl
    · cases h
theorem decA_id : ∀ a, decA (eA a) = some a := fun a => by cases a <;> rfl
theorem decAs_id : ∀ as : List At, decAs (as.map eA) = some as
  | [] => rfl
  | a :: as => by
    rw [List.map_cons]
    unfold decAs
    rw [decA_id, decAs_id as]
instance : DecE (eTL eA) decTA := ⟨fun d a h => by
  cases d <;> simp [decTA] at h
  rw [decAs_ok _ _ h]; rfl, fun a => decAs_id a⟩
def xfO {α : Type} (dec : D → Option α) (x f : Str) (ex : Exn) : Option α := if ex.cls = x then (match ex.fld with
  | some (g, d) => if g = f then dec d else none
  | none => none) else none
theorem re_xf {α : Type} {G : EG} {env : VEnv} {a : Enc α} {dec : D → Option α} [de : DecE a dec] {i : Nat} {ad : Addr} {ex : Exn} {x f : Str} {m : Md} (h : env[i]? = some (some (opD ad, m)) := by rfl) : RE G (wXf i ad ex x f) env env mA a (lift (xfO dec x f ex)) := fun Q X Xe hX hs => by
  obtain ⟨v, e, q⟩ := sat_lift.mp hs
  unfold xfO at e
  split at e
  · rename_i hc
    split at e
    · rename_i g d hf
      split at e
      · rename_i hg
        subst hg
        refine ⟨⟨_, h⟩, hc, d, hf, ?_⟩
        rw [de.ok d v e]; exact q
      · cases e
    · cases e
  · cases e
end VL
set_option maxRecDepth 100000
set_option maxHeartbeats 4000000
namespace VL
open PySem PySem.Spec PyProof.Rows L2
section
variable {α : Type} {G : EG} {env env1 env2 : VEnv} {m1 m2 : Md} {a : Enc α} {wa wb : WE}
end
end VL
set_option maxRecDepth 100000
set_option maxHeartbeats 4000000
namespace VL
open PySem PySem.Spec PyProof.Rows L2
section
variable {X : Cx} {c : Cn} {W : WX} {pos : Pos} {R : List Addr} {H1 : Hp} {hs : List (V × VL.D)}
theorem ve_isEFB {a D : Addr} {d : Option Addr} {ex : Exn} {oe : Obj} {pn : List (Addr × Obj)} {nn y : Str} {p p1 p2 : Pos} {l : List Str} {TT : String} (T : ExcAll X.K c.cl) (eD : c.cl ex.cls = some D) (xf : XfH ex d R H1 hs) (hz : Zc (.ref D) d oe) (hf : ∃ vs, oe.data = .fields vs) (hk : AskedB X.K c.cl TT l) (hmy : X.mg y = none) (hm : X.mg "isinstance" = none) (i : Nat) (hb : bootBuiltins y = some (.type TT) := by rfl) (hK : c.K = X.K := by rfl) (hi : X.N[i]? = some nn := by rfl) (hv : Vis X.env.scope nn := by exact Or.inl rfl) (hg : Gl X "isinstance" := by rfl) (hgy : Gl (X.suite a ((a, oe) :: pn)) y := by rfl) (hd : (nn == ("__debug__" : Str)) = false := by decide) (hcd : (nn == ("__classdict__" : Str)) = false := by decide) (hny : y ≠ "__name__" := by decide) (hdy : (y == ("__debug__" : Str)) = false := by decide)
    (hst : starEach [.Name nn p1, .Name y p2] X.env = (false, eval (.Name nn p1) X.env) :: starEach [.Name y p2] X.env := by rfl) (hpl : (backTo pos (starEach [.Name y p2] X.env)).any (·.1) = false := by rfl) :
    PE (X.suite a ((a, oe) :: pn)) (.Call (.Name "isinstance" p) [.Name nn p1, .Name y p2] [] pos) (rdE (c.su R H1 hs) W (wIsE i a (l.contains ex.cls))) := by
  have hy : PE (X.suite a ((a, oe) :: pn)) (.Name y p2) (tC (.ty TT)) := pe_bltn (X := X.suite a ((a, oe) :: pn)) (v := .ty TT) hgy hmy hb rfl hny hdy
  exact PE.imp (pe_callB (X := X.suite a ((a, oe) :: pn)) (call_isEF (T _ _ eD) hz hf) hg hm (by decide +kernel) (pa_cons (pe_var (X := X.suite a ((a, oe) :: pn)) (i := i) hi hv hd hcd) (pa_cons hy pa_nil) hst) (by decide) (by decide) hst hpl) fun σ H Q h => by
    obtain ⟨env, L, Tm, Qv, X, S, ⟨⟨m, q⟩, q2⟩, k, kx⟩ := h
    obtain ⟨v, l, hv, hl, r⟩ := S.sl.get q
    have := RS.opq_inv r.read
    subst this
    refine ⟨_, hv, .ty TT, .type TT, _, rfl, fun u z => z, hk _ _ eD, fun dd e => ?_, k _ _ [] L env H q2 (Step.refl S) (Res.flat (A := fun _ => True) (.bl _) rfl)⟩
    obtain ⟨f, v, dt, _, e2, e3, _⟩ := xf.dict e
    exact ⟨_, su_kept S e2 e3⟩
end
def pureD : D → Bool
  | .dict _ => false
  | d => flatD d
theorem pure_flat {d : D} (h : pureD d = true) : flatD d = true := by
  cases d with
  | dict _ => cases h
  | _ => exact h
abbrev FD := { d : D // pureD d = true }
def eF : Enc FD := fun x => x.1
instance : Fl_ eF := ⟨fun a => pure_flat a.2⟩
def fI (i : Int) : FD := ⟨.int i, rfl⟩
section
variable {G : EG} {env env1 : VEnv} {m1 : Md} {wa : WE}
end
end VL
set_option maxRecDepth 100000
set_option maxHeartbeats 4000000
namespace VL
open PySem PySem.Spec PyProof.Rows L2
section
variable {X : Cx} {c : Cn} {W : WX} {pos p cpos tpos : Pos} {g : Tg} {wa : WA} {w : WS} {elts : List Expr} {kk : Nat} {a b : Expr} {body : List Stmt}
end
section
variable {α β σ ρ : Type} {G : EG} {env env1 env2 : VEnv} {m1 m2 md : Md} {a : Enc α} {b : Enc β} {e : Enc ρ} {wa wb : WE} {w : WS} {s : σ → VEnv}
end
end VL
namespace VL
open PySem PySem.Spec PyProof.Rows L2
def dctS (kvs : List (Str × Int)) : D := mkDict false (kvs.map fun p => (.str p.1, .int p.2))
def eKS : Enc (List (Str × Int)) := dctS
section
variable {X : Cx} {c : Cn} {W : WX} {pos : Pos} {wd wk : WE} {o i : Expr} {k : Nat}
end
section
variable {G : EG} {env env1 env2 : VEnv} {md m1 m2 : Md} {wa wb : WE}
instance : Nf eKS := ⟨fun _ => by unfold eKS dctS mkDict; exact flat_dict⟩
end
end VL
namespace VL
open PySem PySem.Spec PyProof.Rows L2
section
variable {G : EG} {env env1 : VEnv} {m1 : Md} {wa : WE} {T : String}
theorem noDict_eA (x : At) : noDict (eA x) := by cases x <;> exact True.intro
theorem re_isiA {x : At} (ha : RE G wa env env1 m1 eA (.ok x)) : RE G (wIsi T wa) env env1 mA eB (.ok (tyIs T (eA x))) := fun Q X Xe hX hs =>
  ha _ _ Xe hX (show _ ∧ _ from ⟨noDict_eA x, hs⟩)
theorem re_isiAO {A : Out At} (ha : RE G wa env env1 m1 eA A) : RE G (wIsi T wa) env env1 mA eB (A.bind fun x => .ok (tyIs T (eA x))) := fun Q X Xe hX hs =>
  ha _ _ Xe hX ((sat_bind.mp hs).imp fun x hs => ⟨noDict_eA x, hs⟩)
end
end VL
set_option maxRecDepth 100000
set_option maxHeartbeats 4000000
namespace VL
open PySem PySem.Spec PyProof.Rows L2
theorem subT_A {d : D} : subT mA d = ⟨d, mA⟩ := by unfold subT; split <;> rfl
section
variable {α β γ : Type} {G : EG} {u : WS} {we : WE} {env env1 : VEnv} {m1 : Md} {a : Enc α} {b : Enc β} {K : γ → DV → Prop}
def eLp (a : Enc α) (b : Enc β) : Enc (List α × β) := fun p => .list (p.1.map a ++ [b p.2])
instance : Nf (eLp a b) := ⟨fun _ => rfl⟩
end
end VL
set_option maxRecDepth 100000
set_option maxHeartbeats 4000000
namespace VL
open PySem PySem.Spec PyProof.Rows L2
def sgns (z : Str) : List Str := z.cps.toList.map fun c => ⟨#[c]⟩
section
variable {K : PySem.W.Frag} {A : Addr → Prop} {H : Hp}
end
section
variable {X : Cx} {c : Cn} {W : WX} {pos p apos : Pos} {wa : WA} {wo wl we : WE} {e o : Expr} {k : Nat}
end
section
variable {X : Cx} {c : Cn} {W : WX} {pos : Pos} {g : Tg} {we : WE} {w : WS} {tg iter : Expr} {body : List Stmt}
end
end VL
namespace VL
open PySem PySem.Spec PyProof.Rows L2
section
variable {α β σ ρ : Type} {G : EG} {env env1 env2 : VEnv} {m m1 m2 md : Md} {wa wb we : WE} {e : Enc ρ} {w : WS} {s : σ → VEnv}
end
end VL
namespace VL
open PySem PySem.Spec PyProof.Rows L2
def StrAt (K : PySem.W.Frag) (x z : Str) : Prop := ∃ t, PySem.W.nsIn K mainGlobals x = some (some (.str z t))
section
variable {K : PySem.W.Frag} {h : Heap} {mg : Str → Option Value} {x z : Str}
theorem StrAt.out (X : K.In h) (G : h.Ns mainGlobals mg) (a : StrAt K x z) : ∃ t, mg x = some (.str z t) := let ⟨t, e⟩ := a; ⟨t, PySem.W.mg_of X G e⟩
theorem StrAt.mk {t : Tok} (h : PySem.W.nsIn K mainGlobals x = some (some (.str z t))) : StrAt K x z := ⟨t, h⟩
end
end VL
set_option maxRecDepth 100000
set_option maxHeartbeats 4000000
namespace VL
open PySem PySem.Spec PyProof.Rows L2
def tgNT (i : Nat) (g : Tg) : Tg := ⟨i :: g.is, fun r => match r.d with
  | .tuple [x, y] => (g.f (subT r.m y)).map (subT r.m x :: ·)
  | _ => none⟩
section
variable {X : Cx} {pos : Pos} {g : Tg} {e2 : Expr}
theorem tg_nt {i : Nat} {x : Str} {p : Pos} {k : Nat} (hc : X.calm = true) (hg : TgOk X e2 g) (hN : X.N.Nodup) (hi : X.N[i]? = some x := by rfl) (hx : Loc X.env.scope x := by first | exact .inl rfl | exact .inr rfl) (hf : X.fn x = true ∨ X.env.scope.names.lookup x = some .local := by first | exact .inl rfl | exact .inr rfl | assumption)
    (h1 : (assignEach [.Name x p, e2] X.env).map (·.2) = assign (.Name x p) X.env :: (assignEach [e2] X.env).map (·.2) := by rfl)
    (h2 : (assignEach [e2] X.env).map (·.2) = assign e2 X.env :: (assignEach [] X.env).map (·.2) := by rfl)
    (hn : (assignEach [.Name x p, e2] X.env).length = 2 := by rfl) (hst : (assignEach [.Name x p, e2] X.env).findIdx? (·.1) = none := by rfl) : TgOk X (.Tuple [.Name x p, e2] k pos) (tgNT i g) := by
  obtain ⟨t, hpg, run⟩ := hg.ok
  refine ⟨_, pg_tup hc (pgs_cons (pg_name hN hi hx hf) (pgs_cons hpg pgs_nil h2) h1) hn hst, fun c T H r v l rs hK hr e => ?_⟩
  obtain ⟨d, m⟩ := r
  unfold tgNT at e
  simp only at e
  split at e
  · rename_i y z
    obtain ⟨rs2, e2, e3⟩ := Option.map_eq_some_iff.mp e
    subst e3
    obtain ⟨a, xs, l', rfl, ha, s, rr⟩ := Res.items (ds := [y, z]) (m := m) hr
    simp only [List.map_cons, List.map_nil] at rr
    obtain ⟨v1, v2, l1, l2, rfl, rfl, r1, r2⟩ := ress2 rr
    obtain ⟨vs2, l2', s2, q2, len2, go⟩ := run c T H _ v2 l2 rs2 hK r2 e2
    refine ⟨v1 :: vs2, l1 ++ l2', (List.Sublist.append (List.Sublist.refl _) s2).trans s, .cons r1 q2, by show vs2.length + 1 = g.is.length + 1; rw [len2], fun σ Q q => ⟨a, _, rfl, SqT.of (by rw [← hK] at *; exact ha), rfl, v1, [v2], rfl, v2, [], rfl, go _ _ ⟨rfl, q⟩⟩⟩
  · cases e
end
end VL
set_option maxRecDepth 100000
set_option maxHeartbeats 4000000
namespace VL
open PySem PySem.Spec PyProof.Rows L2 PySem.HandSPX
theorem note_same {x : Value} {c1 c2 : Env} (q : c1.frame = c2.frame) : noteFrame x c1 = noteFrame x c2 := by
  unfold noteFrame PySem.frameOf
  rw [q]
theorem rawInt_ne {a b : Addr} (q : a ≠ b) : (rawInt (a : Int) == rawInt (b : Int)) = false := by
  unfold rawInt
  rw [beq_eq_false_iff_ne]
  intro z
  injection z with z1 z2
  exact q (Int.ofNat.inj z1)
section
variable {Mo : Model} {Ar : Around} {Ex : Value → Shared → Prop} {sh : Shared} {Zp : Obj → Prop} {gr : Heap} {ev : Env} {outs lst : List Env} {Lf x : Addr}
theorem note_other {Fo : Addr} {Qk : Unit → Shared → Prop} (st : Steady Zp) (fr : Ar.frames = some (ev :: outs)) (hf : ev.frame = some Lf) (ne : Fo ≠ Lf) (hh : HeldZ gr (ev :: outs) x Zp Fo sh.heap)
    (k : ∀ g, HeldZ gr (ev :: outs) x Zp Lf g → sh.heap.UpToSlots g → Qk () { sh with heap := g }) : wpAny Mo Ar (noteFrame (.ref x) ev) Qk Ex sh := by
  obtain ⟨stay, nx, ff, ob, fs, T, oT, ts, hx, hz, hd, i1, nT, Tx, hT, dT, i3⟩ := hh
  unfold noteFrame
  simp only [hf]
  refine wpAny_bind (wpAny_field hx hd i1 ?_)
  rw [if_pos (by simp : (Value.ref T != Value.none) = true)]
  refine wpAny_bind (wpAny_field hT dT i3 ?_)
  rw [if_neg (by rw [rawInt_ne ne]; decide)]
  refine wpAny_bind (wpAny_setField hT dT (Array.getElem?_eq_some_iff.mp i3).1 ?_)
  have oth : ∀ b, b ≠ T → (sh.heap.update T (Obj.mapFields (·.setIfInBounds 3 Value.none))).get? b = sh.heap.get? b := fun b q => Heap.get?_update_other _ _ (Ne.symm q)
  have nr : ∀ b o, sh.heap.get? b = some o → (∀ us, o.data ≠ .fields us) → b ≠ T := fun b o q nf e => by
    subst e
    rw [hT] at q
    exact nf ts (by cases q; exact dT)
  refine wpAny_entryZ st fr (ff.of_keeps fun b o q nf => ⟨o, (oth b (nr b o q nf)).trans q, rfl⟩) hf ((oth x (Ne.symm Tx)).trans hx)
    (fun b o q => (oth b (fun e => by subst e; rw [nT] at q; cases q)).trans (stay b o q)) nx hd (Array.getElem?_eq_some_iff.mp i1).1 hz fun g hN => ?_
  obtain ⟨n1, n2, n3, n4⟩ := hN
  exact k g ⟨n1, nx, n2, n3⟩ fun b o q nf => n4 b o ((oth b (nr b o q nf)).trans q) nf
theorem passOn_held {α : Type} {what : String} {Qk : α → Shared → Prop} (hf : ev.frame = some Lf) (hh : HeldZ gr lst x Zp Lf sh.heap)
    (k : ∀ g, HeldZ gr lst x Zp Lf g → sh.heap.UpToSlots g → Ex (.ref x) { sh with heap := g }) : wpAny Mo Ar (PySem.passOn what (.ref x) ev : Sem α) Qk Ex sh := by
  obtain ⟨_, _, _, ob, fs, T, oT, ts, hx, hz, hd, i1, _⟩ := id hh
  unfold PySem.passOn
  refine wpAny_bind (wpAny_field hx hd i1 ?_)
  rw [if_neg (by simp : ¬ ((Value.ref T == Value.none) = true))]
  rw [hf]
  exact wpAny_bind (setFlight_onZ hh fun g h2 up => wpAny_throw (k g h2 up))
end
theorem funFrames_but {h h' B B2 : Heap} : ∀ {l : List Env}, h.FunFrames B l → (∀ L ∈ frs l, h'.get? L = h.get? L) → (∀ L, B.get? L = none → B2.get? L = none) → h'.FunFrames B2 l
  | [], _, _, _ => trivial
  | en :: l, ⟨hk, ⟨L, o, hf, hn, ho, hd⟩, hr⟩, k, n => ⟨hk, ⟨L, o, hf, n L hn, (k L (List.mem_filterMap.mpr ⟨en, List.mem_cons_self, hf⟩)).trans ho, hd⟩, funFrames_but hr (fun b hb => by
      obtain ⟨e, he, q⟩ := List.mem_filterMap.mp hb
      exact k b (List.mem_filterMap.mpr ⟨e, List.mem_cons_of_mem _ he, q⟩)) n⟩
theorem held_but {gr h h' : Heap} {l : List Env} {x Lf C : Addr} {Zp : Obj → Prop} (hh : HeldZ gr l x Zp Lf h) (sb : Heap.SameBut C h h') (nC : C ∉ frs l) (oC : ∃ o, h.get? C = some o ∧ ∀ us, o.data ≠ .fields us) : HeldZ (PySem.W.hideAll gr [C]) l x Zp Lf h' := by
  obtain ⟨stay, nx, ff, ob, fs, T, oT, ts, hx, hz, hd, i1, nT, Tx, hT, dT, i3⟩ := hh
  obtain ⟨oc, hc, nf⟩ := oC
  have hid : ∀ b, gr.get? b = none → (PySem.W.hideAll gr [C]).get? b = none := fun b q => by
    cases e : (PySem.W.hideAll gr [C]).get? b with
    | none => rfl
    | some o => have := PySem.W.of_hideAll _ e; rw [q] at this; cases this
  have xC : x ≠ C := fun e => by subst e; rw [hc] at hx; cases hx; exact nf _ hd
  have TC : T ≠ C := fun e => by subst e; rw [hc] at hT; cases hT; exact nf _ dT
  refine ⟨fun b o q => ?_, hid _ nx, funFrames_but ff (fun L hL => sb.2 L fun e => nC (e ▸ hL)) hid, ob, fs, T, oT, ts, (sb.2 x xC).trans hx, hz, hd, i1, hid _ nT, Tx, (sb.2 T TC).trans hT, dT, i3⟩
  have bC : b ≠ C := fun e => by
    subst e
    rw [PySem.W.hideAll_none [b] (by simp)] at q; cases q
  exact (sb.2 b bC).trans (stay b o (PySem.W.of_hideAll _ q))
end VL
set_option maxRecDepth 100000
set_option maxHeartbeats 4000000
namespace VL
open PySem PySem.Spec PyProof.Rows L2 PySem.HandSPX
section
variable {Mo : Model} {Ar : Around} {Ex : Value → Shared → Prop} {sh : Shared} {ev : Env}
end
abbrev blkE (X : Cx) (t : Shared) (H : Hp) (scp : Scope) (ce : Env) (fp : List Addr) (Ex : Value → Shared → Prop) : Cx := (X.blk t H scp ce fp).wish Ex
section
variable {X : Cx} {pins pp : List (Addr × Obj)} {σ σ' : L2.St} {H H' : Hp} {t t2 u : Shared} {scp : Scope} {ce : Env} {fp : List Addr} {W : WX} {Ex : Value → Shared → Prop}
theorem XE.out (hs : X.stack = X.env :: X.outer) (hf : X.env.frame = some X.env.locals) (tk : Takes X W) (I : Inv X pins σ H t) (hfp : ∀ b ∈ fp, FpOk X pins H b) (cf : ce.frame = X.env.frame) (cl : ce.locals = t.heap.objs.size)
    {x : Value} (xe : XE (blkE X t H scp ce fp Ex) (fun cls d _ H' => W cls d σ H') x u) :
    notedBy (model X.prog X.w) X.A ce (fun x t' => ∃ m, t'.heap.Ns ce.locals m ∧ ∀ g, Heap.SameBut ce.locals t'.heap g → wpAny (model X.prog X.w) X.A (PySem.passOn "comprehension.variables-let-go" x ce : Sem Value) (fun _ _ => False) X.xe { t' with heap := g }) x u := by
  obtain ⟨a, B, sI, pn, σ1, H1, cls, d, rfl, J, nb, up, sky, na, os, ag, w⟩ := xe
  have fr : X.A.frames = some (X.env :: X.outer) := by rw [I.ok.frames, hs]
  have cf' : ce.frame = some X.env.locals := cf.trans hf
  unfold notedBy
  rw [note_same cf]
  obtain ⟨m, hm, _⟩ := J.loc
  have hm : sI.heap.Ns ce.locals m := hm
  have Cin : ce.locals ∉ frs X.stack := fun hb => by
    obtain ⟨_, o, e, _⟩ := I.stack.mem hb
    have := Heap.lt_size e
    rw [cl] at this
    exact Nat.lt_irrefl _ this
  have fresh : t.heap.get? ce.locals = none := by rw [cl]; exact Heap.get?_none_of_le (Nat.le_refl _)
  have back : Inv X pins σ H1 sI := I.call' (ch := fp) J.os J.base J.hok J.bare fun b hb => ⟨(hfp b hb).2.2.2.1, (hfp b hb).2.1, (hfp b hb).2.2.2.2.1, (hfp b hb).2.2.2.2.2⟩
  have Hc : H1 ce.locals = none := J.free
  have fin : ∀ g1, HeldZ B X.stack a (Zc cls d) X.env.locals g1 → u.heap.UpToSlots g1 → ∃ m, ({ u with heap := g1 } : Shared).heap.Ns ce.locals m ∧ ∀ g, Heap.SameBut ce.locals g1 g →
      wpAny (model X.prog X.w) X.A (PySem.passOn "comprehension.variables-let-go" (.ref a) ce : Sem Value) (fun _ _ => False) X.xe { u with heap := g } := by
    intro g1 hh up1
    have stB : ∀ b o, sI.heap.get? b = some o → b ∉ frs X.stack → g1.get? b = some o := fun b o e q => hh.1 b o (nb b o e q)
    obtain ⟨oc, es, ep, hoc, hod, rest⟩ := id hm
    have hoc1 : g1.get? ce.locals = some oc := stB _ _ hoc Cin
    refine ⟨m, ⟨oc, es, ep, hoc1, hod, rest⟩, fun g sb => ?_⟩
    have hh2 := held_but hh sb Cin ⟨oc, hoc1, fun us z => by rw [hod] at z; cases z⟩
    refine passOn_held (sh := { u with heap := g }) cf' hh2 fun g2 hh3 up2 => tk _ _ ?_
    have hid : ∀ {b o}, (PySem.W.hideAll sI.heap [ce.locals]).get? b = some o → sI.heap.get? b = some o ∧ b ≠ ce.locals := fun {b o} e => ⟨PySem.W.of_hideAll _ e, fun z => by
      subst z
      rw [PySem.W.hideAll_none [ce.locals] (by simp)] at e; cases e⟩
    have hget : ∀ {b o}, sI.heap.get? b = some o → b ≠ ce.locals → (PySem.W.hideAll sI.heap [ce.locals]).get? b = some o := fun e q => PySem.W.hideAll_get _ e (by simpa using q)
    refine ⟨a, PySem.W.hideAll B [ce.locals], { sI with heap := PySem.W.hideAll sI.heap [ce.locals] }, pins, σ, H1, cls, d, rfl, ?_, fun b o e q => ?_, fun b o e nf => ?_, .inr (.inr hh3), na, os, ag, w⟩
    · have hne : ∀ {b o}, t.heap.get? b = some o → b ≠ ce.locals := fun e q => by subst q; rw [fresh] at e; cases e
      refine I.call' (s' := { sI with heap := PySem.W.hideAll sI.heap [ce.locals] }) (ch := fp) J.os ⟨fun b o e n hb hx => hget (J.base.keep b o e n hb hx) (hne e), fun b o e n hb hx => ?_, J.base.free, fun b o e hx => ?_, J.base.tups, J.base.frzs, J.base.tbls⟩ (fun b o e => ?_) J.bare fun b hb => ⟨(hfp b hb).2.2.2.1, (hfp b hb).2.1, (hfp b hb).2.2.2.2.1, (hfp b hb).2.2.2.2.2⟩
      · obtain ⟨sl, q⟩ := J.base.slot b o e n hb hx
        exact ⟨sl, hget q (hne e)⟩
      · obtain ⟨o', q⟩ := J.base.there b o e hx
        exact ⟨o', hget q (hne e)⟩
      · refine (J.hok b o e).stay (fun c v hc q => hget q fun z => ?_) (fun _ q => q) fun _ _ q => q
        subst z
        rcases hc with hc | hc
        · rw [← hc, Hc] at e; cases e
        · rw [Hc] at hc; cases hc
    · obtain ⟨e1, e2⟩ := hid e
      exact PySem.W.hideAll_get _ (nb b o e1 q) (by simpa using e2)
    · obtain ⟨e1, e2⟩ := hid e
      obtain ⟨l1, q1⟩ := up b o e1 nf
      obtain ⟨l2, q2⟩ := up1 b _ q1 nf
      have q3 : g.get? b = _ := (sb.2 b e2).trans q2
      obtain ⟨l3, q4⟩ := up2 b _ q3 nf
      exact ⟨l3, q4⟩
  have sky : Sky B X.stack a (Zc cls d) ce.locals u.heap := sky
  rw [hs] at sky fin
  rcases sky with ⟨k1, k2, k3, oe, vs, k4, k5, k6, k7⟩ | fl | hd
  · exact look_newZ Zc.steady fr k3 hf k4 k1 k2 k6 k7 k5 fin
  · exact looks_onZ Zc.steady fr hf fl fin
  · refine note_other Zc.steady fr hf (fun q => ?_) hd fin
    have z := I.lt
    rw [← q, cl] at z
    exact Nat.lt_irrefl _ z
end
end VL
set_option maxRecDepth 100000
set_option maxHeartbeats 4000000
namespace VL
open PySem PySem.Spec PyProof.Rows L2 PySem.HandSPX
section
variable {X : Cx} {W : WX}
end
end VL
set_option maxRecDepth 100000
set_option maxHeartbeats 4000000
namespace VL
open PySem PySem.Spec PyProof.Rows L2
section
variable {c : Cn} {L : List (List Addr)} {Tm : List Addr} {env : VEnv} {σ : Sg} {H H1 : Hp} {Dn : Addr} {km : Option Nat} {acc : List V} {accD : List D} {lk : List Addr} {tt : WT} {wl : WE} {W : WX}
end
section
variable {X : Cx} {c : Cn} {W : WX} {we wl : WE} {tt : WT} {g : Tg} {vs : List Nat}
end
section
variable {X : Cx} {c : Cn} {W : WX} {we wl : WE} {tt : WT} {tg iter elt : Expr} {ifs : List Expr} {scope : Scope} {pos : Pos}
end
section
variable {α β γ τ : Type} {G : EG} {env env1 env2 : VEnv} {m1 m2 md : Md} {a : Enc α} {b : Enc β} {c : Enc γ} {wa wb : WE}
end
end VL
set_option maxRecDepth 100000
set_option maxHeartbeats 4000000
namespace VL
open PySem PySem.Spec PyProof.Rows L2
open PySem.Sem (wp)
section
variable {prog : Program} {w : World} {A : Around} {E : Value → Shared → Prop} {s : Shared}
end
section
variable {prog : Program} {w : World} {A : Around} {E : Value → Shared → Prop} {s : Shared}
end
end VL
set_option maxRecDepth 100000
set_option maxHeartbeats 4000000
namespace VL
open PySem PySem.Spec PyProof.Rows L2
section
variable {X : Cx} {c : Cn} {W : WX} {wl : WE} {wa : WA} {g : Tg} {vs : List Nat}
end
section
variable {X : Cx} {c : Cn} {W : WX} {wl : WE} {wa : WA} {a b elt : Expr} {elts : List Expr} {kk : Nat} {tpos : Pos} {scope : Scope} {pos p cpos : Pos}
end
section
variable {α β γ : Type} {G : EG} {env env1 env2 : VEnv} {m1 m2 : Md} {a : Enc α} {b : Enc β} {c : Enc γ} {wa wb : WE} {k1 k2 : Bool} {ea : Enc (List α)} {eb : Enc (List β)}
end
end VL
set_option maxRecDepth 100000
set_option maxHeartbeats 4000000
namespace XTX
open PySem PySem.Spec PyProof.Rows L2 VL
@[irreducible] noncomputable def F_passages_of (walks_ : (List (List Int))) : Out (List Int) :=
  ((Out.ok (([] : (List Int)))).bind fun (found_ : (List Int)) => ((forO (fun (V370 : (List Int)) (walk_ : (List Int)) => ((Out.ok (walk_)).bind fun v => (lift (extO V370 v)).bind fun found_ => (Out.ok found_))) found_ walks_).bind fun (V370 : (List Int)) => (Out.ok V370)))
def sp_passages_of : FSpec := fun ds Q X => ∃ (walks_ : (List (List Int))), ds = [(eL (eL eI)) walks_] ∧ Sat (F_passages_of walks_) (fun r => Q ⟨(eL eI) r, mA⟩) X
@[irreducible] noncomputable def F_walk_fault (walks_ : (List (List Int))) (signs_ : (List (Int × Int))) : Out (Option (List At)) :=
  ((Out.ok (([] : (List (Int × Bool))))).bind fun (there_ : (List (Int × Bool))) => (((F_passages_of walks_).bind fun xs => forO (fun (V380 : (List (Int × Bool))) (passage_ : Int) => ((Out.ok (true)).bind fun v => (Out.ok (passage_)).bind fun j => (lift (putO V380 j v)).bind fun there_ => (Out.ok there_))) there_ xs).bind fun (V380 : (List (Int × Bool))) => ((Out.ok (([] : (List (Int × Bool))))).bind fun (signed_ : (List (Int × Bool))) => ((forO (fun (V381 : (List (Int × Bool))) (x382 : (Int × Int)) => ((Out.ok (true)).bind fun v => (Out.ok (x382.1)).bind fun j => (lift (putO V381 j v)).bind fun signed_ => (Out.ok signed_))) signed_ signs_).bind fun (V381 : (List (Int × Bool))) => ((Out.ok (([] : (List (Int × Bool))))).bind fun (seen_ : (List (Int × Bool))) => ((forF (fun (V383 : (List (Int × Bool))) (x384 : (Int × (List Int))) => ((forF (fun (V387 : (List (Int × Bool))) (x388 : (Int × Int)) => (if (decide (x388.2 = 0) || (true == (lookK V387 x388.2).isSome || (false == (lookK V380 (-(x388.2))).isSome || false == (lookK V381 (absF x388.2)).isSome))) = true then (Out.ok (Fl.ret (some (([.s (Str.ofString "walk"), .i x384.1, .i x388.1] : List At))))) else ((Out.ok (true)).bind fun v => (Out.ok (x388.2)).bind fun j => (lift (putO V387 j v)).bind fun seen_ => (Out.ok (Fl.nxt seen_))))) V383 (enumF x384.2)).bind (flowF fun (V387 : (List (Int × Bool))) => (Out.ok (Fl.nxt V387))))) seen_ (enumF walks_)).bind (flowT fun (V383 : (List (Int × Bool))) => (Out.ok none))))))))
def sp_walk_fault : FSpec := fun ds Q X => ∃ (walks_ : (List (List Int))) (signs_ : (List (Int × Int))), ds = [(eL (eL eI)) walks_, (eL (e2 eI eI)) signs_] ∧ Sat (F_walk_fault walks_ signs_) (fun r => Q ⟨(eO (eTL eA)) r, mA⟩) X
@[irreducible] noncomputable def F_sign_fault (walks_ : (List (List Int))) (signs_ : (List (Int × Int))) : Out (Option (List At)) :=
  ((F_passages_of walks_).bind fun (there_ : (List Int)) => ((Out.ok (0)).bind fun (ahead_ : Int) => ((forF (fun (V391 : Int) (x392 : (Int × (Int × Int))) => (if (decide (x392.2.1 ≤ V391) || (!decide (x392.2.2 ∈ [id 1, id (-(1))]) || !decide (x392.2.1 ∈ there_))) = true then (Out.ok (Fl.ret (some (([.s (Str.ofString "sign"), .i x392.1] : List At))))) else ((Out.ok (x392.2.1)).bind fun (ahead_ : Int) => (Out.ok (Fl.nxt ahead_))))) ahead_ (enumF signs_)).bind (flowT fun (V391 : Int) => (Out.ok none)))))
def sp_sign_fault : FSpec := fun ds Q X => ∃ (walks_ : (List (List Int))) (signs_ : (List (Int × Int))), ds = [(eL (eL eI)) walks_, (eL (e2 eI eI)) signs_] ∧ Sat (F_sign_fault walks_ signs_) (fun r => Q ⟨(eO (eTL eA)) r, mA⟩) X
@[irreducible] noncomputable def F_fault (drawing_ : ((List (List Int)) × (List (Int × Int)))) : Out (Option (List At)) :=
  ((Out.ok (drawing_)).bind fun (p396 : ((List (List Int)) × (List (Int × Int)))) => ((F_walk_fault p396.1 p396.2).bind fun (found_ : (Option (List At))) => ((if found_.isNone = true then ((F_sign_fault p396.1 p396.2).bind fun (found_ : (Option (List At))) => (Out.ok found_)) else (Out.ok found_)).bind fun (V397 : (Option (List At))) => ((if (V397.isNone && decide ((p396.2.length : Int) > 40)) = true then ((Out.ok ((Str.ofString "many", (p396.2.length : Int)))).bind fun (found_ : (Str × Int)) => (Out.ok ((some (([.s found_.1, .i found_.2] : List At))) : (Option (List At))))) else (Out.ok V397)).bind fun (V398 : (Option (List At))) => ((if (V398.isNone && decide ((p396.1.length : Int) > 12)) = true then ((Out.ok ((Str.ofString "many", (p396.1.length : Int)))).bind fun (found_ : (Str × Int)) => (Out.ok ((some (([.s found_.1, .i found_.2] : List At))) : (Option (List At))))) else (Out.ok V398)).bind fun (V399 : (Option (List At))) => (Out.ok V399))))))
def sp_fault : FSpec := fun ds Q X => ∃ (drawing_ : ((List (List Int)) × (List (Int × Int)))), ds = [(e2 (eL (eL eI)) (eL (e2 eI eI))) drawing_] ∧ Sat (F_fault drawing_) (fun r => Q ⟨(eO (eTL eA)) r, mA⟩) X
end XTX
set_option maxRecDepth 100000
set_option maxHeartbeats 4000000
namespace VL
open PySem PySem.Spec PyProof.Rows L2
theorem setP_all : ∀ {p : List Int} {d e d1 : D}, setP d p e = some d1 → ∀ e2, ∃ d2, setP d p e2 = some d2 ∧ getP d2 p = some e2 ∧ ∀ e3, setP d2 p e3 = setP d p e3
  | [], d, e, d1, h, e2 => by
    cases d <;> exact ⟨e2, rfl, by cases e2 <;> rfl, fun e3 => by cases e2 <;> rfl⟩
  | i :: p, .list ds, e, d1, h, e2 => by
    simp only [setP, Option.bind_eq_some_iff, Option.map_eq_some_iff] at h
    obtain ⟨j, hj, dj, hdj, d', h, _⟩ := h
    obtain ⟨d2, q1, q2, q3⟩ := setP_all h e2
    have hl : j < ds.length := (List.getElem?_eq_some_iff.mp hdj).1
    refine ⟨.list (ds.set j d2), ?_, ?_, fun e3 => ?_⟩
    · simp only [setP, hj, hdj, q1, Option.bind_some, Option.map_some]
    · have : atI (ds.set j d2) i = some d2 := by unfold atI; rw [List.length_set, hj]; show (ds.set j d2)[j]? = _; simp [hl]
      show (atI (ds.set j d2) i).bind _ = _
      rw [this]; exact q2
    · simp only [setP, List.length_set, hj, hdj, Option.bind_some, q3]
      have : (ds.set j d2)[j]? = some d2 := by simp [hl]
      rw [this]
      simp only [Option.bind_some, q3, List.set_set]
  | i :: p, .tuple ds, e, d1, h, e2 => by
    simp only [setP, Option.bind_eq_some_iff, Option.map_eq_some_iff] at h
    obtain ⟨j, hj, dj, hdj, d', h, _⟩ := h
    obtain ⟨d2, q1, q2, q3⟩ := setP_all h e2
    have hl : j < ds.length := (List.getElem?_eq_some_iff.mp hdj).1
    refine ⟨.tuple (ds.set j d2), ?_, ?_, fun e3 => ?_⟩
    · simp only [setP, hj, hdj, q1, Option.bind_some, Option.map_some]
    · have : atI (ds.set j d2) i = some d2 := by unfold atI; rw [List.length_set, hj]; show (ds.set j d2)[j]? = _; simp [hl]
      show (atI (ds.set j d2) i).bind _ = _
      rw [this]; exact q2
    · simp only [setP, List.length_set, hj, hdj, Option.bind_some, q3]
      have : (ds.set j d2)[j]? = some d2 := by simp [hl]
      rw [this]
      simp only [Option.bind_some, q3, List.set_set]
  | _ :: _, .none, _, _, h, _ => by cases h
  | _ :: _, .bool _, _, _, h, _ => by cases h
  | _ :: _, .int _, _, _, h, _ => by cases h
  | _ :: _, .str _, _, _, h, _ => by cases h
  | _ :: _, .dict _, _, _, h, _ => by cases h
theorem set_selfP {α : Type} {xs : List α} {i : Nat} {x : α} (h : xs[i]? = some x) : xs.set i x = xs := set_same h
section
variable {c : Cn} {L : List (List Addr)} {Tm : List Addr} {env : VEnv} {σ : Sg} {H : Hp}
theorem Sim.hole {x y : Nat} {p : List Int} {d e0 d0 : D} {ds : List D} {v v0 : V} (S : Sim c L Tm env σ H) (hxy : y ≠ x) (e : env[y]? = some (some (d, mA))) (hv : σ[y]? = some (some v0)) (nav : NavP H v0 p v)
    (g : getP d p = some (.list ds)) (hs : setP d p e0 = some d0) (py : PinF c [y]) (px : PinF c [x]) :
    ∃ b, v = .ref b ∧ ∀ dh, setP d p (opD b) = some dh → ∃ L', Sim c L' Tm ((env.set y (some (dh, mA))).set x (some (.list ds, mA))) (σ.set x (some v)) H ∧ ∀ z ∈ L'.flatten ++ Tm, z ∈ L.flatten ++ Tm := by
  obtain ⟨v1, ly, hv1, hL, r⟩ := S.sl.get e
  rw [hv] at hv1; cases hv1
  obtain ⟨vp, lp, lr, nav', pm, rp, up⟩ := RO.path p r.dep (depP_none g) g
  have := nav'.inj nav
  subst this
  rcases rp.lst_inv with ⟨h0, _, _⟩ | ⟨n', b, xs, lk, hn', rfl, ha, rk, rfl⟩
  · cases h0
  refine ⟨b, rfl, fun dh hdh => ?_⟩
  have st := S.move hL
  obtain ⟨d', l', s1, p1, r1⟩ := up (AT c.B (L.flatten ++ Tm)) H (opD b) [] (Kp.same (Same.refl H)) (fun _ _ _ h => h) (fun b o a h => a) (.opq b)
  rw [hdh] at s1; cases s1
  rw [List.append_nil] at p1
  have pl : ((b :: lk) ++ l').Perm ly := (List.perm_append_comm.trans (p1.append_right _)).trans pm.symm
  have st2 := st.perm pl
  have S2 : Sim c (L.set y []) ((Tm ++ (b :: lk)) ++ l') (env.set y none) σ H := by rw [List.append_assoc]; exact st2.sim
  have mem : ∀ z, z ∈ (L.set y []).flatten ++ ((Tm ++ (b :: lk)) ++ l') → z ∈ L.flatten ++ Tm := fun z hz => (st2.gr z (by rw [List.append_assoc] at hz; exact hz)).elim id fun n => by
    obtain ⟨_, o, ho⟩ := S2.own z hz
    rw [n] at ho; cases ho
  have r1' : Res c ((L.set y []).flatten ++ ((Tm ++ (b :: lk)) ++ l')) H ⟨dh, mA⟩ v0 l' := RO.mono (fun z o a _ => AT.less mem a) r1
  obtain ⟨L1, S3, m3⟩ := Sim.put (i := y) S2 r1' py
  rw [set_selfP hv, List.set_set] at S3
  have rp' : Res c (L1.flatten ++ (Tm ++ (b :: lk))) H ⟨.list ds, mA⟩ (.ref b) (b :: lk) := RO.mono (fun z o a _ => AT.less (fun z hz => mem z (m3 z hz)) a) rp
  obtain ⟨L2, S4, m4⟩ := Sim.put (i := x) S3 rp' px
  exact ⟨L2, S4, fun z hz => mem z (m3 z (m4 z hz))⟩
theorem Sim.fill {x y : Nat} {p : List Int} {d d' it : D} {b : Addr} (S : Sim c L Tm env σ H) (hxy : y ≠ x) (ex : env[x]? = some (some (it, mA))) (ey : env[y]? = some (some (d, mA))) (hv : σ[x]? = some (some (.ref b)))
    (g : getP d p = some (opD b)) (hs : setP d p it = some d') (py : PinF c [y]) :
    (∃ L', Sim c L' Tm ((env.set x none).set y (some (d', mA))) σ H ∧ ∀ z ∈ L'.flatten ++ Tm, z ∈ L.flatten ++ Tm) ∧ RS c.K (fun _ => True) H (.ref b) it ∧ ∃ v0, σ[y]? = some (some v0) ∧ NavP H v0 p (.ref b) := by
  obtain ⟨v0, ly, hv0, hL, r⟩ := S.sl.get ey
  obtain ⟨v1, lx, hv1, hLx, rx⟩ := S.sl.get ex
  rw [hv] at hv1; cases hv1
  obtain ⟨vp, lp, lr, nav, pm, rp, up⟩ := RO.path p r.dep (depP_none g) g
  have hvp : vp = .ref b := (RO.share (RO.mono (A' := fun _ => True) (fun _ _ _ _ => trivial) rp) fun _ _ => trivial).opq_inv
  subst hvp
  refine ⟨?_, rx.read, v0, hv0, nav⟩
  obtain ⟨d2, l', s1, p1, r1⟩ := up (AT c.B (L.flatten ++ Tm)) H it lx (Kp.same (Same.refl H)) (fun _ _ _ h => h) (fun b o a h => a) rx.dep
  rw [hs] at s1; cases s1
  have st := S.move hL
  have hLx' : (L.set y [])[x]? = some lx := by rw [List.getElem?_set_ne hxy]; exact hLx
  have st2 := st.sim.move hLx'
  have st3 : Step c H H (L.flatten ++ Tm) Tm ((L.set y []).set x []) (ly ++ lx) ((env.set y none).set x none) σ := Step.trans st st2
  have pl : (lp ++ l').Perm (ly ++ lx) := by
    have h1 : (ly ++ lx).Perm ((lr ++ lp) ++ lx) := pm.append_right _
    have h2 : (lp ++ l').Perm (lp ++ (lr ++ lx)) := p1.append_left _
    refine h2.trans (List.Perm.trans ?_ h1.symm)
    rw [← List.append_assoc]
    exact List.perm_append_comm.append_right lx
  have st4 := (st3.perm pl).sub (List.sublist_append_right lp l')
  have mem : ∀ z, z ∈ ((L.set y []).set x []).flatten ++ (Tm ++ l') → z ∈ L.flatten ++ Tm := fun z hz => (st4.gr z hz).elim id fun n => by
    obtain ⟨_, o, ho⟩ := st4.sim.own z hz
    rw [n] at ho; cases ho
  have r1' : Res c (((L.set y []).set x []).flatten ++ (Tm ++ l')) H ⟨d', mA⟩ v0 l' := RO.mono (fun z o a _ => AT.less mem a) r1
  obtain ⟨L1, S5, m5⟩ := Sim.put (i := y) st4.sim r1' py
  rw [set_selfP hv0] at S5
  refine ⟨L1, ?_, fun z hz => mem z (m5 z hz)⟩
  have : ((env.set y none).set x none).set y (some (d', mA)) = (env.set x none).set y (some (d', mA)) := by
    rw [List.set_comm _ _ hxy, List.set_set]
  rw [← this]; exact S5
end
def rdB (c : Cn) (x : Nat) (v : V) (W : WX) (w : WS) : TS := fun D σ H => ∃ env L Dv, Sim (c.pinW x v) L [] env σ H ∧ w env Dv ∧
  (∀ env' L' σ' H', Dv.nx env' → Sim c L' [] env' σ' H' → D.nx σ' H') ∧
  (∀ r v l H' e, Dv.rt r e → Ret c r v l H' e → D.rt v H') ∧
  (∀ ex env' L' σ' H' cls d, Dv.ex ex env' → Sim c L' [] env' σ' H' → ExR c H' ex cls d → W cls d σ' H')
def wAlias (x : Nat) (wp : WP) (w : Addr → WS) : WS := fun env Dv => wp env (fun y p e => ∃ d ds e0 d0, (∃ s, e[x]? = some s) ∧ y ≠ x ∧ e[y]? = some (some (d, mA)) ∧ getP d p = some (.list ds) ∧ setP d p e0 = some d0 ∧
  ∀ b dh, setP d p (opD b) = some dh → w b ((e.set y (some (dh, mA))).set x (some (.list ds, mA))) Dv) Dv.ex
def wBack (x : Nat) (b : Addr) (w : WS) : WS := fun env Dv => ∃ y p d it d', y ≠ x ∧ env[x]? = some (some (it, mA)) ∧ env[y]? = some (some (d, mA)) ∧ getP d p = some (opD b) ∧ setP d p it = some d' ∧ w ((env.set x none).set y (some (d', mA))) Dv
def wFill (x : Nat) (b : Addr) (we : WE) : WE := fun env Q X => ∃ y p d it d' ds, it = .list ds ∧ y ≠ x ∧ env[x]? = some (some (it, mA)) ∧ env[y]? = some (some (d, mA)) ∧ getP d p = some (opD b) ∧ setP d p it = some d' ∧
  we ((env.set y (some (d', mA))).set x (some (it, .b))) (fun r e => e = (env.set y (some (d', mA))).set x (some (it, .b)) ∧ Q r env) (fun _ _ => False)
section
variable {X : Cx} {c : Cn} {W : WX} {pos : Pos} {wp : WP} {w u : WS} {we : WE} {st : Stmt} {rest : List Stmt} {E : Expr}
theorem Ret.unpin {x : Nat} {v' : V} {r : R} {v : V} {l : List Addr} {H : Hp} {e : VEnv} (hr : Ret (c.pinW x v') r v l H e) : Ret c r v l H e := ⟨hr.fr, hr.nd, hr.own, hr.res, let ⟨L, σ, q, z⟩ := hr.sim; ⟨L, σ, q.unpin, z⟩⟩
theorem vssB_cons {x : Nat} {v : V} (h1 : PS X st (rdS (c.pinW x v) W w)) (h2 : PSs X rest (rdB c x v W u)) : PSs X (st :: rest) (rdB c x v W (wSeq w u)) := PSs.imp (pss_cons h1 h2) fun D σ H h => by
  obtain ⟨env, L, Dv, S, q, k, kr, kx⟩ := h
  exact ⟨env, L, _, S, q, fun env' L' σ' H' h' S' => ⟨env', L', Dv, S', h', k, kr, kx⟩, fun r v l H' e h hr => kr r v l H' e h hr.unpin, fun ex env' L' σ' H' cls d h S' he => kx ex env' L' σ' H' cls d h S'.unpin he⟩
theorem vssB_back {x : Nat} {b : Addr} (h : PSs X rest (rdS c W w)) (hp : c.pin = [] := by rfl) : PSs X rest (rdB c x (.ref b) W (wBack x b w)) := PSs.imp h fun D σ H h => by
  obtain ⟨env, L, Dv, S, ⟨y, p, d, it, d', hxy, ex, ey, g, hs, q⟩, k, kr, kx⟩ := h
  obtain ⟨⟨L', S', _⟩, _⟩ := S.unpin.fill hxy ex ey (S.pin (x, .ref b) List.mem_cons_self) g hs (pinF_nil hp)
  exact ⟨_, L', Dv, S', q, k, kr, kx⟩
theorem vss_alias {x : Nat} {nm : Str} {pos' : Pos} (hE : PE X E (rdP c W wp)) {w : Addr → WS} (hb : ∀ b, PSs X rest (rdB c x (.ref b) W (w b))) (hN : X.N.Nodup) (hp : c.pin = [] := by rfl) (hi : X.N[x]? = some nm := by rfl) (hx : Loc X.env.scope nm := by first | exact .inl rfl | exact .inr rfl) (hs : swapsWith E (some (.Name nm pos')) pos.line X.env = pure false := by rfl)
    (hf : X.fn nm = true ∨ X.env.scope.names.lookup nm = some .local := by first | exact .inl rfl | exact .inr rfl | assumption) : PSs X (.Assign [.Name nm pos'] E pos :: rest) (rdS c W (wAlias x wp w)) :=
  PSs.imp (pss_cons (ps_set hN hi hx hE hs hf) (⟨fun pins s σ H D I hh => hh.elim fun b z => (hb b).run pins s σ H D I z⟩ : PSs X rest fun D σ H => ∃ b, rdB c x (.ref b) W (w b) D σ H)) fun D σ H h => by
  obtain ⟨env, L, Dv, S, q, k, kr, kx⟩ := h
  refine ⟨env, L, [], _, _, S, q, fun y p v v0 L1 env1 H1 ⟨d, ds, e0, d0, ⟨sx, hsx⟩, hxy, e1, g, s0, hw⟩ st hv nav => ?_, fun ex cls d L' env' H' hq st he => kx ex env' L' σ H' cls d hq st.sim0 he⟩
  obtain ⟨b, rfl, hh⟩ := st.sim0.hole hxy e1 hv nav g s0 (pinF_nil hp) (pinF_nil hp)
  obtain ⟨dh, q1, _⟩ := setP_all s0 (opD b)
  obtain ⟨L', S', _⟩ := hh dh q1
  have hxl : x < σ.length := by rw [← st.sim0.sl.len.1]; exact (List.getElem?_eq_some_iff.mp hsx).1
  exact ⟨b, _, L', Dv, S'.pinned (by simp [hxl]), hw b dh q1, k, kr, kx⟩
theorem ve_fill {x : Nat} {b : Addr} (h : PE X E (rdE (c.pinW x (.ref b)) W we)) (hp : c.pin = [] := by rfl) : PE X E (rdE (c.pinW x (.ref b)) W (wFill x b we)) := PE.imp h fun σ H Q hh => by
  obtain ⟨env, L, Tm, Qv, X', S, ⟨y, p, d, it, d', ds, rfl, hxy, ex, ey, g, hs, q⟩, k, kx⟩ := hh
  have hvx := S.pin (x, .ref b) List.mem_cons_self
  simp only at hvx
  obtain ⟨⟨L1, S1, m1⟩, rs, v0, hv0, nav⟩ := S.unpin.fill hxy ex ey hvx g hs (pinF_nil hp)
  obtain ⟨L2, S2, sub⟩ := Sim.put (i := x) (r := ⟨.list ds, .b⟩) (v := .ref b) (l := []) (by rw [List.append_nil]; exact S1) ⟨rs, rfl⟩ (pinF_nil hp)
  rw [set_selfP hvx] at S2
  have ee : ((env.set x none).set y (some (d', mA))).set x (some (.list ds, .b)) = (env.set y (some (d', mA))).set x (some (.list ds, .b)) := by
    rw [List.set_comm _ _ hxy, List.set_set]
    exact List.set_comm _ _ (Ne.symm hxy)
  rw [ee] at S2
  refine ⟨_, L2, Tm, _, _, S2.pinned hvx, q, fun r v l L3 env3 H3 ⟨he, hq⟩ st hr => ?_, fun _ _ _ _ _ _ h => h.elim⟩
  subst he
  have xl : x < env.length := (List.getElem?_eq_some_iff.mp ex).1
  have yl : y < env.length := (List.getElem?_eq_some_iff.mp ey).1
  have ey' : ((env.set y (some (d', mA))).set x (some (.list ds, .b)))[y]? = some (some (d', mA)) := by
    rw [List.getElem?_set_ne (Ne.symm hxy)]; simp [yl]
  obtain ⟨dx, qx1, qx2, qx3⟩ := setP_all hs (.list ds)
  rw [hs] at qx1; cases qx1
  have hback : setP d' p (opD b) = some d := by
    rw [qx3]; exact setP_same g
  obtain ⟨b', eb, hh⟩ := (st.sim.unpin).hole hxy ey' hv0 (nav.keep st.same) qx2 hback (pinF_nil hp) (pinF_nil hp)
  cases eb
  obtain ⟨L4, S4, m4⟩ := hh d hback
  rw [set_selfP hvx] at S4
  have e4 : ((((env.set y (some (d', mA))).set x (some (.list ds, .b))).set y (some (d, mA))).set x (some (.list ds, mA))) = env := by
    rw [List.set_comm _ _ (Ne.symm hxy), List.set_set, List.set_set]
    rw [set_same ey, set_same ex]
  rw [e4] at S4
  refine k r v l L4 env H3 hq ⟨st.same, S4.pinned hvx, fun z hz => ?_⟩ (hr.keep (Same.refl _) fun z hz => .inl (m4 z hz))
  rcases st.gr z (m4 z hz) with h1 | h1
  · have := sub z h1
    rw [List.append_nil] at this
    exact .inl (m1 z this)
  · exact .inr h1
end
section
variable {α β γ δ σ ρ τ : Type} {G : EG} {env env1 env2 : VEnv} {md m1 : Md} {a : Enc σ} {b : Enc β} {we : WE} {wp : WP} {w u : WS} {K : δ → DV → Prop}
def HoleAt (dh : D) (b0 : Addr) (b : Enc (List β)) (a : Enc σ) (f : List β → σ) : Prop := ∃ p, getP dh p = some (opD b0) ∧ ∀ y, setP dh p (b y) = some (a (f y))
theorem rb_alias {x j : Nat} {C : D} {t : Bool} {b : Enc β} {M : Out (List β × (List β → σ))} {F : List β → (List β → σ) → Out δ} {w : Addr → WS} (hp : RP G wp env env1 j C (eL b) a t M) (s : D → List β → VEnv)
    (h2 : ∀ b0 dh y f, HoleAt dh b0 (eL b) a f → RB G (w b0) (s dh y) (F y f) K)
    (hs : ∀ dh y, (env1.set j (some (dh, mA))).set x (some (eL b y, mA)) = s dh y := by exact fun _ _ => rfl)
    (hj : env1[j]? = some (some (C, mA)) := by rfl) (hx : ∃ s, env1[x]? = some s := by exact ⟨_, rfl⟩) (hjx : j ≠ x := by decide) : RB G (wAlias x wp w) env (M.bind fun r => F r.1 r.2) K := fun D Xe hX h =>
  hp _ _ Xe hX ((sat_bind.mp h).imp fun r h p h1 h2' _ => ⟨C, r.1.map b, _, _, hx, hjx, hj, h1, h2' r.1, fun b0 dh hd => by
    obtain ⟨d2, q1, q2, q3⟩ := setP_all (h2' r.1) (opD b0)
    rw [hd] at q1; cases q1
    have := h2 b0 dh r.1 r.2 ⟨p, q2, fun y => by rw [q3]; exact h2' y⟩ D Xe hX h
    rw [← hs] at this
    exact this⟩)
theorem rb_back {x j : Nat} {dh : D} {b0 : Addr} {b : Enc β} {f : List β → σ} {y : List β} {k : σ → Out δ} (hh : HoleAt dh b0 (eL b) a f) (s : σ → VEnv) (h2 : ∀ ys, RB G w (s ys) (k ys) K)
    (hs : ∀ ys, (env.set x none).set j (some (a ys, mA)) = s ys := by exact fun _ => rfl)
    (hx : env[x]? = some (some (eL b y, mA)) := by rfl) (hj : env[j]? = some (some (dh, mA)) := by rfl) (hjx : j ≠ x := by decide) :
    RB G (wBack x b0 w) env (k (f y)) K := fun D Xe hX h => by
  obtain ⟨p, g1, g2⟩ := hh
  have := h2 (f y) D Xe hX h
  rw [← hs] at this
  exact ⟨j, p, dh, eL b y, a (f y), hjx, hx, hj, g1, g2 y, this⟩
theorem re_fill {x j : Nat} {dh : D} {b0 : Addr} {b : Enc β} {e : Enc γ} {f : List β → σ} {y : List β} {M : Out γ} (hh : HoleAt dh b0 (eL b) a f)
    (hw : RE G we ((env.set j (some (a (f y), mA))).set x (some (eL b y, .b))) ((env.set j (some (a (f y), mA))).set x (some (eL b y, .b))) md e M) (hx : env[x]? = some (some (eL b y, mA)) := by rfl) (hj : env[j]? = some (some (dh, mA)) := by rfl) (hjx : j ≠ x := by decide) :
    RE G (wFill x b0 we) env env md e (noX M) := fun Q X Xe hX h => by
  obtain ⟨p, g1, g2⟩ := hh
  refine ⟨j, p, dh, eL b y, a (f y), _, rfl, hjx, hx, hj, g1, g2 y, ?_⟩
  refine hw _ _ (fun _ => False) (fun _ _ _ h => h) (Sat.mono (sat_noX.mp h) (fun r h => ⟨rfl, h⟩) fun _ h => h)
end
end VL
set_option maxRecDepth 100000
set_option maxHeartbeats 4000000
namespace VL
open PySem PySem.Spec PyProof.Rows L2
theorem RS.anyD {K : PySem.W.Frag} {A : Addr → Prop} {H : Hp} {v : V} {d : D} (h : RS K A H v d) : ∃ s, ∀ A', RS K A' H v s := by
  cases h with
  | non => exact ⟨_, fun _ => .non⟩
  | bl b => exact ⟨_, fun _ => .bl b⟩
  | int i => exact ⟨_, fun _ => .int i⟩
  | str x => exact ⟨_, fun _ => .str x⟩
  | lst _ _ _ => exact ⟨_, fun _ => .opq _⟩
  | tup _ _ => exact ⟨_, fun _ => .opq _⟩
  | dct _ _ _ _ => exact ⟨_, fun _ => .opq _⟩
  | scr _ => exact ⟨_, fun _ => .opq _⟩
  | opq _ => exact ⟨_, fun _ => .opq _⟩
  | wtp _ => exact ⟨_, fun _ => .opq _⟩
  | ins _ _ _ _ _ => exact ⟨_, fun _ => .opq _⟩
theorem RSs.anyD {K : PySem.W.Frag} {A : Addr → Prop} {H : Hp} : ∀ {vs : List V} {ds : List D}, RSs K A H vs ds → ∃ ss : List D, ss.length = vs.length ∧ ∀ A', RSs K A' H vs ss
  | _, _, .nil => ⟨[], rfl, fun _ => .nil⟩
  | _, _, .cons h r => by
    obtain ⟨ss, e, q⟩ := RSs.anyD r
    obtain ⟨s, hs⟩ := h.anyD
    exact ⟨s :: ss, by simp [e], fun A' => .cons (hs A') (q A')⟩
section
variable {X : Cx} {c : Cn} {W : WX} {pos ppx : Pos} {wp : WP} {o : Expr} {tx : Str} {body : List Stmt}
end
section
variable {α β γ δ σ ρ τ : Type} {G : EG} {env env1 env2 : VEnv} {md m1 : Md} {b : Enc β} {e : Enc ρ} {wp : WP} {K : δ → DV → Prop}
end
end VL
set_option maxRecDepth 100000
set_option maxHeartbeats 4000000
namespace VL
open PySem PySem.Spec PyProof.Rows L2
abbrev WTab := List (Str × List Str)
def lookT : WTab → Str → Option (List Str)
  | [], _ => none
  | p :: ps, z => if p.1 = z then some p.2 else lookT ps z
def RowsT (K : PySem.W.Frag) : List DictEntry → WTab → Prop
  | [], [] => True
  | e :: es, p :: ps => (∃ t, e.key = .str p.1 t) ∧ (∃ b, e.val = .ref b ∧ WTup K b (p.2.map V.str)) ∧ RowsT K es ps
  | _, _ => False
def DctT (K : PySem.W.Frag) (w : World) (x : Str) (tab : WTab) : Prop := ∃ a es n, PySem.W.nsIn K mainGlobals x = some (some (.ref a)) ∧ K.lookup a = some ⟨.type "dict", none, .dict es n, #[]⟩ ∧ PySem.W.KeysLit w.params es.toList ∧ RowsT K es.toList tab ∧ (a == sysModules) = false
def DctE (K : PySem.W.Frag) (w : World) (mg : Str → Option Value) (x : Str) (tab : WTab) : Prop := ∃ a, mg x = some (.ref a) ∧ (a == sysModules) = false ∧ (∃ es n, K.lookup a = some ⟨.type "dict", none, .dict es n, #[]⟩ ∧ PySem.W.KeysLit w.params es.toList) ∧
  ∀ z, match lookT tab z with
    | some zs => ∃ b, PySem.W.nsIn K a z = some (some (.ref b)) ∧ WTup K b (zs.map V.str)
    | none => PySem.W.nsIn K a z = some none
theorem rows_find {K : PySem.W.Frag} (z : Str) : ∀ {es : List DictEntry} {tab : WTab}, RowsT K es tab →
    match lookT tab z with
      | some zs => ∃ e b, es.find? (·.key.isStr z) = some e ∧ e.val = .ref b ∧ WTup K b (zs.map V.str)
      | none => es.find? (·.key.isStr z) = none ∧ es.any (·.refKey) = false
  | [], [], _ => ⟨rfl, rfl⟩
  | e :: es, p :: ps, ⟨⟨t, h1⟩, ⟨b, h2, h3⟩, r⟩ => by
    have ih := rows_find z r
    unfold lookT
    have hk : e.key.isStr z = decide (p.1 = z) := by
      rw [h1]
      show (p.1 == z) = _
      rfl
    by_cases q : p.1 = z
    · rw [if_pos q]
      exact ⟨e, b, by rw [List.find?_cons, hk]; simp [q], h2, h3⟩
    · rw [if_neg q]
      have hf : (e :: es).find? (·.key.isStr z) = es.find? (·.key.isStr z) := by rw [List.find?_cons, hk]; simp [q]
      rw [hf]
      cases hl : lookT ps z with
      | some zs => rw [hl] at ih; exact ih
      | none =>
        rw [hl] at ih
        refine ⟨ih.1, ?_⟩
        have : e.refKey = false := by unfold DictEntry.refKey; rw [h1]
        rw [List.any_cons, this, ih.2]; rfl
theorem DctT.out {K : PySem.W.Frag} {w : World} {h : Heap} {mg : Str → Option Value} {x : Str} {tab : WTab} (X : K.In h) (G : h.Ns mainGlobals mg) (d : DctT K w x tab) : DctE K w mg x tab := by
  obtain ⟨a, es, n, h1, h2, h3, h4, h5⟩ := d
  refine ⟨a, PySem.W.mg_of X G h1, h5, ⟨es, n, h2, h3⟩, fun z => ?_⟩
  have := rows_find z h4
  cases hl : lookT tab z with
  | some zs =>
    rw [hl] at this
    obtain ⟨e, b, q1, q2, q3⟩ := this
    refine ⟨b, ?_, q3⟩
    unfold PySem.W.nsIn
    rw [h2]
    dsimp only
    rw [q1]
    show some (some e.val) = _
    rw [q2]
  | none =>
    rw [hl] at this
    show PySem.W.nsIn K a z = _
    unfold PySem.W.nsIn
    rw [h2]
    dsimp only
    rw [this.1, this.2]
    rfl
theorem DctT.mk {K : PySem.W.Frag} {w : World} {x : Str} {tab : WTab} {a : Addr} {es : Array DictEntry} {n : Nat} (h1 : PySem.W.nsIn K mainGlobals x = some (some (.ref a))) (h2 : K.lookup a = some ⟨.type "dict", none, .dict es n, #[]⟩) (h3 : PySem.W.KeysLit w.params es.toList) (h4 : RowsT K es.toList tab) (h5 : (a == sysModules) = false) : DctT K w x tab := ⟨a, es, n, h1, h2, h3, h4, h5⟩
theorem WTup.mkT {K : PySem.W.Frag} {b : Addr} {xs : List V} {o : Obj} {its : Array Value} {n : Nat} (hl : K.lookup b = some o) (hc : o.cls = .type "tuple") (hd : o.data = .seq its n) (hs : its.size ≤ 1000) (hv : Vals xs its.toList) : WTup K b xs := ⟨o, its, n, hl, hc, hd, Nat.le_trans hs (by rw [sizeLine_eq]; decide), hv⟩
section
variable {X : Cx} {c : Cn} {W : WX} {pos p px apx : Pos} {wi : WE} {i e : Expr} {x : Str} {tab : WTab}
end
section
variable {X : Cx} {o e : Expr} {apos cpos : Pos} {ty : TE} {a : Addr}
end
section
variable {X : Cx} {c : Cn} {W : WX} {pos p apx : Pos} {wi : WE} {e : Expr} {x : Str} {tab : WTab}
end
section
variable {G : EG} {env env1 : VEnv} {m1 : Md} {wi : WE} {tab : WTab} {A : Out Str} {Z : Out (List Str)}
end
end VL
set_option maxRecDepth 100000
set_option maxHeartbeats 4000000
namespace VL
open PySem PySem.Spec PyProof.Rows L2
def insL {α : Type} (xs : List α) (i : Nat) (v : α) : List α := xs.take i ++ [v] ++ xs.drop i
def wIns (j : Nat) (wk wv : WE) : WS := fun env Dv => isL env j [] ∧ wk env (fun r e => ∃ kk, r.d = .int kk ∧ wv e (fun rv e2 => ∃ ys m n, 0 ≤ kk ∧ kk < 2 ^ 62 ∧ e2[j]? = some (some (.list ys, .o m)) ∧ popM m = some n ∧ ys.length < 1000000 ∧ flatD rv.d = true ∧
  Dv.nx (killB (e2.set j (some (.list (insL ys kk.toNat rv.d), .o m))))) Dv.ex) Dv.ex
section
variable {X : Cx} {c : Cn} {W : WX} {pos py apy cpy : Pos} {wk wv : WE} {k v : Expr} {y : Str}
theorem ROs.insF {K : PySem.W.Frag} {A : Addr → Prop} {H : Hp} {m : Option Nat} {v : V} {d : D} (hv : RS K A H v d) (f : flatD d = true) : ∀ {i : Nat} {xs : List V} {ds : List D} {l : List Addr}, ROs K A H m xs ds l → ROs K A H m (insL xs i v) (insL ds i d) l
  | 0, xs, ds, l, h => by
    have := ROs.cons (l1 := []) (RO.flat (m := m) hv f) h
    simpa [insL] using this
  | i + 1, _, _, _, .nil => by
    have := ROs.cons (l1 := []) (l2 := []) (RO.flat (m := m) hv f) (ROs.nil (m := m))
    simpa [insL] using this
  | i + 1, _, _, _, .cons h r => by
    have := ROs.cons h (ROs.insF hv f (i := i) r)
    simpa [insL] using this
theorem vs_ins (j : Nat) (hk : PE X k (rdE c W wk)) (hv : PE X v (rdE c W wv)) (hN2 : X.N[j]? = some y := by rfl)
    (hy : PE X (.Name y py) (tVar j) := by exact pe_var (by rfl) (by first | exact Or.inl rfl | exact Or.inr (Or.inl rfl) | exact Or.inr (Or.inr rfl)) (by decide) (by decide))
    (hp : PE X (.Name y py) (tVar j) → PE X k (rdE c W wk) → PE X v (rdE c W wv) → PE X (.Call (.Attribute (.Name y py) "insert" apy) [k, v] [] cpy) (tBM X.K "list" (fun x vs H Q => ∃ (l : Addr) (xs : List V) (i : Int) (y : V), x = .ref l ∧ vs = [.int i, y] ∧ H l = some (.lst xs) ∧ xs.length < sizeLine ∧ 0 ≤ i ∧ i < 2 ^ 63 ∧ Q .non (upd H l (.lst (xs.take i.toNat ++ [y] ++ xs.drop i.toNat)))) (tVar j) (tCons (rdE c W wk) (tCons (rdE c W wv) tNil))) := by exact fun hy hk hv => pe_bm PySem.F.plainAttrs_list PySem.F.slot_list_insert PySem.F.type_list_insert mt_insert hy (pa_cons hk (pa_cons hv pa_nil)))
    (hs : swapsWith (.Call (.Attribute (.Name y py) "insert" apy) [k, v] [] cpy) none pos.line X.env = pure false := by rfl) :
    PS X (.Expr (.Call (.Attribute (.Name y py) "insert" apy) [k, v] [] cpy) pos) (rdS c W (wIns j wk wv)) := PS.imp (ps_expr (hp hy hk hv) hs) fun D σ H h => by
  obtain ⟨env, L, Dv, S, ⟨l2, q⟩, kn, kr, kx⟩ := h
  obtain ⟨d2, m2, ds2, e2, g2⟩ := l2
  obtain ⟨vy, ly, hvy, _, ry⟩ := S.sl.get e2
  have g2' : d2 = .list ds2 := Option.some.inj g2
  subst g2'
  obtain ⟨ay, usy, rfl, hay, _, _⟩ := ry.read.lst_inv
  refine ⟨.ref ay, hvy, .inl ⟨rfl, _, .inl (.inl hay)⟩, rd_arg S q kx fun r w l L2 env2 H2 ⟨kk, ek, q2⟩ sm S2 hr => ?_⟩
  obtain ⟨d, md⟩ := r
  cases ek
  have := hr.read
  cases this
  have S2' : Sim c L2 [] env2 σ H2 := Sim.drop (Tm := []) (l := l) S2
  refine rd_arg S2' q2 kx fun rv z l3 L3 env3 H3 ⟨ys, m', n', k0, k1, ej, pn', hlen9, fz, q3⟩ sm3 S3 hr3 => ?_
  obtain ⟨a, us, ea, ha, hlen, rus, up⟩ := S3.mutL (p := []) ej hvy rfl rfl rfl pn'
  cases ea
  have fin : ∃ L', Sim c L' [] (killB (env3.set j (some (.list (insL ys kk.toNat rv.d), .o m')))) σ (upd H3 ay (.lst (insL us kk.toNat z))) := up (insL us kk.toNat z) (insL ys kk.toNat rv.d) _ (fun lk rk nd hlk => ⟨lk, fun b hb => .inl hb, nd, fun T' h1 _ => ⟨lk, List.Perm.refl _, ROs.insF (hr3.read.flat fz) fz (ROs.mono (fun b o x _ => AT.less h1 x) rk)⟩⟩) rfl
  obtain ⟨L4, S4⟩ := fin
  exact ⟨ay, us, kk, z, rfl, rfl, ha, by rw [hlen]; exact Nat.lt_of_lt_of_le hlen9 (by rw [sizeLine_eq]; decide), k0, by omega, kn _ L4 _ _ q3 S4⟩
end
@[irreducible] def insO {α : Type} (xs : List α) (i : Int) (v : α) : Option (List α) := if 0 ≤ i ∧ i < 2 ^ 62 ∧ xs.length < 1000000 then some (insL xs i.toNat v) else none
theorem insO_ok {α : Type} {xs : List α} {i : Int} {v : α} (h0 : 0 ≤ i) (h1 : i < 2 ^ 62) (h2 : xs.length < 1000000) : insO xs i v = some (insL xs i.toNat v) := by unfold insO; exact if_pos ⟨h0, h1, h2⟩
theorem map_insL {α β : Type} (f : α → β) (xs : List α) (i : Nat) (v : α) : (insL xs i v).map f = insL (xs.map f) i (f v) := by unfold insL; simp [List.map_take, List.map_drop]
section
variable {α γ δ τ : Type} {G : EG} {env env1 env2 : VEnv} {m1 m2 : Md} {c : Enc γ} {wk wv we : WE} {u : WS} {K : δ → DV → Prop} {I : Out Int} {A : Out γ}
theorem rs_ins [f : Fl_ c] {j : Nat} {m n : Option Nat} {xs : List γ} {k : List γ → Out δ} (hi : RE G wk env env1 m1 eI I) (ha : RE G wv env1 env2 m2 c A) (s : List γ → VEnv) (h2 : ∀ ys, RB G u (s ys) (k ys) K)
    (h0 : isL env j [] := by exact ⟨_, _, _, rfl, rfl⟩) (hj : env2[j]? = some (some (eL c xs, .o m)) := by rfl) (hm : popM m = some n := by rfl) (hs : ∀ ys, killB (env2.set j (some (eL c ys, .o m))) = s ys := by exact fun _ => rfl) :
    RB G (wSeq (wIns j wk wv) u) env (I.bind fun i => A.bind fun v => (lift (insO xs i v)).bind k) K := fun D Xe hX h =>
  ⟨h0, hi _ _ Xe hX ((sat_bind.mp h).imp fun i h => ⟨i, rfl, ha _ _ Xe hX ((sat_bind.mp h).imp fun v hv => by
    obtain ⟨ys, hy, hv⟩ := sat_lift.mp (sat_bind.mp hv)
    unfold insO at hy
    split at hy
    · rename_i hc
      cases hy
      refine ⟨xs.map c, m, n, hc.1, hc.2.1, hj, hm, by rw [List.length_map]; exact hc.2.2, f.fl v, ?_⟩
      have := h2 _ D Xe hX hv
      rw [← hs] at this
      simpa [eL, map_insL] using this
    · cases hy)⟩)⟩
theorem rs_exprX2 {A : Out (γ × τ)} {k : τ → Out δ} {s : τ → VEnv} (he : RX G we env mA c s A) (h2 : ∀ t, RB G u (s t) (k t) K) : RB G (wSeq (wExpr we) u) env (A.bind fun p => k p.2) K := fun D Xe hX hs => he _ _ Xe hX ((sat_bind.mp hs).imp fun t ht => h2 t.2 D Xe hX ht)
end
end VL
namespace VL
open PySem PySem.Spec PyProof.Rows L2
section
variable {X : Cx} {c : Cn} {W : WX} {pos py py2 p1 p2 tpos : Pos} {wa wb we : WE} {a b e : Expr} {y : Str} {kk : Nat}
end
section
variable {α γ δ τ : Type} {G : EG} {env env1 env2 env3 : VEnv} {m1 m2 m3 : Md} {c : Enc γ} {wa wb we : WE} {u : WS} {K : δ → DV → Prop} {I J : Out Int} {A : Out (γ × γ)}
end
end VL
namespace VL
open PySem PySem.Spec PyProof.Rows L2
end VL
namespace VL
open PySem PySem.Spec PyProof.Rows L2
section
variable {α : Type} {G : EG} {env env1 : VEnv} {m1 : Md} {wa : WE} {a : Enc α}
theorem re_slTM [f : Fl_ a] {wl wh : WPt} {A : Out (List α)} {lo hi : Option Int} (ha : RE G wa env env m1 (eTL a) A) (hl : RO_ G wl env (.ok lo)) (hh : RO_ G wh env (.ok hi)) : RE G (wSl wa wl wh) env env mA (eTL a) (A.bind fun xs => .ok (cutL xs lo hi)) := fun Q X Xe hX hs =>
  ha _ _ Xe hX ((sat_bind.mp hs).imp fun xs hs => hl _ _ Xe hX (hh _ _ Xe hX (by
    refine ⟨flat_L _, ?_⟩
    rw [cutL_map]; exact hs)))
end
end VL
set_option maxRecDepth 100000
set_option maxHeartbeats 4000000
namespace VL
open PySem PySem.Spec PyProof.Rows L2
section
variable {α β ρ σ σ' τ ι γ : Type} {G : EG} {env env1 : VEnv} {md m1 mr : Md} {a : Enc α} {e : Enc ρ} {we : WE} {wl : WA} {u w v : WS} {wt : WT} {A : Out α} {s : σ → VEnv} {sM : τ → VEnv} {Rt : ι → DV → Prop}
end
end VL
set_option maxRecDepth 100000
set_option maxHeartbeats 4000000
namespace VL
open PySem PySem.Spec PyProof.Rows L2
def wPopE (j : Nat) (wk : WE) : WE := fun env Q X => isL env j [] ∧ wk env (fun r e => ∃ kk t y ys m' n', r.d = .int kk ∧ e[j]? = some (some (.list ys, .o m')) ∧ popM m' = some n' ∧
  -(2 ^ 62) ≤ kk ∧ kk < 2 ^ 62 ∧ seqIndex? kk ys.length = some t ∧ ys[t]? = some y ∧ flatD y = true ∧ Q ⟨y, mA⟩ (killB (e.set j (some (.list (ys.eraseIdx t), .o m'))))) X
section
variable {X : Cx} {c : Cn} {W : WX} {pos px py apx apy cpx cpy tpos : Pos} {wk wi we : WE} {wp : WP} {k o i e : Expr} {x y : Str}
theorem ve_popX (j : Nat) (hk : PE X k (rdE c W wk)) (hN2 : X.N[j]? = some y := by rfl)
    (hy : PE X (.Name y py) (tVar j) := by exact pe_var (by rfl) (by first | exact Or.inl rfl | exact Or.inr (Or.inl rfl) | exact Or.inr (Or.inr rfl)) (by decide) (by decide))
    (hp : PE X (.Name y py) (tVar j) → PE X k (rdE c W wk) → PE X (.Call (.Attribute (.Name y py) "pop" apy) [k] [] cpy) (tBM X.K "list" rPopAt (tVar j) (tCons (rdE c W wk) tNil)) := by exact fun hy hk => pe_bm PySem.F.plainAttrs_list PySem.F.slot_list_pop PySem.F.type_list_pop mt_popAt hy (pa_cons hk pa_nil)) :
    PE X (.Call (.Attribute (.Name y py) "pop" apy) [k] [] cpy) (rdX c W (wPopE j wk)) := PE.imp (hp hy hk) fun σ H Q h => by
  obtain ⟨env, L, Qv, Xv, S, ⟨l2, q⟩, kn, kx⟩ := h
  obtain ⟨d2, m2, ds2, e2, g2⟩ := l2
  obtain ⟨vy, ly, hvy, _, ry⟩ := S.sl.get e2
  have g2' : d2 = .list ds2 := Option.some.inj g2
  subst g2'
  obtain ⟨ay, usy, rfl, hay, _, _⟩ := ry.read.lst_inv
  refine ⟨.ref ay, hvy, .inl ⟨rfl, _, .inl (.inl hay)⟩, ⟨env, L, [], _, _, S, q, fun r v l L2 env2 H2 ⟨kk, t, z, ys, m', n', ek, ej, pn', b1, b2, hs, hz, fz, q2⟩ st hr => ?_, fun ex cls d L' env' H' hq st he => kx ex env' L' H' cls d hq st.sim0 he⟩⟩
  have S2 := st.sim
  obtain ⟨d, md⟩ := r
  cases ek
  have := hr.read
  cases this
  obtain ⟨a, us, ea, ha, hlen, rus, up⟩ := S2.mutL (p := []) ej hvy rfl rfl rfl pn'
  cases ea
  obtain ⟨w, hw, rw⟩ := rus.get hz
  have fin : ∃ L', Sim c L' [] (killB (env2.set j (some (.list (ys.eraseIdx t), .o m')))) σ (upd H2 ay (.lst (us.eraseIdx t))) := up (us.eraseIdx t) (ys.eraseIdx t) _ (fun lk rk nd hlk => by
    obtain ⟨lk', s, rk'⟩ := rk.erase t
    exact ⟨lk', fun b hb => .inl (s.subset hb), nd.sublist s, fun T' h1 _ => ⟨lk', List.Perm.refl _, ROs.mono (fun b o x _ => AT.less h1 x) rk'⟩⟩) rfl
  obtain ⟨L3, S3⟩ := fin
  have rw3 : RS c.K (fun _ => True) (upd H2 ay (.lst (us.eraseIdx t))) w z := ((rw.flat (A' := fun _ => False) fz).keep (Kp.write ha trivial fun q => q)).flat fz
  have hr3 : Res c (L3.flatten ++ []) (upd H2 ay (.lst (us.eraseIdx t))) ⟨z, mA⟩ w [] := Res.flat rw3 fz
  have hs' : seqIndex? kk us.length = some t := by rw [hlen]; exact hs
  exact ⟨ay, us, kk, t, w, rfl, rfl, ha, by omega, by omega, hs', hw, kn _ w [] L3 _ _ q2 S3 hr3⟩
end
section
variable {α β γ δ ρ σ τ ι : Type} {G : EG} {env env1 : VEnv} {md m2 m3 : Md} {a : Enc α} {c : Enc γ} {e : Enc ρ} {we wi : WE} {wp : WP} {u : WS} {K : δ → DV → Prop} {I : Out Int}
theorem rx_pop [f : Fl_ c] {j : Nat} {m n : Option Nat} {xs : List γ} (hw : RE G wi env env1 m3 eI I) (s : List γ → VEnv)
    (h0 : isL env j [] := by exact ⟨_, _, _, rfl, rfl⟩) (hi : env1[j]? = some (some (eL c xs, .o m)) := by rfl) (hm : popM m = some n := by rfl) (hs : ∀ ys, killB (env1.set j (some (eL c ys, .o m))) = s ys := by exact fun _ => rfl) :
    RX G (wPopE j wi) env mA c s (I.bind fun q => lift (popO xs q)) := fun Q X Xe hX h =>
  ⟨h0, hw _ _ Xe hX ((sat_bind.mp h).imp fun q h => by
    obtain ⟨⟨v, ys⟩, hy, h⟩ := sat_lift.mp h
    obtain ⟨t, b1, b2, ht, hv, rfl⟩ := popO_at hy
    refine ⟨q, t, c v, xs.map c, m, n, rfl, hi, hm, b1, b2, by rw [List.length_map]; exact (ixN_seq ht).1, by rw [List.getElem?_map, hv]; rfl, f.fl v, ?_⟩
    have h : Q ⟨c v, mA⟩ (s (xs.eraseIdx t)) := h
    rw [← hs] at h
    rw [← map_eraseIdx']
    exact h)⟩
end
end VL
set_option maxRecDepth 100000
set_option maxHeartbeats 4000000
namespace LK11
open PySem PySem.Spec PyProof.Rows L2 VL
@[irreducible] noncomputable def F_law_wrong (walks_ : (List (List Int))) (named_ : (List Int)) (at_ : Int) (place_ : Int) : Out Bool :=
  (((lift (atI walks_ at_)).bind fun t1 => (Out.ok (place_)).bind fun t2 => lift (atI t1 t2)).bind fun (one_ : Int) => (((((lift (atI walks_ at_)).bind fun xs => (Out.ok none).bind fun lo => (Out.ok (some (place_))).bind fun hi => .ok (cutL xs lo hi)).bind fun x => (Out.ok ()).bind fun t => .ok (x, t)).bind fun (t : (List Int) × Unit) => .ok (t.1)).bind fun (ahead_ : (List Int)) => ((Out.ok (([] : (List Int)))).bind fun (every_ : (List Int)) => ((forO (fun (V393 : (List Int)) (walk_ : (List Int)) => ((Out.ok (walk_)).bind fun v => (lift (extO V393 v)).bind fun every_ => (Out.ok every_))) every_ walks_).bind fun (V393 : (List Int)) => ((forO (fun (V394 : (List Int)) (walk_ : (List Int)) => ((Out.ok (walk_)).bind fun v => (lift (extO V394 v)).bind fun ahead_ => (Out.ok ahead_))) ahead_ (cutL walks_ none (some (at_)))).bind fun (V394 : (List Int)) => (if (decide (one_ = 0) || decide (one_ ∈ V394)) = true then (Out.ok true) else (Out.ok (!decide (-one_ ∈ V393) || !decide (absF one_ ∈ named_)))))))))
def sp_law_wrong : FSpec := fun ds Q X => ∃ (walks_ : (List (List Int))) (named_ : (List Int)) (at_ : Int) (place_ : Int), ds = [(eL (eL eI)) walks_, (eL eI) named_, eI at_, eI place_] ∧ Sat (F_law_wrong walks_ named_ at_ place_) (fun r => Q ⟨eB r, mA⟩) X
@[irreducible] noncomputable def F_law_due (drawing_ : ((List (List Int)) × (List (Int × Int)))) : Out (Option (List At)) :=
  ((Out.ok (drawing_)).bind fun (p399 : ((List (List Int)) × (List (Int × Int)))) => ((mapL (fun p400 : (Int × Int) => noX (Out.ok (p400.1))) p399.2).bind fun (named_ : (List Int)) => ((Out.ok (([] : (List Int)))).bind fun (every_ : (List Int)) => (((lift (rgO 0 (p399.1.length : Int))).bind fun xs => forF (fun (V401 : (List Int)) (at_ : Int) => ((lift (atI p399.1 at_)).bind fun v => (lift (extO V401 v)).bind fun every_ => ((((((lift (atI p399.1 at_)).bind fun x => (Out.ok ()).bind fun t => .ok (x, t)).bind fun (t : (List Int) × Unit) => .ok ((t.1.length : Int))).bind fun x => (Out.ok ()).bind fun t => .ok (x, t)).bind fun (t : Int × Unit) => (lift (rgO (0) (t.1))).bind fun xs => forF (fun (V403 : Unit) (place_ : Int) => ((F_law_wrong p399.1 named_ at_ place_).bind fun p => if p = true then (Out.ok (Fl.ret (some (([.s (Str.ofString "walk"), .i at_, .i place_] : List At))))) else (Out.ok (Fl.nxt ())))) () xs).bind (flowF fun (V403 : Unit) => (Out.ok (Fl.nxt every_)))))) every_ xs).bind (flowT fun (V401 : (List Int)) => (((lift (rgO 0 (p399.2.length : Int))).bind fun xs => forF (fun (V404 : Unit) (at_ : Int) => ((lift (atI p399.2 at_)).bind fun (p406 : (Int × Int)) => (((Out.ok ((decide (at_ = 0) && decide (p406.1 < 1)))).bind fun p => if p = true then .ok true else ((Out.ok (decide (at_ > 0))).bind fun p => if p = true then ((Out.ok (p406.1)).bind fun t1 => ((lift (atI p399.2 (at_ - 1))).bind fun p => .ok (p.1)).bind fun t2 => .ok (decide (t1 ≤ t2))) else .ok false)).bind fun p => if p = true then (Out.ok (Fl.ret (some (([.s (Str.ofString "sign"), .i at_] : List At))))) else ((((lift (mulO p406.2 p406.2)).bind fun t1 => (Out.ok (1)).bind fun t2 => .ok (!decide (t1 = t2))).bind fun p => if p = true then .ok true else (Out.ok (!decide (p406.1 ∈ V401)))).bind fun p => if p = true then (Out.ok (Fl.ret (some (([.s (Str.ofString "sign"), .i at_] : List At))))) else (Out.ok (Fl.nxt ())))))) () xs).bind (flowT fun (V404 : Unit) => (if (decide ((p399.2.length : Int) > 40)) = true then (Out.ok (some (([.s (Str.ofString "many"), .i (p399.2.length : Int)] : List At)))) else (if (decide ((p399.1.length : Int) > 12)) = true then (Out.ok (some (([.s (Str.ofString "many"), .i (p399.1.length : Int)] : List At)))) else (Out.ok none))))))))))
def sp_law_due : FSpec := fun ds Q X => ∃ (drawing_ : ((List (List Int)) × (List (Int × Int)))), ds = [(e2 (eL (eL eI)) (eL (e2 eI eI))) drawing_] ∧ Sat (F_law_due drawing_) (fun r => Q ⟨(eO (eTL eA)) r, mA⟩) X
@[irreducible] noncomputable def F_checked (drawing_ : ((List (List Int)) × (List (Int × Int)))) : Out ((List (List Int)) × (List (Int × Int))) :=
  ((XTX.F_fault drawing_).bind fun (found_ : (Option (List At))) => (if (!found_.isNone) = true then ((lift found_).bind fun v => .exn ⟨"NotADrawing", some ("fault", (eTL eA) v)⟩) else (((mapL (fun walk_ : (List Int) => noX (Out.ok (walk_))) drawing_.1).bind fun x => (Out.ok (drawing_.2, ())).bind fun t => .ok (x, t)).bind fun (t : (List (List Int)) × (List (Int × Int)) × Unit) => .ok (t.1, t.2.1))))
def sp_checked : FSpec := fun ds Q X => ∃ (drawing_ : ((List (List Int)) × (List (Int × Int)))), ds = [(e2 (eL (eL eI)) (eL (e2 eI eI))) drawing_] ∧ Sat (F_checked drawing_) (fun r => Q ⟨(e2 (eL (eL eI)) (eL (e2 eI eI))) r, mA⟩) X
@[irreducible] noncomputable def F_law_refused (drawing_ : ((List (List Int)) × (List (Int × Int)))) : Out (Bool × (Option (List At))) :=
  ((tryFO ((F_checked drawing_).bind fun _ => (Out.ok (Fl.nxt ()))) ["NotADrawing"] (fun ex465 => ((Out.ok ((((["PlaitError", "NotADrawing", "NoCrossing", "TooBig"] : List Str).contains ex465.cls) && ((["PlaitError", "NotADrawing", "NoCrossing", "TooBig"] : List Str).contains ex465.cls)))).bind fun (fine_ : Bool) => (if (((["NoCrossing"] : List Str).contains ex465.cls) || (((["TooBig"] : List Str).contains ex465.cls) || !(fine_))) = true then (Out.ok (Fl.ret (true, (some (([.s (Str.ofString "strange"), .i 0] : List At)))))) else ((((Out.ok (true)).bind fun x => ((lift (xfO decTA "NotADrawing" "fault" ex465)).bind fun x => (Out.ok ()).bind fun t => .ok (x, t)).bind fun t => .ok (x, t)).bind fun (t : Bool × (List At) × Unit) => .ok (t.1, t.2.1)).bind fun x => .ok (Fl.ret (x.1, (some (x.2))))))))).bind (flowT fun (V467 : Unit) => (Out.ok (false, none))))
def sp_law_refused : FSpec := fun ds Q X => ∃ (drawing_ : ((List (List Int)) × (List (Int × Int)))), ds = [(e2 (eL (eL eI)) (eL (e2 eI eI))) drawing_] ∧ Sat (F_law_refused drawing_) (fun r => Q ⟨(e2 eB (eO (eTL eA))) r, mA⟩) X
@[irreducible] noncomputable def F_law_is_whole (one_ : At) : Out Bool :=
  (Out.ok (tyIs "int" (eA one_) && !(tyIs "bool" (eA one_))))
def sp_law_is_whole : FSpec := fun ds Q X => ∃ (one_ : At), ds = [eA one_] ∧ Sat (F_law_is_whole one_) (fun r => Q ⟨eB r, mA⟩) X
@[irreducible] noncomputable def F_law_is_drawing (found_ : ((List (List Int)) × (List (Int × Int)))) : Out Bool :=
  (if (!decide (2 = 2)) = true then (Out.ok false) else ((forF (fun (V455 : Unit) (walk_ : (List Int)) => ((forF (fun (V457 : Unit) (one_ : Int) => (((F_law_is_whole (.i one_)).bind fun t1 => .ok (!t1)).bind fun p => if p = true then (Out.ok (Fl.ret false)) else (Out.ok (Fl.nxt ())))) () walk_).bind (flowF fun (V457 : Unit) => (Out.ok (Fl.nxt ()))))) () found_.1).bind (flowT fun (V455 : Unit) => ((forF (fun (V458 : Unit) (entry_ : (Int × Int)) => (if (!decide (2 = 2)) = true then (Out.ok (Fl.ret false)) else ((((F_law_is_whole (.i entry_.1)).bind fun t1 => .ok (!t1)).bind fun p => if p = true then .ok true else ((F_law_is_whole (.i entry_.2)).bind fun t1 => .ok (!t1))).bind fun p => if p = true then (Out.ok (Fl.ret false)) else (Out.ok (Fl.nxt ()))))) () found_.2).bind (flowT fun (V458 : Unit) => (Out.ok true))))))
def sp_law_is_drawing : FSpec := fun ds Q X => ∃ (found_ : ((List (List Int)) × (List (Int × Int)))), ds = [(e2 (eL (eL eI)) (eL (e2 eI eI))) found_] ∧ Sat (F_law_is_drawing found_) (fun r => Q ⟨eB r, mA⟩) X
@[irreducible] noncomputable def F_law_taken (drawing_ : ((List (List Int)) × (List (Int × Int)))) : Out Bool :=
  ((XD.F_law_copy drawing_).bind fun (handed_ : ((List (List Int)) × (List (Int × Int)))) => ((F_checked handed_).bind fun (found_ : ((List (List Int)) × (List (Int × Int)))) => ((((F_law_is_drawing found_).bind fun t1 => .ok (!t1)).bind fun p => if p = true then .ok true else (Out.ok ((!decide (found_ = drawing_) || !decide (handed_ = drawing_))))).bind fun p => if p = true then (Out.ok false) else (((Out.ok (handed_, fun (y : ((List (List Int)) × (List (Int × Int)))) => y)).bind fun r => .ok ((fun (x : ((List (List Int)) × (List (Int × Int)))) => x.1) r.1, fun y => r.2 ((fun (x : ((List (List Int)) × (List (Int × Int)))) (y : (List (List Int))) => (y, x.2)) r.1 y))).bind fun r => (Out.ok ([7])).bind fun v => (lift (appO r.1 v)).bind fun y => (fun handed_ => (((Out.ok (handed_, fun (y : ((List (List Int)) × (List (Int × Int)))) => y)).bind fun r => .ok ((fun (x : ((List (List Int)) × (List (Int × Int)))) => x.2) r.1, fun y => r.2 ((fun (x : ((List (List Int)) × (List (Int × Int)))) (y : (List (Int × Int))) => (x.1, y)) r.1 y))).bind fun r => (fun handed_ => ((if (decide ((drawing_.1.length : Int) > 0)) = true then ((((Out.ok (handed_, fun (y : ((List (List Int)) × (List (Int × Int)))) => y)).bind fun r => .ok ((fun (x : ((List (List Int)) × (List (Int × Int)))) => x.1) r.1, fun y => r.2 ((fun (x : ((List (List Int)) × (List (Int × Int)))) (y : (List (List Int))) => (y, x.2)) r.1 y))).bind fun r => (Out.ok (0)).bind fun q => (lift (atI r.1 q)).bind fun x => .ok (x, fun y => r.2 (setI r.1 q y))).bind fun r => (Out.ok (5)).bind fun v => (lift (appO r.1 v)).bind fun y => (fun handed_ => (Out.ok ())) (r.2 y)) else (Out.ok ())).bind fun (V461 : Unit) => (if (!decide (found_ = drawing_)) = true then (Out.ok false) else (((Out.ok (found_, fun (y : ((List (List Int)) × (List (Int × Int)))) => y)).bind fun r => .ok ((fun (x : ((List (List Int)) × (List (Int × Int)))) => x.1) r.1, fun y => r.2 ((fun (x : ((List (List Int)) × (List (Int × Int)))) (y : (List (List Int))) => (y, x.2)) r.1 y))).bind fun r => (Out.ok (([] : (List Int)))).bind fun v => (lift (appO r.1 v)).bind fun y => (fun found_ => (((((XD.F_law_copy drawing_).bind fun x => (Out.ok ()).bind fun t => .ok (x, t)).bind (fun (t : ((List (List Int)) × (List (Int × Int))) × Unit) => F_checked t.1)).bind fun t1 => (Out.ok (drawing_)).bind fun t2 => .ok (decide (t1 = t2))).bind fun p => if p = true then ((((XD.F_law_copy drawing_).bind fun x => (Out.ok ()).bind fun t => .ok (x, t)).bind (fun (t : ((List (List Int)) × (List (Int × Int))) × Unit) => XTX.F_fault t.1)).bind fun t1 => (Out.ok (())).bind fun t2 => .ok (t1.isNone)) else .ok false)) (r.2 y))))) (r.2 []))) (r.2 y)))))
def sp_law_taken : FSpec := fun ds Q X => ∃ (drawing_ : ((List (List Int)) × (List (Int × Int)))), ds = [(e2 (eL (eL eI)) (eL (e2 eI eI))) drawing_] ∧ Sat (F_law_taken drawing_) (fun r => Q ⟨eB r, mA⟩) X
@[irreducible] noncomputable def F_law_large (some_ : (List Int)) : Out ((List (List Int)) × (List (Int × Int))) :=
  (((Out.ok (38)).bind fun t1 => (lift (atI some_ 0)).bind fun t2 => .ok ((t1 + t2))).bind fun (count_ : Int) => (((Out.ok (1)).bind fun t1 => ((lift (atI some_ 1)).bind fun t1 => .ok (t1 % 4)).bind fun t2 => .ok ((t1 + t2))).bind fun (rings_ : Int) => ((Out.ok (0)).bind fun (extra_ : Int) => ((((lift (atI some_ 2)).bind fun t1 => (Out.ok (0)).bind fun t2 => .ok (decide (t1 = t2))).bind fun p => if p = true then ((lift (atI some_ 0)).bind fun (count_ : Int) => (Out.ok count_)) else (Out.ok count_)).bind fun (V247 : Int) => ((((lift (atI some_ 2)).bind fun t1 => (Out.ok (2)).bind fun t2 => .ok (decide (t1 < t2))).bind fun p => if p = true then ((((Out.ok (11)).bind fun t1 => ((lift (atI some_ 1)).bind fun t1 => .ok (t1 % 4)).bind fun t2 => .ok ((t1 + t2))).bind fun t1 => (Out.ok (rings_)).bind fun t2 => .ok ((t1 - t2))).bind fun (extra_ : Int) => (Out.ok extra_)) else (Out.ok extra_)).bind fun (V248 : Int) => (((lift (rgO 0 (rings_ + V248))).bind (mapL (fun k_ : Int => noX (Out.ok (([] : (List Int))))))).bind fun (walks_ : (List (List Int))) => ((Out.ok (([] : (List (Int × Int))))).bind fun (signs_ : (List (Int × Int))) => (((lift (rgO 0 V247)).bind fun xs => forO (fun (V249 : (List (List Int)) × (List (Int × Int))) (k_ : Int) => ((lift (modO k_ rings_)).bind fun j => (lift (atI V249.1 j)).bind fun r => (Out.ok ((k_ + 1))).bind fun v => (lift (appO r v)).bind fun r2 => (fun walks_ => (((lift (mulO k_ k_)).bind fun t1 => (Out.ok (rings_)).bind fun t2 => lift (modO t1 t2)).bind fun j => (lift (atI walks_ j)).bind fun r => (Out.ok ((-k_ - 1))).bind fun v => (lift (appO r v)).bind fun r2 => (fun walks_ => ((Out.ok (((k_ + 1), (1 - (2 * (k_ % 2)))))).bind fun v => (lift (appO V249.2 v)).bind fun signs_ => (Out.ok (walks_, signs_)))) (setI walks_ j r2))) (setI V249.1 j r2))) (walks_, signs_) xs).bind fun (V249 : (List (List Int)) × (List (Int × Int))) => (Out.ok (V249.1, V249.2))))))))))
def sp_law_large : FSpec := fun ds Q X => ∃ (some_ : (List Int)), ds = [(eL eI) some_] ∧ Sat (F_law_large some_) (fun r => Q ⟨(e2 (eL (eL eI)) (eL (e2 eI eI))) r, mA⟩) X
@[irreducible] noncomputable def F_law_spoilt_sign (drawing_ : ((List (List Int)) × (List (Int × Int)))) (some_ : (List Int)) : Out ((List (List Int)) × (List (Int × Int))) :=
  ((XD.F_law_copy drawing_).bind fun (p318 : ((List (List Int)) × (List (Int × Int)))) => (((Out.ok (decide ((p318.2.length : Int) = 0))).bind fun p => if p = true then .ok true else ((lift (atI some_ 1)).bind fun t1 => (Out.ok (0)).bind fun t2 => .ok (decide (t1 = t2)))).bind fun p => if p = true then (((Out.ok (p318.1)).bind fun x => (((Out.ok (p318.2)).bind fun t1 => ((((((lift (atI some_ 4)).bind fun t1 => (Out.ok (3)).bind fun t2 => .ok ((t1 - t2))).bind fun x => (Out.ok (1, ())).bind fun t => .ok (x, t)).bind fun (t : Int × Int × Unit) => .ok (t.1, t.2.1)).bind fun x => (Out.ok ()).bind fun t => .ok (x, t)).bind fun (t : (Int × Int) × Unit) => .ok [t.1]).bind fun t2 => lift (catO t1 t2)).bind fun x => (Out.ok ()).bind fun t => .ok (x, t)).bind fun t => .ok (x, t)).bind fun (t : (List (List Int)) × (List (Int × Int)) × Unit) => .ok (t.1, t.2.1)) else (((lift (atI some_ 3)).bind fun t1 => (Out.ok ((p318.2.length : Int))).bind fun t2 => lift (modO t1 t2)).bind fun (at_ : Int) => ((lift (atI p318.2 at_)).bind fun (p319 : (Int × Int)) => ((((lift (atI some_ 1)).bind fun t1 => (Out.ok (1)).bind fun t2 => .ok (decide (t1 = t2))).bind fun p => if p = true then (((Out.ok (at_)).bind fun q => lift (popO p318.2 q)).bind fun p => (fun (signs_ : (List (Int × Int))) => (Out.ok signs_)) p.2) else ((((lift (atI some_ 1)).bind fun t1 => (Out.ok (2)).bind fun t2 => .ok (decide (t1 = t2))).bind fun p => if p = true then ((Out.ok (at_)).bind fun i => (Out.ok ((p319.1, p319.2))).bind fun v => (lift (insO p318.2 i v)).bind (fun (signs_ : (List (Int × Int))) => (Out.ok signs_))) else ((((lift (atI some_ 1)).bind fun t1 => (Out.ok (3)).bind fun t2 => .ok (decide (t1 = t2))).bind fun p => if p = true then (((Out.ok (at_)).bind fun q => lift (popO p318.2 q)).bind fun p => (fun (signs_ : (List (Int × Int))) => ((Out.ok ((at_ + 1))).bind fun i => (Out.ok ((p319.1, p319.2))).bind fun v => (lift (insO signs_ i v)).bind (fun (signs_ : (List (Int × Int))) => (Out.ok signs_)))) p.2) else ((((lift (atI some_ 1)).bind fun t1 => (Out.ok (4)).bind fun t2 => .ok (decide (t1 = t2))).bind fun p => if p = true then ((((Out.ok (p319.1)).bind fun x => (((Out.ok ([0, 2, -(3)])).bind fun t1 => ((lift (atI some_ 4)).bind fun t1 => .ok (t1 % 3)).bind fun t2 => lift (atI t1 t2)).bind fun x => (Out.ok ()).bind fun t => .ok (x, t)).bind fun t => .ok (x, t)).bind fun (t : Int × Int × Unit) => .ok (t.1, t.2.1)).bind fun v => (Out.ok (at_)).bind fun j => (lift (setO p318.2 j v)).bind fun signs_ => (Out.ok signs_)) else ((((lift (atI some_ 1)).bind fun t1 => (Out.ok (5)).bind fun t2 => .ok (decide (t1 = t2))).bind fun p => if p = true then ((Out.ok ((-(p319.1), p319.2))).bind fun v => (Out.ok (at_)).bind fun j => (lift (setO p318.2 j v)).bind fun signs_ => (Out.ok signs_)) else ((((((Out.ok (p318.2)).bind fun t1 => ((lift (atI some_ 4)).bind fun t1 => (Out.ok ((p318.2.length : Int))).bind fun t2 => lift (modO t1 t2)).bind fun t2 => lift (atI t1 t2)).bind fun p => .ok (p.1)).bind fun x => (Out.ok (p319.2, ())).bind fun t => .ok (x, t)).bind fun (t : Int × Int × Unit) => .ok (t.1, t.2.1)).bind fun v => (Out.ok (at_)).bind fun j => (lift (setO p318.2 j v)).bind fun signs_ => (Out.ok signs_))).bind fun (V350 : (List (Int × Int))) => (Out.ok V350))).bind fun (V349 : (List (Int × Int))) => (Out.ok V349))).bind fun (V347 : (List (Int × Int))) => (Out.ok V347))).bind fun (V343 : (List (Int × Int))) => (Out.ok V343))).bind fun (V335 : (List (Int × Int))) => (Out.ok (p318.1, V335)))))))
def sp_law_spoilt_sign : FSpec := fun ds Q X => ∃ (drawing_ : ((List (List Int)) × (List (Int × Int)))) (some_ : (List Int)), ds = [(e2 (eL (eL eI)) (eL (e2 eI eI))) drawing_, (eL eI) some_] ∧ Sat (F_law_spoilt_sign drawing_ some_) (fun r => Q ⟨(e2 (eL (eL eI)) (eL (e2 eI eI))) r, mA⟩) X
@[irreducible] noncomputable def F_law_other_passage (walks_ : (List (List Int))) (one_ : Int) (some_ : (List Int)) : Out Int :=
  ((Out.ok (([] : (List Int)))).bind fun (every_ : (List Int)) => ((forO (fun (V355 : (List Int)) (walk_ : (List Int)) => ((Out.ok (walk_)).bind fun v => (lift (extO V355 v)).bind fun every_ => (Out.ok every_))) every_ walks_).bind fun (V355 : (List Int)) => (((lift (atI some_ 0)).bind fun t1 => (Out.ok (0)).bind fun t2 => .ok (decide (t1 = t2))).bind fun p => if p = true then (Out.ok 0) else (((lift (atI some_ 0)).bind fun t1 => (Out.ok (1)).bind fun t2 => .ok (decide (t1 = t2))).bind fun p => if p = true then (Out.ok (-one_)) else (((lift (atI some_ 0)).bind fun t1 => (Out.ok (2)).bind fun t2 => .ok (decide (t1 = t2))).bind fun p => if p = true then ((Out.ok (V355)).bind fun t1 => ((lift (atI some_ 4)).bind fun t1 => (Out.ok ((V355.length : Int))).bind fun t2 => lift (modO t1 t2)).bind fun t2 => lift (atI t1 t2)) else ((Out.ok (one_)).bind fun t1 => (((Out.ok ((10 ^ ((9 : Int).toNat) : Int))).bind fun t1 => (lift (atI some_ 4)).bind fun t2 => .ok ((t1 + t2))).bind fun t1 => ((Out.ok (1)).bind fun t1 => (((lift (atI some_ 4)).bind fun t1 => .ok (t1 % 2)).bind fun t1 => .ok (2 * t1)).bind fun t2 => .ok ((t1 - t2))).bind fun t2 => lift (mulO t1 t2)).bind fun t2 => .ok ((t1 + t2))))))))
def sp_law_other_passage : FSpec := fun ds Q X => ∃ (walks_ : (List (List Int))) (one_ : Int) (some_ : (List Int)), ds = [(eL (eL eI)) walks_, eI one_, (eL eI) some_] ∧ Sat (F_law_other_passage walks_ one_ some_) (fun r => Q ⟨eI r, mA⟩) X
@[irreducible] noncomputable def F_law_spoilt_walk (drawing_ : ((List (List Int)) × (List (Int × Int)))) (some_ : (List Int)) : Out ((List (List Int)) × (List (Int × Int))) :=
  ((XD.F_law_copy drawing_).bind fun (p373 : ((List (List Int)) × (List (Int × Int)))) => (((lift (rgO 0 (p373.1.length : Int))).bind (fmapL (fun k_ : Int => noX ((((lift (atI p373.1 k_)).bind fun x => (Out.ok ()).bind fun t => .ok (x, t)).bind fun (t : (List Int) × Unit) => .ok ((t.1.length : Int))).bind fun t1 => (Out.ok (0)).bind fun t2 => .ok (decide (t1 > t2)))) (fun k_ : Int => noX (Out.ok (k_))))).bind fun (held_ : (List Int)) => (if (decide ((held_.length : Int) = 0)) = true then ((((Out.ok (p373.1)).bind fun t1 => (((((lift (atI some_ 4)).bind fun x => (Out.ok ()).bind fun t => .ok (x, t)).bind fun (t : Int × Unit) => .ok [t.1]).bind fun x => (Out.ok ()).bind fun t => .ok (x, t)).bind fun (t : (List Int) × Unit) => .ok [t.1]).bind fun t2 => lift (catO t1 t2)).bind fun x => (Out.ok (p373.2, ())).bind fun t => .ok (x, t)).bind fun (t : (List (List Int)) × (List (Int × Int)) × Unit) => .ok (t.1, t.2.1)) else (((Out.ok (p373.1, fun (y : (List (List Int))) => y)).bind fun r => ((Out.ok (held_)).bind fun t1 => ((lift (atI some_ 2)).bind fun t1 => (Out.ok ((held_.length : Int))).bind fun t2 => lift (modO t1 t2)).bind fun t2 => lift (atI t1 t2)).bind fun q => (lift (atI r.1 q)).bind fun x => .ok (x, fun y => r.2 (setI r.1 q y))).bind fun r => (fun (walk_ : (List Int)) (f374 : (List Int) → (List (List Int))) => (((lift (atI some_ 3)).bind fun t1 => (Out.ok ((walk_.length : Int))).bind fun t2 => lift (modO t1 t2)).bind fun (at_ : Int) => ((((lift (atI some_ 0)).bind fun t1 => (Out.ok (4)).bind fun t2 => .ok (decide (t1 < t2))).bind fun p => if p = true then ((noX (((Out.ok (f374 walk_)).bind fun x => ((lift (atI walk_ at_)).bind fun x => (Out.ok (some_, ())).bind fun t => .ok (x, t)).bind fun t => .ok (x, t)).bind (fun (t : (List (List Int)) × Int × (List Int) × Unit) => F_law_other_passage t.1 t.2.1 t.2.2.1))).bind fun v => (Out.ok (at_)).bind fun j => (lift (setO walk_ j v)).bind fun walk_ => (Out.ok walk_)) else ((((lift (atI some_ 0)).bind fun t1 => (Out.ok (4)).bind fun t2 => .ok (decide (t1 = t2))).bind fun p => if p = true then (((Out.ok (at_)).bind fun q => lift (popO walk_ q)).bind fun p => (fun (walk_ : (List Int)) => (Out.ok walk_)) p.2) else ((((lift (atI some_ 0)).bind fun t1 => (Out.ok (5)).bind fun t2 => .ok (decide (t1 = t2))).bind fun p => if p = true then ((Out.ok (at_)).bind fun i => (lift (atI walk_ at_)).bind fun v => (lift (insO walk_ i v)).bind (fun (walk_ : (List Int)) => (Out.ok walk_))) else ((Out.ok (at_)).bind fun i => ((Out.ok ((10 ^ ((6 : Int).toNat) : Int))).bind fun t1 => (lift (atI some_ 4)).bind fun t2 => .ok ((t1 + t2))).bind fun v => (lift (insO walk_ i v)).bind (fun (walk_ : (List Int)) => (((lift (atI some_ 4)).bind fun t1 => (Out.ok ((walk_.length : Int))).bind fun t2 => lift (modO t1 t2)).bind fun i => ((Out.ok (-((10 ^ ((6 : Int).toNat) : Int)))).bind fun t1 => (lift (atI some_ 4)).bind fun t2 => .ok ((t1 - t2))).bind fun v => (lift (insO walk_ i v)).bind (fun (walk_ : (List Int)) => (Out.ok walk_)))))).bind fun (V381 : (List Int)) => (Out.ok V381))).bind fun (V380 : (List Int)) => (Out.ok V380))).bind fun (V378 : (List Int)) => ((fun (walks_ : (List (List Int))) => (Out.ok (walks_, p373.2))) (f374 V378))))) r.1 r.2))))
def sp_law_spoilt_walk : FSpec := fun ds Q X => ∃ (drawing_ : ((List (List Int)) × (List (Int × Int)))) (some_ : (List Int)), ds = [(e2 (eL (eL eI)) (eL (e2 eI eI))) drawing_, (eL eI) some_] ∧ Sat (F_law_spoilt_walk drawing_ some_) (fun r => Q ⟨(e2 (eL (eL eI)) (eL (e2 eI eI))) r, mS⟩) X
@[irreducible] noncomputable def F_law_same (found_ : (Option (List At))) (due_here_ : (Option (List At))) : Out Bool :=
  (if due_here_.isNone = true then (Out.ok found_.isNone) else (((Out.ok (!(found_.isSome))).bind fun p => if p = true then .ok true else ((((lift found_).bind fun x => (Out.ok ()).bind fun t => .ok (x, t)).bind fun (t : (List At) × Unit) => .ok ((t.1.length : Int))).bind fun t1 => (((lift due_here_).bind fun x => (Out.ok ()).bind fun t => .ok (x, t)).bind fun (t : (List At) × Unit) => .ok ((t.1.length : Int))).bind fun t2 => .ok (!decide (t1 = t2)))).bind fun p => if p = true then (Out.ok false) else ((((lift found_).bind fun xs => .ok (cutL xs (some (1)) none)).bind fun xs => forF (fun (V446 : Unit) (one_ : At) => (((F_law_is_whole one_).bind fun t1 => .ok (!t1)).bind fun p => if p = true then (Out.ok (Fl.ret false)) else (Out.ok (Fl.nxt ())))) () xs).bind (flowT fun (V446 : Unit) => ((((lift found_).bind fun t1 => (Out.ok (0)).bind fun t2 => lift (atI t1 t2)).bind fun x => .ok (tyIs "str" (eA x))).bind fun p => if p = true then (lift ((eqG ((eO (eTL eA)) found_) ((eO (eTL eA)) due_here_)))) else .ok false)))))
def sp_law_same : FSpec := fun ds Q X => ∃ (found_ : (Option (List At))) (due_here_ : (Option (List At))), ds = [(eO (eTL eA)) found_, (eO (eTL eA)) due_here_] ∧ Sat (F_law_same found_ due_here_) (fun r => Q ⟨eB r, mA⟩) X
@[irreducible] noncomputable def F_law (script_ : (List Int)) : Out Bool :=
  ((XD.F_law_drawn script_ 0 10).bind fun (drawing_ : ((List (List Int)) × (List (Int × Int)))) => ((((Out.ok (script_)).bind fun x => ((Out.ok (1)).bind fun x => (((Out.ok ([4, 3])).bind fun t1 => (lift (repO ([7, 7, 40, 90, 40, 2]) 2)).bind fun t2 => lift (catO t1 t2)).bind fun x => (Out.ok ()).bind fun t => .ok (x, t)).bind fun t => .ok (x, t)).bind fun t => .ok (x, t)).bind (fun (t : (List Int) × Int × (List Int) × Unit) => XD.F_law_row t.1 t.2.1 t.2.2.1)).bind fun (some_ : (List Int)) => ((((lift (atI some_ 0)).bind fun t1 => (Out.ok (0)).bind fun t2 => .ok (decide (t1 = t2))).bind fun p => if p = true then ((((XD.F_law_row script_ 2 ([5, 8, 3])).bind fun x => (Out.ok ()).bind fun t => .ok (x, t)).bind (fun (t : (List Int) × Unit) => F_law_large t.1)).bind fun (drawing_ : ((List (List Int)) × (List (Int × Int)))) => (Out.ok drawing_)) else (Out.ok drawing_)).bind fun (V475 : ((List (List Int)) × (List (Int × Int)))) => ((XD.F_law_copy V475).bind fun (spoilt_ : ((List (List Int)) × (List (Int × Int)))) => ((((lift (atI some_ 1)).bind fun x => (Out.ok ()).bind fun t => .ok (x, t)).bind fun (t : Int × Unit) => (lift (rgO (0) (t.1))).bind fun xs => forO (fun (V476 : ((List (List Int)) × (List (Int × Int)))) (k_ : Int) => ((Out.ok (cutL some_ (some (((6 * k_) + 2))) (some (((6 * k_) + 8))))).bind fun (pick_ : (List Int)) => ((((lift (atI pick_ 5)).bind fun t1 => (Out.ok (0)).bind fun t2 => .ok (decide (t1 = t2))).bind fun p => if p = true then ((F_law_spoilt_sign V476 pick_).bind fun (spoilt_ : ((List (List Int)) × (List (Int × Int)))) => (Out.ok spoilt_)) else ((F_law_spoilt_walk V476 pick_).bind fun (spoilt_ : ((List (List Int)) × (List (Int × Int)))) => (Out.ok spoilt_))).bind fun (V479 : ((List (List Int)) × (List (Int × Int)))) => (Out.ok V479)))) spoilt_ xs).bind fun (V476 : ((List (List Int)) × (List (Int × Int)))) => ((F_law_due V476).bind fun (due_here_ : (Option (List At))) => ((XD.F_law_copy V476).bind fun (handed_ : ((List (List Int)) × (List (Int × Int)))) => ((((((XTX.F_fault handed_).bind fun x => (Out.ok (due_here_, ())).bind fun t => .ok (x, t)).bind (fun (t : (Option (List At)) × (Option (List At)) × Unit) => F_law_same t.1 t.2.1)).bind fun t1 => .ok (!t1)).bind fun p => if p = true then .ok true else (Out.ok (!decide (handed_ = V476)))).bind fun p => if p = true then (Out.ok false) else (if due_here_.isNone = true then (F_law_taken V476) else ((F_law_refused handed_).bind fun (p480 : (Bool × (Option (List At)))) => (((Out.ok (!(p480.1))).bind fun p => if p = true then .ok true else (((F_law_same p480.2 due_here_).bind fun t1 => .ok (!t1)).bind fun p => if p = true then .ok true else (Out.ok (!decide (handed_ = V476))))).bind fun p => if p = true then (Out.ok false) else (((F_law_due V475).bind fun t1 => (Out.ok (())).bind fun t2 => .ok (!t1.isNone)).bind fun p => if p = true then (Out.ok true) else (F_law_taken V475)))))))))))))
end LK11
set_option maxRecDepth 100000
set_option maxHeartbeats 1000000
namespace VL
open PySem PySem.Spec PyProof.Rows L2
section
variable {α β σ ρ : Type} {X : Exn → Prop}
theorem eta2 (p : α × β) : (p.1, p.2) = p := Eq.trans rfl rfl
theorem s_atE {xs : List α} {i : Int} {x : α} {Q : α → Prop} (h : atI xs i = some x) (q : Q x) : Sat (lift (atI xs i)) Q X := sat_lift.mpr ⟨x, h, q⟩
theorem s_at {xs : List α} {i : Int} {Q : α → Prop} (h0 : 0 ≤ i) (h1 : i < xs.length) (q : ∀ x, xs[i.toNat]? = some x → Q x) : Sat (lift (atI xs i)) Q X := sat_lift.mpr ⟨_, atI_get h0 h1, q _ (List.getElem?_eq_getElem (by omega))⟩
theorem s_app {xs : List α} {v : α} {Q : List α → Prop} (h : xs.length < 1000000) (q : Q (xs ++ [v])) : Sat (lift (appO xs v)) Q X := sat_lift.mpr ⟨_, appO_ok h, q⟩
theorem s_ext {xs ys : List α} {Q : List α → Prop} (h : xs.length + ys.length < 1000000) (q : Q (xs ++ ys)) : Sat (lift (extO xs ys)) Q X := sat_lift.mpr ⟨_, extO_ok h, q⟩
theorem s_cat {xs ys : List α} {Q : List α → Prop} (h : xs.length + ys.length ≤ 1000000) (q : Q (xs ++ ys)) : Sat (lift (catO xs ys)) Q X := sat_lift.mpr ⟨_, catO_ok h, q⟩
theorem s_mod {x y : Int} {Q : Int → Prop} (h : 0 < y) (q : Q (x % y)) : Sat (lift (modO x y)) Q X := sat_lift.mpr ⟨_, modO_ok h, q⟩
theorem s_modB {x y : Int} {Q : Int → Prop} (h : 0 < y) (q : ∀ z, z = x % y → 0 ≤ z → z < y → Q z) : Sat (lift (modO x y)) Q X := sat_lift.mpr ⟨_, modO_ok h, q _ rfl (Int.emod_nonneg _ (by omega)) (Int.emod_lt_of_pos _ h)⟩
theorem s_mulS {x y : Int} {Q : Int → Prop} (h : (-(2 ^ 64) < x ∧ x < 2 ^ 64) ∨ (-(2 ^ 64) < y ∧ y < 2 ^ 64)) (q : Q (x * y)) : Sat (lift (mulO x y)) Q X := sat_lift.mpr ⟨_, mulO_ok (.inl h), q⟩
theorem s_fd {x y : Int} {Q : Int → Prop} (h : CDiv x y ∨ CDivW x y) (q : Q (x / y)) : Sat (lift (fdO x y)) Q X := sat_lift.mpr ⟨_, fdO_ok h, q⟩
theorem s_fdS {x y : Int} {Q : Int → Prop} (h : 0 < y) (h2 : y < 2 ^ 5000) (q : Q (x / y)) : Sat (lift (fdO x y)) Q X := s_fd (divW h 5000 (by
  have : (2 : Nat) ^ 5000 < 2 ^ 5001 := Nat.pow_lt_pow_right (by decide) (by decide)
  have e : ((2 : Int) ^ 5000) = (((2 : Nat) ^ 5000 : Nat) : Int) := by push_cast; rfl
  rw [e] at h2
  generalize (2 : Nat) ^ 5000 = a at *
  generalize (2 : Nat) ^ 5001 = b at *
  omega) (by decide)) q
theorem s_set {xs : List α} {i : Int} {v : α} {Q : List α → Prop} (h0 : 0 ≤ i) (h1 : i < xs.length) (q : Q (xs.set i.toNat v)) : Sat (lift (setO xs i v)) Q X := sat_lift.mpr ⟨_, setO_ok h0 h1, q⟩
theorem s_pop {xs : List α} {i : Int} {Q : α × List α → Prop} (h0 : 0 ≤ i) (h1 : i < xs.length) (h2 : i < 2 ^ 62) (q : ∀ x, xs[i.toNat]? = some x → Q (x, xs.eraseIdx i.toNat)) : Sat (lift (popO xs i)) Q X := sat_lift.mpr ⟨_, popO_ok h0 h1 h2, q _ (List.getElem?_eq_getElem (by omega))⟩
theorem s_rep {x : α} {k : Int} {Q : List α → Prop} (h0 : 0 ≤ k) (h1 : k ≤ 1000000) (q : Q (List.replicate k.toNat x)) : Sat (lift (repO [x] k)) Q X := sat_lift.mpr ⟨_, rep1_ok h0 h1, q⟩
theorem s_put {kvs : List (Int × α)} {k : Int} {v : α} {Q : List (Int × α) → Prop} (h : kvs.length < 1000000) (q : Q (putKK kvs k v)) : Sat (lift (putO kvs k v)) Q X := sat_lift.mpr ⟨_, putO_ok h, q⟩
theorem s_look {kvs : List (Int × α)} {k : Int} {v : α} {Q : α → Prop} (h : lookK kvs k = some v) (q : Q v) : Sat (lift (lookK kvs k)) Q X := sat_lift.mpr ⟨_, h, q⟩
theorem rg_getE {lo hi : Int} {k : Nat} {x : Int} (h : (rg lo hi)[k]? = some x) : x = lo + k ∧ x < hi := by
  unfold rg at h
  rw [List.getElem?_map] at h
  obtain ⟨a, h1, h2⟩ := Option.map_eq_some_iff.mp h
  have := (List.getElem?_eq_some_iff.mp h1)
  obtain ⟨hl, he⟩ := this
  rw [List.getElem_range] at he
  rw [List.length_range] at hl
  omega
theorem rg0_ok {n : Nat} (h : n < 4611686018427387904) : rgO 0 (n : Int) = some (rg 0 n) := rgO_ok ⟨by decide, by decide, by omega, by omega⟩
theorem s_for {f : σ → Int → Out σ} {hi : Int} {s0 : σ} {Q : σ → Prop} (n : Nat) (hn : hi = n) (hs : n < 4611686018427387904) (Inv : Nat → σ → Prop) (h0 : Inv 0 s0) (step : ∀ (k : Nat) s, k < n → Inv k s → Sat (f s (k : Int)) (Inv (k + 1)) X) (last : ∀ s, Inv n s → Q s) : Sat (lift (rgO 0 hi)) (fun xs => Sat (forO f s0 xs) Q X) X := by
  subst hn
  have h9 := rg0_ok (n := n) (by omega)
  refine sat_lift.mpr ?_
  refine ⟨_, h9, ?_⟩
  refine sat_forO Inv h0 (fun k s x hx hi => ?_) fun s h => ?_
  · obtain ⟨h1, h2⟩ := rg_getE hx
    rw [h1, Int.zero_add]
    exact step k s (by omega) hi
  · rw [rg_len] at h
    exact last s (by simpa using h)
theorem s_mapR {f : Int → Out β} {g : Int → β} {hi : Int} {Q : List β → Prop} (n : Nat) (hn : hi = n) (hs : n ≤ 1000000) (h : ∀ k : Nat, k < n → f k = .ok (g k)) (q : Q ((List.range n).map fun k : Nat => g k)) : Sat (lift (rgO 0 hi)) (fun xs => Sat (mapL f xs) Q X) X := by
  subst hn
  have h9 := rg0_ok (n := n) (by omega)
  refine sat_lift.mpr ?_
  refine ⟨_, h9, ?_⟩
  rw [mapL_ok (g := g) (by rw [rg_len]; omega) fun x hx => by
    rw [mem_rg] at hx
    have := h x.toNat (by omega)
    rwa [show ((x.toNat : Nat) : Int) = x by omega] at this]
  rw [rg_nat, List.map_map]
  exact q
theorem s_fmapR {p : Int → Out Bool} {f : Int → Out β} {q : Int → Bool} {g : Int → β} {hi : Int} {Q : List β → Prop} (n : Nat) (hn : hi = n) (hs : n ≤ 1000000) (hp : ∀ k : Nat, k < n → p k = .ok (q k)) (h : ∀ k : Nat, k < n → q k = true → f k = .ok (g k)) (hq : Q (((List.range n).filter fun k : Nat => q k).map fun k : Nat => g k)) : Sat (lift (rgO 0 hi)) (fun xs => Sat (fmapL p f xs) Q X) X := by
  subst hn
  have h9 := rg0_ok (n := n) (by omega)
  refine sat_lift.mpr ?_
  refine ⟨_, h9, ?_⟩
  rw [fmapL_ok (q := q) (g := g) (by rw [rg_len]; omega) (fun x hx => by
    rw [mem_rg] at hx
    have := hp x.toNat (by omega)
    rwa [show ((x.toNat : Nat) : Int) = x by omega] at this) fun x hx hh => by
    rw [mem_rg] at hx
    have := h x.toNat (by omega) (by rwa [show ((x.toNat : Nat) : Int) = x by omega])
    rwa [show ((x.toNat : Nat) : Int) = x by omega] at this]
  rw [rg_nat, List.filter_map, List.map_map]
  exact hq
theorem s_if {c : Bool} {a b : Out α} {Q : α → Prop} (h1 : c = true → Sat a Q X) (h2 : c = false → Sat b Q X) : Sat (if c = true then a else b) Q X := by
  cases c
  · exact h2 rfl
  · exact h1 rfl
theorem p_if {c : Bool} {p q : Prop} (h1 : c = true → p) (h2 : c = false → q) : if c = true then p else q := by
  cases c
  · exact h2 rfl
  · exact h1 rfl
theorem s_ite {p : Prop} [Decidable p] {a b : Out α} {Q : α → Prop} (h1 : p → Sat a Q X) (h2 : ¬ p → Sat b Q X) : Sat (if decide p = true then a else b) Q X := s_if (fun h => h1 (of_decide_eq_true h)) fun h => h2 (of_decide_eq_false h)
theorem s_F {m : Out α} {P Q : α → Prop} (h : Sat m P fun _ => False) (q : ∀ a, P a → Q a) : Sat m Q X := h.mono q fun _ h => h.elim
end
end VL
set_option maxRecDepth 100000
set_option maxHeartbeats 2000000
namespace TX
open PySem PySem.Spec PyProof.Rows L2 VL
open PySem.NumText
abbrev tl (x : Str) : List Nat := TL.tl x
abbrev S (l : List Nat) : Str := SX.S l
theorem line_big {n : Nat} (h : n ≤ 1000000) : n ≤ sizeLine := Nat.le_trans h (by rw [sizeLine_eq]; decide)
end TX
set_option maxRecDepth 100000
set_option maxHeartbeats 2000000
namespace TX
open PySem PySem.Spec PyProof.Rows L2 VL
open PySem.NumText
end TX
set_option maxRecDepth 100000
set_option maxHeartbeats 1000000
namespace VL
open PySem PySem.Spec PyProof.Rows L2
local macro_rules | `(tactic| sleep 11) => `(tactic| simp only [Out.bind_ok, noX_ok, lift_some, flowT_ret, flowT_nxt, flowF_ret, flowF_nxt, sat_bind, sat_ok, sat_exn, sat_noX, eta2, Out.bind_id])
theorem RowIn.get : ∀ {sz xs : List Int}, RowIn sz xs → xs.length = sz.length ∧ ∀ (i : Nat) s, sz[i]? = some s → ∃ x, xs[i]? = some x ∧ 0 ≤ x ∧ x < s
  | [], [], _ => ⟨rfl, fun i s h => by simp at h⟩
  | [], _ :: _, h => h.elim
  | _ :: _, [], h => h.elim
  | s :: sz, x :: xs, ⟨h, r⟩ => by
    obtain ⟨h1, h2⟩ := RowIn.get r
    refine ⟨by simp [h1], fun i s' hi => ?_⟩
    cases i with
    | zero => simp at hi; subst hi; exact ⟨x, rfl, h⟩
    | succ i => exact h2 i s' (by simpa using hi)
def Inc (s : List (Int × Int)) : Prop := (s.map (·.1)).Pairwise (· < ·)
theorem lookK_inc {s : List (Int × Int)} (h : Inc s) {p : Int × Int} (hp : p ∈ s) : lookK s p.1 = some p.2 := by
  unfold Inc at h
  induction s with
  | nil => cases hp
  | cons q r ih =>
    rw [List.map_cons, List.pairwise_cons] at h
    rcases List.mem_cons.mp hp with z | z
    · rw [z]; exact lookK_pos rfl
    · have := h.1 p.1 (List.mem_map.mpr ⟨p, z, rfl⟩)
      rw [lookK_neg (by omega)]
      exact ih h.2 z
theorem lookK_gt {s : List (Int × Int)} {k : Int} (h : ∀ p ∈ s, p.1 < k) : lookK s k = none := by
  induction s with
  | nil => rfl
  | cons q r ih =>
    have := h q List.mem_cons_self
    rw [lookK_neg (by omega)]
    exact ih fun p hp => h p (List.mem_cons_of_mem _ hp)
theorem cell_ok {ns : List Int} {p : Int} (h : 0 ≤ p) : ∃ c, XD.F_law_cell ns p = .ok c := by
  unfold XD.F_law_cell
  by_cases hp : p < ns.length
  · rw [if_pos (decide_eq_true hp), atI_get h hp]
    exact ⟨_, lift_some _⟩
  · rw [if_neg (by simpa using hp)]
    simp only [Out.bind_ok]
    rw [forO_ok (g := fun (V3 cell_here_ : Int) => (V3 * 48271 + cell_here_ % 1000003 + 1) % 2147483647) 5 (fun _ _ _ => rfl)]
    exact ⟨_, Out.bind_ok _ _⟩
theorem mix_ok {c k : Int} (h1 : 0 ≤ k) (h2 : k < 10000) : ∃ m, XD.F_law_mix c k = .ok m := by
  unfold XD.F_law_mix
  have e1 : 0 ≤ c % 2147483629 := Int.emod_nonneg _ (by decide)
  have e2 : c % 2147483629 < 2147483629 := Int.emod_lt_of_pos _ (by decide)
  rw [powO_ok ⟨by decide, by decide, by omega⟩, mulO_ok (.inl (.inr (by omega)))]
  simp only [lift_some, Out.bind_ok]
  exact ⟨_, rfl⟩
theorem row_ok {ns sz : List Int} {p : Int} (h : 0 ≤ p) (hl : sz.length ≤ 500) (hs : ∀ s ∈ sz, 0 < s ∧ s < 2 ^ 5000) : Sat (XD.F_law_row ns p sz) (fun r => RowIn sz r) (fun _ => False) := by
  unfold XD.F_law_row
  obtain ⟨c, hc⟩ := cell_ok (ns := ns) h
  rw [hc]
  sleep 11
  refine s_for sz.length rfl (by omega) (fun k s => s.1.length = k ∧ ∀ (i : Nat) t x, sz[i]? = some t → s.1[i]? = some x → 0 ≤ x ∧ x < t) ⟨rfl, fun i t x _ h => by simp at h⟩ (fun k s hk hi => ?_) fun s hi => RowIn.of hi.1 hi.2
  obtain ⟨h1, h2⟩ := hi
  have hg : sz[k]? = some sz[k] := List.getElem?_eq_getElem hk
  have ha : atI sz (k : Int) = some sz[k] := atI_nat hg
  obtain ⟨g1, g2⟩ := hs _ (List.getElem_mem hk)
  have fin : ∀ y : Int, (s.1 ++ [y % sz[k]]).length = k + 1 ∧ ∀ (i : Nat) t x, sz[i]? = some t → (s.1 ++ [y % sz[k]])[i]? = some x → 0 ≤ x ∧ x < t := by
    intro y
    refine ⟨by simp [h1], fun i t x e1 e2 => ?_⟩
    rw [List.getElem?_append] at e2
    split at e2
    · exact h2 i t x e1 e2
    · rename_i hi
      have hi2 : i = k := by
        have := (List.getElem?_eq_some_iff.mp e2).1
        simp at this
        omega
      subst hi2
      rw [h1] at e2
      simp at e2
      rw [hg] at e1
      cases e1; subst e2
      exact ⟨Int.emod_nonneg _ (by omega), Int.emod_lt_of_pos _ g1⟩
  sleep 11
  refine s_if (fun hh => ?_) (fun hh => ?_)
  · obtain ⟨m, hm⟩ := mix_ok (c := c) (k := (k : Int)) (by omega) (by omega)
    rw [hm]
    sleep 11
    refine s_atE ha ?_
    refine s_mod g1 ?_
    refine s_app (by omega) ?_
    exact fin _
  · refine s_if (fun hh => ?_) (fun hh => ?_)
    · sleep 11
      refine s_atE ha ?_
      refine s_mod g1 ?_
      refine s_app (by omega) ?_
      sleep 11
      refine s_atE ha ?_
      refine s_fdS g1 g2 ?_
      exact fin _
    · obtain ⟨o, ho⟩ := cell_ok (ns := ns) (p := (p + 1 + (k : Int)) % 63) (Int.emod_nonneg _ (by decide))
      obtain ⟨m, hm⟩ := mix_ok (c := o) (k := (k : Int)) (by omega) (by omega)
      rw [ho]
      sleep 11
      rw [hm]
      sleep 11
      refine s_atE ha ?_
      refine s_mod g1 ?_
      refine s_app (by omega) ?_
      exact fin _
end VL
set_option maxRecDepth 100000
set_option maxHeartbeats 1000000
namespace VL
open PySem PySem.Spec PyProof.Rows L2
local macro_rules | `(tactic| sleep 11) => `(tactic| simp only [Out.bind_ok, noX_ok, lift_some, flowT_ret, flowT_nxt, flowF_ret, flowF_nxt, sat_bind, sat_ok, sat_exn, sat_noX, eta2, Out.bind_id])
theorem RowIn.at {sz xs : List Int} (h : RowIn sz xs) {i s : Int} (h0 : 0 ≤ i) (hs : sz[i.toNat]? = some s) : ∃ x, atI xs i = some x ∧ 0 ≤ x ∧ x < s := by
  obtain ⟨x, h1, h2⟩ := (RowIn.get h).2 _ s hs
  refine ⟨x, ?_, h2⟩
  have := atI_nat h1
  rwa [show ((i.toNat : Nat) : Int) = i by omega] at this
theorem perm_erase {xs : List Int} {i : Nat} {x : Int} (h : xs[i]? = some x) : (x :: xs.eraseIdx i).Perm xs := by
  induction xs generalizing i with
  | nil => simp at h
  | cons a xs ih =>
    cases i with
    | zero => simp at h; subst h; exact List.Perm.refl _
    | succ i =>
      rw [List.eraseIdx_cons_succ]
      exact (List.Perm.swap _ _ _).trans ((ih (by simpa using h)).cons a)
theorem nodup_mapI {α β : Type} {f : α → β} {l : List α} (hf : ∀ a b, f a = f b → a = b) (h : l.Nodup) : (l.map f).Nodup := List.Pairwise.map f (fun a b n e => n (hf a b e)) h
theorem nodup_rg (n : Nat) : (rg 0 (n : Int)).Nodup := by
  rw [rg_nat]
  exact nodup_mapI (fun a b e => by omega) List.nodup_range
theorem flat_setP {w : List (List Int)} {j : Nat} {r t : List Int} (h : w[j]? = some r) : (w.set j (r ++ t)).flatten.Perm (w.flatten ++ t) := by
  induction w generalizing j with
  | nil => simp at h
  | cons a w ih =>
    cases j with
    | zero =>
      simp at h; subst h
      simp only [List.set_cons_zero, List.flatten_cons, List.append_assoc]
      exact (List.perm_append_comm).append_left _
    | succ j =>
      simp only [List.set_cons_succ, List.flatten_cons, List.append_assoc]
      exact (ih (by simpa using h)).append_left _
def both (names : List Int) : List Int := names.flatMap fun c => [c, -c]
theorem both_len (names : List Int) : (both names).length = 2 * names.length := by
  unfold both
  induction names with
  | nil => rfl
  | cons a l ih => rw [List.flatMap_cons, List.length_append, ih]; simp; omega
theorem both_app (xs ys : List Int) : both (xs ++ ys) = both xs ++ both ys := by unfold both; simp
theorem mixed_ok {names some_ : List Int} (hn : names.length ≤ 500) (hs : 8 * names.length + 2 ≤ some_.length) : Sat (XD.F_law_mixed names some_) (fun r => r.Perm names) fun _ => False := by
  unfold XD.F_law_mixed
  sleep 11
  refine s_for names.length rfl (by omega) (fun k s => (s.1 ++ s.2).Perm names ∧ s.1.length = k) ⟨List.Perm.refl _, rfl⟩ (fun k s hk hi => ?_) fun s hi => ?_
  · obtain ⟨h1, h2⟩ := hi
    have hl := h1.length_eq
    rw [List.length_append] at hl
    sleep 11
    refine s_at (by omega) (by omega) fun x hx => ?_
    refine s_modB (by omega) fun q hq h3 h4 => ?_
    refine s_pop h3 h4 (by omega) fun y hy => ?_
    sleep 11
    refine s_app (by omega) ?_
    refine ⟨?_, by simp [h2]⟩
    have := perm_erase hy
    rw [List.append_assoc]
    exact (this.append_left _).trans h1
  · obtain ⟨h1, h2⟩ := hi
    have hl := h1.length_eq
    rw [List.length_append] at hl
    have : s.2 = [] := List.eq_nil_of_length_eq_zero (by omega)
    rw [this, List.append_nil] at h1
    exact h1
theorem any_ok {names some_ : List Int} {rings : Int} (hn : names.length ≤ 500) (hs : 8 * names.length + 3 ≤ some_.length) (h0 : 0 ≤ rings) (h1 : rings ≤ 12) (h2 : 0 < rings ∨ names = []) : Sat (XD.F_law_any names some_ rings) (fun w => w.length = rings.toNat ∧ w.flatten.Perm (both names)) fun _ => False := by
  unfold XD.F_law_any
  sleep 11
  refine sat_forO (fun k s => s = both (names.take k)) rfl (fun k s x hx hi => ?_) fun s hi => ?_
  · subst hi
    have hk : k < names.length := (List.getElem?_eq_some_iff.mp hx).1
    refine s_ext (by rw [both_len]; simp; omega) ?_
    rw [List.take_add_one, hx, both_app]; rfl
  rw [List.take_length] at hi
  subst hi
  refine s_mapR (g := fun _ => []) rings.toNat (by omega) (by omega) (fun k hk => rfl) ?_
  have e : 2 * (names.length : Int) = ((2 * names.length : Nat) : Int) := by omega
  refine s_for (2 * names.length) e (by omega) (fun k s => (s.2.flatten ++ s.1).Perm (both names) ∧ s.2.length = rings.toNat ∧ s.1.length + k = 2 * names.length) ⟨?_, by simp, both_len _⟩ (fun k s hk hi => ?_) fun s hi => ?_
  · have : ∀ n : Nat, (((List.range n).map fun _ : Nat => ([] : List Int))).flatten = [] := fun n => by
      rw [List.flatten_eq_nil_iff]
      intro l hl
      obtain ⟨_, _, rfl⟩ := List.mem_map.mp hl
      rfl
    rw [this]
    exact List.Perm.refl _
  · obtain ⟨g1, g2, g3⟩ := hi
    have hr : 0 < rings := by
      rcases h2 with h | h
      · exact h
      · subst h; simp at hk
    sleep 11
    refine s_at (by omega) (by omega) fun x hx => ?_
    refine s_modB (by omega) fun q hq h3 h4 => ?_
    refine s_pop h3 h4 (by omega) fun y hy => ?_
    sleep 11
    refine s_at (by omega) (by omega) fun z hz => ?_
    refine s_modB hr fun j hj h5 h6 => ?_
    refine s_at h5 (by omega) fun r hr => ?_
    refine s_app ?_ ?_
    · have := g1.length_eq
      rw [List.length_append, both_len] at this
      have h7 : r.length ≤ s.2.flatten.length := by
        have := (List.sublist_flatten_of_mem (List.mem_of_getElem? hr)).length_le
        exact this
      omega
    rw [setI_ok h5 (by omega)]
    refine ⟨?_, by rw [List.length_set]; exact g2, ?_⟩
    · refine List.Perm.trans ?_ g1
      refine ((flat_setP hr).append_right _).trans ?_
      rw [List.append_assoc]
      exact (perm_erase hy).append_left _
    · show (s.1.eraseIdx q.toNat).length + (k + 1) = _
      rw [List.length_eraseIdx]
      split <;> omega
  · obtain ⟨g1, g2, g3⟩ := hi
    have : s.1 = [] := List.eq_nil_of_length_eq_zero (by omega)
    rw [this, List.append_nil] at g1
    exact ⟨g2, g1⟩
def rounds : List (Int × Int) → Int → List Int × Int
  | [], s => ([], s)
  | (low, c) :: r, s => if s = low then (c :: (rounds r (low + 1)).1, (rounds r (low + 1)).2) else if s = low + 1 then (-c :: (rounds r low).1, (rounds r low).2) else rounds r s
def stepS (low s : Int) : Int := if s = low then low + 1 else if s = low + 1 then low else s
def firstS (low c s : Int) : List Int := if s = low then [c] else if s = low + 1 then [-c] else []
theorem rounds_cons (low c : Int) (r : List (Int × Int)) (s : Int) : rounds ((low, c) :: r) s = (firstS low c s ++ (rounds r (stepS low s)).1, (rounds r (stepS low s)).2) := by
  unfold firstS stepS
  rw [rounds]
  split
  · rfl
  · split <;> rfl
theorem rounds_snoc (ls : List (Int × Int)) (low c s : Int) : rounds (ls ++ [(low, c)]) s = ((rounds ls s).1 ++ firstS low c (rounds ls s).2, stepS low (rounds ls s).2) := by
  induction ls generalizing s with
  | nil =>
    rw [List.nil_append, rounds_cons]
    simp [rounds]
  | cons p r ih =>
    obtain ⟨l2, c2⟩ := p
    rw [List.cons_append, rounds_cons, ih, rounds_cons]
    simp
theorem stepS_in {low s : Int} {st : Int} (h : 0 ≤ low ∧ low < st - 1) (hs : 0 ≤ s ∧ s < st) : 0 ≤ stepS low s ∧ stepS low s < st := by
  unfold stepS
  split
  · omega
  · split <;> omega
theorem rounds_in {ls : List (Int × Int)} {st s : Int} (h : ∀ p ∈ ls, 0 ≤ p.1 ∧ p.1 < st - 1) (hs : 0 ≤ s ∧ s < st) : 0 ≤ (rounds ls s).2 ∧ (rounds ls s).2 < st := by
  induction ls generalizing s with
  | nil => exact hs
  | cons p r ih =>
    obtain ⟨l, c⟩ := p
    rw [rounds_cons]
    exact ih (fun p hp => h p (List.mem_cons_of_mem _ hp)) (stepS_in (h _ List.mem_cons_self) hs)
theorem stepS_inv (low s : Int) : stepS low (stepS low s) = s := by
  unfold stepS
  split
  · rename_i h; rw [if_neg (by omega), if_pos rfl, h]
  · split
    · rename_i h; rw [if_pos rfl, h]
    · rfl
theorem stepS_perm {low : Int} {n : Nat} (h : 0 ≤ low ∧ low < n - 1) : ((rg 0 n).map (stepS low)).Perm (rg 0 n) := by
  have nd := nodup_rg n
  refine (List.perm_ext_iff_of_nodup ?_ nd).mpr fun x => ?_
  · exact nodup_mapI (fun a b e => by rw [← stepS_inv low a, ← stepS_inv low b, e]) nd
  · rw [List.mem_map, mem_rg]
    constructor
    · rintro ⟨y, hy, rfl⟩
      rw [mem_rg] at hy
      exact stepS_in h hy
    · intro hx
      exact ⟨stepS low x, by rw [mem_rg]; exact stepS_in h hx, stepS_inv _ _⟩
theorem flatMap_appP {f g : Int → List Int} (xs : List Int) : (xs.flatMap fun x => f x ++ g x).Perm (xs.flatMap f ++ xs.flatMap g) := by
  induction xs with
  | nil => exact List.Perm.refl _
  | cons x xs ih =>
    simp only [List.flatMap_cons, List.append_assoc]
    refine List.Perm.append_left _ ?_
    refine (ih.append_left _).trans ?_
    rw [← List.append_assoc, ← List.append_assoc]
    exact List.perm_append_comm.append_right _
theorem firstS_perm {low c : Int} {n : Nat} (h : 0 ≤ low ∧ low < n - 1) : ((rg 0 n).flatMap (firstS low c)) = [c, -c] := by
  obtain ⟨a, rfl⟩ : ∃ a : Nat, low = a := ⟨low.toNat, by omega⟩
  obtain ⟨b, rfl⟩ : ∃ b : Nat, n = a + (1 + (1 + b)) := ⟨n - a - 2, by omega⟩
  rw [rg_nat, List.range_add, List.range_add, List.range_add]
  have z : ∀ l : List Nat, (∀ x ∈ l, x ≠ a ∧ x ≠ a + 1) → (l.map fun k : Nat => (k : Int)).flatMap (firstS (a : Int) c) = [] := fun l hl => by
    rw [List.flatMap_eq_nil_iff]
    intro x hx
    obtain ⟨y, hy, rfl⟩ := List.mem_map.mp hx
    obtain ⟨h1, h2⟩ := hl y hy
    unfold firstS
    rw [if_neg (by omega), if_neg (by omega)]
  simp only [List.map_append, List.flatMap_append]
  rw [z (List.range a) fun x hx => by rw [List.mem_range] at hx; omega]
  rw [z (List.map (fun x => a + x) (List.map (fun x => 1 + x) (List.map (fun x => 1 + x) (List.range b)))) fun x hx => by
    simp only [List.mem_map, List.mem_range] at hx
    obtain ⟨y, ⟨z, ⟨u, hu, rfl⟩, rfl⟩, rfl⟩ := hx
    omega]
  simp [List.range_succ, firstS]
  intro h; omega
theorem rounds_perm {ls : List (Int × Int)} {n : Nat} (h : ∀ p ∈ ls, 0 ≤ p.1 ∧ p.1 < n - 1) : ((rg 0 n).flatMap fun s => (rounds ls s).1).Perm (both (ls.map (·.2))) := by
  induction ls with
  | nil =>
    have : ((rg 0 (n : Int)).flatMap fun s => (rounds [] s).1) = [] := by
      rw [List.flatMap_eq_nil_iff]; intro _ _; rfl
    rw [this]
    exact List.Perm.refl _
  | cons p r ih =>
    obtain ⟨low, c⟩ := p
    have e : (fun s => (rounds ((low, c) :: r) s).1) = fun s => firstS low c s ++ (rounds r (stepS low s)).1 := funext fun s => by rw [rounds_cons]
    rw [e]
    refine (flatMap_appP _).trans ?_
    have h1 := h _ List.mem_cons_self
    rw [firstS_perm h1]
    show List.Perm _ (both (c :: r.map (·.2)))
    rw [show both (c :: r.map (·.2)) = [c, -c] ++ both (r.map (·.2)) from rfl]
    refine List.Perm.append_left _ ?_
    refine List.Perm.trans ?_ (ih fun p hp => h p (List.mem_cons_of_mem _ hp))
    have := (stepS_perm h1).flatMap_right (fun s => (rounds r s).1)
    rw [List.flatMap_map] at this
    exact this
end VL
set_option maxRecDepth 100000
set_option maxHeartbeats 1000000
namespace VL
open PySem PySem.Spec PyProof.Rows L2
local macro_rules | `(tactic| sleep 11) => `(tactic| simp only [Out.bind_ok, noX_ok, lift_some, flowT_ret, flowT_nxt, flowF_ret, flowF_nxt, sat_bind, sat_ok, sat_exn, sat_noX, eta2, Out.bind_id])
def lowF (some_ : List Int) (st : Int) (k : Nat) : Int := (some_[8 * k + 10]?).getD 0 % (st - 1)
def letF (names : List Int) (signs : List (Int × Int)) (k : Nat) : Int := (names[k]?).getD 0 * (lookK signs ((names[k]?).getD 0)).getD 1
def letters (names : List Int) (signs : List (Int × Int)) (some_ : List Int) (st : Int) (n : Nat) : List (Int × Int) := (List.range n).map fun k => (lowF some_ st k, letF names signs k)
theorem letters_succ (names : List Int) (signs : List (Int × Int)) (some_ : List Int) (st : Int) (n : Nat) : letters names signs some_ st (n + 1) = letters names signs some_ st n ++ [(lowF some_ st n, letF names signs n)] := by
  unfold letters; rw [List.range_succ]; simp
theorem rounds_len (ls : List (Int × Int)) (s : Int) : (rounds ls s).1.length ≤ ls.length := by
  induction ls generalizing s with
  | nil => simp [rounds]
  | cons p r ih =>
    obtain ⟨l, c⟩ := p
    rw [rounds_cons]
    have := ih (stepS l s)
    unfold firstS
    simp only [List.length_append, List.length_cons]
    split
    · simp; omega
    · split <;> simp <;> omega
def seenL (st : Nat) (dn : List Int) : List Bool := (List.range st).map fun k : Nat => decide ((k : Int) ∈ dn)
theorem seenL_len (st : Nat) (dn : List Int) : (seenL st dn).length = st := by simp [seenL]
theorem seenL_get {st : Nat} {dn : List Int} {k : Nat} (h : k < st) : (seenL st dn)[k]? = some (decide ((k : Int) ∈ dn)) := by
  unfold seenL
  rw [List.getElem?_map, List.getElem?_range h]; rfl
theorem seenL_at {st : Nat} {dn : List Int} {x : Int} (h0 : 0 ≤ x) (h : x < st) : atI (seenL st dn) x = some (decide (x ∈ dn)) := by
  have := atI_nat (seenL_get (st := st) (dn := dn) (k := x.toNat) (by omega))
  rwa [show ((x.toNat : Nat) : Int) = x by omega] at this
theorem seenL_set {st : Nat} {dn : List Int} {x : Int} (h0 : 0 ≤ x) (h : x < st) : (seenL st dn).set x.toNat true = seenL st (dn ++ [x]) := by
  refine List.ext_getElem? fun i => ?_
  rw [List.getElem?_set, seenL_len]
  by_cases hi : i < st
  · rw [seenL_get hi, seenL_get hi]
    split
    · rename_i e
      subst e
      rw [if_pos hi]
      rw [show ((x.toNat : Nat) : Int) = x by omega]
      simp
    · rename_i e
      congr 1
      have : ¬ (i : Int) = x := by omega
      simp [this]
  · rw [if_neg (by omega), List.getElem?_eq_none (by rw [seenL_len]; omega), List.getElem?_eq_none (by rw [seenL_len]; omega)]
theorem flatMap_len {f : Int → List Int} {n : Nat} : ∀ (dn : List Int), (∀ s, (f s).length ≤ n) → (dn.flatMap f).length ≤ n * dn.length
  | [], _ => by simp
  | a :: l, h => by
    rw [List.flatMap_cons, List.length_append, List.length_cons, Nat.mul_add, Nat.mul_one]
    have := flatMap_len l h
    have := h a
    omega
theorem both_perm {xs ys : List Int} (hl : xs.length = ys.length) (h : ∀ (k : Nat) x y, xs[k]? = some x → ys[k]? = some y → x = y ∨ x = -y) : (both xs).Perm (both ys) := by
  induction xs generalizing ys with
  | nil => cases ys with | nil => exact List.Perm.refl _ | cons _ _ => cases hl
  | cons x xs ih =>
    cases ys with
    | nil => cases hl
    | cons y ys =>
      show List.Perm ([x, -x] ++ both xs) ([y, -y] ++ both ys)
      refine List.Perm.append ?_ (ih (by simpa using hl) fun k a b h1 h2 => h (k + 1) a b (by simpa using h1) (by simpa using h2))
      rcases h 0 x y rfl rfl with e | e
      · rw [e]
      · rw [e, Int.neg_neg]
        exact List.Perm.swap _ _ _
theorem plaited_ok {names some_ : List Int} {signs : List (Int × Int)} {st : Nat} (hn : names.length ≤ 500) (hs : 8 * names.length + 3 ≤ some_.length) (hst : 2 ≤ st ∧ st ≤ 12)
    (hz : ∀ x ∈ names, ∃ z, lookK signs x = some z ∧ (z = 1 ∨ z = -1)) : Sat (XD.F_law_plaited names signs some_ st) (fun w => w.length ≤ st ∧ w.flatten.Perm (both names)) fun _ => False := by
  unfold XD.F_law_plaited
  have nlen : ∀ n, (letters names signs some_ st n).length = n := fun n => by simp [letters]
  have hin : ∀ n, ∀ p ∈ letters names signs some_ st n, 0 ≤ p.1 ∧ p.1 < (st : Int) - 1 := fun n p hp => by
    unfold letters at hp
    obtain ⟨k, _, rfl⟩ := List.mem_map.mp hp
    exact ⟨Int.emod_nonneg _ (by omega), Int.emod_lt_of_pos _ (by omega)⟩
  sleep 11
  refine s_rep (by omega) (by omega) ?_
  refine s_for st rfl (by omega) (fun k s => ∃ dn : List Int, dn.Nodup ∧ (∀ x ∈ dn, 0 ≤ x ∧ x < (st : Int)) ∧ s.2 = seenL st dn ∧ s.2.countP (fun b => !b) + dn.length = st ∧ s.1.flatten = (dn.flatMap fun x => (rounds (letters names signs some_ st names.length) x).1) ∧ s.1.length ≤ k ∧ ∀ j : Nat, j < k → (j : Int) ∈ dn) ?_ (fun k s hk hi => ?_) fun s hi => ?_
  · refine ⟨[], List.nodup_nil, fun _ h => (by cases h), ?_, ?_, rfl, Nat.le_refl 0, fun j h => absurd h (Nat.not_lt_zero _)⟩
    · refine List.ext_getElem? fun i => ?_
      by_cases hi : i < st
      · rw [seenL_get hi, List.getElem?_replicate, if_pos (by omega)]; simp
      · rw [List.getElem?_eq_none (by simp; omega), List.getElem?_eq_none (by rw [seenL_len]; omega)]
    · rw [List.countP_replicate]; simp
  · obtain ⟨dn, nd, hr, e2, hc, hf, hl, hj⟩ := hi
    sleep 11
    rw [e2]
    refine s_atE (seenL_at (by omega) (by omega)) ?_
    refine s_if (fun hh => ?_) (fun hh => ?_)
    · sleep 11
      have hnd : ¬ (k : Int) ∈ dn := by simpa using hh
      refine sat_whileO (Q := fun a => Sat (lift (appO s.1 a.2.1)) _ _) (fun t : List Bool × List Int × Int => ∃ dn : List Int, dn.Nodup ∧ (∀ x ∈ dn, 0 ≤ x ∧ x < (st : Int)) ∧ t.1 = seenL st dn ∧ t.1.countP (fun b => !b) + dn.length = st ∧ s.1.flatten ++ t.2.1 = (dn.flatMap fun x => (rounds (letters names signs some_ st names.length) x).1) ∧ (∀ j : Nat, j < k → (j : Int) ∈ dn) ∧ 0 ≤ t.2.2 ∧ t.2.2 < st ∧ ((k : Int) ∈ dn ∨ t.2.2 = k)) (fun t => t.1.countP (fun b => !b)) ?_ ?_ ?_
      · show (seenL st dn).countP _ < fuel
        have := List.countP_le_length (p := fun b => !b) (l := seenL st dn)
        rw [seenL_len] at this
        unfold fuel; omega
      · exact ⟨dn, nd, hr, rfl, by rw [e2] at hc; exact hc, by simpa using hf, hj, by show (0 : Int) ≤ k; omega, by show (k : Int) < st; omega, .inr rfl⟩
      · rintro ⟨sn, wk, at_⟩ ⟨dn, nd, hr, e2, hc, hf, hj, h0, h1, hor⟩
        simp only at e2 hc hf h0 h1 hor ⊢
        subst e2
        sleep 11
        refine s_atE (seenL_at h0 h1) ?_
        refine p_if (fun hh => ?_) (fun hh => ?_)
        · sleep 11
          have hnd : ¬ at_ ∈ dn := by simpa using hh
          refine s_set h0 (by rw [seenL_len]; omega) ?_
          rw [seenL_set h0 h1]
          refine s_for names.length rfl (by omega) (fun j t => t = (wk ++ (rounds (letters names signs some_ st j) at_).1, (rounds (letters names signs some_ st j) at_).2)) ?_ (fun j t hj2 hi => ?_) fun t hi => ?_
          · simp [letters, rounds]
          · subst hi
            have hg : names[j]? = some names[j] := List.getElem?_eq_getElem hj2
            obtain ⟨z, hz1, hz2⟩ := hz _ (List.getElem_mem hj2)
            have hfl := flatMap_len (f := fun x => (rounds (letters names signs some_ st names.length) x).1) (n := 500) dn fun x => by
              have := rounds_len (letters names signs some_ st names.length) x
              rw [nlen] at this
              show (rounds _ _).1.length ≤ _
              omega
            have hw : wk.length ≤ 500 * dn.length := by
              rw [← hf] at hfl
              rw [List.length_append] at hfl
              omega
            have hb : (wk ++ (rounds (letters names signs some_ st j) at_).1).length < 1000000 := by
              rw [List.length_append]
              have := rounds_len (letters names signs some_ st j) at_
              rw [nlen] at this
              omega
            have hlow : lowF some_ st j = (some_[8 * j + 10]'(by omega)) % ((st : Int) - 1) := by
              unfold lowF; rw [List.getElem?_eq_getElem (by omega)]; rfl
            have hlet : letF names signs j = names[j] * z := by
              unfold letF; rw [hg]; simp [hz1]
            rw [letters_succ, rounds_snoc, ← List.append_assoc]
            sleep 11
            refine s_atE (x := some_[8 * j + 10]'(by omega)) ?_ ?_
            · have := atI_nat (xs := some_) (k := 8 * j + 10) (List.getElem?_eq_getElem (by omega))
              rwa [show ((8 * j + 10 : Nat) : Int) = 8 * (j : Int) + 10 by omega] at this
            refine s_mod (by omega) ?_
            rw [← hlow]
            refine s_ite (fun hq => ?_) (fun hq => ?_)
            · sleep 11
              refine s_atE (atI_nat hg) ?_
              refine s_atE (atI_nat hg) ?_
              refine s_look hz1 ?_
              refine s_mulS (.inr (by omega)) ?_
              refine s_app hb ?_
              rw [firstS, stepS, if_pos hq, if_pos hq, hlet]
            · refine s_ite (fun hq2 => ?_) (fun hq2 => ?_)
              · sleep 11
                refine s_atE (atI_nat hg) ?_
                refine s_atE (atI_nat hg) ?_
                refine s_look hz1 ?_
                refine s_mulS (.inr (by omega)) ?_
                refine s_app hb ?_
                rw [firstS, stepS, if_neg hq, if_neg hq, if_pos hq2, if_pos hq2, hlet, Int.neg_mul]
              · sleep 11
                rw [firstS, stepS, if_neg hq, if_neg hq, if_neg hq2, if_neg hq2, List.append_nil]
          · subst hi
            have hcp : (seenL st (dn ++ [at_])).countP (fun b => !b) + 1 = (seenL st dn).countP (fun b => !b) := by
              rw [← seenL_set h0 h1, List.countP_set (by rw [seenL_len]; omega)]
              have e : (seenL st dn)[at_.toNat]'(by rw [seenL_len]; omega) = false := by
                have := seenL_get (st := st) (dn := dn) (k := at_.toNat) (by omega)
                rw [List.getElem?_eq_getElem (by rw [seenL_len]; omega)] at this
                have := Option.some.inj this
                rw [this, show ((at_.toNat : Nat) : Int) = at_ by omega]
                simpa using hnd
              have hpos : 0 < (seenL st dn).countP (fun b => !b) := by
                rw [List.countP_pos_iff]
                exact ⟨false, by rw [← e]; exact List.getElem_mem _, rfl⟩
              rw [e]
              simp
              omega
            have hin2 := rounds_in (hin names.length) (s := at_) ⟨h0, h1⟩
            refine ⟨⟨dn ++ [at_], ?_, ?_, rfl, ?_, ?_, ?_, hin2.1, hin2.2, ?_⟩, ?_⟩
            · rw [List.nodup_append]
              refine ⟨nd, by simp, fun a ha b hb e => ?_⟩
              rw [List.mem_singleton] at hb
              subst hb; subst e
              exact hnd ha
            · intro x hx
              rcases List.mem_append.mp hx with h | h
              · exact hr x h
              · rw [List.mem_singleton.mp h]; exact ⟨h0, h1⟩
            · show (seenL st (dn ++ [at_])).countP _ + (dn ++ [at_]).length = st
              rw [List.length_append, List.length_singleton]; omega
            · show s.1.flatten ++ (wk ++ _) = _
              rw [← List.append_assoc, hf, List.flatMap_append]
              simp
            · exact fun j h => List.mem_append_left _ (hj j h)
            · left
              rcases hor with h | h
              · exact List.mem_append_left _ h
              · rw [← h]; simp
            · show (seenL st (dn ++ [at_])).countP (fun b => !b) < (seenL st dn).countP (fun b => !b)
              omega
        · have hind : at_ ∈ dn := by simpa using hh
          refine s_app (by omega) ?_
          refine ⟨dn, nd, hr, rfl, hc, by simpa using hf, by simp; omega, fun j h => ?_⟩
          by_cases e : j = k
          · subst e
            rcases hor with h | h
            · exact h
            · rw [← h]; exact hind
          · exact hj j (by omega)
    · have hnd : (k : Int) ∈ dn := by simpa using hh
      sleep 11
      refine ⟨dn, nd, hr, e2, hc, hf, by omega, fun j h => ?_⟩
      by_cases e : j = k
      · subst e; exact hnd
      · exact hj j (by omega)
  · obtain ⟨dn, nd, hr, e2, hc, hf, hl, hj⟩ := hi
    refine ⟨hl, ?_⟩
    rw [hf]
    have p1 : dn.Perm (rg 0 st) := by
      have nd2 := nodup_rg st
      refine (List.perm_ext_iff_of_nodup nd nd2).mpr fun x => ?_
      rw [mem_rg]
      constructor
      · exact fun h => hr x h
      · intro h
        have := hj x.toNat (by omega)
        rwa [show ((x.toNat : Nat) : Int) = x by omega] at this
    refine (p1.flatMap_right _).trans ?_
    refine (rounds_perm (hin names.length)).trans ?_
    refine both_perm (by simp [letters]) fun k x y h1 h2 => ?_
    unfold letters at h1
    rw [List.map_map, List.getElem?_map] at h1
    obtain ⟨a, h3, rfl⟩ := Option.map_eq_some_iff.mp h1
    have hk : k < names.length := (List.getElem?_eq_some_iff.mp h2).1
    rw [List.getElem?_range hk] at h3
    cases h3
    obtain ⟨z, hz1, hz2⟩ := hz y (List.mem_of_getElem? h2)
    show letF names signs k = y ∨ letF names signs k = -y
    have e : letF names signs k = y * z := by
      unfold letF
      rw [h2]
      simp [hz1]
    rw [e]
    rcases hz2 with e | e <;> rw [e]
    · left; omega
    · right; omega
end VL
set_option maxRecDepth 100000
set_option maxHeartbeats 1000000
namespace VL
open PySem PySem.Spec PyProof.Rows L2
local macro_rules | `(tactic| sleep 11) => `(tactic| simp only [Out.bind_ok, noX_ok, lift_some, flowT_ret, flowT_nxt, flowF_ret, flowF_nxt, sat_bind, sat_ok, sat_exn, sat_noX, eta2, Out.bind_id])
abbrev Dr := List (List Int) × List (Int × Int)
structure DrS (most : Nat) (d : Dr) : Prop where
  wl : d.1.length ≤ 12
  sl : d.2.length ≤ most
  inc : Inc d.2
  pos : ∀ p ∈ d.2, 0 < p.1 ∧ (p.2 = 1 ∨ p.2 = -1)
  perm : d.1.flatten.Perm (both (d.2.map (·.1)))
theorem DrS.mono {a b : Nat} {d : Dr} (h : DrS a d) (hab : a ≤ b) : DrS b d := ⟨h.wl, Nat.le_trans h.sl hab, h.inc, h.pos, h.perm⟩
theorem rep_get {l : List Int} {n i : Nat} (h : i < n * l.length) : (List.replicate n l).flatten[i]? = l[i % l.length]? := by
  induction n generalizing i with
  | zero => simp at h
  | succ n ih =>
    rw [List.replicate_succ, List.flatten_cons, List.getElem?_append]
    split
    · rename_i h2; rw [Nat.mod_eq_of_lt h2]
    · rename_i h2
      rw [Nat.succ_mul] at h
      rw [ih (by omega), Nat.mod_eq_sub_mod (by omega : i ≥ l.length)]
theorem rep_len (l : List Int) (n : Nat) : (List.replicate n l).flatten.length = n * l.length := by
  induction n with
  | zero => simp
  | succ n ih => rw [List.replicate_succ, List.flatten_cons, List.length_append, ih, Nat.succ_mul]; omega
theorem rep_mem {l : List Int} {n : Nat} {x : Int} (h : x ∈ (List.replicate n l).flatten) : x ∈ l := by
  obtain ⟨t, h1, h2⟩ := List.mem_flatten.mp h
  rwa [(List.mem_replicate.mp h1).2] at h2
theorem s_repL {xs : List α} {k : Int} {X : Exn → Prop} {Q : List α → Prop} (h0 : 0 ≤ k) (h1 : k < 9223372036854775808) (h : xs.length * k.toNat ≤ 1000000) (q : Q (List.replicate k.toNat xs).flatten) : Sat (lift (repO xs k)) Q X := sat_lift.mpr ⟨_, repO_ok (by omega) (by omega) h, q⟩
theorem drawn_ok {ns : List Int} {p : Int} {most : Nat} (h : 0 ≤ p) (hm : most ≤ 40) : Sat (XD.F_law_drawn ns p most) (DrS most) fun _ => False := by
  unfold XD.F_law_drawn
  sleep 11
  refine s_repL (by omega) (by omega) (by simp; omega) ?_
  have e2 : (2 * (most : Int)).toNat = 2 * most := by omega
  rw [e2]
  have el := rep_len [80, 5, 2, 3] (2 * most)
  simp only [List.length_cons, List.length_nil] at el
  refine s_cat (by simp only [List.length_cons, List.length_nil]; omega) ?_
  have hsz : ∀ s ∈ [(most : Int) + 1, 5, 4, 3, 3] ++ (List.replicate (2 * most) [80, 5, 2, 3]).flatten, 0 < s ∧ s < 100 := by
    intro s hs
    rcases List.mem_append.mp hs with h | h
    · simp only [List.mem_cons, List.not_mem_nil, or_false] at h
      omega
    · have := rep_mem h
      simp only [List.mem_cons, List.not_mem_nil, or_false] at this
      omega
  refine s_F (row_ok h (by simp only [List.length_append, List.length_cons, List.length_nil]; omega) fun s hs => ⟨(hsz s hs).1, ?_⟩) fun some_ hr => ?_
  · have := (hsz s hs).2
    have h2 : (100 : Int) ≤ 2 ^ 5000 := by
      have : (2 : Int) ^ 5000 = 2 ^ 7 * 2 ^ 4993 := by rw [← Int.pow_add]
      rw [this]
      have : (1 : Int) ≤ 2 ^ 4993 := Int.pow_pos (by decide)
      omega
    omega
  have hlen := (RowIn.get hr).1
  simp only [List.length_append, List.length_cons, List.length_nil, el] at hlen
  have g0 : ∀ i : Nat, i < 5 → ([(most : Int) + 1, 5, 4, 3, 3] ++ (List.replicate (2 * most) [80, 5, 2, 3]).flatten)[i]? = [(most : Int) + 1, 5, 4, 3, 3][i]? := fun i hi => List.getElem?_append_left (by simpa using hi)
  have g5 : ∀ i : Nat, i < 8 * most → ([(most : Int) + 1, 5, 4, 3, 3] ++ (List.replicate (2 * most) [80, 5, 2, 3]).flatten)[i + 5]? = ([80, 5, 2, 3] : List Int)[i % 4]? := fun i hi => by
    rw [List.getElem?_append_right (by simp)]
    simp only [List.length_cons, List.length_nil]
    rw [show i + 5 - (0 + 1 + 1 + 1 + 1 + 1) = i by omega]
    exact rep_get (by simp only [List.length_cons, List.length_nil]; omega)
  obtain ⟨a0, h0, b0, c0⟩ := hr.at (i := 0) (s := (most : Int) + 1) (by omega) (g0 0 (by omega))
  obtain ⟨a1, h1, b1, c1⟩ := hr.at (i := 1) (s := 5) (by omega) (g0 1 (by omega))
  obtain ⟨a2, h2, b2, c2⟩ := hr.at (i := 2) (s := 4) (by omega) (g0 2 (by omega))
  obtain ⟨a3, h3, b3, c3⟩ := hr.at (i := 3) (s := 3) (by omega) (g0 3 (by omega))
  obtain ⟨a4, h4, b4, c4⟩ := hr.at (i := 4) (s := 3) (by omega) (g0 4 (by omega))
  sleep 11
  refine s_atE h0 ?_
  refine s_for a0.toNat (by omega) (by omega) (fun k s => s.2.1 = s.2.2.map (·.1) ∧ s.2.1.length = k ∧ Inc s.2.2 ∧ (∀ q ∈ s.2.2, 0 < q.1 ∧ (q.2 = 1 ∨ q.2 = -1) ∧ q.1 ≤ s.1) ∧ 0 ≤ s.1 ∧ s.1 ≤ k * (1 + 3 * 10 ^ 58)) ⟨rfl, rfl, List.Pairwise.nil, (fun _ h => by cases h), Int.le_refl _, by simp⟩ (fun k s hk hi => ?_) fun s hi => ?_
  · obtain ⟨i1, i2, i3, i4, i5, i6⟩ := hi
    obtain ⟨x, hx, x0, x1⟩ := hr.at (i := 8 * (k : Int) + 8) (s := 3) (by omega) (by
      have := g5 (8 * k + 3) (by omega)
      rw [show (8 * (k : Int) + 8).toNat = 8 * k + 3 + 5 by omega, this, show (8 * k + 3) % 4 = 3 by omega]; rfl)
    obtain ⟨y, hy, y0, y1⟩ := hr.at (i := 8 * (k : Int) + 7) (s := 2) (by omega) (by
      have := g5 (8 * k + 2) (by omega)
      rw [show (8 * (k : Int) + 7).toNat = 8 * k + 2 + 5 by omega, this, show (8 * k + 2) % 4 = 2 by omega]; rfl)
    have hz : ∃ z, atI [0, 1, (10 : Int) ^ ((58 : Int).toNat)] a3 = some z ∧ 0 ≤ z ∧ z ≤ 10 ^ 58 := by
      have : a3 = 0 ∨ a3 = 1 ∨ a3 = 2 := by omega
      rcases this with e | e | e <;> subst e
      · exact ⟨0, rfl, by decide, by decide⟩
      · exact ⟨1, rfl, by decide, by decide⟩
      · exact ⟨_, rfl, by decide, by decide⟩
    obtain ⟨z, hz, z0, z1⟩ := hz
    sleep 11
    refine s_atE hx ?_
    refine s_atE h3 ?_
    refine s_atE hz ?_
    refine s_mulS (.inl (by omega)) ?_
    have xz0 : 0 ≤ x * z := Int.mul_nonneg x0 z0
    have xz1 : x * z ≤ 3 * 10 ^ 58 := by
      have : x = 0 ∨ x = 1 ∨ x = 2 := by omega
      rcases this with e | e | e <;> subst e <;> omega
    generalize x * z = u at xz0 xz1
    refine s_app (by omega) ?_
    refine s_atE hy ?_
    have i2' : s.2.2.length = k := by rw [← i2, i1, List.length_map]
    refine s_put (by omega) ?_
    have hn : lookK s.2.2 (s.1 + 1 + u) = none := lookK_gt fun q hq => by have := (i4 q hq).2.2; omega
    rw [putKK_new _ hn]
    refine ⟨by simp [i1], by simp [i2], ?_, ?_, by show 0 ≤ s.1 + 1 + u; omega, ?_⟩
    · unfold Inc at i3 ⊢
      rw [List.map_append, List.pairwise_append]
      refine ⟨i3, List.pairwise_singleton _ _, fun a ha b hb => ?_⟩
      obtain ⟨q, hq, rfl⟩ := List.mem_map.mp ha
      have := (i4 q hq).2.2
      simp at hb
      omega
    · intro q hq
      rcases List.mem_append.mp hq with h | h
      · have := i4 q h
        refine ⟨this.1, this.2.1, ?_⟩
        show q.1 ≤ s.1 + 1 + u
        have := this.2.2
        omega
      · rw [List.mem_singleton.mp h]
        refine ⟨by show 0 < s.1 + 1 + u; omega, ?_, Int.le_refl _⟩
        show 2 * y - 1 = 1 ∨ 2 * y - 1 = -1
        omega
    · show s.1 + 1 + u ≤ ((k + 1 : Nat) : Int) * (1 + 3 * 10 ^ 58)
      rw [Int.natCast_succ, Int.add_mul]
      omega
  · obtain ⟨i1, i2, i3, i4, i5, i6⟩ := hi
    obtain ⟨lst, names, signs⟩ := s
    simp only at i1 i2 i3 i4 i5 i6 ⊢
    have i7 : lst < 10 ^ 62 := by
      have : (a0.toNat : Int) * (1 + 3 * 10 ^ 58) ≤ 40 * (1 + 3 * 10 ^ 58) := Int.mul_le_mul_of_nonneg_right (by omega) (by decide)
      have : (40 * (1 + 3 * 10 ^ 58) : Int) < 10 ^ 62 := by decide
      omega
    have hlk : ∀ x ∈ names, ∃ z, lookK signs x = some z ∧ (z = 1 ∨ z = -1) := fun x hx => by
      rw [i1] at hx
      obtain ⟨q, hq, rfl⟩ := List.mem_map.mp hx
      exact ⟨q.2, lookK_inc i3 hq, (i4 q hq).2.1⟩
    have fin : ∀ (f : Int → Out (Int × Int)) (w : List (List Int)), (∀ x z, lookK signs x = some z → f x = .ok (x, z)) → w.length ≤ 12 → w.flatten.Perm (both names) → Sat (mapL f names) (fun v => DrS most (w, v)) fun _ => False := fun f w hf hw hp => by
      rw [mapL_ok (g := fun x => (x, (lookK signs x).getD 0)) (by omega) fun x hx => by
        obtain ⟨z, hz, _⟩ := hlk x hx
        rw [hf _ _ hz, hz]; rfl]
      rw [i1, List.map_map]
      have : (signs.map ((fun x => (x, (lookK signs x).getD 0)) ∘ fun x => x.1)) = signs := by
        conv => rhs; rw [← List.map_id signs]
        refine List.map_congr_left fun q hq => ?_
        simp [lookK_inc i3 hq]
      rw [this]
      exact ⟨hw, by show signs.length ≤ most; rw [i1, List.length_map] at i2; omega, i3, fun q hq => ⟨(i4 q hq).1, (i4 q hq).2.1⟩, by show w.flatten.Perm _; rw [← i1]; exact hp⟩
    sleep 11
    refine s_atE h2 ?_
    refine s_ite (fun hq => ?_) (fun hq => ?_)
    · sleep 11
      refine s_F (mixed_ok (by omega) (by omega)) fun mx hmx => ?_
      have hml := hmx.length_eq
      sleep 11
      refine s_atE h4 ?_
      have e3 : 2 + a4 = ((2 + a4.toNat : Nat) : Int) := by omega
      rw [e3]
      refine s_F (plaited_ok (by omega) (by omega) (by omega) fun x hx => hlk x (hmx.mem_iff.mp hx)) fun w hw => ?_
      sleep 11
      refine fin _ w (fun x z hz => by rw [hz]; simp only [lift_some, Out.bind_ok, noX_ok]) (by omega) (hw.2.trans ?_)
      exact hmx.flatMap_right _
    · sleep 11
      refine s_atE h1 ?_
      have hml : names.length ≤ 40 := by omega
      refine s_F (any_ok (by omega) (by omega) ?_ ?_ ?_) fun w hw => ?_
      · unfold maxF minF; split <;> (try split at *) <;> omega
      · unfold maxF minF; split <;> (try split at *) <;> omega
      · by_cases e : names = []
        · exact .inr e
        · left
          have : 0 < names.length := List.length_pos_iff.mpr e
          unfold maxF minF; split <;> (try split at *) <;> omega
      · sleep 11
        refine fin _ w (fun x z hz => by rw [hz]; simp only [lift_some, Out.bind_ok, noX_ok]) ?_ hw.2
        rw [hw.1]
        unfold maxF minF; split <;> (try split at *) <;> omega
end VL
set_option maxRecDepth 100000
set_option maxHeartbeats 1000000
namespace VL
open PySem PySem.Spec PyProof.Rows L2
local macro_rules | `(tactic| sleep 11) => `(tactic| simp only [Out.bind_ok, noX_ok, lift_some, flowT_ret, flowT_nxt, flowF_ret, flowF_nxt, sat_bind, sat_ok, sat_exn, sat_noX, eta2, Out.bind_id])
theorem list_ext {α : Type} {n : Nat} {xs ys : List α} (h1 : xs.length = n) (h2 : ys.length = n) (h : ∀ k, k < n → xs[k]? = ys[k]?) : xs = ys := by
  refine List.ext_getElem? fun i => ?_
  by_cases hi : i < n
  · exact h i hi
  · rw [List.getElem?_eq_none (by omega), List.getElem?_eq_none (by omega)]
theorem rangeMap_get {α : Type} {n k : Nat} {f : Nat → α} (h : k < n) : ((List.range n).map f)[k]? = some (f k) := by
  rw [List.getElem?_map, List.getElem?_range h]; rfl
theorem both_mem {names : List Int} {x : Int} : x ∈ both names ↔ x ∈ names ∨ -x ∈ names := by
  unfold both
  rw [List.mem_flatMap]
  constructor
  · rintro ⟨a, ha, h⟩
    simp only [List.mem_cons, List.not_mem_nil, or_false] at h
    rcases h with h | h
    · left; rw [h]; exact ha
    · right; rw [h, Int.neg_neg]; exact ha
  · rintro (h | h)
    · exact ⟨x, h, by simp⟩
    · exact ⟨-x, h, by simp⟩
theorem DrS.mem {most : Nat} {d : Dr} (h : DrS most d) {p : Int × Int} (hp : p ∈ d.2) : p.1 ∈ d.1.flatten ∧ -p.1 ∈ d.1.flatten := by
  have : p.1 ∈ d.2.map (·.1) := List.mem_map.mpr ⟨p, hp, rfl⟩
  exact ⟨h.perm.mem_iff.mpr (both_mem.mpr (.inl this)), h.perm.mem_iff.mpr (both_mem.mpr (.inr (by rwa [Int.neg_neg])))⟩
theorem DrS.row {most : Nat} {d : Dr} (h : DrS most d) {w : List Int} (hw : w ∈ d.1) : w.length ≤ 2 * most := by
  have h1 := (List.sublist_flatten_of_mem hw).length_le
  have h2 := h.perm.length_eq
  rw [both_len, List.length_map] at h2
  have := h.sl
  omega
end VL
set_option maxRecDepth 100000
set_option maxHeartbeats 1000000
namespace VL
open PySem PySem.Spec PyProof.Rows L2
local macro_rules | `(tactic| sleep 11) => `(tactic| simp only [Out.bind_ok, noX_ok, lift_some, flowT_ret, flowT_nxt, flowF_ret, flowF_nxt, sat_bind, sat_ok, sat_exn, sat_noX, eta2, Out.bind_id])
theorem copy_ok {d : Dr} (h1 : d.1.length ≤ 1000000) : XD.F_law_copy d = .ok d := by
  unfold XD.F_law_copy
  simp only [noX_ok]
  rw [mapL_pure h1, List.map_id'']
  · rfl
  · exact fun _ => rfl
theorem cutL_to {α : Type} (xs : List α) (k : Nat) : cutL xs none (some (k : Int)) = xs.take k := by
  unfold cutL
  rw [HT.sIx_nat xs.length xs.length k, HT.sIx_none, List.drop_zero, Nat.sub_zero]
  by_cases h : k ≤ xs.length
  · rw [show min k xs.length = k by omega]
  · rw [show min k xs.length = xs.length by omega, List.take_length, List.take_of_length_le (by omega)]
end VL
set_option maxRecDepth 100000
set_option maxHeartbeats 1000000
namespace VL
open PySem PySem.Spec PyProof.Rows L2
local macro_rules | `(tactic| sleep 11) => `(tactic| simp only [Out.bind_ok, Out.bind_exn, noX_ok, lift_some, flowT_ret, flowT_nxt, flowF_ret, flowF_nxt, sat_bind, sat_ok, sat_exn, sat_noX, eta2, Out.bind_id])
def tabG (n : Nat) (m : Nat → Nat → Nat) : List (List Int) := (List.range n).map fun a => (List.range n).map fun b => (m a b : Int)
structure Shp (n : Nat) (t : List (List Int)) : Prop where
  len : t.length = n
  row : ∀ r ∈ t, r.length = n ∧ ∀ x ∈ r, 0 ≤ x ∧ x < (n : Int)
theorem Shp.tab {n : Nat} {t : List (List Int)} (h : Shp n t) : ∃ m, (∀ a b, a < n → b < n → m a b < n) ∧ t = tabG n m := by
  have key : ∀ a b, a < n → b < n → ∃ r x, t[a]? = some r ∧ r[b]? = some x ∧ 0 ≤ x ∧ x < (n : Int) := fun a b ha hb => by
    have e1 : t[a]? = some (t[a]'(by rw [h.len]; exact ha)) := List.getElem?_eq_getElem _
    have h1 := h.row _ (List.getElem_mem (show a < t.length by rw [h.len]; exact ha))
    refine ⟨_, _, e1, List.getElem?_eq_getElem (by rw [h1.1]; exact hb), h1.2 _ (List.getElem_mem _)⟩
  refine ⟨fun a b => ((((t[a]?).getD [])[b]?).getD 0).toNat, fun a b ha hb => ?_, ?_⟩
  · obtain ⟨r, x, e1, e2, e3, e4⟩ := key a b ha hb
    simp only [e1, e2, Option.getD_some]
    omega
  · refine list_ext (n := n) h.len (by simp [tabG]) fun a ha => ?_
    have e1 : t[a]? = some (t[a]'(by rw [h.len]; exact ha)) := List.getElem?_eq_getElem _
    have h1 := h.row _ (List.getElem_mem (show a < t.length by rw [h.len]; exact ha))
    unfold tabG
    rw [rangeMap_get ha, e1]
    congr 1
    refine list_ext (n := n) h1.1 (by simp) fun b hb => ?_
    obtain ⟨r, x, f1, f2, f3, f4⟩ := key a b ha hb
    rw [e1] at f1; cases f1
    rw [rangeMap_get hb, f2]
    simp only [e1, f2, Option.getD_some]
    congr 1; omega
theorem Shp.set {n : Nat} {t : List (List Int)} (h : Shp n t) {i j : Nat} {r : List Int} {v : Int} (hr : t[i]? = some r) (h0 : 0 ≤ v) (h1 : v < n) : Shp n (t.set i (r.set j v)) := by
  refine ⟨by rw [List.length_set]; exact h.len, fun s hs => ?_⟩
  rcases List.mem_or_eq_of_mem_set hs with z | z
  · exact h.row s z
  · have hr := h.row r (List.mem_of_getElem? hr)
    subst z
    refine ⟨by rw [List.length_set]; exact hr.1, fun x hx => ?_⟩
    rcases List.mem_or_eq_of_mem_set hx with z | z
    · exact hr.2 x z
    · subst z; exact ⟨h0, h1⟩
end VL
set_option maxRecDepth 100000
set_option maxHeartbeats 4000000
namespace VL
open PySem PySem.Spec PyProof.Rows L2
def ColInj (n : Nat) (t : List (List Int)) : Prop := ∀ a c b : Int, 0 ≤ a → a < n → 0 ≤ c → c < n → 0 ≤ b → b < n → ent t a b = ent t c b → a = c
theorem emod_rg (x : Int) {k : Int} (h : 0 < k) : 0 ≤ x % k ∧ x % k < k := ⟨Int.emod_nonneg _ (by omega), Int.emod_lt_of_pos _ h⟩
theorem small_dvd {n x : Int} (h : n ∣ x) (lo : -n < x) (hi : x < n) : x = 0 := by
  have e := Int.emod_eq_zero_of_dvd h
  by_cases h0 : 0 ≤ x
  · rw [Int.emod_eq_of_lt h0 hi] at e; exact e
  · have e2 : (x + n) % n = 0 := by rw [Int.add_emod_right]; exact e
    rw [Int.emod_eq_of_lt (by omega) (by omega)] at e2
    omega
theorem dvd_of_emod {n x y : Int} (h : x % n = y % n) : n ∣ x - y := Int.dvd_of_emod_eq_zero (Int.emod_eq_emod_iff_emod_sub_eq_zero.mp h)
theorem dvd_coprime {f n x : Int} (h : n ∣ f * x) (g : Int.gcd f n = 1) : n ∣ x := by
  rw [← Int.natAbs_dvd_natAbs] at h ⊢
  rw [Int.natAbs_mul] at h
  have c : Nat.Coprime n.natAbs f.natAbs := by
    unfold Nat.Coprime
    rw [Nat.gcd_comm]; exact g
  exact c.dvd_of_dvd_mul_left h
theorem emod_inj {n x a c : Int} (a0 : 0 ≤ a) (a1 : a < n) (c0 : 0 ≤ c) (c1 : c < n) (h : (x - a) % n = (x - c) % n) : a = c := by
  have := small_dvd (dvd_of_emod h) (by omega) (by omega)
  omega
theorem cellG_inj {w n f a c b : Int} (hn : 1 ≤ n) (hg : Int.gcd f n = 1) (a0 : 0 ≤ a) (a1 : a < n) (c0 : 0 ≤ c) (c1 : c < n) (b0 : 0 ≤ b) (b1 : b < n) (h : cellG w n f a b = cellG w n f c b) : a = c := by
  unfold cellG at h
  by_cases w1 : w = 1
  · rw [if_pos w1, if_pos w1] at h
    exact emod_inj a0 a1 c0 c1 h
  rw [if_neg w1, if_neg w1] at h
  by_cases w2 : w = 2
  · rw [if_pos w2, if_pos w2] at h
    have := dvd_of_emod h
    have e : f * a + (1 - f) * b - (f * c + (1 - f) * b) = f * (a - c) := by rw [Int.mul_sub]; omega
    rw [e] at this
    have := small_dvd (dvd_coprime this hg) (by omega) (by omega)
    omega
  rw [if_neg w2, if_neg w2] at h
  by_cases w3 : w = 3
  · have n4 : ¬ w = 4 := by omega
    have n6 : ¬ w = 6 := by omega
    simp only [w3, n4, n6, true_and, false_and, if_false] at h
    simp only [show ¬ (3 : Int) = 6 by decide, show ¬ (3 : Int) = 4 by decide, false_and, if_false] at h
    (repeat' split at h) <;> omega
  by_cases w6 : w = 6
  · subst w6
    simp only [show ¬ (6 : Int) = 3 by decide, show ¬ (6 : Int) = 4 by decide, false_and, true_and, if_false] at h
    by_cases hb : b = n - 1
    · simp only [hb, and_true] at h
      by_cases h1 : a < n - 1
      · by_cases h2 : c < n - 1
        · rw [if_pos h1, if_pos h2] at h
          have := small_dvd (dvd_of_emod h) (by omega) (by omega)
          omega
        · rw [if_pos h1, if_neg h2] at h
          have := emod_rg (a + 1) (show 0 < n - 1 by omega)
          omega
      · by_cases h2 : c < n - 1
        · rw [if_neg h1, if_pos h2] at h
          have := emod_rg (c + 1) (show 0 < n - 1 by omega)
          omega
        · omega
    · simp only [hb, and_false, if_false] at h
      exact h
  by_cases w4 : w = 4
  · subst w4
    simp only [show ¬ (4 : Int) = 3 by decide, show ¬ (4 : Int) = 6 by decide, false_and, true_and, if_false] at h
    have half : 0 ≤ n / 2 ∧ n / 2 < n := by omega
    generalize n / 2 = k at h half
    by_cases hb : b < k
    · have hb' : ¬ b ≥ k := by omega
      simp only [hb, hb', and_true, and_false, if_false] at h
      by_cases h1 : a < k
      · by_cases h2 : c < k
        · rw [if_pos h1, if_pos h2] at h
          exact emod_inj a0 h1 c0 h2 h
        · rw [if_pos h1, if_neg h2] at h
          have := emod_rg (2 * b - a) (show 0 < k by omega)
          omega
      · by_cases h2 : c < k
        · rw [if_neg h1, if_pos h2] at h
          have := emod_rg (2 * b - c) (show 0 < k by omega)
          omega
        · rw [if_neg h1, if_neg h2] at h
          exact h
    · have hb' : b ≥ k := by omega
      simp only [hb, hb', and_true, and_false, if_false] at h
      by_cases h1 : a ≥ k
      · by_cases h2 : c ≥ k
        · rw [if_pos h1, if_pos h2] at h
          have h' : (2 * b - a - k) % (n - k) = (2 * b - c - k) % (n - k) := by omega
          have := small_dvd (dvd_of_emod h') (by omega) (by omega)
          omega
        · rw [if_pos h1, if_neg h2] at h
          have := emod_rg (2 * b - a - k) (show 0 < n - k by omega)
          omega
      · by_cases h2 : c ≥ k
        · rw [if_neg h1, if_pos h2] at h
          have := emod_rg (2 * b - c - k) (show 0 < n - k by omega)
          omega
        · rw [if_neg h1, if_neg h2] at h
          exact h
  simp only [w3, w6, w4, false_and, if_false] at h
  exact h
theorem tabT_ent {g : Int → Int → Int} {n : Nat} {a b : Int} (a0 : 0 ≤ a) (a1 : a < n) (b0 : 0 ≤ b) (b1 : b < n) : ent (tabT g n) a b = g a b := by
  unfold ent tabT
  rw [List.getElem?_map, List.getElem?_range (by omega)]
  show (((List.range n).map _)[b.toNat]?).getD 0 = _
  rw [List.getElem?_map, List.getElem?_range (by omega)]
  show g ((a.toNat : Nat) : Int) ((b.toNat : Nat) : Int) = _
  rw [Int.toNat_of_nonneg a0, Int.toNat_of_nonneg b0]
def fourT : List (List Int) := [[0, 3, 1, 2], [2, 1, 3, 0], [3, 0, 2, 1], [1, 2, 0, 3]]
theorem four_inj : ∀ a c b : Fin 4, ent fourT (a.val : Int) (b.val : Int) = ent fourT (c.val : Int) (b.val : Int) → a = c := by decide
theorem madeT_inj {w f : Int} {n : Nat} (hn : 1 ≤ n) (hg : Int.gcd f n = 1) : ColInj n (madeT w n f) := by
  intro a c b a0 a1 c0 c1 b0 b1 h
  unfold madeT at h
  split at h
  · rename_i hw
    obtain ⟨_, rfl⟩ := hw
    have := four_inj ⟨a.toNat, by omega⟩ ⟨c.toNat, by omega⟩ ⟨b.toNat, by omega⟩ (by
      show ent fourT ((a.toNat : Nat) : Int) ((b.toNat : Nat) : Int) = ent fourT ((c.toNat : Nat) : Int) ((b.toNat : Nat) : Int)
      rw [Int.toNat_of_nonneg a0, Int.toNat_of_nonneg b0, Int.toNat_of_nonneg c0]
      exact h)
    have := congrArg Fin.val this
    simp at this
    omega
  · rw [tabT_ent a0 a1 b0 b1, tabT_ent c0 c1 b0 b1] at h
    exact cellG_inj (by omega) hg a0 a1 c0 c1 b0 b1 h
theorem permF {s : List Int} {n : Nat} (h : s.Perm (rgI n)) : s.length = n ∧ (∀ i : Nat, i < n → ∃ k : Nat, s[i]? = some (k : Int) ∧ k < n) ∧ ∀ i j : Nat, i < n → j < n → s[i]? = s[j]? → i = j := by
  have hl : s.length = n := by rw [h.length_eq]; simp [rgI]
  have nd : s.Nodup := by
    rw [h.nodup_iff]
    unfold rgI
    exact List.Pairwise.map _ (fun a b (hab : a ≠ b) (e : (a : Int) = b) => hab (by omega)) List.nodup_range
  refine ⟨hl, fun i hi => ?_, fun i j hi hj e => ?_⟩
  · have h1 : i < s.length := by omega
    have hm := h.mem_iff.mp (List.getElem_mem h1)
    obtain ⟨k, hk, e⟩ := List.mem_map.mp hm
    exact ⟨k, by rw [List.getElem?_eq_getElem h1, ← e], by simpa using hk⟩
  · rw [List.getElem?_eq_getElem (by omega), List.getElem?_eq_getElem (by omega)] at e
    have e := Option.some.inj e
    have pw := List.pairwise_iff_getElem.mp nd
    rcases Nat.lt_trichotomy i j with z | z | z
    · exact absurd e (pw i j (by omega) (by omega) z)
    · exact z
    · exact absurd e.symm (pw j i (by omega) (by omega) z)
theorem permS {s : List Int} {n : Nat} (h : s.Perm (rgI n)) (k : Nat) (hk : k < n) : ∃ a : Nat, a < n ∧ s[a]? = some (k : Int) := by
  have hm : (k : Int) ∈ s := h.mem_iff.mpr (List.mem_map.mpr ⟨k, by simpa using hk, rfl⟩)
  obtain ⟨a, ha, e⟩ := List.mem_iff_getElem.mp hm
  have hl := (permF h).1
  exact ⟨a, by omega, by rw [List.getElem?_eq_getElem ha, e]⟩
theorem relaid_at {n : Nat} {t r : List (List Int)} {s : List Int} (h : Relaid n t s r) (sh : Shape n t) (p : s.Perm (rgI n)) :
    ∃ f : Int → Int, (∀ a : Int, 0 ≤ a → a < n → 0 ≤ f a ∧ f a < n) ∧ (∀ a c : Int, 0 ≤ a → a < n → 0 ≤ c → c < n → f a = f c → a = c) ∧ (∀ k : Int, 0 ≤ k → k < n → ∃ a : Int, 0 ≤ a ∧ a < n ∧ f a = k) ∧
      ∀ a b : Int, 0 ≤ a → a < n → 0 ≤ b → b < n → ent r (f a) (f b) = f (ent t a b) := by
  obtain ⟨hl, h1, h2⟩ := permF p
  refine ⟨fun a => (s[a.toNat]?).getD 0, fun a a0 a1 => ?_, fun a c a0 a1 c0 c1 e => ?_, fun k k0 k1 => ?_, fun a b a0 a1 b0 b1 => ?_⟩
  · obtain ⟨k, e, hk⟩ := h1 a.toNat (by omega)
    show 0 ≤ (s[a.toNat]?).getD 0 ∧ (s[a.toNat]?).getD 0 < (n : Int)
    rw [e]
    show 0 ≤ (k : Int) ∧ (k : Int) < (n : Int)
    omega
  · obtain ⟨k, e1, hk⟩ := h1 a.toNat (by omega)
    obtain ⟨j, e2, hj⟩ := h1 c.toNat (by omega)
    have e' : (s[a.toNat]?).getD 0 = (s[c.toNat]?).getD 0 := e
    rw [e1, e2] at e'
    have e'' : (k : Int) = (j : Int) := e'
    have := h2 a.toNat c.toNat (by omega) (by omega) (by rw [e1, e2, e''])
    omega
  · obtain ⟨a, ha, e⟩ := permS p k.toNat (by omega)
    refine ⟨a, by omega, by omega, ?_⟩
    show (s[((a : Nat) : Int).toNat]?).getD 0 = k
    rw [Int.toNat_natCast, e]
    show ((k.toNat : Nat) : Int) = k
    omega
  · have := h.2 a.toNat b.toNat (by omega) (by omega)
    rw [Int.toNat_of_nonneg a0, Int.toNat_of_nonneg b0] at this
    exact this
theorem IsTab.inj {n : Nat} {t : List (List Int)} (hn : 1 ≤ n) (h : IsTab n t) : ColInj n t := by
  rcases h with h | ⟨t0, s, h, p, hr⟩
  · obtain ⟨w, f, _, _, _, _, hg, rfl⟩ := h
    exact madeT_inj hn hg
  · have sh := h.shape hn
    obtain ⟨w, f, _, _, _, _, hg, rfl⟩ := h
    have ij := madeT_inj (w := w) hn hg
    obtain ⟨F, f1, f2, f3, f4⟩ := relaid_at hr sh p
    intro a c b a0 a1 c0 c1 b0 b1 e
    obtain ⟨x, x0, x1, rfl⟩ := f3 a a0 a1
    obtain ⟨y, y0, y1, rfl⟩ := f3 c c0 c1
    obtain ⟨z, z0, z1, rfl⟩ := f3 b b0 b1
    rw [f4 x z x0 x1 z0 z1, f4 y z y0 y1 z0 z1] at e
    have g1 := ent_rg sh x0 x1 z0 z1
    have g2 := ent_rg sh y0 y1 z0 z1
    have := f2 _ _ g1.1 g1.2 g2.1 g2.2 e
    rw [ij x y z x0 x1 y0 y1 z0 z1 this]
end VL
set_option maxRecDepth 100000
set_option maxHeartbeats 4000000
namespace VL
open PySem PySem.Spec PyProof.Rows L2
end VL
set_option maxRecDepth 100000
set_option maxHeartbeats 1000000
namespace VL
open PySem PySem.Spec PyProof.Rows L2
local macro_rules | `(tactic| sleep 11) => `(tactic| simp only [Out.bind_ok, Out.bind_exn, noX_ok, lift_some, flowT_ret, flowT_nxt, flowF_ret, flowF_nxt, sat_bind, sat_ok, sat_exn, sat_noX, eta2, Out.bind_id])
end VL
set_option maxRecDepth 100000
set_option maxHeartbeats 1000000
namespace VL
open PySem PySem.Spec PyProof.Rows L2
local macro_rules | `(tactic| sleep 11) => `(tactic| simp only [Out.bind_ok, Out.bind_exn, noX_ok, lift_some, flowT_ret, flowT_nxt, flowF_ret, flowF_nxt, sat_bind, sat_ok, sat_exn, sat_noX, eta2, Out.bind_id])
end VL
set_option maxRecDepth 100000
set_option maxHeartbeats 4000000
namespace XF2
open PySem PySem.Spec PyProof.Rows L2 VL
end XF2
set_option maxRecDepth 100000
set_option maxHeartbeats 1000000
namespace VL
open PySem PySem.Spec PyProof.Rows L2
open PySem.W (maxOf)
local macro_rules | `(tactic| sleep 11) => `(tactic| simp only [Out.bind_ok, Out.bind_exn, noX_ok, lift_some, flowT_ret, flowT_nxt, flowF_ret, flowF_nxt, sat_bind, sat_ok, sat_exn, sat_noX, eta2, Out.bind_id])
section
variable {α β : Type} {X : Exn → Prop}
end
abbrev Mt := Int × Int × Int × Int × Int
def MtIn (k : Int) (m : Mt) : Prop := (0 ≤ m.2.2.1 ∧ m.2.2.1 < k) ∧ (0 ≤ m.2.2.2.1 ∧ m.2.2.2.1 < k) ∧ 0 ≤ m.2.2.2.2 ∧ m.2.2.2.2 < k
structure Cs (n k : Nat) (cs : List Int) : Prop where
  len : cs.length = k
  rng : ∀ x ∈ cs, 0 ≤ x ∧ x < (n : Int)
theorem Cs.at {n k : Nat} {cs : List Int} (h : Cs n k cs) {i : Int} (h0 : 0 ≤ i) (h1 : i < k) : atI cs i = some (atR cs i) ∧ 0 ≤ atR cs i ∧ atR cs i < n := by
  have hl := h.len
  have e : atI cs i = some (cs[i.toNat]'(by omega)) := atI_get h0 (by omega)
  have e2 : atR cs i = cs[i.toNat]'(by omega) := by
    unfold atR
    rw [List.getElem?_eq_getElem (by omega)]; rfl
  rw [e, e2]
  exact ⟨rfl, h.rng _ (List.getElem_mem _)⟩
theorem Cs.snoc {n k : Nat} {cs : List Int} (h : Cs n k cs) {c : Nat} (hc : c < n) : Cs n (k + 1) (cs ++ [(c : Int)]) := by
  refine ⟨by simp [h.len], fun x hx => ?_⟩
  rcases List.mem_append.mp hx with z | z
  · exact h.rng x z
  · rw [List.mem_singleton.mp z]; omega
end VL
set_option maxRecDepth 100000
set_option maxHeartbeats 1000000
namespace VL
open PySem PySem.Spec PyProof.Rows L2
local macro_rules | `(tactic| sleep 11) => `(tactic| simp only [Out.bind_ok, Out.bind_exn, noX_ok, lift_some, flowT_ret, flowT_nxt, flowF_ret, flowF_nxt, sat_bind, sat_ok, sat_exn, sat_noX, eta2, Out.bind_id])
end VL
set_option maxRecDepth 100000
set_option maxHeartbeats 1000000
namespace VL
open PySem PySem.Spec PyProof.Rows L2
theorem MtIn.mono {a b : Int} {m : Mt} (h : MtIn a m) (hab : a ≤ b) : MtIn b m := by
  obtain ⟨h1, h2, h3⟩ := h
  exact ⟨⟨h1.1, by omega⟩, ⟨h2.1, by omega⟩, h3.1, by omega⟩
end VL
set_option maxRecDepth 100000
set_option maxHeartbeats 1000000
namespace VL
open PySem PySem.Spec PyProof.Rows L2
local macro_rules | `(tactic| sleep 11) => `(tactic| simp only [Out.bind_ok, Out.bind_exn, noX_ok, lift_some, flowT_ret, flowT_nxt, flowF_ret, flowF_nxt, sat_bind, sat_ok, sat_exn, sat_noX, eta2, Out.bind_id])
theorem Sat.exn {α : Type} {m : Out α} {x : Exn} (h : Sat m (fun _ => False) fun y => y = x) : m = .exn x := by
  cases m with
  | ok a => exact h.elim
  | exn y => exact congrArg _ h
  | stuck => exact h.elim
end VL
set_option maxRecDepth 100000
set_option maxHeartbeats 2000000
namespace TX
open PySem PySem.Spec PyProof.Rows L2 VL
def enumK {α : Type} (k : Nat) (xs : List α) : List (Int × α) := (xs.zipIdx k).map fun p => ((p.2 : Int), p.1)
theorem enumF_K {α : Type} (xs : List α) : enumF xs = enumK 0 xs := rfl
theorem enumK_cons {α : Type} (k : Nat) (x : α) (xs : List α) : enumK k (x :: xs) = ((k : Int), x) :: enumK (k + 1) xs := by unfold enumK; rw [List.zipIdx_cons]; rfl
def badP (flat named seen : List Int) (p : Int) : Bool := decide (p = 0) || (decide (p ∈ seen) || (!decide (-p ∈ flat) || !decide (absF p ∈ named)))
def rowF (bad : List Int → Int → Bool) : List Int → Nat → List Int → Nat ⊕ List Int
  | seen, _, [] => .inr seen
  | seen, k, p :: r => if bad seen p = true then .inl k else rowF bad (p :: seen) (k + 1) r
def walkF (bad : List Int → Int → Bool) : List Int → Nat → List (List Int) → Option (Nat × Nat)
  | _, _, [] => none
  | seen, k, w :: ws => match rowF bad seen 0 w with
    | .inl j => some (k, j)
    | .inr s => walkF bad s (k + 1) ws
def sgnF (flat : List Int) : Int → Nat → List (Int × Int) → Option Nat
  | _, _, [] => none
  | a, k, p :: r => if p.1 ≤ a ∨ ¬ (p.2 = 1 ∨ p.2 = -1) ∨ p.1 ∉ flat then some k else sgnF flat p.1 (k + 1) r
abbrev Dr := List (List Int) × List (Int × Int)
def walkOf (d : Dr) : Option (Nat × Nat) := walkF (badP d.1.flatten (d.2.map (·.1))) [] 0 d.1
def signOf_ (d : Dr) : Option Nat := sgnF d.1.flatten 0 0 d.2
def faultOf (d : Dr) : Option (List At) := match walkOf d with
  | some (i, j) => some [.s (Str.ofString "walk"), .i i, .i j]
  | none => match signOf_ d with
    | some k => some [.s (Str.ofString "sign"), .i k]
    | none => if 40 < d.2.length then some [.s (Str.ofString "many"), .i d.2.length] else if 12 < d.1.length then some [.s (Str.ofString "many"), .i d.1.length] else none
def Keys {α : Type} (V : List (Int × α)) (P : Int → Prop) : Prop := ∀ x, (lookK V x).isSome = true ↔ P x
theorem Keys.nil {α : Type} : Keys ([] : List (Int × α)) fun _ => False := fun x => by simp [lookK_nil]
theorem Keys.put {α : Type} {V : List (Int × α)} {P : Int → Prop} (h : Keys V P) (k : Int) (v : α) : Keys (putKK V k v) fun x => x = k ∨ P x := fun x => by
  rw [lookK_put]
  by_cases e : x = k
  · rw [if_pos e]; simp [e]
  · rw [if_neg e, h x]; simp [e]
theorem Keys.len {α : Type} (V : List (Int × α)) (k : Int) (v : α) : (putKK V k v).length ≤ V.length + 1 := by
  unfold putKK
  split
  · simp
  · simp
theorem put_ok {α : Type} {V : List (Int × α)} {k : Int} {v : α} (h : V.length < 1000000) : putO V k v = some (putKK V k v) := by unfold putO; exact if_pos h
theorem passages_ok (ws : List (List Int)) (h : ws.flatten.length < 1000000) : XTX.F_passages_of ws = .ok ws.flatten := by
  unfold XTX.F_passages_of
  simp only [Out.bind_ok, Out.bind_id]
  have : ∀ (ws : List (List Int)) (V : List Int), V.length + ws.flatten.length < 1000000 → forO (fun (V370 : List Int) (walk_ : List Int) => (lift (extO V370 walk_))) V ws = .ok (V ++ ws.flatten) := by
    intro ws
    induction ws with
    | nil => intro V _; simp [forO]
    | cons w ws ih =>
      intro V hl
      simp only [List.flatten_cons, List.length_append] at hl
      unfold forO
      rw [extO_ok (by omega), lift_some, Out.bind_ok, ih _ (by rw [List.length_append]; omega)]
      simp
  rw [this ws [] (by simpa using h)]
  simp
theorem keys_of {α β : Type} (f : β → Int) (v : α) : ∀ (xs : List β) (V : List (Int × α)) (P : Int → Prop), Keys V P → V.length + xs.length < 1000000 →
    ∃ V', forO (fun (V : List (Int × α)) (x : β) => (lift (putO V (f x) v))) V xs = .ok V' ∧ Keys V' (fun y => y ∈ xs.map f ∨ P y) ∧ V'.length ≤ V.length + xs.length
  | [], V, P, h, _ => ⟨V, rfl, fun x => by rw [h x]; simp, by simp⟩
  | x :: xs, V, P, h, hl => by
    simp only [List.length_cons] at hl
    have l1 := Keys.len V (f x) v
    obtain ⟨V', e, k, l⟩ := keys_of f v xs (putKK V (f x) v) _ (h.put (f x) v) (by omega)
    refine ⟨V', ?_, fun y => ?_, by simp; omega⟩
    · unfold forO
      rw [put_ok (by omega), lift_some, Out.bind_ok, e]
    · rw [k y]
      show (y ∈ xs.map f ∨ y = f x ∨ P y) ↔ (y ∈ f x :: xs.map f ∨ P y)
      rw [List.mem_cons]
      constructor
      · rintro (a | a | a)
        · exact .inl (.inr a)
        · exact .inl (.inl a)
        · exact .inr a
      · rintro ((a | a) | a)
        · exact .inr (.inl a)
        · exact .inl a
        · exact .inr (.inr a)
def wTup_ (i j : Int) : List At := [.s (Str.ofString "walk"), .i i, .i j]
section
variable {there signed : List (Int × Bool)} {flat named : List Int}
theorem row_run (ht : Keys there (· ∈ flat)) (hs : Keys signed (· ∈ named)) (i : Int) : ∀ (w : List Int) (k : Nat) (seen : List Int) (V : List (Int × Bool)), Keys V (· ∈ seen) → V.length + w.length < 1000000 →
    ∃ r : Fl (Option (List At)) (List (Int × Bool)), forF (fun (V387 : (List (Int × Bool))) (x388 : (Int × Int)) => (if (decide (x388.2 = 0) || (true == (lookK V387 x388.2).isSome || (false == (lookK there (-(x388.2))).isSome || false == (lookK signed (absF x388.2)).isSome))) = true then (Out.ok (Fl.ret (some (([.s (Str.ofString "walk"), .i i, .i x388.1] : List At))))) else ((lift (putO V387 x388.2 true)).bind fun seen_ => (Out.ok (Fl.nxt seen_))))) V (enumK k w) = .ok r ∧
      match rowF (badP flat named) seen k w with
      | .inl j => r = .ret (some (wTup_ i j))
      | .inr s => ∃ V', r = .nxt V' ∧ Keys V' (· ∈ s) ∧ V'.length ≤ V.length + w.length
  | [], k, seen, V, h, _ => ⟨_, rfl, V, rfl, h, by simp⟩
  | p :: w, k, seen, V, h, hl => by
    rw [enumK_cons]
    unfold forF rowF
    simp only [List.length_cons] at hl
    have e : (decide (p = 0) || (true == (lookK V p).isSome || (false == (lookK there (-p)).isSome || false == (lookK signed (absF p)).isSome))) = badP flat named seen p := by
      unfold badP
      have a1 : (lookK V p).isSome = decide (p ∈ seen) := by rw [Bool.eq_iff_iff, h p]; simp
      have a2 : (lookK there (-p)).isSome = decide (-p ∈ flat) := by rw [Bool.eq_iff_iff, ht (-p)]; simp
      have a3 : (lookK signed (absF p)).isSome = decide (absF p ∈ named) := by rw [Bool.eq_iff_iff, hs (absF p)]; simp
      rw [a1, a2, a3]
      cases decide (p ∈ seen) <;> cases decide (-p ∈ flat) <;> cases decide (absF p ∈ named) <;> rfl
    dsimp only
    rw [e]
    cases hb : badP flat named seen p with
    | true =>
      rw [if_pos rfl, if_pos rfl]
      exact ⟨_, rfl, rfl⟩
    | false =>
      rw [if_neg (by decide), if_neg (by decide), put_ok (by omega), lift_some, Out.bind_ok, Out.bind_ok, flowF_nxt]
      have l1 := Keys.len V p true
      have hk : Keys (putKK V p true) (· ∈ p :: seen) := fun x => by
        rw [h.put p true x]
        show (x = p ∨ x ∈ seen) ↔ x ∈ p :: seen
        rw [List.mem_cons]
      obtain ⟨r, e1, e2⟩ := row_run ht hs i w (k + 1) (p :: seen) _ hk (by omega)
      refine ⟨r, e1, ?_⟩
      cases hr : rowF (badP flat named) (p :: seen) (k + 1) w with
      | inl j => rw [hr] at e2; exact e2
      | inr s =>
        rw [hr] at e2
        obtain ⟨V', a, b, c⟩ := e2
        exact ⟨V', a, b, by simp; omega⟩
theorem walk_run (ht : Keys there (· ∈ flat)) (hs : Keys signed (· ∈ named)) : ∀ (ws : List (List Int)) (k : Nat) (seen : List Int) (V : List (Int × Bool)), Keys V (· ∈ seen) → V.length + ws.flatten.length < 1000000 →
    ∃ r : Fl (Option (List At)) (List (Int × Bool)), forF (fun (V383 : (List (Int × Bool))) (x384 : (Int × (List Int))) => ((forF (fun (V387 : (List (Int × Bool))) (x388 : (Int × Int)) => (if (decide (x388.2 = 0) || (true == (lookK V387 x388.2).isSome || (false == (lookK there (-(x388.2))).isSome || false == (lookK signed (absF x388.2)).isSome))) = true then (Out.ok (Fl.ret (some (([.s (Str.ofString "walk"), .i x384.1, .i x388.1] : List At))))) else ((lift (putO V387 x388.2 true)).bind fun seen_ => (Out.ok (Fl.nxt seen_))))) V383 (enumF x384.2)).bind (flowF fun (V387 : (List (Int × Bool))) => (Out.ok (Fl.nxt V387))))) V (enumK k ws) = .ok r ∧
      match walkF (badP flat named) seen k ws with
      | some (i, j) => r = .ret (some (wTup_ i j))
      | none => ∃ V', r = .nxt V'
  | [], k, seen, V, h, _ => ⟨_, rfl, V, rfl⟩
  | w :: ws, k, seen, V, h, hl => by
    rw [enumK_cons]
    unfold forF walkF
    simp only [List.flatten_cons, List.length_append] at hl
    obtain ⟨r, e1, e2⟩ := row_run ht hs k w 0 seen V h (by omega)
    dsimp only
    rw [enumF_K, e1, Out.bind_ok]
    cases hr : rowF (badP flat named) seen 0 w with
    | inl j =>
      rw [hr] at e2
      subst e2
      rw [flowF_ret, Out.bind_ok, flowF_ret]
      exact ⟨_, rfl, rfl⟩
    | inr s =>
      rw [hr] at e2
      obtain ⟨V', rfl, b, c⟩ := e2
      rw [flowF_nxt, Out.bind_ok, flowF_nxt]
      exact walk_run ht hs ws (k + 1) s V' b (by omega)
end
theorem walk_fault_ok (d : Dr) (h1 : d.1.flatten.length < 900000) (h2 : d.2.length < 900000) : XTX.F_walk_fault d.1 d.2 = .ok ((walkOf d).map fun p => wTup_ p.1 p.2) := by
  unfold XTX.F_walk_fault
  rw [passages_ok _ (by omega)]
  simp only [Out.bind_ok, Out.bind_id]
  obtain ⟨V1, e1, k1, _⟩ := keys_of (fun x : Int => x) true d.1.flatten [] _ Keys.nil (by rw [List.length_nil]; omega)
  rw [e1, Out.bind_ok]
  obtain ⟨V2, e2, k2, _⟩ := keys_of (fun x : Int × Int => x.1) true d.2 [] _ Keys.nil (by rw [List.length_nil]; omega)
  rw [e2, Out.bind_ok]
  have k1' : Keys V1 (· ∈ d.1.flatten) := fun x => by rw [k1 x]; simp
  have k2' : Keys V2 (· ∈ d.2.map (·.1)) := fun x => by rw [k2 x]; simp
  obtain ⟨r, e3, e4⟩ := walk_run k1' k2' d.1 0 [] [] (fun x => by rw [Keys.nil x]; simp) (by rw [List.length_nil]; omega)
  rw [enumF_K, e3, Out.bind_ok]
  unfold walkOf
  cases hw : walkF (badP d.1.flatten (d.2.map (·.1))) [] 0 d.1 with
  | none =>
    rw [hw] at e4
    obtain ⟨V', rfl⟩ := e4
    rfl
  | some p =>
    obtain ⟨i, j⟩ := p
    rw [hw] at e4
    subst e4
    rfl
theorem sign_run (flat : List Int) : ∀ (s : List (Int × Int)) (k : Nat) (a : Int), ∃ r : Fl (Option (List At)) Int, forF (fun (V391 : Int) (x392 : (Int × (Int × Int))) => (if (decide (x392.2.1 ≤ V391) || (!decide (x392.2.2 ∈ [id 1, id (-(1))]) || !decide (x392.2.1 ∈ flat))) = true then (Out.ok (Fl.ret (some (([.s (Str.ofString "sign"), .i x392.1] : List At))))) else (Out.ok (Fl.nxt x392.2.1)))) a (enumK k s) = .ok r ∧
      match sgnF flat a k s with
      | some j => r = .ret (some [.s (Str.ofString "sign"), .i j])
      | none => ∃ V', r = .nxt V'
  | [], k, a => ⟨_, rfl, a, rfl⟩
  | p :: s, k, a => by
    rw [enumK_cons]
    unfold forF sgnF
    dsimp only
    have e : (decide (p.1 ≤ a) || (!decide (p.2 ∈ [id 1, id (-(1))]) || !decide (p.1 ∈ flat))) = decide (p.1 ≤ a ∨ ¬ (p.2 = 1 ∨ p.2 = -1) ∨ p.1 ∉ flat) := by
      rw [Bool.eq_iff_iff]
      simp only [Bool.or_eq_true, decide_eq_true_eq, Bool.not_eq_true', decide_eq_false_iff_not, List.mem_cons, List.not_mem_nil, or_false, id]
    rw [e]
    by_cases hb : p.1 ≤ a ∨ ¬ (p.2 = 1 ∨ p.2 = -1) ∨ p.1 ∉ flat
    · rw [if_pos (by simpa using hb), if_pos hb]
      exact ⟨_, rfl, rfl⟩
    · rw [if_neg (by simpa using hb), if_neg hb, Out.bind_ok, flowF_nxt]
      exact sign_run flat s (k + 1) p.1
theorem sign_fault_ok (d : Dr) (h1 : d.1.flatten.length < 900000) : XTX.F_sign_fault d.1 d.2 = .ok ((signOf_ d).map fun k => [.s (Str.ofString "sign"), .i k]) := by
  unfold XTX.F_sign_fault
  rw [passages_ok _ (by omega)]
  simp only [Out.bind_ok]
  obtain ⟨r, e3, e4⟩ := sign_run d.1.flatten d.2 0 0
  rw [enumF_K, e3, Out.bind_ok]
  unfold signOf_
  cases hw : sgnF d.1.flatten 0 0 d.2 with
  | none =>
    rw [hw] at e4
    obtain ⟨V', rfl⟩ := e4
    rfl
  | some p =>
    rw [hw] at e4
    subst e4
    rfl
theorem fault_ok (d : Dr) (h1 : d.1.flatten.length < 900000) (h2 : d.2.length < 900000) : XTX.F_fault d = .ok (faultOf d) := by
  unfold XTX.F_fault faultOf
  rw [Out.bind_ok, walk_fault_ok d h1 h2, Out.bind_ok]
  cases hw : walkOf d with
  | some p => rfl
  | none =>
    simp only [Option.map_none, Option.isNone_none, if_true]
    rw [sign_fault_ok d h1, Out.bind_ok]
    cases hs : signOf_ d with
    | some k => rfl
    | none =>
      simp only [Option.map_none, Out.bind_ok, Option.isNone_none, Bool.true_and]
      by_cases c1 : 40 < d.2.length
      · rw [if_pos (by simpa using (by omega : ((d.2.length : Int) > 40))), if_pos c1]; rfl
      · rw [if_neg (by simpa using (by omega : ¬ ((d.2.length : Int) > 40))), if_neg c1]
        simp only [Out.bind_ok, Option.isNone_none, Bool.true_and]
        by_cases c2 : 12 < d.1.length
        · rw [if_pos (by simpa using (by omega : ((d.1.length : Int) > 12))), if_pos c2]; rfl
        · rw [if_neg (by simpa using (by omega : ¬ ((d.1.length : Int) > 12))), if_neg c2]; rfl
end TX
set_option maxRecDepth 100000
set_option maxHeartbeats 1000000
namespace LK11
open PySem PySem.Spec PyProof.Rows L2 VL TX
local macro_rules | `(tactic| sleep 11) => `(tactic| simp only [Out.bind_ok, Out.bind_exn, noX_ok, lift_some, flowT_ret, flowT_nxt, flowF_ret, flowF_nxt, sat_bind, sat_ok, sat_exn, sat_noX, eta2, Out.bind_id])
theorem ext_run : ∀ (ws : List (List Int)) (V : List Int), V.length + ws.flatten.length < 1000000 → forO (fun (V393 : (List Int)) (walk_ : (List Int)) => ((Out.ok (walk_)).bind fun v => (lift (extO V393 v)).bind fun every_ => (Out.ok every_))) V ws = .ok (V ++ ws.flatten)
  | [], V, _ => by simp [forO]
  | w :: ws, V, h => by
    simp only [List.flatten_cons, List.length_append] at h
    have ih := ext_run ws (V ++ w) (by rw [List.length_append]; omega)
    rw [forO]
    simp only [Out.bind_ok] at ih ⊢
    have : extO V w = some (V ++ w) := by unfold extO; exact if_pos (by omega)
    rw [this]
    simp only [lift_some, Out.bind_ok]
    rw [ih]; simp
theorem wrong_ok {ws : List (List Int)} {named w : List Int} {i j : Nat} {p : Int} (hw : ws[i]? = some w) (hp : w[j]? = some p) (hs : ws.flatten.length < 400000) (hl : ws.length < 400000) :
    F_law_wrong ws named i j = .ok (badP ws.flatten named (w.take j ++ (ws.take i).flatten) p) := by
  have wl : w.length ≤ ws.flatten.length := by
    have : w ∈ ws := List.mem_of_getElem? hw
    clear hw hp
    induction ws with
    | nil => cases this
    | cons a ws ih =>
      rw [List.flatten_cons, List.length_append]
      rcases List.mem_cons.mp this with e | e
      · subst e; omega
      · have := ih (by rw [List.flatten_cons, List.length_append] at hs; omega) (by rw [List.length_cons] at hl; omega) e; omega
  have pl : (ws.take i).flatten.length ≤ ws.flatten.length := by
    conv => rhs; rw [← List.take_append_drop i ws, List.flatten_append, List.length_append]
    omega
  unfold F_law_wrong
  rw [VL.atI_nat' hw]
  simp only [lift_some, Out.bind_ok]
  rw [VL.atI_nat' hp]
  simp only [lift_some, Out.bind_ok]
  have c1 : cutL w none (some (j : Int)) = w.take j := cutL_to w j
  have c2 : cutL ws none (some (i : Int)) = ws.take i := cutL_to ws i
  rw [c1, c2]
  have e1 := ext_run ws [] (by rw [List.length_nil]; omega)
  have e2 := ext_run (ws.take i) (w.take j) (by rw [List.length_take]; omega)
  simp only [Out.bind_ok] at e1 e2
  rw [e1]
  simp only [Out.bind_ok, List.nil_append]
  rw [e2]
  simp only [Out.bind_ok]
  unfold badP
  by_cases q1 : p = 0
  · simp [q1]
  · by_cases q2 : p ∈ w.take j ++ (ws.take i).flatten
    · simp [q1, q2]
    · simp [q1, q2]
theorem badP_seen {flat named s s' : List Int} (h : ∀ x, x ∈ s ↔ x ∈ s') (p : Int) : badP flat named s p = badP flat named s' p := by
  unfold badP
  rw [decide_eq_decide.mpr (h p)]
theorem places {ρ : Type} {w flat named pre : List Int} {r : Nat → ρ} {body : Unit → Int → Out (Fl ρ Unit)} (hb : ∀ (j : Nat) (p : Int), w[j]? = some p → body () (j : Int) = .ok (if badP flat named (w.take j ++ pre) p = true then .ret (r j) else .nxt ())) :
    ∀ (n k : Nat) (seen : List Int), k + n = w.length → (∀ x, x ∈ seen ↔ x ∈ w.take k ++ pre) →
      forF body () ((List.range' k n).map fun j : Nat => (j : Int)) = .ok (match TX.rowF (badP flat named) seen k (w.drop k) with | .inl j => .ret (r j) | .inr _ => .nxt ())
  | 0, k, seen, h, _ => by
    rw [List.drop_of_length_le (by omega)]; rfl
  | n + 1, k, seen, h, hs => by
    have hk : k < w.length := by omega
    have hd : w.drop k = w[k] :: w.drop (k + 1) := List.drop_eq_getElem_cons hk
    rw [hd, List.range'_succ, List.map_cons, forF, hb k w[k] (List.getElem?_eq_getElem hk), badP_seen (fun x => (hs x).symm)]
    unfold TX.rowF
    by_cases q : badP flat named seen w[k] = true
    · simp only [q, if_true, Out.bind_ok, flowF_ret]
    · simp only [q, if_false, Out.bind_ok, flowF_nxt]
      refine places hb n (k + 1) (w[k] :: seen) (by omega) fun x => ?_
      rw [List.take_add_one, List.getElem?_eq_getElem hk]
      simp only [List.mem_cons, List.mem_append, hs x, Option.toList]
      constructor
      · rintro (e | e | e) <;> simp_all
      · rintro ((e | e) | e) <;> simp_all
theorem rowF_mem {bad : List Int → Int → Bool} : ∀ (w seen : List Int) (k : Nat) {s : List Int}, rowF bad seen k w = .inr s → ∀ x, x ∈ s ↔ x ∈ w ++ seen
  | [], seen, k, s, h => by cases h; simp
  | p :: w, seen, k, s, h => by
    unfold TX.rowF at h
    split at h
    · cases h
    · intro x
      rw [rowF_mem w (p :: seen) (k + 1) h x]
      simp only [List.mem_append, List.mem_cons]
      constructor
      · rintro (e | e | e) <;> simp_all
      · rintro ((e | e) | e) <;> simp_all
theorem walks {ρ : Type} {ws : List (List Int)} {bad : List Int → Int → Bool} {r : Nat → Nat → ρ} {B : List Int → Int → Out (Fl ρ (List Int))}
    (hB : ∀ (i : Nat) (w seen : List Int), ws[i]? = some w → (∀ x, x ∈ seen ↔ x ∈ (ws.take i).flatten) → B (ws.take i).flatten (i : Int) = .ok (match TX.rowF bad seen 0 w with | .inl j => .ret (r i j) | .inr _ => .nxt ((ws.take i).flatten ++ w))) :
    ∀ (n k : Nat) (seen : List Int), k + n = ws.length → (∀ x, x ∈ seen ↔ x ∈ (ws.take k).flatten) →
      forF B (ws.take k).flatten ((List.range' k n).map fun j : Nat => (j : Int)) = .ok (match TX.walkF bad seen k (ws.drop k) with | some p => .ret (r p.1 p.2) | none => .nxt ws.flatten)
  | 0, k, seen, h, _ => by
    rw [List.drop_of_length_le (by omega), List.take_of_length_le (by omega)]; rfl
  | n + 1, k, seen, h, hs => by
    have hk : k < ws.length := by omega
    have hd : ws.drop k = ws[k] :: ws.drop (k + 1) := List.drop_eq_getElem_cons hk
    rw [hd, List.range'_succ, List.map_cons, forF, hB k ws[k] seen (List.getElem?_eq_getElem hk) hs]
    unfold TX.walkF
    cases hr : TX.rowF bad seen 0 ws[k] with
    | inl j => rfl
    | inr s =>
      simp only [Out.bind_ok, flowF_nxt]
      have e : (ws.take k).flatten ++ ws[k] = (ws.take (k + 1)).flatten := by
        rw [List.take_add_one, List.getElem?_eq_getElem hk, List.flatten_append]; simp
      rw [e]
      refine walks hB n (k + 1) s (by omega) fun x => ?_
      rw [rowF_mem _ _ _ hr x, ← e, List.mem_append, List.mem_append, hs x]
      exact Or.comm
def prev (signs : List (Int × Int)) : Nat → Int
  | 0 => 0
  | j + 1 => ((signs[j]?).map (·.1)).getD 0
theorem sgns {ρ : Type} {flat : List Int} {signs : List (Int × Int)} {r : Nat → ρ} {B : Unit → Int → Out (Fl ρ Unit)}
    (hB : ∀ (i : Nat) (p : Int × Int), signs[i]? = some p → B () (i : Int) = .ok (if p.1 ≤ prev signs i ∨ ¬ (p.2 = 1 ∨ p.2 = -1) ∨ p.1 ∉ flat then .ret (r i) else .nxt ())) :
    ∀ (n k : Nat), k + n = signs.length → forF B () ((List.range' k n).map fun j : Nat => (j : Int)) = .ok (match sgnF flat (prev signs k) k (signs.drop k) with | some j => .ret (r j) | none => .nxt ())
  | 0, k, h => by
    rw [List.drop_of_length_le (by omega)]; rfl
  | n + 1, k, h => by
    have hk : k < signs.length := by omega
    have hd : signs.drop k = signs[k] :: signs.drop (k + 1) := List.drop_eq_getElem_cons hk
    rw [hd, List.range'_succ, List.map_cons, forF, hB k signs[k] (List.getElem?_eq_getElem hk)]
    unfold sgnF
    by_cases q : signs[k].1 ≤ prev signs k ∨ ¬ (signs[k].2 = 1 ∨ signs[k].2 = -1) ∨ signs[k].1 ∉ flat
    · simp only [if_pos q, Out.bind_ok, flowF_ret]
    · simp only [if_neg q, Out.bind_ok, flowF_nxt]
      have e : prev signs (k + 1) = signs[k].1 := by
        show ((signs[k]?).map (·.1)).getD 0 = _
        rw [List.getElem?_eq_getElem hk]; rfl
      rw [← e]
      exact sgns hB n (k + 1) (by omega)
structure SmallD (d : VL.Dr) : Prop where
  f : d.1.flatten.length < 300000
  w : d.1.length < 300000
  s : d.2.length < 300000
  b : ∀ p ∈ d.2, p.2.natAbs < 1000
theorem s_walks {ρ : Type} {ws : List (List Int)} {bad : List Int → Int → Bool} {r : Nat → Nat → ρ} {B : List Int → Int → Out (Fl ρ (List Int))} {Q : Fl ρ (List Int) → Prop} {X : Exn → Prop} (hl : ws.length < 300000)
    (hB : ∀ (i : Nat) (w seen : List Int), ws[i]? = some w → (∀ x, x ∈ seen ↔ x ∈ (ws.take i).flatten) → B (ws.take i).flatten (i : Int) = .ok (match TX.rowF bad seen 0 w with | .inl j => .ret (r i j) | .inr _ => .nxt ((ws.take i).flatten ++ w)))
    (q : Q (match TX.walkF bad [] 0 ws with | some p => .ret (r p.1 p.2) | none => .nxt ws.flatten)) : Sat (lift (rgO 0 (ws.length : Int))) (fun xs => Sat (forF B [] xs) Q X) X := by
  rw [rg0_ok (by omega), rg_nat, List.range_eq_range']
  have := walks hB ws.length 0 [] (by omega) (by simp)
  simp only [List.take_zero, List.flatten_nil, List.drop_zero] at this
  show Sat (forF B [] _) Q X
  rw [this]
  exact q
theorem s_sgns {ρ : Type} {flat : List Int} {signs : List (Int × Int)} {r : Nat → ρ} {B : Unit → Int → Out (Fl ρ Unit)} {Q : Fl ρ Unit → Prop} {X : Exn → Prop} (hl : signs.length < 300000)
    (hB : ∀ (i : Nat) (p : Int × Int), signs[i]? = some p → B () (i : Int) = .ok (if p.1 ≤ prev signs i ∨ ¬ (p.2 = 1 ∨ p.2 = -1) ∨ p.1 ∉ flat then .ret (r i) else .nxt ()))
    (q : Q (match sgnF flat 0 0 signs with | some j => .ret (r j) | none => .nxt ())) : Sat (lift (rgO 0 (signs.length : Int))) (fun xs => Sat (forF B () xs) Q X) X := by
  rw [rg0_ok (by omega), rg_nat, List.range_eq_range']
  have := sgns hB signs.length 0 (by omega)
  simp only [List.drop_zero] at this
  show Sat (forF B () _) Q X
  rw [this]
  exact q
theorem due_ok {d : VL.Dr} (h : SmallD d) : F_law_due d = .ok (faultOf d) := by
  have hf := h.f
  have hw := h.w
  have hs := h.s
  refine Sat.eq ?_
  unfold F_law_due
  sleep 11
  rw [mapL_pure (by omega)]
  sleep 11
  refine s_walks (bad := badP d.1.flatten (d.2.map (·.1))) (r := fun i j => (some (wTup_ i j) : Option (List At))) hw (fun i w seen hi hm => ?_) ?_
  · have wl : w.length ≤ d.1.flatten.length ∧ ((d.1.take i).flatten ++ w).length ≤ d.1.flatten.length := by
      have hk : i < d.1.length := (List.getElem?_eq_some_iff.mp hi).1
      have e : (d.1.take i).flatten ++ w = (d.1.take (i + 1)).flatten := by
        rw [List.take_add_one, hi, List.flatten_append]; simp
      have : (d.1.take (i + 1)).flatten.length ≤ d.1.flatten.length := by
        conv => rhs; rw [← List.take_append_drop (i + 1) d.1, List.flatten_append, List.length_append]
        omega
      rw [← e] at this
      rw [List.length_append] at this ⊢
      omega
    have w2 := wl.2
    rw [List.length_append] at w2
    simp only [VL.atI_nat' hi, lift_some, Out.bind_ok]
    rw [show extO (d.1.take i).flatten w = some ((d.1.take i).flatten ++ w) by unfold extO; exact if_pos (by omega)]
    simp only [lift_some, Out.bind_ok]
    rw [rg0_ok (by omega), rg_nat, List.range_eq_range']
    simp only [lift_some, Out.bind_ok]
    rw [places (flat := d.1.flatten) (named := d.2.map (·.1)) (pre := (d.1.take i).flatten) (r := fun j => (some (wTup_ i j) : Option (List At))) (fun j p hp => by
      rw [wrong_ok hi hp (by omega) (by omega)]
      simp only [Out.bind_ok]
      split <;> rfl) w.length 0 seen (by omega) (by simpa using hm)]
    rw [List.drop_zero]
    cases TX.rowF (badP d.1.flatten (d.2.map (·.1))) seen 0 w with
    | inl j => rfl
    | inr s => rfl
  · unfold faultOf walkOf
    cases walkF (badP d.1.flatten (d.2.map (·.1))) [] 0 d.1 with
    | some p => sleep 11; rfl
    | none =>
      sleep 11
      refine s_sgns (flat := d.1.flatten) (r := fun k => (some [.s (Str.ofString "sign"), .i k] : Option (List At))) hs (fun i p hp => ?_) ?_
      · have hi : i < d.2.length := (List.getElem?_eq_some_iff.mp hp).1
        have hb := h.b p (List.mem_of_getElem? hp)
        rw [VL.atI_nat' hp]
        simp only [lift_some, Out.bind_ok]
        rw [mulO_ok (.inl (.inl (by omega)))]
        have first : (if (decide ((i : Int) = 0) && decide (p.1 < 1)) = true then Out.ok true else if decide ((i : Int) > 0) = true then ((lift (atI d.2 ((i : Int) - 1))).bind fun p400 => Out.ok p400.1).bind fun t2 => Out.ok (decide (p.1 ≤ t2)) else Out.ok false) = Out.ok (decide (p.1 ≤ prev d.2 i)) := by
          cases i with
          | zero =>
            show _ = Out.ok (decide (p.1 ≤ 0))
            by_cases c : p.1 < 1
            · rw [if_pos (by simp [c]), decide_eq_true (by omega)]
            · rw [if_neg (by simp [c]), if_neg (by simp), decide_eq_false (by omega)]
          | succ j =>
            rw [if_neg (by simp; omega), if_pos (decide_eq_true (by omega)), show ((j + 1 : Nat) : Int) - 1 = (j : Int) by omega, VL.atI_nat' (List.getElem?_eq_getElem (show j < d.2.length by omega))]
            show _ = Out.ok (decide (p.1 ≤ ((d.2[j]?).map (·.1)).getD 0))
            rw [List.getElem?_eq_getElem (show j < d.2.length by omega)]; rfl
        have hsq : p.2 * p.2 = 1 ↔ (p.2 = 1 ∨ p.2 = -1) := by
          constructor
          · intro e
            have e2 := congrArg Int.natAbs e
            rw [Int.natAbs_mul] at e2
            have := Nat.eq_one_of_mul_eq_one_right e2
            omega
          · rintro (e | e) <;> rw [e] <;> rfl
        rw [first]
        simp only [Out.bind_ok, lift_some]
        by_cases q1 : p.1 ≤ prev d.2 i
        · simp [q1]
        · by_cases q2 : p.2 = 1 ∨ p.2 = -1
          · by_cases q3 : p.1 ∈ d.1.flatten
            · simp [q1, q2, q3, hsq.mpr q2]
            · simp [q1, q2, q3, hsq.mpr q2]
          · have : ¬ p.2 * p.2 = 1 := fun e => q2 (hsq.mp e)
            simp [q1, q2, this]
      · unfold signOf_
        cases sgnF d.1.flatten 0 0 d.2 with
        | some k => sleep 11
        | none =>
          sleep 11
          by_cases c1 : 40 < d.2.length
          · rw [if_pos (decide_eq_true (by omega)), if_pos c1]; rfl
          · rw [if_neg (by simp; omega), if_neg c1]
            by_cases c2 : 12 < d.1.length
            · rw [if_pos (decide_eq_true (by omega)), if_pos c2]; rfl
            · rw [if_neg (by simp; omega), if_neg c2]; rfl
theorem whole_i (n : Int) : F_law_is_whole (.i n) = .ok true := by unfold F_law_is_whole; rfl
theorem lay_w : PyData.canLay0 (.str (Str.ofString "walk")) = true ∧ PyData.canLay0 (.str (Str.ofString "sign")) = true ∧ PyData.canLay0 (.str (Str.ofString "many")) = true := by decide +kernel
theorem eq2w {s : Str} (hl : PyData.canLay0 (.str s) = true) (a b : Int) : eqG ((eO (eTL eA)) (some [.s s, .i a, .i b])) ((eO (eTL eA)) (some [.s s, .i a, .i b])) = some true := by
  have k1 : SeqAt.shaped (.tuple [.str s, .int a, .int b]) = true := by
    unfold SeqAt.shaped
    rw [Bool.and_eq_true]
    exact ⟨by simp [PyData.canLay0, PyData.canLayAll0] at hl ⊢; simp [hl], by simp [PyData.depth, PyData.depthAll]⟩
  have k2 : PyData.eqv (.tuple [.str s, .int a, .int b]) (.tuple [.str s, .int a, .int b]) = true := by simp [PyData.eqv, PyData.eqvAll]
  show eqG (.tuple [.str s, .int a, .int b]) (.tuple [.str s, .int a, .int b]) = some true
  unfold eqG
  rw [show scalD (.tuple [.str s, .int a, .int b]) (.tuple [.str s, .int a, .int b]) = none from rfl]
  simp only [k1, k2, Bool.and_self, if_true]
theorem eq1w {s : Str} (hl : PyData.canLay0 (.str s) = true) (a : Int) : eqG ((eO (eTL eA)) (some [.s s, .i a])) ((eO (eTL eA)) (some [.s s, .i a])) = some true := by
  have k1 : SeqAt.shaped (.tuple [.str s, .int a]) = true := by
    unfold SeqAt.shaped
    rw [Bool.and_eq_true]
    exact ⟨by simp [PyData.canLay0, PyData.canLayAll0] at hl ⊢; simp [hl], by simp [PyData.depth, PyData.depthAll]⟩
  have k2 : PyData.eqv (.tuple [.str s, .int a]) (.tuple [.str s, .int a]) = true := by simp [PyData.eqv, PyData.eqvAll]
  show eqG (.tuple [.str s, .int a]) (.tuple [.str s, .int a]) = some true
  unfold eqG
  rw [show scalD (.tuple [.str s, .int a]) (.tuple [.str s, .int a]) = none from rfl]
  simp only [k1, k2, Bool.and_self, if_true]
theorem same_ok (d : VL.Dr) : F_law_same (faultOf d) (faultOf d) = .ok true := by
  have two : ∀ (s : Str) (a b : Int), PyData.canLay0 (.str s) = true → F_law_same (some [.s s, .i a, .i b]) (some [.s s, .i a, .i b]) = .ok true := fun s a b hl => by
    unfold F_law_same
    rw [eq2w hl]
    simp [cutL, forF, whole_i, atI]
    rw [show List.take (HT.sIx 3 3 none - HT.sIx 3 0 (some 1)) (List.drop (HT.sIx 3 0 (some 1)) [At.s s, At.i a, At.i b]) = [At.i a, At.i b] from rfl]
    simp [forF, whole_i]
    rfl
  have one : ∀ (s : Str) (a : Int), PyData.canLay0 (.str s) = true → F_law_same (some [.s s, .i a]) (some [.s s, .i a]) = .ok true := fun s a hl => by
    unfold F_law_same
    rw [eq1w hl]
    simp [cutL, forF, whole_i, atI]
    rw [show List.take (HT.sIx 2 2 none - HT.sIx 2 0 (some 1)) (List.drop (HT.sIx 2 0 (some 1)) [At.s s, At.i a]) = [At.i a] from rfl]
    simp [forF, whole_i]
    rfl
  unfold faultOf
  split
  · exact two _ _ _ lay_w.1
  · split
    · exact one _ _ lay_w.2.1
    · split
      · exact one _ _ lay_w.2.2
      · split
        · exact one _ _ lay_w.2.2
        · unfold F_law_same; rfl
theorem checked_ok {d : VL.Dr} (h : SmallD d) : F_checked d = match faultOf d with | some v => .exn ⟨"NotADrawing", some ("fault", (eTL eA) v)⟩ | none => .ok d := by
  have hf := h.f
  have hw := h.w
  have hs := h.s
  unfold F_checked
  rw [fault_ok d (by omega) (by omega)]
  cases faultOf d with
  | some v => rfl
  | none =>
    simp only [Out.bind_ok, noX_ok]
    rw [mapL_pure (by omega)]
    simp
theorem refused_ok {d : VL.Dr} (h : SmallD d) {v : List At} (hv : faultOf d = some v) : F_law_refused d = .ok (true, some v) := by
  unfold F_law_refused
  rw [checked_ok h, hv]
  have hx : xfO decTA "NotADrawing" "fault" (⟨"NotADrawing", some ("fault", (eTL eA) v)⟩ : Exn) = some v := by
    unfold xfO
    rw [if_pos rfl]
    show (if _ then decTA ((eTL eA) v) else none) = some v
    rw [if_pos rfl]
    exact DecE.id (e := eTL eA) v
  have hfl : fldB (⟨"NotADrawing", some ("fault", (eTL eA) v)⟩ : Exn) = true := by
    have : ∀ as : List At, flatAll (as.map eA) = true := fun as => by
      induction as with
      | nil => rfl
      | cons a as ih => rw [List.map_cons]; unfold flatAll; rw [ih]; cases a <;> rfl
    exact this v
  have ht : ∀ {β : Type} (l : List Str) (g : Exn → Out β) (x : Exn), l.contains x.cls = true → fldB x = true → tryFO (.exn x) l g = noX (g x) := fun l g x a b => by
    unfold tryFO
    simp only [a, b, if_true]
  simp only [Out.bind_exn]
  rw [ht _ _ _ (by simp) hfl]
  rw [hx]
  rfl
theorem is_dr (d : VL.Dr) : F_law_is_drawing d = .ok true := by
  unfold F_law_is_drawing
  have a : ∀ w : List Int, forF (fun (V457 : Unit) (one_ : Int) => (((F_law_is_whole (.i one_)).bind fun t1 => .ok (!t1)).bind fun p => if p = true then (Out.ok (Fl.ret false)) else (Out.ok (Fl.nxt ())))) () w = .ok (.nxt ()) := fun w => by
    induction w with
    | nil => rfl
    | cons x w ih => rw [forF, whole_i]; simpa using ih
  have b : ∀ ws : List (List Int), forF (fun (V455 : Unit) (walk_ : (List Int)) => ((forF (fun (V457 : Unit) (one_ : Int) => (((F_law_is_whole (.i one_)).bind fun t1 => .ok (!t1)).bind fun p => if p = true then (Out.ok (Fl.ret false)) else (Out.ok (Fl.nxt ())))) () walk_).bind (flowF fun (V457 : Unit) => (Out.ok (Fl.nxt ()))))) () ws = .ok (.nxt ()) := fun ws => by
    induction ws with
    | nil => rfl
    | cons x w ih => rw [forF, a]; simpa using ih
  have c : ∀ s : List (Int × Int), forF (fun (V458 : Unit) (entry_ : (Int × Int)) => (if (!decide (2 = 2)) = true then (Out.ok (Fl.ret false)) else ((((F_law_is_whole (.i entry_.1)).bind fun t1 => .ok (!t1)).bind fun p => if p = true then .ok true else ((F_law_is_whole (.i entry_.2)).bind fun t1 => .ok (!t1))).bind fun p => if p = true then (Out.ok (Fl.ret false)) else (Out.ok (Fl.nxt ()))))) () s = .ok (.nxt ()) := fun s => by
    induction s with
    | nil => rfl
    | cons x w ih => rw [forF, whole_i, whole_i]; simpa using ih
  rw [if_neg (by decide), b]
  exact congrArg (fun o : Out (Fl Bool Unit) => o.bind (flowT fun (_ : Unit) => (Out.ok true))) (c d.2)
theorem taken_ok {d : VL.Dr} (h : SmallD d) (hv : faultOf d = none) : F_law_taken d = .ok true := by
  have hf := h.f
  have hw := h.w
  have hs := h.s
  have cd : XD.F_law_copy d = .ok d := copy_ok (by omega)
  have ck : F_checked d = .ok d := by rw [checked_ok h, hv]
  have ap : ∀ {α : Type} (v : List α) (x : α), v.length < 900000 → appO v x = some (v ++ [x]) := fun v x hl => by unfold appO; exact if_pos (by omega)
  unfold F_law_taken
  rw [cd]
  simp only [Out.bind_ok]
  rw [ck]
  simp only [Out.bind_ok, is_dr]
  rw [fault_ok d (by omega) (by omega), hv]
  simp only [Out.bind_ok, Bool.not_true, if_false, decide_true, Bool.or_false, Bool.false_eq_true]
  rw [ap d.1 [7] (by omega)]
  simp only [lift_some, Out.bind_ok]
  have h0 : atI (d.1 ++ [[7]]) 0 = some ((d.1 ++ [[7]])[0]'(by simp)) := VL.atI_nat' (i := 0) (List.getElem?_eq_getElem (by simp))
  have l0 : ((d.1 ++ [[7]])[0]'(by simp)).length < 900000 := by
    have hm : ((d.1 ++ [[7]])[0]'(by simp)) ∈ d.1 ++ [[7]] := List.getElem_mem _
    generalize ((d.1 ++ [[7]])[0]'(by simp)) = w at hm
    have fl : ∀ (ws : List (List Int)), w ∈ ws → w.length ≤ ws.flatten.length := fun ws => by
      induction ws with
      | nil => intro e; cases e
      | cons a ws ih =>
        intro e
        rw [List.flatten_cons, List.length_append]
        rcases List.mem_cons.mp e with e | e
        · subst e; omega
        · have := ih e; omega
    have := fl _ hm
    simp at this
    simp at hf
    omega
  rw [h0, ap d.1 [] (by omega)]
  simp only [lift_some, Out.bind_ok]
  rw [ap _ (5 : Int) l0]
  split <;> simp
local macro_rules | `(tactic| sleep 12) => `(tactic| simp only [Out.bind_ok, Out.bind_exn, noX_ok, lift_some, flowT_ret, flowT_nxt, flowF_ret, flowF_nxt, sat_bind, sat_ok, sat_exn, sat_noX, eta2, Out.bind_id, decide_true, decide_false, Bool.false_eq_true, if_false, if_true, eq_self, Bool.not_true, Bool.not_false])
def Sm (n : Nat) (d : VL.Dr) : Prop := d.1.flatten.length < n ∧ d.1.length < n ∧ d.2.length < n ∧ ∀ p ∈ d.2, p.2.natAbs < 1000
theorem Sm.small {n : Nat} {d : VL.Dr} (h : Sm n d) (hn : n ≤ 300000) : SmallD d := ⟨by have := h.1; omega, by have := h.2.1; omega, by have := h.2.2.1; omega, h.2.2.2⟩
theorem Sm.mono {n m : Nat} {d : VL.Dr} (h : Sm n d) (hn : n ≤ m) : Sm m d := ⟨by have := h.1; omega, by have := h.2.1; omega, by have := h.2.2.1; omega, h.2.2.2⟩
theorem s_ins {α : Type} {X : Exn → Prop} {xs : List α} {i : Int} {v : α} {Q : List α → Prop} (h0 : 0 ≤ i) (h1 : i < 2 ^ 62) (h2 : xs.length < 1000000) (q : Q (insL xs i.toNat v)) : Sat (lift (insO xs i v)) Q X := sat_lift.mpr ⟨_, insO_ok h0 h1 h2, q⟩
theorem mem_insL {α : Type} {xs : List α} {i : Nat} {v y : α} (h : y ∈ insL xs i v) : y = v ∨ y ∈ xs := by
  unfold insL at h
  rcases List.mem_append.mp h with h | h
  · rcases List.mem_append.mp h with h | h
    · exact .inr (List.mem_of_mem_take h)
    · exact .inl (by simpa using h)
  · exact .inr (List.mem_of_mem_drop h)
theorem len_insL {α : Type} (xs : List α) (i : Nat) (v : α) : (insL xs i v).length = xs.length + 1 := by
  unfold insL
  simp only [List.length_append, List.length_take, List.length_drop, List.length_cons, List.length_nil]
  omega
theorem spoilt_sign_ok {n : Nat} {d : VL.Dr} {a b c x e f : Int} (h : Sm n d) (hn : n ≤ 1000) (hx : 0 ≤ x) (he : 0 ≤ e) : Sat (F_law_spoilt_sign d [a, b, c, x, e, f]) (Sm (n + 1)) (fun _ => False) := by
  obtain ⟨ws, s⟩ := d
  obtain ⟨hf, hw, hs, hq⟩ := h
  simp only at hf hw hs hq
  have fin : ∀ r : List (Int × Int), r.length ≤ s.length + 1 → (∀ p ∈ r, p.2.natAbs < 1000) → Sm (n + 1) (ws, r) := fun r h1 h2 => ⟨by show ws.flatten.length < n + 1; omega, by show ws.length < n + 1; omega, by show r.length < n + 1; omega, h2⟩
  have a1 : atI [a, b, c, x, e, f] 1 = some b := VL.atI_nat' (i := 1) rfl
  have a3 : atI [a, b, c, x, e, f] 3 = some x := VL.atI_nat' (i := 3) rfl
  have a4 : atI [a, b, c, x, e, f] 4 = some e := VL.atI_nat' (i := 4) rfl
  unfold F_law_spoilt_sign
  rw [copy_ok (by show ws.length ≤ _; omega)]
  simp only [Out.bind_ok, a1, a3, a4, lift_some]
  by_cases z1 : ((s.length : Nat) : Int) = 0 ∨ b = 0
  · have : (if decide ((s.length : Int) = 0) = true then Out.ok true else Out.ok (decide (b = 0))) = Out.ok true := by
      rcases z1 with z | z
      · rw [z]; rfl
      · rw [z]; split <;> rfl
    rw [this]
    sleep 12
    refine s_cat (by simp only [List.length_cons, List.length_nil]; omega) (fin _ (by simp) fun p hp => ?_)
    rcases List.mem_append.mp hp with hp | hp
    · exact hq p hp
    · rw [List.mem_singleton.mp hp]
      show (1 : Int).natAbs < 1000
      decide
  have zl : 0 < s.length := by
    have : ¬ ((s.length : Nat) : Int) = 0 := fun h => z1 (.inl h)
    omega
  have zb : ¬ b = 0 := fun h => z1 (.inr h)
  have : (if decide ((s.length : Int) = 0) = true then Out.ok true else Out.ok (decide (b = 0))) = Out.ok false := by
    have z : ¬ ((s.length : Nat) : Int) = 0 := fun h => z1 (.inl h)
    rw [decide_eq_false z, decide_eq_false zb]; rfl
  rw [this]
  sleep 12
  refine s_modB (by omega) fun j hj hj0 hj1 => ?_
  refine s_at hj0 hj1 fun p hp => ?_
  have hpm : p ∈ s := List.mem_of_getElem? hp
  have hp2 := hq p hpm
  refine s_ite (fun z => ?_) fun z => ?_
  · sleep 12
    refine s_pop hj0 hj1 (by omega) fun y hy => ?_
    exact fin _ (by have := List.length_eraseIdx_le s j.toNat; simpa using by omega) fun q hq' => hq q (List.mem_of_mem_eraseIdx hq')
  sleep 12
  refine s_ite (fun z => ?_) fun z => ?_
  · sleep 12
    refine s_ins hj0 (by omega) (by omega) (fin _ (by rw [len_insL]; omega) fun q hq' => ?_)
    rcases mem_insL hq' with e | e
    · rw [e]; exact hp2
    · exact hq q e
  sleep 12
  refine s_ite (fun z => ?_) fun z => ?_
  · sleep 12
    refine s_pop hj0 hj1 (by omega) fun y hy => ?_
    have hle := List.length_eraseIdx_le s j.toNat
    refine s_ins (by omega) (by omega) (by simp only; omega) (fin _ (by rw [len_insL]; simp only; omega) fun q hq' => ?_)
    rcases mem_insL hq' with e | e
    · rw [e]; exact hp2
    · exact hq q (List.mem_of_mem_eraseIdx e)
  sleep 12
  refine s_ite (fun z => ?_) fun z => ?_
  · sleep 12
    have : ∀ e : Int, 0 ≤ e → e < 3 → ∃ v : Int, atI [0, 2, -3] e = some v ∧ v.natAbs < 1000 := fun e h0 h1 => by
      have : e = 0 ∨ e = 1 ∨ e = 2 := by omega
      rcases this with rfl | rfl | rfl
      · exact ⟨0, VL.atI_nat' (i := 0) rfl, by decide⟩
      · exact ⟨2, VL.atI_nat' (i := 1) rfl, by decide⟩
      · exact ⟨-3, VL.atI_nat' (i := 2) rfl, by decide⟩
    obtain ⟨v, hv, hv2⟩ := this (e % 3) (by omega) (by omega)
    refine s_atE hv ?_
    refine s_set hj0 hj1 (fin _ (by simp) fun q hq' => ?_)
    rcases List.mem_or_eq_of_mem_set hq' with e | e
    · exact hq q e
    · rw [e]; exact hv2
  sleep 12
  refine s_ite (fun z => ?_) fun z => ?_
  · sleep 12
    refine s_set hj0 hj1 (fin _ (by simp) fun q hq' => ?_)
    rcases List.mem_or_eq_of_mem_set hq' with e | e
    · exact hq q e
    · rw [e]; exact hp2
  sleep 12
  refine s_modB (by omega) fun j' hj' hj0' hj1' => ?_
  refine s_at hj0' hj1' fun p' hp' => ?_
  refine s_set hj0 hj1 (fin _ (by simp) fun q hq' => ?_)
  rcases List.mem_or_eq_of_mem_set hq' with e | e
  · exact hq q e
  · rw [e]; exact hp2
theorem other_passage_ok {ws : List (List Int)} {one a b c x e f : Int} (h0 : 0 < ws.flatten.length) (h1 : ws.flatten.length < 10000) (he : 0 ≤ e) : Sat (F_law_other_passage ws one [a, b, c, x, e, f]) (fun _ => True) (fun _ => False) := by
  have a0 : atI [a, b, c, x, e, f] 0 = some a := VL.atI_nat' (i := 0) rfl
  have a4 : atI [a, b, c, x, e, f] 4 = some e := VL.atI_nat' (i := 4) rfl
  have er := ext_run ws [] (by simp only [List.length_nil]; omega)
  unfold F_law_other_passage
  simp only [Out.bind_ok, a0, a4, lift_some] at er ⊢
  rw [er]
  sleep 12
  refine s_ite (fun z => trivial) fun z => ?_
  refine s_ite (fun z => trivial) fun z => ?_
  refine s_ite (fun z => ?_) fun z => ?_
  · sleep 12
    refine s_modB (by rw [List.nil_append]; omega) fun j' hj' hj0' hj1' => ?_
    exact s_at hj0' hj1' fun p' hp' => trivial
  · sleep 12
    refine s_mulS (.inr ?_) trivial
    have : 0 ≤ e % 2 ∧ e % 2 < 2 := by omega
    omega
theorem flat_set {ws : List (List Int)} {i : Nat} {w : List Int} (h : ws[i]? = some w) (y : List Int) : (ws.set i y).flatten.length + w.length = ws.flatten.length + y.length := by
  induction ws generalizing i with
  | nil => simp at h
  | cons a ws ih =>
    cases i with
    | zero =>
      simp only [List.getElem?_cons_zero, Option.some.injEq] at h
      subst h
      simp only [List.set_cons_zero, List.flatten_cons, List.length_append]
      omega
    | succ i =>
      have := ih (by simpa using h)
      simp only [List.set_cons_succ, List.flatten_cons, List.length_append]
      omega
theorem len_le_flat {ws : List (List Int)} {w : List Int} (h : w ∈ ws) : w.length ≤ ws.flatten.length := by
  induction ws with
  | nil => cases h
  | cons a ws ih =>
    rw [List.flatten_cons, List.length_append]
    rcases List.mem_cons.mp h with e | e
    · subst e; omega
    · have := ih e; omega
theorem spoilt_walk_ok {n : Nat} {d : VL.Dr} {a b c x e f : Int} (h : Sm n d) (hn : n ≤ 1000) (hc : 0 ≤ c) (hx : 0 ≤ x) (he : 0 ≤ e) : Sat (F_law_spoilt_walk d [a, b, c, x, e, f]) (Sm (n + 3)) (fun _ => False) := by
  obtain ⟨ws, s⟩ := d
  obtain ⟨hf, hw, hs, hq⟩ := h
  simp only at hf hw hs hq
  have a0 : atI [a, b, c, x, e, f] 0 = some a := VL.atI_nat' (i := 0) rfl
  have a2 : atI [a, b, c, x, e, f] 2 = some c := VL.atI_nat' (i := 2) rfl
  have a3 : atI [a, b, c, x, e, f] 3 = some x := VL.atI_nat' (i := 3) rfl
  have a4 : atI [a, b, c, x, e, f] 4 = some e := VL.atI_nat' (i := 4) rfl
  unfold F_law_spoilt_walk
  rw [copy_ok (by show ws.length ≤ _; omega)]
  simp only [Out.bind_ok, a0, a2, a3, a4, lift_some]
  sleep 11
  refine s_fmapR (q := fun k : Int => decide (0 < ((ws[k.toNat]?).getD []).length)) (g := fun k : Int => k) ws.length rfl (by omega) (fun k hk => ?_) (fun _ _ _ => rfl) ?_
  · have e : ws[k]? = some (ws[k]'hk) := List.getElem?_eq_getElem hk
    rw [VL.atI_nat' e]
    sleep 11
    rw [Int.toNat_natCast, e, Option.getD_some]
    congr 1
    exact decide_eq_decide.mpr (by omega)
  generalize hh : List.map _ (List.filter _ (List.range ws.length)) = held
  have hhp : ∀ z ∈ held, ∃ k : Nat, z = (k : Int) ∧ ∃ w, ws[k]? = some w ∧ 0 < w.length := fun z hz => by
    rw [← hh] at hz
    obtain ⟨k, hk, rfl⟩ := List.mem_map.mp hz
    obtain ⟨hk, hk2⟩ := List.mem_filter.mp hk
    rw [List.mem_range] at hk
    have e : ws[k]? = some (ws[k]'hk) := List.getElem?_eq_getElem hk
    refine ⟨k, rfl, _, e, ?_⟩
    rw [Int.toNat_natCast, e, Option.getD_some] at hk2
    exact of_decide_eq_true hk2
  clear hh
  refine s_ite (fun z => ?_) fun z => ?_
  · sleep 11
    refine s_cat (by simp only [List.length_cons, List.length_nil]; omega) ⟨?_, ?_, ?_, hq⟩
    · show (ws ++ [[e]]).flatten.length < n + 3
      rw [List.flatten_append, List.length_append]
      show _ + 1 < _
      omega
    · show (ws ++ [[e]]).length < n + 3
      rw [List.length_append]
      show _ + 1 < _
      omega
    · show s.length < n + 3
      omega
  sleep 11
  refine s_modB (by omega) fun j hj hj0 hj1 => ?_
  refine s_at hj0 hj1 fun z hz => ?_
  obtain ⟨k, rfl, w, hwk, hwl⟩ := hhp z (List.mem_of_getElem? hz)
  refine s_atE (VL.atI_nat' hwk) ?_
  have hkl : k < ws.length := (List.getElem?_eq_some_iff.mp hwk).1
  have hset : ∀ y, setI ws (k : Int) y = ws.set k y := fun y => by
    rw [setI_ok (by omega) (by omega), Int.toNat_natCast]
  have hwf := len_le_flat (List.mem_of_getElem? hwk)
  simp only [hset]
  sleep 11
  have fin : ∀ y : List Int, y.length ≤ w.length + 2 → Sm (n + 3) (ws.set k y, s) := fun y hy => by
    have := flat_set hwk y
    refine ⟨?_, ?_, ?_, hq⟩
    · show (ws.set k y).flatten.length < n + 3
      omega
    · show (ws.set k y).length < n + 3
      rw [List.length_set]; omega
    · show s.length < n + 3
      omega
  refine s_modB (by omega) fun t ht ht0 ht1 => ?_
  refine s_ite (fun z => ?_) fun z => ?_
  · sleep 11
    refine s_at ht0 ht1 fun p hp => ?_
    have := flat_set hwk w
    refine s_F (other_passage_ok (by omega) (by omega) he) fun v _ => ?_
    refine s_set ht0 ht1 (fin _ ?_)
    rw [List.length_set]; omega
  sleep 11
  refine s_ite (fun z => ?_) fun z => ?_
  · sleep 11
    refine s_pop ht0 ht1 (by omega) fun y hy => fin _ ?_
    have := List.length_eraseIdx_le w t.toNat
    simp only
    omega
  sleep 11
  refine s_ite (fun z => ?_) fun z => ?_
  · sleep 11
    refine s_at ht0 ht1 fun p hp => ?_
    refine s_ins ht0 (by omega) (by omega) (fin _ ?_)
    rw [len_insL]; omega
  sleep 11
  refine s_ins ht0 (by omega) (by omega) ?_
  have hl := len_insL w t.toNat ((10 ^ ((6 : Int).toNat) : Int) + e)
  refine s_modB (by omega) fun t' ht' ht0' ht1' => ?_
  refine s_ins ht0' (by omega) (by omega) (fin _ ?_)
  rw [len_insL]; omega
theorem large_ok {a b c : Int} (ha0 : 0 ≤ a) (ha : a < 5) (hb0 : 0 ≤ b) (hb : b < 8) : Sat (F_law_large [a, b, c]) (Sm 200) (fun _ => False) := by
  have a0 : atI [a, b, c] 0 = some a := VL.atI_nat' (i := 0) rfl
  have a1 : atI [a, b, c] 1 = some b := VL.atI_nat' (i := 1) rfl
  have a2 : atI [a, b, c] 2 = some c := VL.atI_nat' (i := 2) rfl
  unfold F_law_large
  simp only [Out.bind_ok, a0, a1, a2, lift_some]
  sleep 11
  refine s_F (P := fun m => 0 ≤ m ∧ m < 43) ?_ fun m hm => ?_
  · refine s_ite (fun _ => ?_) fun _ => ?_
    · exact ⟨ha0, by omega⟩
    · exact ⟨by omega, by omega⟩
  refine s_F (P := fun m => 0 ≤ m ∧ m < 20) ?_ fun g hg => ?_
  · refine s_ite (fun _ => ?_) fun _ => ?_
    · exact ⟨by omega, by omega⟩
    · exact ⟨by omega, by omega⟩
  have hr : 0 < 1 + b % 4 := by omega
  have hr2 : 1 + b % 4 ≤ 4 := by omega
  generalize 1 + b % 4 = rings at *
  refine s_mapR (g := fun _ => []) (rings + g).toNat (by omega) (by omega) (fun _ _ => rfl) ?_
  have hlen : ((List.range (rings + g).toNat).map fun k : Nat => ([] : List Int)).length = (rings + g).toNat := by simp
  have hfl : ((List.range (rings + g).toNat).map fun k : Nat => ([] : List Int)).flatten.length = 0 := by
    generalize List.range (rings + g).toNat = l
    induction l with
    | nil => rfl
    | cons x l ih => simpa using ih
  generalize (List.range (rings + g).toNat).map (fun k : Nat => ([] : List Int)) = ws0 at *
  refine s_for m.toNat (by omega) (by omega) (fun k s => s.1.length = (rings + g).toNat ∧ s.1.flatten.length = 2 * k ∧ s.2.length = k ∧ ∀ p ∈ s.2, p.2.natAbs < 1000) ⟨hlen, by simpa using hfl, rfl, fun p hp => nomatch hp⟩ (fun k s hk hi => ?_) fun s hi => ?_
  · obtain ⟨ws, sg⟩ := s
    obtain ⟨i1, i2, i3, i4⟩ := hi
    simp only at i1 i2 i3 i4
    sleep 11
    refine s_modB hr fun j hj hj0 hj1 => ?_
    refine s_at hj0 (by omega) fun w hw => ?_
    have wl := len_le_flat (List.mem_of_getElem? hw)
    refine s_app (by omega) ?_
    rw [setI_ok hj0 (by omega)]
    have f1 := flat_set hw (w ++ [(k : Int) + 1])
    have l1 : (ws.set j.toNat (w ++ [(k : Int) + 1])).length = ws.length := List.length_set ..
    rw [List.length_append, List.length_singleton] at f1
    generalize ws.set j.toNat (w ++ [(k : Int) + 1]) = ws1 at *
    refine s_mulS (.inl (by omega)) ?_
    refine s_modB hr fun j' hj' hj0' hj1' => ?_
    refine s_at hj0' (by omega) fun w' hw' => ?_
    have wl' := len_le_flat (List.mem_of_getElem? hw')
    refine s_app (by omega) ?_
    rw [setI_ok hj0' (by omega)]
    have f2 := flat_set hw' (w' ++ [-(k : Int) - 1])
    have l2 : (ws1.set j'.toNat (w' ++ [-(k : Int) - 1])).length = ws1.length := List.length_set ..
    rw [List.length_append, List.length_singleton] at f2
    generalize ws1.set j'.toNat (w' ++ [-(k : Int) - 1]) = ws2 at *
    refine s_app (by omega) ⟨by show ws2.length = _; omega, by show ws2.flatten.length = _; omega, by show (sg ++ _).length = _; rw [List.length_append, List.length_singleton]; omega, fun p hp => ?_⟩
    rcases List.mem_append.mp hp with hp | hp
    · exact i4 p hp
    · rw [List.mem_singleton.mp hp]
      show (1 - 2 * ((k : Int) % 2)).natAbs < 1000
      omega
  · obtain ⟨i1, i2, i3, i4⟩ := hi
    exact ⟨by omega, by omega, by omega, i4⟩
theorem rowC {s : Int} {sz xs : List Int} (h : RowIn (s :: sz) xs) : ∃ x r, xs = x :: r ∧ 0 ≤ x ∧ x < s ∧ RowIn sz r := by
  cases xs with
  | nil => exact h.elim
  | cons x r => exact ⟨x, r, rfl, h.1.1, h.1.2, h.2⟩
theorem dr_sm {m : Nat} {d : VL.Dr} (h : DrS m d) (hm : m ≤ 40) : Sm 200 d := by
  have hp := h.perm.length_eq
  rw [both_len, List.length_map] at hp
  have := h.wl
  have := h.sl
  refine ⟨by omega, by omega, by omega, fun p hp => ?_⟩
  have := (h.pos p hp).2
  omega
theorem law_ok (ns : List Int) (hl : ns.length ≤ 63) (hb : ∀ z ∈ ns, Builtin.Int.intBits z ≤ 1048576) : Sat (F_law ns) (fun b => b = true) fun _ => False := by
  have er : repO ([7, 7, 40, 90, 40, 2] : List Int) 2 = some [7, 7, 40, 90, 40, 2, 7, 7, 40, 90, 40, 2] := by unfold repO; rfl
  have ec : catO ([4, 3] : List Int) [7, 7, 40, 90, 40, 2, 7, 7, 40, 90, 40, 2] = some [4, 3, 7, 7, 40, 90, 40, 2, 7, 7, 40, 90, 40, 2] := by unfold catO; rfl
  unfold F_law
  simp only [er, ec, Out.bind_ok, lift_some]
  sleep 11
  refine s_F (drawn_ok (most := 10) (by decide) (by decide)) fun d0 hd0 => ?_
  refine s_F (row_ok (by decide) (by decide) (by decide)) fun g hg => ?_
  obtain ⟨s0, g, rfl, b0, c0, hg⟩ := rowC hg
  obtain ⟨s1, g, rfl, b1, c1, hg⟩ := rowC hg
  obtain ⟨s2, g, rfl, b2, c2, hg⟩ := rowC hg
  obtain ⟨s3, g, rfl, b3, c3, hg⟩ := rowC hg
  obtain ⟨s4, g, rfl, b4, c4, hg⟩ := rowC hg
  obtain ⟨s5, g, rfl, b5, c5, hg⟩ := rowC hg
  obtain ⟨s6, g, rfl, b6, c6, hg⟩ := rowC hg
  obtain ⟨s7, g, rfl, b7, c7, hg⟩ := rowC hg
  obtain ⟨s8, g, rfl, b8, c8, hg⟩ := rowC hg
  obtain ⟨s9, g, rfl, b9, c9, hg⟩ := rowC hg
  obtain ⟨s10, g, rfl, b10, c10, hg⟩ := rowC hg
  obtain ⟨s11, g, rfl, b11, c11, hg⟩ := rowC hg
  obtain ⟨s12, g, rfl, b12, c12, hg⟩ := rowC hg
  obtain ⟨s13, g, rfl, b13, c13, hg⟩ := rowC hg
  have hg0 : g = [] := by cases g with | nil => rfl | cons _ _ => exact hg.elim
  subst hg0
  rw [show atI [s0, s1, s2, s3, s4, s5, s6, s7, s8, s9, s10, s11, s12, s13] 0 = some s0 from VL.atI_nat' (i := 0) rfl, show atI [s0, s1, s2, s3, s4, s5, s6, s7, s8, s9, s10, s11, s12, s13] 1 = some s1 from VL.atI_nat' (i := 1) rfl]
  sleep 11
  refine s_F (P := Sm 200) ?_ fun d hd => ?_
  · refine s_ite (fun _ => ?_) fun _ => ?_
    · sleep 11
      refine s_F (row_ok (by decide) (by decide) (by decide)) fun q hq => ?_
      obtain ⟨t0, q, rfl, k0, l0, hq⟩ := rowC hq
      obtain ⟨t1, q, rfl, k1, l1, hq⟩ := rowC hq
      obtain ⟨t2, q, rfl, k2, l2, hq⟩ := rowC hq
      have hq0 : q = [] := by cases q with | nil => rfl | cons _ _ => exact hq.elim
      subst hq0
      exact large_ok k0 l0 k1 l1
    · sleep 11
      exact dr_sm hd0 (by decide)
  rw [copy_ok (by have := hd.2.1; omega)]
  sleep 11
  have c1 : cutL [s0, s1, s2, s3, s4, s5, s6, s7, s8, s9, s10, s11, s12, s13] (some (6 * ((0 : Nat) : Int) + 2)) (some (6 * ((0 : Nat) : Int) + 8)) = [s2, s3, s4, s5, s6, s7] := rfl
  have c2 : cutL [s0, s1, s2, s3, s4, s5, s6, s7, s8, s9, s10, s11, s12, s13] (some (6 * ((1 : Nat) : Int) + 2)) (some (6 * ((1 : Nat) : Int) + 8)) = [s8, s9, s10, s11, s12, s13] := rfl
  refine s_for s1.toNat (by omega) (by omega) (fun k s => Sm (200 + 3 * k) s) hd (fun k s hk hi => ?_) fun e he => ?_
  · have pick : ∀ a b c x e f : Int, 0 ≤ c → 0 ≤ x → 0 ≤ e → Sat (if decide (f = 0) = true then F_law_spoilt_sign s [a, b, c, x, e, f] else F_law_spoilt_walk s [a, b, c, x, e, f]) (Sm (200 + 3 * (k + 1))) (fun _ => False) := fun a b c x e f hc hx he => by
      refine s_ite (fun _ => ?_) fun _ => ?_
      · exact (spoilt_sign_ok hi (by omega) hx he).mono (fun _ h => h.mono (by omega)) fun _ h => h
      · exact (spoilt_walk_ok hi (by omega) hc hx he).mono (fun _ h => h.mono (by omega)) fun _ h => h
    have : k = 0 ∨ k = 1 := by omega
    rcases this with rfl | rfl
    · rw [c1, show atI [s2, s3, s4, s5, s6, s7] 5 = some s7 from VL.atI_nat' (i := 5) rfl]
      have := pick s2 s3 s4 s5 s6 s7 b4 b5 b6
      sleep 11
      exact this
    · rw [c2, show atI [s8, s9, s10, s11, s12, s13] 5 = some s13 from VL.atI_nat' (i := 5) rfl]
      have := pick s8 s9 s10 s11 s12 s13 b10 b11 b12
      sleep 11
      exact this
  have he' : SmallD e := he.small (by omega)
  have hd' : SmallD d := hd.small (by omega)
  rw [due_ok he']
  sleep 11
  rw [copy_ok (by have := he'.w; omega)]
  sleep 11
  rw [fault_ok e (by have := he'.f; omega) (by have := he'.s; omega)]
  sleep 11
  rw [same_ok]
  sleep 12
  cases hv : faultOf e with
  | none =>
    simp only [Option.isNone_none, if_true]
    rw [taken_ok he' hv]
    sleep 11
  | some v =>
    simp only [Option.isNone_some, Bool.false_eq_true, if_false]
    rw [refused_ok he' hv]
    have sm := same_ok e
    rw [hv] at sm
    sleep 12
    rw [sm]
    sleep 12
    rw [due_ok hd']
    sleep 12
    cases hv2 : faultOf d with
    | none =>
      simp only [Option.isNone_none, Bool.not_true, Bool.false_eq_true, if_false]
      rw [taken_ok hd' hv2]
      sleep 11
    | some v => 
      simp only [Option.isNone_some, Bool.not_false, if_true]
      sleep 11
end LK11
set_option maxRecDepth 100000
set_option maxHeartbeats 4000000
namespace LK11
open PySem PySem.Spec PyProof.Rows L2 VL
def topS (i : Nat) : Stmt := PySem.Challenge.pw_plait_k11_first_fault.main.body.getD i (.Pass ⟨0, 0, 0, 0⟩)
structure Ev (K : PySem.W.Frag) (mg : Str → Option Value) (cl : Str → Option Addr) : Prop where
  q_NoCrossing : Asked K mg cl "NoCrossing" ["NoCrossing"]
  q_PlaitError : Asked K mg cl "PlaitError" ["PlaitError", "NotADrawing", "NoCrossing", "TooBig"]
  q_TooBig : Asked K mg cl "TooBig" ["TooBig"]
  q_ValueError : AskedB K cl "ValueError" ["PlaitError", "NotADrawing", "NoCrossing", "TooBig"]
  m_ValueError : mg "ValueError" = none
  m_abs : mg "abs" = none
  m_bool : mg "bool" = none
  m_enumerate : mg "enumerate" = none
  m_int : mg "int" = none
  m_isinstance : mg "isinstance" = none
  m_len : mg "len" = none
  m_list : mg "list" = none
  m_max : mg "max" = none
  m_min : mg "min" = none
  m_range : mg "range" = none
  m_str : mg "str" = none
  m_tuple : mg "tuple" = none
  k_NotADrawing : Clause K mg cl "NotADrawing" ["NotADrawing"]
  c_MOST_CROSSINGS : ∃ t, mg "MOST_CROSSINGS" = some (.int 40 t)
  c_MOST_WALKS : ∃ t, mg "MOST_WALKS" = some (.int 12 t)
  n_NotADrawing : NoFld K cl "NotADrawing" "fault"
  t : ExcAll K cl
section
variable {P : Program} {w : World} {K : PySem.W.Frag} {mg : Str → Option Value} {base : Heap} {cl : Str → Option Addr}
abbrev s_law_cell : Stmt := topS 14
abbrev N_law_cell : List Str := ["_law_script", "_law_place", "_law_seed", "_law_cell_here"]
abbrev lv_law_cell : Nat := 1
theorem sc_law_cell : FnScope N_law_cell ["_law_script", "_law_place"] (defScope s_law_cell) := ⟨rfl, rfl, rfl, by decide +kernel, rfl, by decide +kernel, by decide +kernel⟩
def w_law_cell : WS := (wSeq (wIf (wTest (wBin woLt (wVar 1) (wCB wLen (wCons (wVar 0) wNil)))) (wSeq (wRet (wBin wIxS (wMv 0) (wVar 1)))
  wNext) wNext)
  (wSeq (wSet 2 (wC (.int 5)))
  (wSeq (wCut (wFor (tgN 3) (wSl (wVar 0) wNoP (wPt (wC (.int 63))))
  (wSeq (wSet 2 (wBin woMod (wBin woAdd (wBin woAdd (wBin woMul (wVar 2) (wC (.int 48271))) (wBin woMod (wVar 3) (wC (.int 1000003)))) (wC (.int 1))) (wC (.int 2147483647))))
  wNext)))
  (wSeq (wRet (wBin woMod (wBin woAdd (wVar 2) (wBin woMul (wC (.int 7919)) (wVar 1))) (wC (.int 1000003))))
  wNext))))
theorem st_law_cell (x0 x1 : D) : startE N_law_cell [x0, x1] = [argS x0, argS x1, none, none] := rfl
theorem d_law_cell (E : Ev K mg cl)  (f : Addr) (cdv : Value) (A : Around) (outer : List Env) (s : Shared) (H : Hp) (E0 : XK) (P0 : Addr → Prop) (hr : Room 0 (cxV P w K mg base N_law_cell "_law_cell" s_law_cell f cdv A outer s H E0).A) :
    PSs (cxV P w K mg base N_law_cell "_law_cell" s_law_cell f cdv A outer s H E0) (defBody s_law_cell) (rdS (cnOf K cl P0 H) (WXE E0) w_law_cell) := by
  have nd := sc_law_cell.nd
  exact (vss_cons (vs_if (vt_c c_lt (ve_var 1) (ve_len1 E.m_len (va_cons (ve_var 0) va_nil))) (vss_cons (vs_ret (ve_ixS (ve_mv 0) (ve_var 1)))
  vss_nil) vss_nil)
  (vss_cons (vs_set (i := 2) ve_int nd)
  (vss_cons (vs_cut (vs_for (passes_of rfl) rfl (ve_slice (ve_var 0) vo_none (vo_some ve_int)) (tg_name nd)
  (fun _ => (vss_cons (vs_set (i := 2) (ve_mod (ve_add (ve_add (ve_mul (ve_var 2) ve_int) (ve_mod (ve_var 3) ve_int)) ve_int) ve_int) nd)
  vss_nil))))
  (vss_cons (vs_ret (ve_mod (ve_add (ve_var 2) (ve_mul ve_int (ve_var 1))) ve_int))
  vss_nil))))
theorem b_law_cell (kV doc pm : Value) (an : Option Addr) (cdv ct : Value) (us : List Value) (h : us.length = 2) : bindArgs (PySem.W.fnOf "_law_cell" "_law_cell" (defArgs s_law_cell) (defBody s_law_cell) (defScope s_law_cell) .none kV doc pm an cdv ct) ⟨us, []⟩ = pure ((["_law_script", "_law_place"] : List Str).zip us) := match us, h with | [_, _], _ => rfl
theorem spec_law_cell : ∀ ds Qv Xv, XD.sp_law_cell ds Qv Xv → ds.length = 2 ∧ w_law_cell (startE N_law_cell ds) ⟨fun _ => Qv ⟨.none, mA⟩, fun r _ => Qv r, fun ex _ => Xv ex⟩ := by
  rintro ds Qv Xv ⟨script_, place_, rfl, h⟩
  refine ⟨rfl, ?_⟩
  have he : startE N_law_cell [eScr script_, eI place_] = [some (eScr script_, mS), some (eI place_, mA), none, none] := by
    rw [st_law_cell]
    try simp only [argS_F, argS_N]
  rw [he]
  have hr : RB (fun _ => True) w_law_cell [some (eScr script_, mS), some (eI place_, mA), none, none] (XD.F_law_cell script_ place_) (KT eI mA) := by
    unfold XD.F_law_cell w_law_cell
    exact (rs_ifRP kt_kt (rt_eq (rt_val (re_2P xo_lt (re_vF 1 eI (place_)) (re_cbP ((script_.length : Int)) (ra_consP (re_vS 0 eScr (script_)) ra_nil) (len_Scr (script_)))))) (rb_retI (re_eq (re_2Q xo_ixS (re_mO 0 eScr (script_)) (re_vF 1 eI (place_))))) (rs_set (re_eq (re_c (.int 5) eI (5))) (fun seed_ => [some (eScr (script_), mS), some (eI (place_), mA), some (eI (seed_), mA), none]) (fun seed_ => (rs_seqN (s := (fun (V3 : Int) => [some (eScr (script_), mS), some (eI (place_), mA), some (eI (V3), mA), none])) (rb_forP (s := (fun (V3 : Int) => [some (eScr (script_), mS), some (eI (place_), mA), some (eI (V3), mA), none])) (a := eI) seed_ (re_eq (re_slScr (re_vS 0 eScr (script_)) ro_no (ro_ptP (re_c (.int 63) eI (63))))) (el_c sl_o (el_c sl_o (el_c sl_o (el_c sl_n el_nil)))) (fun V3 cell_here_ => [some (eScr (script_), mS), some (eI (place_), mA), some (eI (V3), mA), some (eI (cell_here_), mA)]) (fun V3 cell_here_ => (rs_set (re_eq (re_modC 2147483647 (re_2P xo_add (re_2P xo_add (re_mulR 48271 (re_vF 2 eI (V3)) (re_c (.int 48271) eI (48271))) (re_modC 1000003 (re_vF 3 eI (cell_here_)) (re_c (.int 1000003) eI (1000003)))) (re_c (.int 1) eI (1))) (re_c (.int 2147483647) eI (2147483647)))) (fun seed_ => [some (eScr (script_), mS), some (eI (place_), mA), some (eI (seed_), mA), some (eI (cell_here_), mA)]) (fun seed_ => (rb_next (V := seed_) (el_c sl_o (el_c sl_o (el_c sl_o (el_c sl_n el_nil))))))))) (fun V3 => (rb_retP' (e := eI) ((V3 + (7919 * place_)) % 1000003) (re_eq (re_modC 1000003 (re_2P xo_add (re_vF 2 eI (V3)) (re_mulL 7919 (re_c (.int 7919) eI (7919)) (re_vF 1 eI (place_)))) (re_c (.int 1000003) eI (1000003))))))))))
  exact of_KT hr h
abbrev s_law_mix : Stmt := topS 15
abbrev N_law_mix : List Str := ["_law_cell_here", "_law_k", "_law_one", "_law_two"]
abbrev lv_law_mix : Nat := 1
theorem sc_law_mix : FnScope N_law_mix ["_law_cell_here", "_law_k"] (defScope s_law_mix) := ⟨rfl, rfl, rfl, by decide +kernel, rfl, by decide +kernel, by decide +kernel⟩
def w_law_mix : WS := (wSeq (wSet 2 (wBin woMod (wBin woPow (wBin woAdd (wBin woAdd (wBin woMod (wVar 0) (wC (.int 2147483629))) (wBin woMul (wC (.int 1013)) (wVar 1))) (wC (.int 7919))) (wC (.int 3))) (wC (.int 2147483647))))
  (wSeq (wSet 3 (wBin woMod (wBin woAdd (wBin woAdd (wBin woMul (wVar 2) (wC (.int 40699))) (wBin woMul (wBin woMul (wC (.int 3793)) (wVar 1)) (wVar 1))) (wC (.int 11))) (wC (.int 2147483399))))
  (wSeq (wRet (wBin woFd (wVar 3) (wC (.int 101))))
  wNext)))
theorem st_law_mix (x0 x1 : D) : startE N_law_mix [x0, x1] = [argS x0, argS x1, none, none] := rfl
theorem d_law_mix (E : Ev K mg cl)  (f : Addr) (cdv : Value) (A : Around) (outer : List Env) (s : Shared) (H : Hp) (E0 : XK) (P0 : Addr → Prop) (hr : Room 0 (cxV P w K mg base N_law_mix "_law_mix" s_law_mix f cdv A outer s H E0).A) :
    PSs (cxV P w K mg base N_law_mix "_law_mix" s_law_mix f cdv A outer s H E0) (defBody s_law_mix) (rdS (cnOf K cl P0 H) (WXE E0) w_law_mix) := by
  have nd := sc_law_mix.nd
  exact (vss_cons (vs_set (i := 2) (ve_mod (ve_pow (ve_add (ve_add (ve_mod (ve_var 0) ve_int) (ve_mul ve_int (ve_var 1))) ve_int) ve_int) ve_int) nd)
  (vss_cons (vs_set (i := 3) (ve_mod (ve_add (ve_add (ve_mul (ve_var 2) ve_int) (ve_mul (ve_mul ve_int (ve_var 1)) (ve_var 1))) ve_int) ve_int) nd)
  (vss_cons (vs_ret (ve_fd (ve_var 3) ve_int))
  vss_nil)))
theorem b_law_mix (kV doc pm : Value) (an : Option Addr) (cdv ct : Value) (us : List Value) (h : us.length = 2) : bindArgs (PySem.W.fnOf "_law_mix" "_law_mix" (defArgs s_law_mix) (defBody s_law_mix) (defScope s_law_mix) .none kV doc pm an cdv ct) ⟨us, []⟩ = pure ((["_law_cell_here", "_law_k"] : List Str).zip us) := match us, h with | [_, _], _ => rfl
theorem spec_law_mix : ∀ ds Qv Xv, XD.sp_law_mix ds Qv Xv → ds.length = 2 ∧ w_law_mix (startE N_law_mix ds) ⟨fun _ => Qv ⟨.none, mA⟩, fun r _ => Qv r, fun ex _ => Xv ex⟩ := by
  rintro ds Qv Xv ⟨cell_here_, k_, rfl, h⟩
  refine ⟨rfl, ?_⟩
  have he : startE N_law_mix [eI cell_here_, eI k_] = [some (eI cell_here_, mA), some (eI k_, mA), none, none] := by
    rw [st_law_mix]
    try simp only [argS_F, argS_N]
  rw [he]
  have hr : RB (fun _ => True) w_law_mix [some (eI cell_here_, mA), some (eI k_, mA), none, none] (XD.F_law_mix cell_here_ k_) (KT eI mA) := by
    unfold XD.F_law_mix w_law_mix
    exact (rs_set (re_eq (re_modCO 2147483647 (re_2Q xo_pow (re_2P xo_add (re_2P xo_add (re_modC 2147483629 (re_vF 0 eI (cell_here_)) (re_c (.int 2147483629) eI (2147483629))) (re_mulL 1013 (re_c (.int 1013) eI (1013)) (re_vF 1 eI (k_)))) (re_c (.int 7919) eI (7919))) (re_c (.int 3) eI (3))) (re_c (.int 2147483647) eI (2147483647)))) (fun one_ => [some (eI (cell_here_), mA), some (eI (k_), mA), some (eI (one_), mA), none]) (fun one_ => (rs_set (re_eq (re_modCO 2147483399 (re_2 (opP_out xo_add) (re_2 (opP_out xo_add) (re_mulR 40699 (re_vF 2 eI (one_)) (re_c (.int 40699) eI (40699))) (re_2Q xo_mul (re_mulL 3793 (re_c (.int 3793) eI (3793)) (re_vF 1 eI (k_))) (re_vF 1 eI (k_)))) (re_c (.int 11) eI (11))) (re_c (.int 2147483399) eI (2147483399)))) (fun two_ => [some (eI (cell_here_), mA), some (eI (k_), mA), some (eI (one_), mA), some (eI (two_), mA)]) (fun two_ => (rb_retP' (e := eI) (two_ / 101) (re_eq (re_fdC 101 (re_vF 3 eI (two_)) (re_c (.int 101) eI (101)))))))))
  exact of_KT hr h
abbrev s_law_row : Stmt := topS 16
abbrev N_law_row : List Str := ["_law_script", "_law_place", "_law_sizes", "_law_cell_here", "_law_left", "_law_some", "_law_k", "_law_other"]
abbrev lv_law_row : Nat := 2
theorem sc_law_row : FnScope N_law_row ["_law_script", "_law_place", "_law_sizes"] (defScope s_law_row) := ⟨rfl, rfl, rfl, by decide +kernel, rfl, by decide +kernel, by decide +kernel⟩
def w_law_row : WS := (wSeq (wSet 3 (wCall XD.sp_law_cell (wCons (wVar 0) (wCons (wVar 1) wNil))))
  (wSeq (wSet 4 (wVar 3))
  (wSeq (wSet 5 (wCB wLst wNil))
  (wSeq (wCut (wForR 1 6 (wCons (wCB wLen (wCons (wVar 2) wNil)) wNil)
  (wSeq (wCut (wIf (wTest (wBin woLt (wVar 3) (wBin woPow (wC (.int 10)) (wC (.int 18))))) (wSeq (wApp (wPVar 5) (wBin woMod (wCall XD.sp_law_mix (wCons (wVar 3) (wCons (wVar 6) wNil))) (wBin wIx (wVar 2) (wVar 6))))
  wNext) (wSeq (wCut (wIf (wTest (wBin woGt (wVar 4) (wC (.int 0)))) (wSeq (wApp (wPVar 5) (wBin woMod (wVar 4) (wBin wIx (wVar 2) (wVar 6))))
  (wSeq (wSet 4 (wBin woFd (wVar 4) (wBin wIx (wVar 2) (wVar 6))))
  wNext)) (wSeq (wSet 7 (wCall XD.sp_law_cell (wCons (wVar 0) (wCons (wBin woMod (wBin woAdd (wBin woAdd (wVar 1) (wC (.int 1))) (wVar 6)) (wC (.int 63))) wNil))))
  (wSeq (wApp (wPVar 5) (wBin woMod (wCall XD.sp_law_mix (wCons (wMv 7) (wCons (wVar 6) wNil))) (wBin wIx (wVar 2) (wVar 6))))
  wNext))))
  wNext)))
  wNext)))
  (wSeq (wRet (wMv 5))
  wNext)))))
theorem st_law_row (x0 x1 x2 : D) : startE N_law_row [x0, x1, x2] = [argS x0, argS x1, argS x2, none, none, none, none, none] := rfl
theorem d_law_row (E : Ev K mg cl) (G_law_cell : Def P w K mg base cl "_law_cell" 2 XD.sp_law_cell lv_law_cell) (G_law_mix : Def P w K mg base cl "_law_mix" 2 XD.sp_law_mix lv_law_mix) (f : Addr) (cdv : Value) (A : Around) (outer : List Env) (s : Shared) (H : Hp) (E0 : XK) (P0 : Addr → Prop) (hr : Room 1 (cxV P w K mg base N_law_row "_law_row" s_law_row f cdv A outer s H E0).A) :
    PSs (cxV P w K mg base N_law_row "_law_row" s_law_row f cdv A outer s H E0) (defBody s_law_row) (rdS (cnOf K cl P0 H) (WXE E0) w_law_row) := by
  have nd := sc_law_row.nd
  exact (vss_cons (vs_set (i := 3) (ve_call (k := lv_law_cell) G_law_cell (hr.mono (by decide)) (takes_of rfl rfl rfl rfl) (va_cons (ve_var 0) (va_cons (ve_var 1) va_nil))) nd)
  (vss_cons (vs_set (i := 4) (ve_var 3) nd)
  (vss_cons (vs_set (i := 5) (ve_lst va_nil) nd)
  (vss_cons (vs_cut (vs_forR1 (i := 6) (passes_of rfl) rfl E.m_range (va_cons (ve_len1 E.m_len (va_cons (ve_var 2) va_nil)) va_nil)
  (vss_cons (vs_cut (vs_if (vt_c c_lt (ve_var 3) (ve_pow ve_int ve_int)) (vss_cons (vs_app (vp_var 5) (ve_mod (ve_call (k := lv_law_mix) G_law_mix (hr.mono (by decide)) (takes_of rfl rfl rfl rfl) (va_cons (ve_var 3) (va_cons (ve_var 6) va_nil))) (ve_ix (ve_var 2) (ve_var 6))))
  vss_nil) (vss_cons (vs_cut (vs_if (vt_c c_gt (ve_var 4) ve_int) (vss_cons (vs_app (vp_var 5) (ve_mod (ve_var 4) (ve_ix (ve_var 2) (ve_var 6))))
  (vss_cons (vs_set (i := 4) (ve_fd (ve_var 4) (ve_ix (ve_var 2) (ve_var 6))) nd)
  vss_nil)) (vss_cons (vs_set (i := 7) (ve_call (k := lv_law_cell) G_law_cell (hr.mono (by decide)) (takes_of rfl rfl rfl rfl) (va_cons (ve_var 0) (va_cons (ve_mod (ve_add (ve_add (ve_var 1) ve_int) (ve_var 6)) ve_int) va_nil))) nd)
  (vss_cons (vs_app (vp_var 5) (ve_mod (ve_call (k := lv_law_mix) G_law_mix (hr.mono (by decide)) (takes_of rfl rfl rfl rfl) (va_cons (ve_mv 7) (va_cons (ve_var 6) va_nil))) (ve_ix (ve_var 2) (ve_var 6))))
  vss_nil))))
  vss_nil)))
  vss_nil) nd))
  (vss_cons (vs_ret (ve_mv 5))
  vss_nil)))))
theorem b_law_row (kV doc pm : Value) (an : Option Addr) (cdv ct : Value) (us : List Value) (h : us.length = 3) : bindArgs (PySem.W.fnOf "_law_row" "_law_row" (defArgs s_law_row) (defBody s_law_row) (defScope s_law_row) .none kV doc pm an cdv ct) ⟨us, []⟩ = pure ((["_law_script", "_law_place", "_law_sizes"] : List Str).zip us) := match us, h with | [_, _, _], _ => rfl
theorem spec_law_row : ∀ ds Qv Xv, XD.sp_law_row ds Qv Xv → ds.length = 3 ∧ w_law_row (startE N_law_row ds) ⟨fun _ => Qv ⟨.none, mA⟩, fun r _ => Qv r, fun ex _ => Xv ex⟩ := by
  rintro ds Qv Xv ⟨script_, place_, sizes_, rfl, h⟩
  refine ⟨rfl, ?_⟩
  have he : startE N_law_row [eScr script_, eI place_, (eL eI) sizes_] = [some (eScr script_, mS), some (eI place_, mA), some ((eL eI) sizes_, mS), none, none, none, none, none] := by
    rw [st_law_row]
    try simp only [argS_F, argS_N]
  rw [he]
  have hr : RB (fun _ => True) w_law_row [some (eScr script_, mS), some (eI place_, mA), some ((eL eI) sizes_, mS), none, none, none, none, none] (XD.F_law_row script_ place_ sizes_) (KT (eL eI) mA) := by
    unfold XD.F_law_row w_law_row
    exact (rs_set (re_eq (re_callP (b := eI) (M := (XD.F_law_cell script_ place_)) (ra_consP (re_vS 0 eScr (script_)) (ra_consP (re_vF 1 eI (place_)) ra_nil)) (fun Q X h => ⟨script_, place_, rfl, h⟩))) (fun cell_here_ => [some (eScr (script_), mS), some (eI (place_), mA), some ((eL eI) (sizes_), mS), some (eI (cell_here_), mA), none, none, none, none]) (fun cell_here_ => (rs_set (re_eq (re_vF 3 eI (cell_here_))) (fun left_ => [some (eScr (script_), mS), some (eI (place_), mA), some ((eL eI) (sizes_), mS), some (eI (cell_here_), mA), some (eI (left_), mA), none, none, none]) (fun left_ => (rs_set (re_eq (re_lstP (a := eI) [] ra_nil)) (fun some_ => [some (eScr (script_), mS), some (eI (place_), mA), some ((eL eI) (sizes_), mS), some (eI (cell_here_), mA), some (eI (left_), mA), some ((eL eI) (some_), mA), none, none]) (fun some_ => (rs_seqN (s := (fun (V18 : (List Int) × Int) => [some (eScr (script_), mS), some (eI (place_), mA), some ((eL eI) (sizes_), mS), some (eI (cell_here_), mA), some (eI (V18.2), mA), some ((eL eI) (V18.1), mA), none, none])) (rb_forRP (s := (fun (V18 : (List Int) × Int) => [some (eScr (script_), mS), some (eI (place_), mA), some ((eL eI) (sizes_), mS), some (eI (cell_here_), mA), some (eI (V18.2), mA), some ((eL eI) (V18.1), mA), none, none])) 0 (sizes_.length : Int) (some_, left_) (ra_consP (re_cbP ((sizes_.length : Int)) (ra_consP (re_vS 2 (eL eI) (sizes_)) ra_nil) (len_L (a := eI) (sizes_))) ra_nil) ⟨rfl, rfl⟩ (el_c sl_o (el_c sl_o (el_c sl_o (el_c sl_o (el_c sl_o (el_c sl_o (el_c sl_n (el_c sl_n el_nil)))))))) (fun V18 k_ => [some (eScr (script_), mS), some (eI (place_), mA), some ((eL eI) (sizes_), mS), some (eI (cell_here_), mA), some (eI (V18.2), mA), some ((eL eI) (V18.1), mA), some (eI (k_), mA), none]) (fun V18 k_ => (rs_seqN (s := (fun (V23 : (List Int) × Int) => [some (eScr (script_), mS), some (eI (place_), mA), some ((eL eI) (sizes_), mS), some (eI (cell_here_), mA), some (eI (V23.2), mA), some ((eL eI) (V23.1), mA), some (eI (k_), mA), none])) (rb_ifP (rt_eq (rt_val (re_2P xo_lt (re_vF 3 eI (cell_here_)) (re_powC 10 18 (re_c (.int 10) eI (10)) (re_c (.int 18) eI (18)))))) (rs_app (a := eI) (xs := V18.1) (re_eq (re_2 (opO_out xo_mod) (re_callP (b := eI) (M := (XD.F_law_mix cell_here_ k_)) (ra_consP (re_vF 3 eI (cell_here_)) (ra_consP (re_vF 6 eI (k_)) ra_nil)) (fun Q X h => ⟨cell_here_, k_, rfl, h⟩)) (re_2Q (xo_ixF (a := eI)) (re_vS 2 (eL eI) (sizes_)) (re_vF 6 eI (k_))))) (fun some_ => [some (eScr (script_), mS), some (eI (place_), mA), some ((eL eI) (sizes_), mS), some (eI (cell_here_), mA), some (eI (V18.2), mA), some ((eL eI) (some_), mA), some (eI (k_), mA), none]) (fun some_ => (rb_next (V := (some_, V18.2)) (el_c sl_o (el_c sl_o (el_c sl_o (el_c sl_o (el_c sl_o (el_c sl_o (el_c sl_o (el_c sl_n el_nil))))))))))) (rs_seqN (s := (fun (V24 : (List Int) × Int) => [some (eScr (script_), mS), some (eI (place_), mA), some ((eL eI) (sizes_), mS), some (eI (cell_here_), mA), some (eI (V24.2), mA), some ((eL eI) (V24.1), mA), some (eI (k_), mA), none])) (rb_ifP (rt_eq (rt_val (re_2P xo_gt (re_vF 4 eI (V18.2)) (re_c (.int 0) eI (0))))) (rs_app (a := eI) (xs := V18.1) (re_eq (re_2 (opO_out xo_mod) (re_vF 4 eI (V18.2)) (re_2Q (xo_ixF (a := eI)) (re_vS 2 (eL eI) (sizes_)) (re_vF 6 eI (k_))))) (fun some_ => [some (eScr (script_), mS), some (eI (place_), mA), some ((eL eI) (sizes_), mS), some (eI (cell_here_), mA), some (eI (V18.2), mA), some ((eL eI) (some_), mA), some (eI (k_), mA), none]) (fun some_ => (rs_set (re_eq (re_2 (opO_out xo_fd) (re_vF 4 eI (V18.2)) (re_2Q (xo_ixF (a := eI)) (re_vS 2 (eL eI) (sizes_)) (re_vF 6 eI (k_))))) (fun left_ => [some (eScr (script_), mS), some (eI (place_), mA), some ((eL eI) (sizes_), mS), some (eI (cell_here_), mA), some (eI (left_), mA), some ((eL eI) (some_), mA), some (eI (k_), mA), none]) (fun left_ => (rb_next (V := (some_, left_)) (el_c sl_o (el_c sl_o (el_c sl_o (el_c sl_o (el_c sl_o (el_c sl_o (el_c sl_o (el_c sl_n el_nil))))))))))))) (rs_set (re_eq (re_callP (b := eI) (M := (XD.F_law_cell script_ (((place_ + 1) + k_) % 63))) (ra_consP (re_vS 0 eScr (script_)) (ra_consP (re_modC 63 (re_2P xo_add (re_2P xo_add (re_vF 1 eI (place_)) (re_c (.int 1) eI (1))) (re_vF 6 eI (k_))) (re_c (.int 63) eI (63))) ra_nil)) (fun Q X h => ⟨script_, (((place_ + 1) + k_) % 63), rfl, h⟩))) (fun other_ => [some (eScr (script_), mS), some (eI (place_), mA), some ((eL eI) (sizes_), mS), some (eI (cell_here_), mA), some (eI (V18.2), mA), some ((eL eI) (V18.1), mA), some (eI (k_), mA), some (eI (other_), mA)]) (fun other_ => (rs_app (a := eI) (xs := V18.1) (re_eq (re_2 (opO_out xo_mod) (re_callP (b := eI) (M := (XD.F_law_mix other_ k_)) (ra_consP (re_mF 7 eI (other_)) (ra_consP (re_vF 6 eI (k_)) ra_nil)) (fun Q X h => ⟨other_, k_, rfl, h⟩)) (re_2Q (xo_ixF (a := eI)) (re_vS 2 (eL eI) (sizes_)) (re_vF 6 eI (k_))))) (fun some_ => [some (eScr (script_), mS), some (eI (place_), mA), some ((eL eI) (sizes_), mS), some (eI (cell_here_), mA), some (eI (V18.2), mA), some ((eL eI) (some_), mA), some (eI (k_), mA), some (eI (other_), mA)]) (fun some_ => (rb_next (V := (some_, V18.2)) (el_c sl_o (el_c sl_o (el_c sl_o (el_c sl_o (el_c sl_o (el_c sl_o (el_c sl_o (el_c sl_n el_nil)))))))))))))) (fun V24 => (rb_next (V := (V24.1, V24.2)) (el_c sl_o (el_c sl_o (el_c sl_o (el_c sl_o (el_c sl_o (el_c sl_o (el_c sl_o (el_c sl_n el_nil)))))))))))) (fun V23 => (rb_next (V := (V23.1, V23.2)) (el_c sl_o (el_c sl_o (el_c sl_o (el_c sl_o (el_c sl_o (el_c sl_o (el_c sl_n (el_c sl_n el_nil))))))))))))) (fun V18 => (rb_retP' (e := (eL eI)) V18.1 (re_eq (re_mO 5 (eL eI) (V18.1))))))))))))
  exact of_KT hr h
abbrev s_law_plaited : Stmt := topS 19
abbrev N_law_plaited : List Str := ["_law_names", "_law_signs", "_law_some", "_law_strands", "_law_seen", "_law_walks", "_law_start", "_law_walk", "_law_at", "_law_k", "_law_low"]
abbrev lv_law_plaited : Nat := 1
theorem sc_law_plaited : FnScope N_law_plaited ["_law_names", "_law_signs", "_law_some", "_law_strands"] (defScope s_law_plaited) := ⟨rfl, rfl, rfl, by decide +kernel, rfl, by decide +kernel, by decide +kernel⟩
def w_law_plaited : WS := (wSeq (wSet 4 (wBin woMul (wCB wLst (wCons (wC (.bool false)) wNil)) (wVar 3)))
  (wSeq (wSet 5 (wCB wLst wNil))
  (wSeq (wCut (wForR 1 6 (wCons (wVar 3) wNil)
  (wSeq (wCut (wIf (wNot (wTest (wBin wIx (wVar 4) (wVar 6)))) (wSeq (wSet 7 (wCB wLst wNil))
  (wSeq (wSet 8 (wMv 6))
  (wSeq (wCut (wWhile (wNot (wTest (wBin wIx (wVar 4) (wVar 8)))) (wSeq (wPut (wPVar 4) (wVar 8) (wC (.bool true)))
  (wSeq (wCut (wForR 1 9 (wCons (wCB wLen (wCons (wVar 0) wNil)) wNil)
  (wSeq (wSet 10 (wBin woMod (wBin wIx (wVar 2) (wBin woAdd (wBin woMul (wC (.int 8)) (wVar 9)) (wC (.int 10)))) (wBin woSub (wVar 3) (wC (.int 1)))))
  (wSeq (wCut (wIf (wTest (wBin woEq (wVar 8) (wVar 10))) (wSeq (wApp (wPVar 7) (wBin woMul (wBin wIx (wVar 0) (wVar 9)) (wDGet (wVar 1) (wBin wIx (wVar 0) (wVar 9)))))
  (wSeq (wSet 8 (wBin woAdd (wVar 10) (wC (.int 1))))
  wNext)) (wSeq (wCut (wIf (wTest (wBin woEq (wVar 8) (wBin woAdd (wVar 10) (wC (.int 1))))) (wSeq (wApp (wPVar 7) (wBin woMul (wNeg (wBin wIx (wVar 0) (wVar 9))) (wDGet (wVar 1) (wBin wIx (wVar 0) (wVar 9)))))
  (wSeq (wSet 8 (wMv 10))
  wNext)) wNext))
  wNext)))
  wNext))))
  wNext))))
  (wSeq (wApp (wPVar 5) (wMv 7))
  wNext)))) wNext))
  wNext)))
  (wSeq (wRet (wMv 5))
  wNext))))
theorem st_law_plaited (x0 x1 x2 x3 : D) : startE N_law_plaited [x0, x1, x2, x3] = [argS x0, argS x1, argS x2, argS x3, none, none, none, none, none, none, none] := rfl
theorem d_law_plaited (E : Ev K mg cl)  (f : Addr) (cdv : Value) (A : Around) (outer : List Env) (s : Shared) (H : Hp) (E0 : XK) (P0 : Addr → Prop) (hr : Room 0 (cxV P w K mg base N_law_plaited "_law_plaited" s_law_plaited f cdv A outer s H E0).A) :
    PSs (cxV P w K mg base N_law_plaited "_law_plaited" s_law_plaited f cdv A outer s H E0) (defBody s_law_plaited) (rdS (cnOf K cl P0 H) (WXE E0) w_law_plaited) := by
  have nd := sc_law_plaited.nd
  exact (vss_cons (vs_set (i := 4) (ve_mul (ve_lst (va_cons ve_bl va_nil)) (ve_var 3)) nd)
  (vss_cons (vs_set (i := 5) (ve_lst va_nil) nd)
  (vss_cons (vs_cut (vs_forR1 (i := 6) (passes_of rfl) rfl E.m_range (va_cons (ve_var 3) va_nil)
  (vss_cons (vs_cut (vs_if (vt_not (vt_val (ve_ix (ve_var 4) (ve_var 6)))) (vss_cons (vs_set (i := 7) (ve_lst va_nil) nd)
  (vss_cons (vs_set (i := 8) (ve_mv 6) nd)
  (vss_cons (vs_cut (vs_while (passes_of rfl) (vt_not (vt_val (ve_ix (ve_var 4) (ve_var 8)))) (vss_cons (vs_put (vp_var 4) (ve_var 8) ve_bl)
  (vss_cons (vs_cut (vs_forR1 (i := 9) (passes_of rfl) rfl E.m_range (va_cons (ve_len1 E.m_len (va_cons (ve_var 0) va_nil)) va_nil)
  (vss_cons (vs_set (i := 10) (ve_mod (ve_ix (ve_var 2) (ve_add (ve_mul ve_int (ve_var 9)) ve_int)) (ve_sub (ve_var 3) ve_int)) nd)
  (vss_cons (vs_cut (vs_if (vt_c (c_eq hr) (ve_var 8) (ve_var 10)) (vss_cons (vs_app (vp_var 7) (ve_mul (ve_ix (ve_var 0) (ve_var 9)) (ve_dget hr (ve_var 1) (ve_ix (ve_var 0) (ve_var 9)))))
  (vss_cons (vs_set (i := 8) (ve_add (ve_var 10) ve_int) nd)
  vss_nil)) (vss_cons (vs_cut (vs_if (vt_c (c_eq hr) (ve_var 8) (ve_add (ve_var 10) ve_int)) (vss_cons (vs_app (vp_var 7) (ve_mul (ve_neg (ve_ix (ve_var 0) (ve_var 9))) (ve_dget hr (ve_var 1) (ve_ix (ve_var 0) (ve_var 9)))))
  (vss_cons (vs_set (i := 8) (ve_mv 10) nd)
  vss_nil)) vss_nil))
  vss_nil)))
  vss_nil)) nd))
  vss_nil))))
  (vss_cons (vs_app (vp_var 5) (ve_mv 7))
  vss_nil)))) vss_nil))
  vss_nil) nd))
  (vss_cons (vs_ret (ve_mv 5))
  vss_nil))))
theorem b_law_plaited (kV doc pm : Value) (an : Option Addr) (cdv ct : Value) (us : List Value) (h : us.length = 4) : bindArgs (PySem.W.fnOf "_law_plaited" "_law_plaited" (defArgs s_law_plaited) (defBody s_law_plaited) (defScope s_law_plaited) .none kV doc pm an cdv ct) ⟨us, []⟩ = pure ((["_law_names", "_law_signs", "_law_some", "_law_strands"] : List Str).zip us) := match us, h with | [_, _, _, _], _ => rfl
theorem spec_law_plaited : ∀ ds Qv Xv, XD.sp_law_plaited ds Qv Xv → ds.length = 4 ∧ w_law_plaited (startE N_law_plaited ds) ⟨fun _ => Qv ⟨.none, mA⟩, fun r _ => Qv r, fun ex _ => Xv ex⟩ := by
  rintro ds Qv Xv ⟨names_, signs_, some_, strands_, rfl, h⟩
  refine ⟨rfl, ?_⟩
  have he : startE N_law_plaited [(eL eI) names_, (eK eI) signs_, (eL eI) some_, eI strands_] = [some ((eL eI) names_, mS), some ((eK eI) signs_, mS), some ((eL eI) some_, mS), some (eI strands_, mA), none, none, none, none, none, none, none] := by
    rw [st_law_plaited]
    try simp only [argS_F, argS_N]
  rw [he]
  have hr : RB (fun _ => True) w_law_plaited [some ((eL eI) names_, mS), some ((eK eI) signs_, mS), some ((eL eI) some_, mS), some (eI strands_, mA), none, none, none, none, none, none, none] (XD.F_law_plaited names_ signs_ some_ strands_) (KT (eL (eL eI)) mA) := by
    unfold XD.F_law_plaited w_law_plaited
    exact (rs_set (re_eq (re_2Q (xo_rep (a := eB)) (re_lstFP (a := eB) [false] (ra_consP (re_c (.bool false) eB (false)) ra_nil)) (re_vF 3 eI (strands_)))) (fun seen_ => [some ((eL eI) (names_), mS), some ((eK eI) (signs_), mS), some ((eL eI) (some_), mS), some (eI (strands_), mA), some ((eL eB) (seen_), mA), none, none, none, none, none, none]) (fun seen_ => (rs_set (re_eq (re_lstP (a := (eL eI)) [] ra_nil)) (fun walks_ => [some ((eL eI) (names_), mS), some ((eK eI) (signs_), mS), some ((eL eI) (some_), mS), some (eI (strands_), mA), some ((eL eB) (seen_), mA), some ((eL (eL eI)) (walks_), mA), none, none, none, none, none]) (fun walks_ => (rs_seqN (s := (fun (V161 : (List (List Int)) × (List Bool)) => [some ((eL eI) (names_), mS), some ((eK eI) (signs_), mS), some ((eL eI) (some_), mS), some (eI (strands_), mA), some ((eL eB) (V161.2), mA), some ((eL (eL eI)) (V161.1), mA), none, none, none, none, none])) (rb_forRP (s := (fun (V161 : (List (List Int)) × (List Bool)) => [some ((eL eI) (names_), mS), some ((eK eI) (signs_), mS), some ((eL eI) (some_), mS), some (eI (strands_), mA), some ((eL eB) (V161.2), mA), some ((eL (eL eI)) (V161.1), mA), none, none, none, none, none])) 0 strands_ (walks_, seen_) (ra_consP (re_vF 3 eI (strands_)) ra_nil) ⟨rfl, rfl⟩ (el_c sl_o (el_c sl_o (el_c sl_o (el_c sl_o (el_c sl_o (el_c sl_o (el_c sl_n (el_c sl_n (el_c sl_n (el_c sl_n (el_c sl_n el_nil))))))))))) (fun V161 start_ => [some ((eL eI) (names_), mS), some ((eK eI) (signs_), mS), some ((eL eI) (some_), mS), some (eI (strands_), mA), some ((eL eB) (V161.2), mA), some ((eL (eL eI)) (V161.1), mA), some (eI (start_), mA), none, none, none, none]) (fun V161 start_ => (rs_seqN (s := (fun (V208 : (List (List Int)) × (List Bool)) => [some ((eL eI) (names_), mS), some ((eK eI) (signs_), mS), some ((eL eI) (some_), mS), some (eI (strands_), mA), some ((eL eB) (V208.2), mA), some ((eL (eL eI)) (V208.1), mA), some (eI (start_), mA), none, none, none, none])) (rb_if (rt_eq (rt_not (rt_val (re_2Q (xo_ixF (a := eB)) (re_vA 4 (eL eB) (V161.2)) (re_vF 6 eI (start_)))))) (rs_set (re_eq (re_lstP (a := eI) [] ra_nil)) (fun walk_ => [some ((eL eI) (names_), mS), some ((eK eI) (signs_), mS), some ((eL eI) (some_), mS), some (eI (strands_), mA), some ((eL eB) (V161.2), mA), some ((eL (eL eI)) (V161.1), mA), some (eI (start_), mA), some ((eL eI) (walk_), mA), none, none, none]) (fun walk_ => (rs_set (re_eq (re_mF 6 eI (start_))) (fun at_ => [some ((eL eI) (names_), mS), some ((eK eI) (signs_), mS), some ((eL eI) (some_), mS), some (eI (strands_), mA), some ((eL eB) (V161.2), mA), some ((eL (eL eI)) (V161.1), mA), some (eI (start_), mA), some ((eL eI) (walk_), mA), some (eI (at_), mA), none, none]) (fun at_ => (rs_seqN (s := (fun (V209 : (List Bool) × (List Int) × Int) => [some ((eL eI) (names_), mS), some ((eK eI) (signs_), mS), some ((eL eI) (some_), mS), some (eI (strands_), mA), some ((eL eB) (V209.1), mA), some ((eL (eL eI)) (V161.1), mA), some (eI (start_), mA), some ((eL eI) (V209.2.1), mA), some (eI (V209.2.2), mA), none, none])) (rb_while (s := (fun (V209 : (List Bool) × (List Int) × Int) => [some ((eL eI) (names_), mS), some ((eK eI) (signs_), mS), some ((eL eI) (some_), mS), some (eI (strands_), mA), some ((eL eB) (V209.1), mA), some ((eL (eL eI)) (V161.1), mA), some (eI (start_), mA), some ((eL eI) (V209.2.1), mA), some (eI (V209.2.2), mA), none, none])) (V161.2, walk_, at_) (el_c sl_o (el_c sl_o (el_c sl_o (el_c sl_o (el_c sl_o (el_c sl_o (el_c sl_o (el_c sl_o (el_c sl_o (el_c sl_n (el_c sl_n el_nil))))))))))) (fun V209 => rt_eq (rt_not (rt_val (re_2Q (xo_ixF (a := eB)) (re_vA 4 (eL eB) (V209.1)) (re_vF 8 eI (V209.2.2)))))) (fun V209 => (rs_put (a := eB) (xs := V209.1) (re_eq (re_c (.bool true) eB (true))) (re_eq (re_vF 8 eI (V209.2.2))) (fun seen_ => [some ((eL eI) (names_), mS), some ((eK eI) (signs_), mS), some ((eL eI) (some_), mS), some (eI (strands_), mA), some ((eL eB) (seen_), mA), some ((eL (eL eI)) (V161.1), mA), some (eI (start_), mA), some ((eL eI) (V209.2.1), mA), some (eI (V209.2.2), mA), none, none]) (fun seen_ => (rs_seqN (s := (fun (V217 : (List Int) × Int) => [some ((eL eI) (names_), mS), some ((eK eI) (signs_), mS), some ((eL eI) (some_), mS), some (eI (strands_), mA), some ((eL eB) (seen_), mA), some ((eL (eL eI)) (V161.1), mA), some (eI (start_), mA), some ((eL eI) (V217.1), mA), some (eI (V217.2), mA), none, none])) (rb_forRP (s := (fun (V217 : (List Int) × Int) => [some ((eL eI) (names_), mS), some ((eK eI) (signs_), mS), some ((eL eI) (some_), mS), some (eI (strands_), mA), some ((eL eB) (seen_), mA), some ((eL (eL eI)) (V161.1), mA), some (eI (start_), mA), some ((eL eI) (V217.1), mA), some (eI (V217.2), mA), none, none])) 0 (names_.length : Int) (V209.2.1, V209.2.2) (ra_consP (re_cbP ((names_.length : Int)) (ra_consP (re_vS 0 (eL eI) (names_)) ra_nil) (len_L (a := eI) (names_))) ra_nil) ⟨rfl, rfl⟩ (el_c sl_o (el_c sl_o (el_c sl_o (el_c sl_o (el_c sl_o (el_c sl_o (el_c sl_o (el_c sl_o (el_c sl_o (el_c sl_n (el_c sl_n el_nil))))))))))) (fun V217 k_ => [some ((eL eI) (names_), mS), some ((eK eI) (signs_), mS), some ((eL eI) (some_), mS), some (eI (strands_), mA), some ((eL eB) (seen_), mA), some ((eL (eL eI)) (V161.1), mA), some (eI (start_), mA), some ((eL eI) (V217.1), mA), some (eI (V217.2), mA), some (eI (k_), mA), none]) (fun V217 k_ => (rs_set (re_eq (re_2 (opO_out xo_mod) (re_2Q (xo_ixF (a := eI)) (re_vS 2 (eL eI) (some_)) (re_2P xo_add (re_mulL 8 (re_c (.int 8) eI (8)) (re_vF 9 eI (k_))) (re_c (.int 10) eI (10)))) (re_2P xo_sub (re_vF 3 eI (strands_)) (re_c (.int 1) eI (1))))) (fun low_ => [some ((eL eI) (names_), mS), some ((eK eI) (signs_), mS), some ((eL eI) (some_), mS), some (eI (strands_), mA), some ((eL eB) (seen_), mA), some ((eL (eL eI)) (V161.1), mA), some (eI (start_), mA), some ((eL eI) (V217.1), mA), some (eI (V217.2), mA), some (eI (k_), mA), some (eI (low_), mA)]) (fun low_ => (rs_seqN (s := (fun (V222 : (List Int) × Int) => [some ((eL eI) (names_), mS), some ((eK eI) (signs_), mS), some ((eL eI) (some_), mS), some (eI (strands_), mA), some ((eL eB) (seen_), mA), some ((eL (eL eI)) (V161.1), mA), some (eI (start_), mA), some ((eL eI) (V222.1), mA), some (eI (V222.2), mA), some (eI (k_), mA), some (eI (low_), mA)])) (rb_ifP (rt_eq (rt_val (re_2P xo_eqI (re_vF 8 eI (V217.2)) (re_vF 10 eI (low_))))) (rs_app (a := eI) (xs := V217.1) (re_eq (re_2 (opO_out xo_mul) (re_2Q (xo_ixF (a := eI)) (re_vS 0 (eL eI) (names_)) (re_vF 9 eI (k_))) (re_dget (re_vS 1 (eK eI) (signs_)) (re_2Q (xo_ixF (a := eI)) (re_vS 0 (eL eI) (names_)) (re_vF 9 eI (k_)))))) (fun walk_ => [some ((eL eI) (names_), mS), some ((eK eI) (signs_), mS), some ((eL eI) (some_), mS), some (eI (strands_), mA), some ((eL eB) (seen_), mA), some ((eL (eL eI)) (V161.1), mA), some (eI (start_), mA), some ((eL eI) (walk_), mA), some (eI (V217.2), mA), some (eI (k_), mA), some (eI (low_), mA)]) (fun walk_ => (rs_set (re_eq (re_2P xo_add (re_vF 10 eI (low_)) (re_c (.int 1) eI (1)))) (fun at_ => [some ((eL eI) (names_), mS), some ((eK eI) (signs_), mS), some ((eL eI) (some_), mS), some (eI (strands_), mA), some ((eL eB) (seen_), mA), some ((eL (eL eI)) (V161.1), mA), some (eI (start_), mA), some ((eL eI) (walk_), mA), some (eI (at_), mA), some (eI (k_), mA), some (eI (low_), mA)]) (fun at_ => (rb_next (V := (walk_, at_)) (el_c sl_o (el_c sl_o (el_c sl_o (el_c sl_o (el_c sl_o (el_c sl_o (el_c sl_o (el_c sl_o (el_c sl_o (el_c sl_o (el_c sl_o el_nil)))))))))))))))) (rs_seqN (s := (fun (V223 : (List Int) × Int) => [some ((eL eI) (names_), mS), some ((eK eI) (signs_), mS), some ((eL eI) (some_), mS), some (eI (strands_), mA), some ((eL eB) (seen_), mA), some ((eL (eL eI)) (V161.1), mA), some (eI (start_), mA), some ((eL eI) (V223.1), mA), some (eI (V223.2), mA), some (eI (k_), mA), some (eI (low_), mA)])) (rb_ifP (rt_eq (rt_val (re_2P xo_eqI (re_vF 8 eI (V217.2)) (re_2P xo_add (re_vF 10 eI (low_)) (re_c (.int 1) eI (1)))))) (rs_app (a := eI) (xs := V217.1) (re_eq (re_2 (opO_out xo_mul) (re_negO (re_2Q (xo_ixF (a := eI)) (re_vS 0 (eL eI) (names_)) (re_vF 9 eI (k_)))) (re_dget (re_vS 1 (eK eI) (signs_)) (re_2Q (xo_ixF (a := eI)) (re_vS 0 (eL eI) (names_)) (re_vF 9 eI (k_)))))) (fun walk_ => [some ((eL eI) (names_), mS), some ((eK eI) (signs_), mS), some ((eL eI) (some_), mS), some (eI (strands_), mA), some ((eL eB) (seen_), mA), some ((eL (eL eI)) (V161.1), mA), some (eI (start_), mA), some ((eL eI) (walk_), mA), some (eI (V217.2), mA), some (eI (k_), mA), some (eI (low_), mA)]) (fun walk_ => (rs_set (re_eq (re_mF 10 eI (low_))) (fun at_ => [some ((eL eI) (names_), mS), some ((eK eI) (signs_), mS), some ((eL eI) (some_), mS), some (eI (strands_), mA), some ((eL eB) (seen_), mA), some ((eL (eL eI)) (V161.1), mA), some (eI (start_), mA), some ((eL eI) (walk_), mA), some (eI (at_), mA), some (eI (k_), mA), some (eI (low_), mA)]) (fun at_ => (rb_next (V := (walk_, at_)) (el_c sl_o (el_c sl_o (el_c sl_o (el_c sl_o (el_c sl_o (el_c sl_o (el_c sl_o (el_c sl_o (el_c sl_o (el_c sl_o (el_c sl_o el_nil)))))))))))))))) (rb_next (V := (V217.1, V217.2)) (el_c sl_o (el_c sl_o (el_c sl_o (el_c sl_o (el_c sl_o (el_c sl_o (el_c sl_o (el_c sl_o (el_c sl_o (el_c sl_o (el_c sl_o el_nil))))))))))))) (fun V223 => (rb_next (V := (V223.1, V223.2)) (el_c sl_o (el_c sl_o (el_c sl_o (el_c sl_o (el_c sl_o (el_c sl_o (el_c sl_o (el_c sl_o (el_c sl_o (el_c sl_o (el_c sl_o el_nil))))))))))))))) (fun V222 => (rb_next (V := (V222.1, V222.2)) (el_c sl_o (el_c sl_o (el_c sl_o (el_c sl_o (el_c sl_o (el_c sl_o (el_c sl_o (el_c sl_o (el_c sl_o (el_c sl_n (el_c sl_n el_nil)))))))))))))))))) (fun V217 => (rb_next (V := (seen_, V217.1, V217.2)) (el_c sl_o (el_c sl_o (el_c sl_o (el_c sl_o (el_c sl_o (el_c sl_o (el_c sl_o (el_c sl_o (el_c sl_o (el_c sl_n (el_c sl_n el_nil)))))))))))))))))) (fun V209 => (rs_app (a := (eL eI)) (xs := V161.1) (re_eq (re_mO 7 (eL eI) (V209.2.1))) (fun walks_ => [some ((eL eI) (names_), mS), some ((eK eI) (signs_), mS), some ((eL eI) (some_), mS), some (eI (strands_), mA), some ((eL eB) (V209.1), mA), some ((eL (eL eI)) (walks_), mA), some (eI (start_), mA), none, some (eI (V209.2.2), mA), none, none]) (fun walks_ => (rb_next (V := (walks_, V209.1)) (el_c sl_o (el_c sl_o (el_c sl_o (el_c sl_o (el_c sl_o (el_c sl_o (el_c sl_o (el_c sl_n (el_c sl_n (el_c sl_n (el_c sl_n el_nil)))))))))))))))))))) (rb_next (V := (V161.1, V161.2)) (el_c sl_o (el_c sl_o (el_c sl_o (el_c sl_o (el_c sl_o (el_c sl_o (el_c sl_o (el_c sl_n (el_c sl_n (el_c sl_n (el_c sl_n el_nil))))))))))))) (fun V208 => (rb_next (V := (V208.1, V208.2)) (el_c sl_o (el_c sl_o (el_c sl_o (el_c sl_o (el_c sl_o (el_c sl_o (el_c sl_n (el_c sl_n (el_c sl_n (el_c sl_n (el_c sl_n el_nil)))))))))))))))) (fun V161 => (rb_retP' (e := (eL (eL eI))) V161.1 (re_eq (re_mO 5 (eL (eL eI)) (V161.1))))))))))
  exact of_KT hr h
abbrev s_law_any : Stmt := topS 18
abbrev N_law_any : List Str := ["_law_names", "_law_some", "_law_rings", "_law_left", "_law_one", "_law_walks", "_law_k", "_law_at", "_law_passage"]
abbrev lv_law_any : Nat := 1
theorem sc_law_any : FnScope N_law_any ["_law_names", "_law_some", "_law_rings"] (defScope s_law_any) := ⟨rfl, rfl, rfl, by decide +kernel, rfl, by decide +kernel, by decide +kernel⟩
def w_law_any : WS := (wSeq (wSet 3 (wCB wLst wNil))
  (wSeq (wCut (wFor (tgN 4) (wVar 0)
  (wSeq (wExt (wPVar 3) (wCB wLst (wCons (wVar 4) (wCons (wNeg (wVar 4)) wNil))))
  wNext)))
  (wSeq (wSet 5 (wLcR 1 [6] 6 (wCons (wVar 2) wNil) wYes (wCB wLst wNil)))
  (wSeq (wCut (wForR 1 6 (wCons (wBin woMul (wC (.int 2)) (wCB wLen (wCons (wVar 0) wNil))) wNil)
  (wSeq (wSet 7 (wBin woAdd (wBin woMul (wC (.int 4)) (wVar 6)) (wC (.int 5))))
  (wSeq (wSetPop 8 3 (wBin woMod (wBin wIx (wVar 1) (wVar 7)) (wCB wLen (wCons (wVar 3) wNil))))
  (wSeq (wApp (wPSub (wPVar 5) (wBin woMod (wBin wIx (wVar 1) (wBin woAdd (wVar 7) (wC (.int 1)))) (wVar 2))) (wMv 8))
  wNext)))))
  (wSeq (wRet (wMv 5))
  wNext)))))
theorem st_law_any (x0 x1 x2 : D) : startE N_law_any [x0, x1, x2] = [argS x0, argS x1, argS x2, none, none, none, none, none, none] := rfl
theorem d_law_any (E : Ev K mg cl)  (f : Addr) (cdv : Value) (A : Around) (outer : List Env) (s : Shared) (H : Hp) (E0 : XK) (P0 : Addr → Prop) (hr : Room 0 (cxV P w K mg base N_law_any "_law_any" s_law_any f cdv A outer s H E0).A) :
    PSs (cxV P w K mg base N_law_any "_law_any" s_law_any f cdv A outer s H E0) (defBody s_law_any) (rdS (cnOf K cl P0 H) (WXE E0) w_law_any) := by
  have nd := sc_law_any.nd
  exact (vss_cons (vs_set (i := 3) (ve_lst va_nil) nd)
  (vss_cons (vs_cut (vs_for (passes_of rfl) rfl (ve_var 0) (tg_name nd)
  (fun _ => (vss_cons (vs_ext (vp_var 3) (ve_lst (va_cons (ve_var 4) (va_cons (ve_neg (ve_var 4)) va_nil))))
  vss_nil))))
  (vss_cons (vs_setLcR1 (n := 5) rfl nd [("_law_k", 6)] E.m_range (va_cons (ve_var 2) va_nil) (fun _ _ _ _ _ => pg_name nd rfl (by first | exact .inl rfl | exact .inr rfl)) (fun _ _ _ _ _ => vts_nil) (fun _ _ _ _ _ => (ve_lst va_nil)))
  (vss_cons (vs_cut (vs_forR1 (i := 6) (passes_of rfl) rfl E.m_range (va_cons (ve_mul ve_int (ve_len1 E.m_len (va_cons (ve_var 0) va_nil))) va_nil)
  (vss_cons (vs_set (i := 7) (ve_add (ve_mul ve_int (ve_var 6)) ve_int) nd)
  (vss_cons (vs_setPop 8 3 (ve_mod (ve_ix (ve_var 1) (ve_var 7)) (ve_len1 E.m_len (va_cons (ve_var 3) va_nil))) nd)
  (vss_cons (vs_app (vp_sub (vp_var 5) (ve_mod (ve_ix (ve_var 1) (ve_add (ve_var 7) ve_int)) (ve_var 2))) (ve_mv 8))
  vss_nil))) nd))
  (vss_cons (vs_ret (ve_mv 5))
  vss_nil)))))
theorem b_law_any (kV doc pm : Value) (an : Option Addr) (cdv ct : Value) (us : List Value) (h : us.length = 3) : bindArgs (PySem.W.fnOf "_law_any" "_law_any" (defArgs s_law_any) (defBody s_law_any) (defScope s_law_any) .none kV doc pm an cdv ct) ⟨us, []⟩ = pure ((["_law_names", "_law_some", "_law_rings"] : List Str).zip us) := match us, h with | [_, _, _], _ => rfl
theorem spec_law_any : ∀ ds Qv Xv, XD.sp_law_any ds Qv Xv → ds.length = 3 ∧ w_law_any (startE N_law_any ds) ⟨fun _ => Qv ⟨.none, mA⟩, fun r _ => Qv r, fun ex _ => Xv ex⟩ := by
  rintro ds Qv Xv ⟨names_, some_, rings_, rfl, h⟩
  refine ⟨rfl, ?_⟩
  have he : startE N_law_any [(eL eI) names_, (eL eI) some_, eI rings_] = [some ((eL eI) names_, mS), some ((eL eI) some_, mS), some (eI rings_, mA), none, none, none, none, none, none] := by
    rw [st_law_any]
    try simp only [argS_F, argS_N]
  rw [he]
  have hr : RB (fun _ => True) w_law_any [some ((eL eI) names_, mS), some ((eL eI) some_, mS), some (eI rings_, mA), none, none, none, none, none, none] (XD.F_law_any names_ some_ rings_) (KT (eL (eL eI)) mA) := by
    unfold XD.F_law_any w_law_any
    exact (rs_set (re_eq (re_lstP (a := eI) [] ra_nil)) (fun left_ => [some ((eL eI) (names_), mS), some ((eL eI) (some_), mS), some (eI (rings_), mA), some ((eL eI) (left_), mA), none, none, none, none, none]) (fun left_ => (rs_seqN (s := (fun (V232 : (List Int)) => [some ((eL eI) (names_), mS), some ((eL eI) (some_), mS), some (eI (rings_), mA), some ((eL eI) (V232), mA), none, none, none, none, none])) (rb_forP (s := (fun (V232 : (List Int)) => [some ((eL eI) (names_), mS), some ((eL eI) (some_), mS), some (eI (rings_), mA), some ((eL eI) (V232), mA), none, none, none, none, none])) (a := eI) left_ (re_eq (re_vS 0 (eL eI) (names_))) (el_c sl_o (el_c sl_o (el_c sl_o (el_c sl_o (el_c sl_n (el_c sl_n (el_c sl_n (el_c sl_n (el_c sl_n el_nil))))))))) (fun V232 one_ => [some ((eL eI) (names_), mS), some ((eL eI) (some_), mS), some (eI (rings_), mA), some ((eL eI) (V232), mA), some (eI (one_), mA), none, none, none, none]) (fun V232 one_ => (rs_ext (a := eI) (xs := V232) (re_eq (re_lstFP (a := eI) [one_, -one_] (ra_consP (re_vF 4 eI (one_)) (ra_consP (re_neg (re_vF 4 eI (one_))) ra_nil)))) (fun left_ => [some ((eL eI) (names_), mS), some ((eL eI) (some_), mS), some (eI (rings_), mA), some ((eL eI) (left_), mA), some (eI (one_), mA), none, none, none, none]) (fun left_ => (rb_next (V := left_) (el_c sl_o (el_c sl_o (el_c sl_o (el_c sl_o (el_c sl_n (el_c sl_n (el_c sl_n (el_c sl_n (el_c sl_n el_nil)))))))))))))) (fun V232 => (rs_set (re_eq (re_lcR1P none mA 0 rings_ (ent := (fun k_ => [some ((eL eI) (names_), mS), some ((eL eI) (some_), mS), some (eI (rings_), mA), some ((eL eI) (V232), .b), none, none, some (eI (k_), mA), none, none])) (F := (fun k_ : Int => (Out.ok (([] : (List Int)))))) (ra_consP (re_vF 2 eI (rings_)) ra_nil) ⟨rfl, rfl⟩ (fun _ => rfl) (fun k_ => ⟨_, re_eq (re_lstP (a := eI) [] ra_nil)⟩) (kid_A (c := (eL eI))))) (fun walks_ => [some ((eL eI) (names_), mS), some ((eL eI) (some_), mS), some (eI (rings_), mA), some ((eL eI) (V232), mA), none, some ((eL (eL eI)) (walks_), mA), none, none, none]) (fun walks_ => (rs_seqN (s := (fun (V233 : (List Int) × (List (List Int))) => [some ((eL eI) (names_), mS), some ((eL eI) (some_), mS), some (eI (rings_), mA), some ((eL eI) (V233.1), mA), none, some ((eL (eL eI)) (V233.2), mA), none, none, none])) (rb_forRP (s := (fun (V233 : (List Int) × (List (List Int))) => [some ((eL eI) (names_), mS), some ((eL eI) (some_), mS), some (eI (rings_), mA), some ((eL eI) (V233.1), mA), none, some ((eL (eL eI)) (V233.2), mA), none, none, none])) 0 (2 * (names_.length : Int)) (V232, walks_) (ra_consP (re_mulL 2 (re_c (.int 2) eI (2)) (re_cbP ((names_.length : Int)) (ra_consP (re_vS 0 (eL eI) (names_)) ra_nil) (len_L (a := eI) (names_)))) ra_nil) ⟨rfl, rfl⟩ (el_c sl_o (el_c sl_o (el_c sl_o (el_c sl_o (el_c sl_n (el_c sl_o (el_c sl_n (el_c sl_n (el_c sl_n el_nil))))))))) (fun V233 k_ => [some ((eL eI) (names_), mS), some ((eL eI) (some_), mS), some (eI (rings_), mA), some ((eL eI) (V233.1), mA), none, some ((eL (eL eI)) (V233.2), mA), some (eI (k_), mA), none, none]) (fun V233 k_ => (rs_set (re_eq (re_2P xo_add (re_mulL 4 (re_c (.int 4) eI (4)) (re_vF 6 eI (k_))) (re_c (.int 5) eI (5)))) (fun at_ => [some ((eL eI) (names_), mS), some ((eL eI) (some_), mS), some (eI (rings_), mA), some ((eL eI) (V233.1), mA), none, some ((eL (eL eI)) (V233.2), mA), some (eI (k_), mA), some (eI (at_), mA), none]) (fun at_ => (rs_setPop (a := eI) (xs := V233.1) (re_eq (re_2 (opO_out xo_mod) (re_2Q (xo_ixF (a := eI)) (re_vS 1 (eL eI) (some_)) (re_vF 7 eI (at_))) (re_cbP ((V233.1.length : Int)) (ra_consP (re_vA 3 (eL eI) (V233.1)) ra_nil) (len_L (a := eI) (V233.1))))) (fun p235 => [some ((eL eI) (names_), mS), some ((eL eI) (some_), mS), some (eI (rings_), mA), some ((eL eI) (p235.2), mA), none, some ((eL (eL eI)) (V233.2), mA), some (eI (k_), mA), some (eI (at_), mA), some (eI (p235.1), mA)]) (fun p235 => (rs_app1 (a := eI) (xs := V233.2) (k := fun walks_ => (Out.ok (p235.2, walks_))) (re_eq (re_2 (opO_out xo_mod) (re_2Q (xo_ixF (a := eI)) (re_vS 1 (eL eI) (some_)) (re_2P xo_add (re_vF 7 eI (at_)) (re_c (.int 1) eI (1)))) (re_vF 2 eI (rings_)))) (re_eq (re_mF 8 eI (p235.1))) (fun walks_ => [some ((eL eI) (names_), mS), some ((eL eI) (some_), mS), some (eI (rings_), mA), some ((eL eI) (p235.2), mA), none, some ((eL (eL eI)) (walks_), mA), some (eI (k_), mA), some (eI (at_), mA), some (eI (p235.1), mA)]) (fun walks_ => (rb_next (V := (p235.2, walks_)) (el_c sl_o (el_c sl_o (el_c sl_o (el_c sl_o (el_c sl_n (el_c sl_o (el_c sl_n (el_c sl_n (el_c sl_n el_nil)))))))))))))))))) (fun V233 => (rb_retP' (e := (eL (eL eI))) V233.2 (re_eq (re_mO 5 (eL (eL eI)) (V233.2))))))))))))
  exact of_KT hr h
abbrev s_law_mixed : Stmt := topS 17
abbrev N_law_mixed : List Str := ["_law_names", "_law_some", "_law_left", "_law_found", "_law_k"]
abbrev lv_law_mixed : Nat := 1
theorem sc_law_mixed : FnScope N_law_mixed ["_law_names", "_law_some"] (defScope s_law_mixed) := ⟨rfl, rfl, rfl, by decide +kernel, rfl, by decide +kernel, by decide +kernel⟩
def w_law_mixed : WS := (wSeq (wSet 2 (wCB wList (wCons (wVar 0) wNil)))
  (wSeq (wSet 3 (wCB wLst wNil))
  (wSeq (wCut (wForR 1 4 (wCons (wCB wLen (wCons (wVar 0) wNil)) wNil)
  (wSeq (wAppPop 3 2 (wBin woMod (wBin wIx (wVar 1) (wBin woAdd (wBin woMul (wC (.int 8)) (wVar 4)) (wC (.int 9)))) (wCB wLen (wCons (wVar 2) wNil))))
  wNext)))
  (wSeq (wRet (wMv 3))
  wNext))))
theorem st_law_mixed (x0 x1 : D) : startE N_law_mixed [x0, x1] = [argS x0, argS x1, none, none, none] := rfl
theorem d_law_mixed (E : Ev K mg cl)  (f : Addr) (cdv : Value) (A : Around) (outer : List Env) (s : Shared) (H : Hp) (E0 : XK) (P0 : Addr → Prop) (hr : Room 0 (cxV P w K mg base N_law_mixed "_law_mixed" s_law_mixed f cdv A outer s H E0).A) :
    PSs (cxV P w K mg base N_law_mixed "_law_mixed" s_law_mixed f cdv A outer s H E0) (defBody s_law_mixed) (rdS (cnOf K cl P0 H) (WXE E0) w_law_mixed) := by
  have nd := sc_law_mixed.nd
  exact (vss_cons (vs_set (i := 2) (ve_list1 E.m_list (va_cons (ve_var 0) va_nil)) nd)
  (vss_cons (vs_set (i := 3) (ve_lst va_nil) nd)
  (vss_cons (vs_cut (vs_forR1 (i := 4) (passes_of rfl) rfl E.m_range (va_cons (ve_len1 E.m_len (va_cons (ve_var 0) va_nil)) va_nil)
  (vss_cons (vs_appPop 3 2 (ve_mod (ve_ix (ve_var 1) (ve_add (ve_mul ve_int (ve_var 4)) ve_int)) (ve_len1 E.m_len (va_cons (ve_var 2) va_nil))) rfl rfl)
  vss_nil) nd))
  (vss_cons (vs_ret (ve_mv 3))
  vss_nil))))
theorem b_law_mixed (kV doc pm : Value) (an : Option Addr) (cdv ct : Value) (us : List Value) (h : us.length = 2) : bindArgs (PySem.W.fnOf "_law_mixed" "_law_mixed" (defArgs s_law_mixed) (defBody s_law_mixed) (defScope s_law_mixed) .none kV doc pm an cdv ct) ⟨us, []⟩ = pure ((["_law_names", "_law_some"] : List Str).zip us) := match us, h with | [_, _], _ => rfl
theorem spec_law_mixed : ∀ ds Qv Xv, XD.sp_law_mixed ds Qv Xv → ds.length = 2 ∧ w_law_mixed (startE N_law_mixed ds) ⟨fun _ => Qv ⟨.none, mA⟩, fun r _ => Qv r, fun ex _ => Xv ex⟩ := by
  rintro ds Qv Xv ⟨names_, some_, rfl, h⟩
  refine ⟨rfl, ?_⟩
  have he : startE N_law_mixed [(eL eI) names_, (eL eI) some_] = [some ((eL eI) names_, mS), some ((eL eI) some_, mS), none, none, none] := by
    rw [st_law_mixed]
    try simp only [argS_F, argS_N]
  rw [he]
  have hr : RB (fun _ => True) w_law_mixed [some ((eL eI) names_, mS), some ((eL eI) some_, mS), none, none, none] (XD.F_law_mixed names_ some_) (KT (eL eI) mA) := by
    unfold XD.F_law_mixed w_law_mixed
    exact (rs_set (re_eq (re_cbP (names_) (ra_consP (re_vS 0 (eL eI) (names_)) ra_nil) (bi_listF (a := eI) (names_)))) (fun left_ => [some ((eL eI) (names_), mS), some ((eL eI) (some_), mS), some ((eL eI) (left_), mA), none, none]) (fun left_ => (rs_set (re_eq (re_lstP (a := eI) [] ra_nil)) (fun found_ => [some ((eL eI) (names_), mS), some ((eL eI) (some_), mS), some ((eL eI) (left_), mA), some ((eL eI) (found_), mA), none]) (fun found_ => (rs_seqN (s := (fun (V32 : (List Int) × (List Int)) => [some ((eL eI) (names_), mS), some ((eL eI) (some_), mS), some ((eL eI) (V32.2), mA), some ((eL eI) (V32.1), mA), none])) (rb_forRP (s := (fun (V32 : (List Int) × (List Int)) => [some ((eL eI) (names_), mS), some ((eL eI) (some_), mS), some ((eL eI) (V32.2), mA), some ((eL eI) (V32.1), mA), none])) 0 (names_.length : Int) (found_, left_) (ra_consP (re_cbP ((names_.length : Int)) (ra_consP (re_vS 0 (eL eI) (names_)) ra_nil) (len_L (a := eI) (names_))) ra_nil) ⟨rfl, rfl⟩ (el_c sl_o (el_c sl_o (el_c sl_o (el_c sl_o (el_c sl_n el_nil))))) (fun V32 k_ => [some ((eL eI) (names_), mS), some ((eL eI) (some_), mS), some ((eL eI) (V32.2), mA), some ((eL eI) (V32.1), mA), some (eI (k_), mA)]) (fun V32 k_ => (rs_appPop (a := eI) (xs := V32.2) (zs := V32.1) (k := fun p34 => (Out.ok (p34.1, p34.2))) (re_eq (re_2 (opO_out xo_mod) (re_2Q (xo_ixF (a := eI)) (re_vS 1 (eL eI) (some_)) (re_2P xo_add (re_mulL 8 (re_c (.int 8) eI (8)) (re_vF 4 eI (k_))) (re_c (.int 9) eI (9)))) (re_cbP ((V32.2.length : Int)) (ra_consP (re_vA 2 (eL eI) (V32.2)) ra_nil) (len_L (a := eI) (V32.2))))) (fun p34 => [some ((eL eI) (names_), mS), some ((eL eI) (some_), mS), some ((eL eI) (p34.2), mA), some ((eL eI) (p34.1), mA), some (eI (k_), mA)]) (fun p34 => (rb_next (V := (p34.1, p34.2)) (el_c sl_o (el_c sl_o (el_c sl_o (el_c sl_o (el_c sl_n el_nil)))))))))) (fun V32 => (rb_retP' (e := (eL eI)) V32.1 (re_eq (re_mO 3 (eL eI) (V32.1))))))))))
  exact of_KT hr h
abbrev s_law_drawn : Stmt := topS 20
abbrev N_law_drawn : List Str := ["_law_script", "_law_place", "_law_most", "_law_sizes", "_law_some", "_law_names", "_law_signs", "_law_last", "_law_k", "_law_step", "_law_walks", "_law_rings", "_law_one"]
abbrev lv_law_drawn : Nat := 3
theorem sc_law_drawn : FnScope N_law_drawn ["_law_script", "_law_place", "_law_most"] (defScope s_law_drawn) := ⟨rfl, rfl, rfl, by decide +kernel, rfl, by decide +kernel, by decide +kernel⟩
def w_law_drawn : WS := (wSeq (wSet 3 (wCB wLst (wCons (wBin woAdd (wVar 2) (wC (.int 1))) (wCons (wC (.int 5)) (wCons (wC (.int 4)) (wCons (wC (.int 3)) (wCons (wC (.int 3)) wNil)))))))
  (wSeq (wSet 4 (wCall XD.sp_law_row (wCons (wMv 0) (wCons (wMv 1) (wCons (wBin woAdd (wVar 3) (wBin woMul (wCB wLst (wCons (wC (.int 80)) (wCons (wC (.int 5)) (wCons (wC (.int 2)) (wCons (wC (.int 3)) wNil))))) (wBin woMul (wC (.int 2)) (wVar 2)))) wNil)))))
  (wSeq (wSet 5 (wCB wLst wNil))
  (wSeq (wSet 6 wDNewK)
  (wSeq (wSet 7 (wC (.int 0)))
  (wSeq (wCut (wForR 1 8 (wCons (wBin wIx (wVar 4) (wC (.int 0))) wNil)
  (wSeq (wSet 9 (wBin woMul (wBin wIx (wVar 4) (wBin woAdd (wBin woMul (wC (.int 8)) (wVar 8)) (wC (.int 8)))) (wBin wIx (wCB wLst (wCons (wC (.int 0)) (wCons (wC (.int 1)) (wCons (wBin woPow (wC (.int 10)) (wC (.int 58))) wNil)))) (wBin wIx (wVar 4) (wC (.int 3))))))
  (wSeq (wSet 7 (wBin woAdd (wBin woAdd (wVar 7) (wC (.int 1))) (wVar 9)))
  (wSeq (wApp (wPVar 5) (wVar 7))
  (wSeq (wDPut 6 (wVar 7) (wBin woSub (wBin woMul (wC (.int 2)) (wBin wIx (wVar 4) (wBin woAdd (wBin woMul (wC (.int 8)) (wVar 8)) (wC (.int 7))))) (wC (.int 1))))
  wNext))))))
  (wSeq (wCut (wIf (wTest (wBin woLt (wBin wIx (wVar 4) (wC (.int 2))) (wC (.int 2)))) (wSeq (wSet 10 (wCall XD.sp_law_plaited (wCons (wCall XD.sp_law_mixed (wCons (wVar 5) (wCons (wVar 4) wNil))) (wCons (wVar 6) (wCons (wVar 4) (wCons (wBin woAdd (wC (.int 2)) (wBin wIx (wVar 4) (wC (.int 4)))) wNil))))))
  wNext) (wSeq (wSet 11 (wCB wMax2 (wCons (wBin wIx (wVar 4) (wC (.int 1))) (wCons (wCB wMin2 (wCons (wCB wLen (wCons (wVar 5) wNil)) (wCons (wC (.int 1)) wNil))) wNil))))
  (wSeq (wSet 10 (wCall XD.sp_law_any (wCons (wVar 5) (wCons (wMv 4) (wCons (wMv 11) wNil)))))
  wNext))))
  (wSeq (wRet (wCB wTup (wCons (wMv 10) (wCons (wLc [12] (tgN 12) (wVar 5) wYes (wCB wTup (wCons (wVar 12) (wCons (wDGet (wVar 6) (wVar 12)) wNil)))) wNil))))
  wNext))))))))
theorem st_law_drawn (x0 x1 x2 : D) : startE N_law_drawn [x0, x1, x2] = [argS x0, argS x1, argS x2, none, none, none, none, none, none, none, none, none, none] := rfl
theorem d_law_drawn (E : Ev K mg cl) (G_law_row : Def P w K mg base cl "_law_row" 3 XD.sp_law_row lv_law_row) (G_law_plaited : Def P w K mg base cl "_law_plaited" 4 XD.sp_law_plaited lv_law_plaited) (G_law_any : Def P w K mg base cl "_law_any" 3 XD.sp_law_any lv_law_any) (G_law_mixed : Def P w K mg base cl "_law_mixed" 2 XD.sp_law_mixed lv_law_mixed) (f : Addr) (cdv : Value) (A : Around) (outer : List Env) (s : Shared) (H : Hp) (E0 : XK) (P0 : Addr → Prop) (hr : Room 2 (cxV P w K mg base N_law_drawn "_law_drawn" s_law_drawn f cdv A outer s H E0).A) :
    PSs (cxV P w K mg base N_law_drawn "_law_drawn" s_law_drawn f cdv A outer s H E0) (defBody s_law_drawn) (rdS (cnOf K cl P0 H) (WXE E0) w_law_drawn) := by
  have nd := sc_law_drawn.nd
  exact (vss_cons (vs_set (i := 3) (ve_lst (va_cons (ve_add (ve_var 2) ve_int) (va_cons ve_int (va_cons ve_int (va_cons ve_int (va_cons ve_int va_nil)))))) nd)
  (vss_cons (vs_set (i := 4) (ve_call (k := lv_law_row) G_law_row (hr.mono (by decide)) (takes_of rfl rfl rfl rfl) (va_cons (ve_mv 0) (va_cons (ve_mv 1) (va_cons (ve_add (ve_var 3) (ve_mul (ve_lst (va_cons ve_int (va_cons ve_int (va_cons ve_int (va_cons ve_int va_nil))))) (ve_mul ve_int (ve_var 2)))) va_nil)))) nd)
  (vss_cons (vs_set (i := 5) (ve_lst va_nil) nd)
  (vss_cons (vs_set (i := 6) ve_dnewK nd)
  (vss_cons (vs_set (i := 7) ve_int nd)
  (vss_cons (vs_cut (vs_forR1 (i := 8) (passes_of rfl) rfl E.m_range (va_cons (ve_ix (ve_var 4) ve_int) va_nil)
  (vss_cons (vs_set (i := 9) (ve_mul (ve_ix (ve_var 4) (ve_add (ve_mul ve_int (ve_var 8)) ve_int)) (ve_ix (ve_lst (va_cons ve_int (va_cons ve_int (va_cons (ve_pow ve_int ve_int) va_nil)))) (ve_ix (ve_var 4) ve_int))) nd)
  (vss_cons (vs_set (i := 7) (ve_add (ve_add (ve_var 7) ve_int) (ve_var 9)) nd)
  (vss_cons (vs_app (vp_var 5) (ve_var 7))
  (vss_cons (vs_dput 6 hr (ve_var 7) (ve_sub (ve_mul ve_int (ve_ix (ve_var 4) (ve_add (ve_mul ve_int (ve_var 8)) ve_int))) ve_int))
  vss_nil)))) nd))
  (vss_cons (vs_cut (vs_if (vt_c c_lt (ve_ix (ve_var 4) ve_int) ve_int) (vss_cons (vs_set (i := 10) (ve_call (k := lv_law_plaited) G_law_plaited (hr.mono (by decide)) (takes_of rfl rfl rfl rfl) (va_cons (ve_call (k := lv_law_mixed) G_law_mixed (hr.mono (by decide)) (takes_of rfl rfl rfl rfl) (va_cons (ve_var 5) (va_cons (ve_var 4) va_nil))) (va_cons (ve_var 6) (va_cons (ve_var 4) (va_cons (ve_add ve_int (ve_ix (ve_var 4) ve_int)) va_nil))))) nd)
  vss_nil) (vss_cons (vs_set (i := 11) (ve_max2 rfl E.m_max (va_cons (ve_ix (ve_var 4) ve_int) (va_cons (ve_min2 rfl E.m_min (va_cons (ve_len1 E.m_len (va_cons (ve_var 5) va_nil)) (va_cons ve_int va_nil))) va_nil))) nd)
  (vss_cons (vs_set (i := 10) (ve_call (k := lv_law_any) G_law_any (hr.mono (by decide)) (takes_of rfl rfl rfl rfl) (va_cons (ve_var 5) (va_cons (ve_mv 4) (va_cons (ve_mv 11) va_nil)))) nd)
  vss_nil))))
  (vss_cons (vs_ret (ve_tup (va_cons (ve_mv 10) (va_cons (ve_lcN rfl nd [("_law_one", 12)] (ve_var 5) (fun _ _ _ _ _ => pg_name nd rfl (by first | exact .inl rfl | exact .inr rfl)) (fun _ _ _ _ _ => vts_nil) (fun _ _ _ _ _ => (ve_tup (va_cons (ve_var 12) (va_cons (ve_dget hr (ve_var 6) (ve_var 12)) va_nil))))) va_nil))))
  vss_nil))))))))
theorem b_law_drawn (kV doc pm : Value) (an : Option Addr) (cdv ct : Value) (us : List Value) (h : us.length = 3) : bindArgs (PySem.W.fnOf "_law_drawn" "_law_drawn" (defArgs s_law_drawn) (defBody s_law_drawn) (defScope s_law_drawn) .none kV doc pm an cdv ct) ⟨us, []⟩ = pure ((["_law_script", "_law_place", "_law_most"] : List Str).zip us) := match us, h with | [_, _, _], _ => rfl
theorem spec_law_drawn : ∀ ds Qv Xv, XD.sp_law_drawn ds Qv Xv → ds.length = 3 ∧ w_law_drawn (startE N_law_drawn ds) ⟨fun _ => Qv ⟨.none, mA⟩, fun r _ => Qv r, fun ex _ => Xv ex⟩ := by
  rintro ds Qv Xv ⟨script_, place_, most_, rfl, h⟩
  refine ⟨rfl, ?_⟩
  have he : startE N_law_drawn [eScr script_, eI place_, eI most_] = [some (eScr script_, mS), some (eI place_, mA), some (eI most_, mA), none, none, none, none, none, none, none, none, none, none] := by
    rw [st_law_drawn]
    try simp only [argS_F, argS_N]
  rw [he]
  have hr : RB (fun _ => True) w_law_drawn [some (eScr script_, mS), some (eI place_, mA), some (eI most_, mA), none, none, none, none, none, none, none, none, none, none] (XD.F_law_drawn script_ place_ most_) (KT (e2 (eL (eL eI)) (eL (e2 eI eI))) mA) := by
    unfold XD.F_law_drawn w_law_drawn
    exact (rs_set (re_eq (re_lstFP (a := eI) [(most_ + 1), 5, 4, 3, 3] (ra_consP (re_2P xo_add (re_vF 2 eI (most_)) (re_c (.int 1) eI (1))) (ra_consP (re_c (.int 5) eI (5)) (ra_consP (re_c (.int 4) eI (4)) (ra_consP (re_c (.int 3) eI (3)) (ra_consP (re_c (.int 3) eI (3)) ra_nil))))))) (fun sizes_ => [some (eScr (script_), mS), some (eI (place_), mA), some (eI (most_), mA), some ((eL eI) (sizes_), mA), none, none, none, none, none, none, none, none, none]) (fun sizes_ => (rs_set (re_eq (re_call (b := (eL eI)) (M := fun (t : (List Int) × Int × (List Int) × Unit) => XD.F_law_row t.1 t.2.1 t.2.2.1) (ra_cons (re_mO 0 eScr (script_)) (ra_cons (re_mF 1 eI (place_)) (ra_cons (re_2 (opO_out (xo_catF (a := eI))) (re_vA 3 (eL eI) (sizes_)) (re_2Q (xo_rep (a := eI)) (re_lstFP (a := eI) [80, 5, 2, 3] (ra_consP (re_c (.int 80) eI (80)) (ra_consP (re_c (.int 5) eI (5)) (ra_consP (re_c (.int 2) eI (2)) (ra_consP (re_c (.int 3) eI (3)) ra_nil))))) (re_mulL 2 (re_c (.int 2) eI (2)) (re_vF 2 eI (most_))))) ra_nil))) (fun (t : (List Int) × Int × (List Int) × Unit) Q X h => ⟨t.1, t.2.1, t.2.2.1, rfl, h⟩))) (fun some_ => [none, some (eI (place_), mA), some (eI (most_), mA), some ((eL eI) (sizes_), mA), some ((eL eI) (some_), mA), none, none, none, none, none, none, none, none]) (fun some_ => (rs_set (re_eq (re_lstP (a := eI) [] ra_nil)) (fun names_ => [none, some (eI (place_), mA), some (eI (most_), mA), some ((eL eI) (sizes_), mA), some ((eL eI) (some_), mA), some ((eL eI) (names_), mA), none, none, none, none, none, none, none]) (fun names_ => (rs_set (re_eq (re_dnew (a := eI))) (fun signs_ => [none, some (eI (place_), mA), some (eI (most_), mA), some ((eL eI) (sizes_), mA), some ((eL eI) (some_), mA), some ((eL eI) (names_), mA), some ((eK eI) (signs_), mA), none, none, none, none, none, none]) (fun signs_ => (rs_set (re_eq (re_c (.int 0) eI (0))) (fun last_ => [none, some (eI (place_), mA), some (eI (most_), mA), some ((eL eI) (sizes_), mA), some ((eL eI) (some_), mA), some ((eL eI) (names_), mA), some ((eK eI) (signs_), mA), some (eI (last_), mA), none, none, none, none, none]) (fun last_ => (rs_seqN (s := (fun (V239 : Int × (List Int) × (List (Int × Int))) => [none, some (eI (place_), mA), some (eI (most_), mA), some ((eL eI) (sizes_), mA), some ((eL eI) (some_), mA), some ((eL eI) (V239.2.1), mA), some ((eK eI) (V239.2.2), mA), some (eI (V239.1), mA), none, none, none, none, none])) (rb_forR (s := (fun (V239 : Int × (List Int) × (List (Int × Int))) => [none, some (eI (place_), mA), some (eI (most_), mA), some ((eL eI) (sizes_), mA), some ((eL eI) (some_), mA), some ((eL eI) (V239.2.1), mA), some ((eK eI) (V239.2.2), mA), some (eI (V239.1), mA), none, none, none, none, none])) (gl := fun (t : Int × Unit) => 0) (gh := fun (t : Int × Unit) => t.1) (last_, names_, signs_) (ra_cons (re_2Q (xo_ixF (a := eI)) (re_vA 4 (eL eI) (some_)) (re_c (.int 0) eI (0))) ra_nil) (fun _ => ⟨rfl, rfl⟩) (el_c sl_n (el_c sl_o (el_c sl_o (el_c sl_o (el_c sl_o (el_c sl_o (el_c sl_o (el_c sl_o (el_c sl_n (el_c sl_n (el_c sl_n (el_c sl_n (el_c sl_n el_nil))))))))))))) (fun V239 k_ => [none, some (eI (place_), mA), some (eI (most_), mA), some ((eL eI) (sizes_), mA), some ((eL eI) (some_), mA), some ((eL eI) (V239.2.1), mA), some ((eK eI) (V239.2.2), mA), some (eI (V239.1), mA), some (eI (k_), mA), none, none, none, none]) (fun V239 k_ => (rs_set (re_eq (re_2 (opO_out xo_mul) (re_2Q (xo_ixF (a := eI)) (re_vA 4 (eL eI) (some_)) (re_2P xo_add (re_mulL 8 (re_c (.int 8) eI (8)) (re_vF 8 eI (k_))) (re_c (.int 8) eI (8)))) (re_2 (opO_out (xo_ixF (a := eI))) (re_lstFP (a := eI) [0, 1, (10 ^ ((58 : Int).toNat) : Int)] (ra_consP (re_c (.int 0) eI (0)) (ra_consP (re_c (.int 1) eI (1)) (ra_consP (re_powC 10 58 (re_c (.int 10) eI (10)) (re_c (.int 58) eI (58))) ra_nil)))) (re_2Q (xo_ixF (a := eI)) (re_vA 4 (eL eI) (some_)) (re_c (.int 3) eI (3)))))) (fun step_ => [none, some (eI (place_), mA), some (eI (most_), mA), some ((eL eI) (sizes_), mA), some ((eL eI) (some_), mA), some ((eL eI) (V239.2.1), mA), some ((eK eI) (V239.2.2), mA), some (eI (V239.1), mA), some (eI (k_), mA), some (eI (step_), mA), none, none, none]) (fun step_ => (rs_set (re_eq (re_2P xo_add (re_2P xo_add (re_vF 7 eI (V239.1)) (re_c (.int 1) eI (1))) (re_vF 9 eI (step_)))) (fun last_ => [none, some (eI (place_), mA), some (eI (most_), mA), some ((eL eI) (sizes_), mA), some ((eL eI) (some_), mA), some ((eL eI) (V239.2.1), mA), some ((eK eI) (V239.2.2), mA), some (eI (last_), mA), some (eI (k_), mA), some (eI (step_), mA), none, none, none]) (fun last_ => (rs_app (a := eI) (xs := V239.2.1) (re_eq (re_vF 7 eI (last_))) (fun names_ => [none, some (eI (place_), mA), some (eI (most_), mA), some ((eL eI) (sizes_), mA), some ((eL eI) (some_), mA), some ((eL eI) (names_), mA), some ((eK eI) (V239.2.2), mA), some (eI (last_), mA), some (eI (k_), mA), some (eI (step_), mA), none, none, none]) (fun names_ => (rs_dput (a := eI) (kvs := V239.2.2) (re_eq (re_2 (opP_out xo_sub) (re_mulLO 2 (re_c (.int 2) eI (2)) (re_2Q (xo_ixF (a := eI)) (re_vA 4 (eL eI) (some_)) (re_2P xo_add (re_mulL 8 (re_c (.int 8) eI (8)) (re_vF 8 eI (k_))) (re_c (.int 7) eI (7))))) (re_c (.int 1) eI (1)))) (re_eq (re_vF 7 eI (last_))) (fun signs_ => [none, some (eI (place_), mA), some (eI (most_), mA), some ((eL eI) (sizes_), mA), some ((eL eI) (some_), mA), some ((eL eI) (names_), mA), some ((eK eI) (signs_), mA), some (eI (last_), mA), some (eI (k_), mA), some (eI (step_), mA), none, none, none]) (fun signs_ => (rb_next (V := (last_, names_, signs_)) (el_c sl_n (el_c sl_o (el_c sl_o (el_c sl_o (el_c sl_o (el_c sl_o (el_c sl_o (el_c sl_o (el_c sl_n (el_c sl_n (el_c sl_n (el_c sl_n (el_c sl_n el_nil)))))))))))))))))))))))) (fun V239 => (rs_seqN (s := (fun (V240 : (List (List Int))) => [none, some (eI (place_), mA), some (eI (most_), mA), some ((eL eI) (sizes_), mA), none, some ((eL eI) (V239.2.1), mA), some ((eK eI) (V239.2.2), mA), some (eI (V239.1), mA), none, none, some ((eL (eL eI)) (V240), mA), none, none])) (rb_if (rt_eq (rt_val (re_2 (opP_out xo_lt) (re_2Q (xo_ixF (a := eI)) (re_vA 4 (eL eI) (some_)) (re_c (.int 2) eI (2))) (re_c (.int 2) eI (2))))) (rs_set (re_eq (re_call (b := (eL (eL eI))) (M := fun (t : (List Int) × (List (Int × Int)) × (List Int) × Int × Unit) => XD.F_law_plaited t.1 t.2.1 t.2.2.1 t.2.2.2.1) (ra_cons (re_callP (b := (eL eI)) (M := (XD.F_law_mixed V239.2.1 some_)) (ra_consP (re_vA 5 (eL eI) (V239.2.1)) (ra_consP (re_vA 4 (eL eI) (some_)) ra_nil)) (fun Q X h => ⟨V239.2.1, some_, rfl, h⟩)) (ra_cons (re_vA 6 (eK eI) (V239.2.2)) (ra_cons (re_vA 4 (eL eI) (some_)) (ra_cons (re_2 (opP_out xo_add) (re_c (.int 2) eI (2)) (re_2Q (xo_ixF (a := eI)) (re_vA 4 (eL eI) (some_)) (re_c (.int 4) eI (4)))) ra_nil)))) (fun (t : (List Int) × (List (Int × Int)) × (List Int) × Int × Unit) Q X h => ⟨t.1, t.2.1, t.2.2.1, t.2.2.2.1, rfl, h⟩))) (fun walks_ => [none, some (eI (place_), mA), some (eI (most_), mA), some ((eL eI) (sizes_), mA), some ((eL eI) (some_), mA), some ((eL eI) (V239.2.1), mA), some ((eK eI) (V239.2.2), mA), some (eI (V239.1), mA), none, none, some ((eL (eL eI)) (walks_), mA), none, none]) (fun walks_ => (rb_next (V := walks_) (el_c sl_n (el_c sl_o (el_c sl_o (el_c sl_o (el_c sl_n (el_c sl_o (el_c sl_o (el_c sl_o (el_c sl_n (el_c sl_n (el_c sl_o (el_c sl_n (el_c sl_n el_nil)))))))))))))))) (rs_set (re_eq (re_cb (M := fun (t : Int × Int × Unit) => .ok (maxF t.1 t.2.1)) (ra_cons (re_2Q (xo_ixF (a := eI)) (re_vA 4 (eL eI) (some_)) (re_c (.int 1) eI (1))) (ra_consP (re_cbP (minF (V239.2.1.length : Int) 1) (ra_consP (re_cbP ((V239.2.1.length : Int)) (ra_consP (re_vA 5 (eL eI) (V239.2.1)) ra_nil) (len_L (a := eI) (V239.2.1))) (ra_consP (re_c (.int 1) eI (1)) ra_nil)) (bi_min ((V239.2.1.length : Int)) (1))) ra_nil)) (fun (t : Int × Int × Unit) _ _ h => bi_max (t.1) (t.2.1) _ h))) (fun rings_ => [none, some (eI (place_), mA), some (eI (most_), mA), some ((eL eI) (sizes_), mA), some ((eL eI) (some_), mA), some ((eL eI) (V239.2.1), mA), some ((eK eI) (V239.2.2), mA), some (eI (V239.1), mA), none, none, none, some (eI (rings_), mA), none]) (fun rings_ => (rs_set (re_eq (re_callP (b := (eL (eL eI))) (M := (XD.F_law_any V239.2.1 some_ rings_)) (ra_consP (re_vA 5 (eL eI) (V239.2.1)) (ra_consP (re_mO 4 (eL eI) (some_)) (ra_consP (re_mF 11 eI (rings_)) ra_nil))) (fun Q X h => ⟨V239.2.1, some_, rings_, rfl, h⟩))) (fun walks_ => [none, some (eI (place_), mA), some (eI (most_), mA), some ((eL eI) (sizes_), mA), none, some ((eL eI) (V239.2.1), mA), some ((eK eI) (V239.2.2), mA), some (eI (V239.1), mA), none, none, some ((eL (eL eI)) (walks_), mA), some (eI (rings_), mA), none]) (fun walks_ => (rb_next (V := walks_) (el_c sl_n (el_c sl_o (el_c sl_o (el_c sl_o (el_c sl_n (el_c sl_o (el_c sl_o (el_c sl_o (el_c sl_n (el_c sl_n (el_c sl_o (el_c sl_n (el_c sl_n el_nil))))))))))))))))))) (fun V240 => (rb_retI (re_eq (re_tup (a := (e2 (eL (eL eI)) (eL (e2 eI eI)))) (fun (t : (List (List Int)) × (List (Int × Int)) × Unit) => (t.1, t.2.1)) (ra_cons (re_mO 10 (eL (eL eI)) (V240)) (ra_cons (re_lc1P none mA (a := eI) (ent := (fun one_ => [none, some (eI (place_), mA), some (eI (most_), mA), some ((eL eI) (sizes_), .b), none, some ((eL eI) (V239.2.1), .b), some ((eK eI) (V239.2.2), .b), some (eI (V239.1), mA), none, none, none, none, some (eI (one_), mA)])) (F := (fun one_ : Int => (((Out.ok (one_)).bind fun x => ((lift (lookK V239.2.2 one_)).bind fun x => (Out.ok ()).bind fun t => .ok (x, t)).bind fun t => .ok (x, t)).bind fun (t : Int × Int × Unit) => .ok (t.1, t.2.1)))) (re_eq (re_vA 5 (eL eI) (V239.2.1))) (fun _ => ⟨_, rfl, rfl⟩) (fun one_ => ⟨_, re_eq (re_tupF (a := (e2 eI eI)) (fun (t : Int × Int × Unit) => (t.1, t.2.1)) (ra_cons (re_vF 12 eI (one_)) (ra_cons (re_eq (re_dget (re_vB 6 (eK eI) (V239.2.2)) (re_vF 12 eI (one_)))) ra_nil)))⟩) (kid_F (c := (e2 eI eI)))) ra_nil)))))))))))))))))))
  exact of_KT hr h
abbrev s_law_copy : Stmt := topS 21
abbrev N_law_copy : List Str := ["_law_drawing", "_law_walk"]
abbrev lv_law_copy : Nat := 1
theorem sc_law_copy : FnScope N_law_copy ["_law_drawing"] (defScope s_law_copy) := ⟨rfl, rfl, rfl, by decide +kernel, rfl, by decide +kernel, by decide +kernel⟩
def w_law_copy : WS := (wSeq (wRet (wCB wTup (wCons (wLc [1] (tgN 1) (wBin wIx (wVar 0) (wC (.int 0))) wYes (wCB wList (wCons (wVar 1) wNil))) (wCons (wCB wList (wCons (wBin wIx (wVar 0) (wC (.int 1))) wNil)) wNil))))
  wNext)
theorem st_law_copy (x0 : D) : startE N_law_copy [x0] = [argS x0, none] := rfl
theorem d_law_copy (E : Ev K mg cl)  (f : Addr) (cdv : Value) (A : Around) (outer : List Env) (s : Shared) (H : Hp) (E0 : XK) (P0 : Addr → Prop) (hr : Room 0 (cxV P w K mg base N_law_copy "_law_copy" s_law_copy f cdv A outer s H E0).A) :
    PSs (cxV P w K mg base N_law_copy "_law_copy" s_law_copy f cdv A outer s H E0) (defBody s_law_copy) (rdS (cnOf K cl P0 H) (WXE E0) w_law_copy) := by
  have nd := sc_law_copy.nd
  exact (vss_cons (vs_ret (ve_tup (va_cons (ve_lcN rfl nd [("_law_walk", 1)] (ve_ix (ve_var 0) ve_int) (fun _ _ _ _ _ => pg_name nd rfl (by first | exact .inl rfl | exact .inr rfl)) (fun _ _ _ _ _ => vts_nil) (fun _ _ _ _ _ => (ve_list1 E.m_list (va_cons (ve_var 1) va_nil)))) (va_cons (ve_list1 E.m_list (va_cons (ve_ix (ve_var 0) ve_int) va_nil)) va_nil))))
  vss_nil)
theorem b_law_copy (kV doc pm : Value) (an : Option Addr) (cdv ct : Value) (us : List Value) (h : us.length = 1) : bindArgs (PySem.W.fnOf "_law_copy" "_law_copy" (defArgs s_law_copy) (defBody s_law_copy) (defScope s_law_copy) .none kV doc pm an cdv ct) ⟨us, []⟩ = pure ((["_law_drawing"] : List Str).zip us) := match us, h with | [_], _ => rfl
theorem spec_law_copy : ∀ ds Qv Xv, XD.sp_law_copy ds Qv Xv → ds.length = 1 ∧ w_law_copy (startE N_law_copy ds) ⟨fun _ => Qv ⟨.none, mA⟩, fun r _ => Qv r, fun ex _ => Xv ex⟩ := by
  rintro ds Qv Xv ⟨drawing_, rfl, h⟩
  refine ⟨rfl, ?_⟩
  have he : startE N_law_copy [(e2 (eL (eL eI)) (eL (e2 eI eI))) drawing_] = [some ((e2 (eL (eL eI)) (eL (e2 eI eI))) drawing_, mS), none] := by
    rw [st_law_copy]
    try simp only [argS_F, argS_N]
  rw [he]
  have hr : RB (fun _ => True) w_law_copy [some ((e2 (eL (eL eI)) (eL (e2 eI eI))) drawing_, mS), none] (XD.F_law_copy drawing_) (KT (e2 (eL (eL eI)) (eL (e2 eI eI))) mA) := by
    unfold XD.F_law_copy w_law_copy
    exact (rb_retI (re_eq (re_tup (a := (e2 (eL (eL eI)) (eL (e2 eI eI)))) (fun (t : (List (List Int)) × (List (Int × Int)) × Unit) => (t.1, t.2.1)) (ra_cons (re_lc1P none mA (a := (eL eI)) (ent := (fun walk_ => [some ((e2 (eL (eL eI)) (eL (e2 eI eI))) (drawing_), mS), some ((eL eI) (walk_), mS)])) (F := (fun walk_ : (List Int) => (Out.ok (walk_)))) (re_eq (re_tN (e := (eL (eL eI))) (b := (e2 (eL (eL eI)) (eL (e2 eI eI)))) 0 (drawing_.1) (re_vS 0 (e2 (eL (eL eI)) (eL (e2 eI eI))) (drawing_)) (re_c (.int 0) eI (0)))) (fun _ => ⟨_, rfl, rfl⟩) (fun walk_ => ⟨_, re_eq (re_cbP (walk_) (ra_consP (re_vS 1 (eL eI) (walk_)) ra_nil) (bi_listF (a := eI) (walk_)))⟩) (kid_A (c := (eL eI)))) (ra_consP (re_cbP (drawing_.2) (ra_consP (re_tN (e := (eL (e2 eI eI))) (b := (e2 (eL (eL eI)) (eL (e2 eI eI)))) 1 (drawing_.2) (re_vS 0 (e2 (eL (eL eI)) (eL (e2 eI eI))) (drawing_)) (re_c (.int 1) eI (1))) ra_nil) (bi_listF (a := (e2 eI eI)) (drawing_.2))) ra_nil)))))
  exact of_KT hr h
abbrev s_law_wrong : Stmt := topS 28
abbrev N_law_wrong : List Str := ["_law_walks", "_law_named", "_law_at", "_law_place", "_law_one", "_law_ahead", "_law_every", "_law_walk"]
abbrev lv_law_wrong : Nat := 1
theorem sc_law_wrong : FnScope N_law_wrong ["_law_walks", "_law_named", "_law_at", "_law_place"] (defScope s_law_wrong) := ⟨rfl, rfl, rfl, by decide +kernel, rfl, by decide +kernel, by decide +kernel⟩
def w_law_wrong : WS := (wSeq (wSet 4 (wBin wIx (wBin wIx (wVar 0) (wVar 2)) (wVar 3)))
  (wSeq (wSet 5 (wCB wList (wCons (wSl (wBin wIx (wVar 0) (wVar 2)) wNoP (wPt (wVar 3))) wNil)))
  (wSeq (wSet 6 (wCB wLst wNil))
  (wSeq (wCut (wFor (tgN 7) (wVar 0)
  (wSeq (wExt (wPVar 6) (wMv 7))
  wNext)))
  (wSeq (wCut (wFor (tgN 7) (wWk 0 (wSl (wVar 0) wNoP (wPt (wVar 2))))
  (wSeq (wExt (wPVar 5) (wMv 7))
  wNext)))
  (wSeq (wIf (wOr (wTest (wBin woEq (wVar 4) (wC (.int 0)))) (wTest (wBin woIn (wVar 4) (wVar 5)))) (wSeq (wRet (wC (.bool true)))
  wNext) wNext)
  (wSeq (wRet (wOrV (wBin woNotIn (wNeg (wVar 4)) (wVar 6)) (wBin woNotIn (wCB wAbs (wCons (wVar 4) wNil)) (wVar 1))))
  wNext)))))))
theorem st_law_wrong (x0 x1 x2 x3 : D) : startE N_law_wrong [x0, x1, x2, x3] = [argS x0, argS x1, argS x2, argS x3, none, none, none, none] := rfl
theorem d_law_wrong (E : Ev K mg cl)  (f : Addr) (cdv : Value) (A : Around) (outer : List Env) (s : Shared) (H : Hp) (E0 : XK) (P0 : Addr → Prop) (hr : Room 0 (cxV P w K mg base N_law_wrong "_law_wrong" s_law_wrong f cdv A outer s H E0).A) :
    PSs (cxV P w K mg base N_law_wrong "_law_wrong" s_law_wrong f cdv A outer s H E0) (defBody s_law_wrong) (rdS (cnOf K cl P0 H) (WXE E0) w_law_wrong) := by
  have nd := sc_law_wrong.nd
  exact (vss_cons (vs_set (i := 4) (ve_ix (ve_ix (ve_var 0) (ve_var 2)) (ve_var 3)) nd)
  (vss_cons (vs_set (i := 5) (ve_list1 E.m_list (va_cons (ve_slice (ve_ix (ve_var 0) (ve_var 2)) vo_none (vo_some (ve_var 3))) va_nil)) nd)
  (vss_cons (vs_set (i := 6) (ve_lst va_nil) nd)
  (vss_cons (vs_cut (vs_for (passes_of rfl) rfl (ve_var 0) (tg_name nd)
  (fun _ => (vss_cons (vs_ext (vp_var 6) (ve_mv 7))
  vss_nil))))
  (vss_cons (vs_cut (vs_for (passes_of rfl) rfl (ve_wk 0 (ve_slice (ve_var 0) vo_none (vo_some (ve_var 2)))) (tg_name nd)
  (fun _ => (vss_cons (vs_ext (vp_var 5) (ve_mv 7))
  vss_nil))))
  (vss_cons (vs_if (PW.pt (vw_or (vt_c (c_eq hr) (ve_var 4) ve_int) (vw_or1 (vt_c (c_in hr) (ve_var 4) (ve_var 5))))) (vss_cons (vs_ret ve_bl)
  vss_nil) vss_nil)
  (vss_cons (vs_ret (ve_or (ve_c (c_notIn hr) (ve_neg (ve_var 4)) (ve_var 6)) (ve_one (ve_c (c_notIn hr) (ve_abs1 E.m_abs (va_cons (ve_var 4) va_nil)) (ve_var 1)))))
  vss_nil)))))))
theorem b_law_wrong (kV doc pm : Value) (an : Option Addr) (cdv ct : Value) (us : List Value) (h : us.length = 4) : bindArgs (PySem.W.fnOf "_law_wrong" "_law_wrong" (defArgs s_law_wrong) (defBody s_law_wrong) (defScope s_law_wrong) .none kV doc pm an cdv ct) ⟨us, []⟩ = pure ((["_law_walks", "_law_named", "_law_at", "_law_place"] : List Str).zip us) := match us, h with | [_, _, _, _], _ => rfl
theorem spec_law_wrong : ∀ ds Qv Xv, sp_law_wrong ds Qv Xv → ds.length = 4 ∧ w_law_wrong (startE N_law_wrong ds) ⟨fun _ => Qv ⟨.none, mA⟩, fun r _ => Qv r, fun ex _ => Xv ex⟩ := by
  rintro ds Qv Xv ⟨walks_, named_, at_, place_, rfl, h⟩
  refine ⟨rfl, ?_⟩
  have he : startE N_law_wrong [(eL (eL eI)) walks_, (eL eI) named_, eI at_, eI place_] = [some ((eL (eL eI)) walks_, mS), some ((eL eI) named_, mS), some (eI at_, mA), some (eI place_, mA), none, none, none, none] := by
    rw [st_law_wrong]
    try simp only [argS_F, argS_N]
  rw [he]
  have hr : RB (fun _ => True) w_law_wrong [some ((eL (eL eI)) walks_, mS), some ((eL eI) named_, mS), some (eI at_, mA), some (eI place_, mA), none, none, none, none] (F_law_wrong walks_ named_ at_ place_) (KT eB mA) := by
    unfold F_law_wrong w_law_wrong
    exact (rs_set (re_eq (re_2 (opO_out (xo_ixF (a := eI))) (re_2Q (xo_ixN (a := (eL eI))) (re_vS 0 (eL (eL eI)) (walks_)) (re_vF 2 eI (at_))) (re_vF 3 eI (place_)))) (fun one_ => [some ((eL (eL eI)) (walks_), mS), some ((eL eI) (named_), mS), some (eI (at_), mA), some (eI (place_), mA), some (eI (one_), mA), none, none, none]) (fun one_ => (rs_set (re_eq (re_cb (M := fun (t : (List Int) × Unit) => .ok (t.1)) (ra_cons (re_slFO (a := eI) (re_2Q (xo_ixN (a := (eL eI))) (re_vS 0 (eL (eL eI)) (walks_)) (re_vF 2 eI (at_))) ro_no (ro_ptP (re_vF 3 eI (place_)))) ra_nil) (fun (t : (List Int) × Unit) _ _ h => bi_listF (a := eI) (t.1) _ h))) (fun ahead_ => [some ((eL (eL eI)) (walks_), mS), some ((eL eI) (named_), mS), some (eI (at_), mA), some (eI (place_), mA), some (eI (one_), mA), some ((eL eI) (ahead_), mA), none, none]) (fun ahead_ => (rs_set (re_eq (re_lstP (a := eI) [] ra_nil)) (fun every_ => [some ((eL (eL eI)) (walks_), mS), some ((eL eI) (named_), mS), some (eI (at_), mA), some (eI (place_), mA), some (eI (one_), mA), some ((eL eI) (ahead_), mA), some ((eL eI) (every_), mA), none]) (fun every_ => (rs_seqN (s := (fun (V393 : (List Int)) => [some ((eL (eL eI)) (walks_), mS), some ((eL eI) (named_), mS), some (eI (at_), mA), some (eI (place_), mA), some (eI (one_), mA), some ((eL eI) (ahead_), mA), some ((eL eI) (V393), mA), none])) (rb_forP (s := (fun (V393 : (List Int)) => [some ((eL (eL eI)) (walks_), mS), some ((eL eI) (named_), mS), some (eI (at_), mA), some (eI (place_), mA), some (eI (one_), mA), some ((eL eI) (ahead_), mA), some ((eL eI) (V393), mA), none])) (a := (eL eI)) every_ (re_eq (re_vS 0 (eL (eL eI)) (walks_))) (el_c sl_o (el_c sl_o (el_c sl_o (el_c sl_o (el_c sl_o (el_c sl_o (el_c sl_o (el_c sl_n el_nil)))))))) (fun V393 walk_ => [some ((eL (eL eI)) (walks_), mS), some ((eL eI) (named_), mS), some (eI (at_), mA), some (eI (place_), mA), some (eI (one_), mA), some ((eL eI) (ahead_), mA), some ((eL eI) (V393), mA), some ((eL eI) (walk_), mS)]) (fun V393 walk_ => (rs_ext (a := eI) (xs := V393) (re_eq (re_mO 7 (eL eI) (walk_))) (fun every_ => [some ((eL (eL eI)) (walks_), mS), some ((eL eI) (named_), mS), some (eI (at_), mA), some (eI (place_), mA), some (eI (one_), mA), some ((eL eI) (ahead_), mA), some ((eL eI) (every_), mA), none]) (fun every_ => (rb_next (V := every_) (el_c sl_o (el_c sl_o (el_c sl_o (el_c sl_o (el_c sl_o (el_c sl_o (el_c sl_o (el_c sl_n el_nil))))))))))))) (fun V393 => (rs_seqN (s := (fun (V394 : (List Int)) => [some ((eL (eL eI)) (walks_), mS), some ((eL eI) (named_), mS), some (eI (at_), mA), some (eI (place_), mA), some (eI (one_), mA), some ((eL eI) (V394), mA), some ((eL eI) (V393), mA), none])) (rb_forP (s := (fun (V394 : (List Int)) => [some ((eL (eL eI)) (walks_), mS), some ((eL eI) (named_), mS), some (eI (at_), mA), some (eI (place_), mA), some (eI (one_), mA), some ((eL eI) (V394), mA), some ((eL eI) (V393), mA), none])) (a := (eL eI)) ahead_ (re_eq (re_slN (a := (eL eI)) (re_vS 0 (eL (eL eI)) (walks_)) ro_no (ro_ptP (re_vF 2 eI (at_))))) (el_c sl_o (el_c sl_o (el_c sl_o (el_c sl_o (el_c sl_o (el_c sl_o (el_c sl_o (el_c sl_n el_nil)))))))) (fun V394 walk_ => [some ((eL (eL eI)) (walks_), mS), some ((eL eI) (named_), mS), some (eI (at_), mA), some (eI (place_), mA), some (eI (one_), mA), some ((eL eI) (V394), mA), some ((eL eI) (V393), mA), some ((eL eI) (walk_), mS)]) (fun V394 walk_ => (rs_ext (a := eI) (xs := V394) (re_eq (re_mO 7 (eL eI) (walk_))) (fun ahead_ => [some ((eL (eL eI)) (walks_), mS), some ((eL eI) (named_), mS), some (eI (at_), mA), some (eI (place_), mA), some (eI (one_), mA), some ((eL eI) (ahead_), mA), some ((eL eI) (V393), mA), none]) (fun ahead_ => (rb_next (V := ahead_) (el_c sl_o (el_c sl_o (el_c sl_o (el_c sl_o (el_c sl_o (el_c sl_o (el_c sl_o (el_c sl_n el_nil))))))))))))) (fun V394 => (rs_ifRP kt_kt (rt_eq (rt_orP (rt_val (re_2P xo_eqI (re_vF 4 eI (one_)) (re_c (.int 0) eI (0)))) (rt_val (re_2P (xo_in (a := eI)) (re_vF 4 eI (one_)) (re_vA 5 (eL eI) (V394)))))) (rb_retP' (e := eB) true (re_eq (re_c (.bool true) eB (true)))) (rb_retP' (e := eB) (!decide (-one_ ∈ V393) || !decide (absF one_ ∈ named_)) (re_eq (re_orP (re_2P (xo_notIn (a := eI)) (re_neg (re_vF 4 eI (one_))) (re_vA 6 (eL eI) (V393))) (re_2P (xo_notIn (a := eI)) (re_cbP (absF one_) (ra_consP (re_vF 4 eI (one_)) ra_nil) (bi_abs (one_))) (re_vS 1 (eL eI) (named_)))))))))))))))))
  exact of_KT hr h
abbrev s_law_due : Stmt := topS 29
abbrev N_law_due : List Str := ["_law_drawing", "_law_walks", "_law_signs", "_law_named", "_law_every", "_law_at", "_law_place", "_law_crossing", "_law_sign"]
abbrev lv_law_due : Nat := 2
theorem sc_law_due : FnScope N_law_due ["_law_drawing"] (defScope s_law_due) := ⟨rfl, rfl, rfl, by decide +kernel, rfl, by decide +kernel, by decide +kernel⟩
def w_law_due : WS := (wSeq (wAsg (tgT [1, 2]) (wMv 0))
  (wSeq (wSet 3 (wLc [7, 8] (tgT [7, 8]) (wVar 2) wYes (wVar 7)))
  (wSeq (wSet 4 (wCB wLst wNil))
  (wSeq (wCut (wForR 1 5 (wCons (wCB wLen (wCons (wVar 1) wNil)) wNil)
  (wSeq (wExt (wPVar 4) (wBin wIx (wVar 1) (wVar 5)))
  (wSeq (wCut (wForR 1 6 (wCons (wCB wLen (wCons (wBin wIx (wVar 1) (wVar 5)) wNil)) wNil)
  (wSeq (wIf (wTest (wCall sp_law_wrong (wCons (wVar 1) (wCons (wVar 3) (wCons (wVar 5) (wCons (wVar 6) wNil)))))) (wSeq (wRet (wCB wTup (wCons (wC (.str (Str.ofString "walk"))) (wCons (wMv 5) (wCons (wMv 6) wNil)))))
  wNext) wNext)
  wNext)))
  wNext))))
  (wSeq (wCut (wForR 1 5 (wCons (wCB wLen (wCons (wVar 2) wNil)) wNil)
  (wSeq (wAsg (tgT [7, 8]) (wBin wIx (wVar 2) (wVar 5)))
  (wSeq (wIf (wOr (wAnd (wTest (wBin woEq (wVar 5) (wC (.int 0)))) (wTest (wBin woLt (wVar 7) (wC (.int 1))))) (wAnd (wTest (wBin woGt (wVar 5) (wC (.int 0)))) (wTest (wBin woLe (wVar 7) (wBin wIx (wBin wIx (wVar 2) (wBin woSub (wVar 5) (wC (.int 1)))) (wC (.int 0))))))) (wSeq (wRet (wCB wTup (wCons (wC (.str (Str.ofString "sign"))) (wCons (wMv 5) wNil))))
  wNext) wNext)
  (wSeq (wIf (wOr (wTest (wBin woNe (wBin woMul (wVar 8) (wVar 8)) (wC (.int 1)))) (wTest (wBin woNotIn (wVar 7) (wVar 4)))) (wSeq (wRet (wCB wTup (wCons (wC (.str (Str.ofString "sign"))) (wCons (wMv 5) wNil))))
  wNext) wNext)
  wNext)))))
  (wSeq (wIf (wTest (wBin woGt (wCB wLen (wCons (wVar 2) wNil)) (wC (.int 40)))) (wSeq (wRet (wCB wTup (wCons (wC (.str (Str.ofString "many"))) (wCons (wCB wLen (wCons (wMv 2) wNil)) wNil))))
  wNext) wNext)
  (wSeq (wIf (wTest (wBin woGt (wCB wLen (wCons (wVar 1) wNil)) (wC (.int 12)))) (wSeq (wRet (wCB wTup (wCons (wC (.str (Str.ofString "many"))) (wCons (wCB wLen (wCons (wMv 1) wNil)) wNil))))
  wNext) wNext)
  (wSeq (wRet (wC .none))
  wNext))))))))
theorem st_law_due (x0 : D) : startE N_law_due [x0] = [argS x0, none, none, none, none, none, none, none, none] := rfl
theorem d_law_due (E : Ev K mg cl) (G_law_wrong : Def P w K mg base cl "_law_wrong" 4 sp_law_wrong lv_law_wrong) (f : Addr) (cdv : Value) (A : Around) (outer : List Env) (s : Shared) (H : Hp) (E0 : XK) (P0 : Addr → Prop) (hr : Room 1 (cxV P w K mg base N_law_due "_law_due" s_law_due f cdv A outer s H E0).A) :
    PSs (cxV P w K mg base N_law_due "_law_due" s_law_due f cdv A outer s H E0) (defBody s_law_due) (rdS (cnOf K cl P0 H) (WXE E0) w_law_due) := by
  have nd := sc_law_due.nd
  exact (vss_cons (vs_asg (ve_mv 0) (tg_tup rfl (na_cons (na_cons na_nil nd) nd)))
  (vss_cons (vs_setLcT (n := 3) (is := [7, 8]) rfl nd [("_law_crossing", 7), ("_law_sign", 8)] (ve_var 2) (fun _ _ _ _ _ => pg_tup rfl (pgs_cons (pg_name nd rfl (by first | exact .inl rfl | exact .inr rfl)) (pgs_cons (pg_name nd rfl (by first | exact .inl rfl | exact .inr rfl)) pgs_nil))) (fun _ _ _ _ _ => vts_nil) (fun _ _ _ _ _ => (ve_var 7)))
  (vss_cons (vs_set (i := 4) (ve_lst va_nil) nd)
  (vss_cons (vs_cut (vs_forR1 (i := 5) (passes_of rfl) rfl E.m_range (va_cons (ve_len1 E.m_len (va_cons (ve_var 1) va_nil)) va_nil)
  (vss_cons (vs_ext (vp_var 4) (ve_ix (ve_var 1) (ve_var 5)))
  (vss_cons (vs_cut (vs_forR1 (i := 6) (passes_of rfl) rfl E.m_range (va_cons (ve_len1 E.m_len (va_cons (ve_ix (ve_var 1) (ve_var 5)) va_nil)) va_nil)
  (vss_cons (vs_if (vt_val (ve_call (k := lv_law_wrong) G_law_wrong (hr.mono (by decide)) (takes_of rfl rfl rfl rfl) (va_cons (ve_var 1) (va_cons (ve_var 3) (va_cons (ve_var 5) (va_cons (ve_var 6) va_nil)))))) (vss_cons (vs_ret (ve_tup (va_cons ve_str (va_cons (ve_mv 5) (va_cons (ve_mv 6) va_nil)))))
  vss_nil) vss_nil)
  vss_nil) nd))
  vss_nil)) nd))
  (vss_cons (vs_cut (vs_forR1 (i := 5) (passes_of rfl) rfl E.m_range (va_cons (ve_len1 E.m_len (va_cons (ve_var 2) va_nil)) va_nil)
  (vss_cons (vs_asg (ve_ix (ve_var 2) (ve_var 5)) (tg_tup rfl (na_cons (na_cons na_nil nd) nd)))
  (vss_cons (vs_if (PW.pt (vw_or (PW.pt (vw_and (vt_c (c_eq hr) (ve_var 5) ve_int) (vw_and1 (vt_c c_lt (ve_var 7) ve_int)))) (vw_or1 (PW.pt (vw_and (vt_c c_gt (ve_var 5) ve_int) (vw_and1 (vt_c c_le (ve_var 7) (ve_ix (ve_ix (ve_var 2) (ve_sub (ve_var 5) ve_int)) ve_int)))))))) (vss_cons (vs_ret (ve_tup (va_cons ve_str (va_cons (ve_mv 5) va_nil))))
  vss_nil) vss_nil)
  (vss_cons (vs_if (PW.pt (vw_or (vt_c (c_ne hr) (ve_mul (ve_var 8) (ve_var 8)) ve_int) (vw_or1 (vt_c (c_notIn hr) (ve_var 7) (ve_var 4))))) (vss_cons (vs_ret (ve_tup (va_cons ve_str (va_cons (ve_mv 5) va_nil))))
  vss_nil) vss_nil)
  vss_nil))) nd))
  (vss_cons (vs_if (vt_c c_gt (ve_len1 E.m_len (va_cons (ve_var 2) va_nil)) ve_int) (vss_cons (vs_ret (ve_tup (va_cons ve_str (va_cons (ve_len1 E.m_len (va_cons (ve_mv 2) va_nil)) va_nil))))
  vss_nil) vss_nil)
  (vss_cons (vs_if (vt_c c_gt (ve_len1 E.m_len (va_cons (ve_var 1) va_nil)) ve_int) (vss_cons (vs_ret (ve_tup (va_cons ve_str (va_cons (ve_len1 E.m_len (va_cons (ve_mv 1) va_nil)) va_nil))))
  vss_nil) vss_nil)
  (vss_cons (vs_ret ve_non)
  vss_nil))))))))
theorem b_law_due (kV doc pm : Value) (an : Option Addr) (cdv ct : Value) (us : List Value) (h : us.length = 1) : bindArgs (PySem.W.fnOf "_law_due" "_law_due" (defArgs s_law_due) (defBody s_law_due) (defScope s_law_due) .none kV doc pm an cdv ct) ⟨us, []⟩ = pure ((["_law_drawing"] : List Str).zip us) := match us, h with | [_], _ => rfl
theorem spec_law_due : ∀ ds Qv Xv, sp_law_due ds Qv Xv → ds.length = 1 ∧ w_law_due (startE N_law_due ds) ⟨fun _ => Qv ⟨.none, mA⟩, fun r _ => Qv r, fun ex _ => Xv ex⟩ := by
  rintro ds Qv Xv ⟨drawing_, rfl, h⟩
  refine ⟨rfl, ?_⟩
  have he : startE N_law_due [(e2 (eL (eL eI)) (eL (e2 eI eI))) drawing_] = [some ((e2 (eL (eL eI)) (eL (e2 eI eI))) drawing_, mS), none, none, none, none, none, none, none, none] := by
    rw [st_law_due]
    try simp only [argS_F, argS_N]
  rw [he]
  have hr : RB (fun _ => True) w_law_due [some ((e2 (eL (eL eI)) (eL (e2 eI eI))) drawing_, mS), none, none, none, none, none, none, none, none] (F_law_due drawing_) (KT (eO (eTL eA)) mA) := by
    unfold F_law_due w_law_due
    exact (rs_asg (a := (e2 (eL (eL eI)) (eL (e2 eI eI)))) (re_eq (re_mO 0 (e2 (eL (eL eI)) (eL (e2 eI eI))) (drawing_))) (fun p399 => [none, some ((eL (eL eI)) (p399.1), mS), some ((eL (e2 eI eI)) (p399.2), mS), none, none, none, none, none, none]) (fun p399 => (rs_set (re_eq (re_lc1P none mA (a := (e2 eI eI)) (ent := (fun p400 => [none, some ((eL (eL eI)) (p399.1), mS), some ((eL (e2 eI eI)) (p399.2), mS), none, none, none, none, some (eI (p400.1), mA), some (eI (p400.2), mA)])) (F := (fun p400 : (Int × Int) => (Out.ok (p400.1)))) (re_eq (re_vS 2 (eL (e2 eI eI)) (p399.2))) (fun _ => ⟨_, rfl, rfl⟩) (fun p400 => ⟨_, re_eq (re_vF 7 eI (p400.1))⟩) (kid_F (c := eI)))) (fun named_ => [none, some ((eL (eL eI)) (p399.1), mS), some ((eL (e2 eI eI)) (p399.2), mS), some ((eL eI) (named_), mA), none, none, none, none, none]) (fun named_ => (rs_set (re_eq (re_lstP (a := eI) [] ra_nil)) (fun every_ => [none, some ((eL (eL eI)) (p399.1), mS), some ((eL (e2 eI eI)) (p399.2), mS), some ((eL eI) (named_), mA), some ((eL eI) (every_), mA), none, none, none, none]) (fun every_ => (rs_seqT (s := (fun (V401 : (List Int)) => [none, some ((eL (eL eI)) (p399.1), mS), some ((eL (e2 eI eI)) (p399.2), mS), some ((eL eI) (named_), mA), some ((eL eI) (V401), mA), none, none, none, none])) (rb_forRFP (s := (fun (V401 : (List Int)) => [none, some ((eL (eL eI)) (p399.1), mS), some ((eL (e2 eI eI)) (p399.2), mS), some ((eL eI) (named_), mA), some ((eL eI) (V401), mA), none, none, none, none])) 0 (p399.1.length : Int) every_ (ra_consP (re_cbP ((p399.1.length : Int)) (ra_consP (re_vS 1 (eL (eL eI)) (p399.1)) ra_nil) (len_L (a := (eL eI)) (p399.1))) ra_nil) ⟨rfl, rfl⟩ (el_c sl_n (el_c sl_o (el_c sl_o (el_c sl_o (el_c sl_o (el_c sl_n (el_c sl_n (el_c sl_n (el_c sl_n el_nil))))))))) (fun V401 at_ => [none, some ((eL (eL eI)) (p399.1), mS), some ((eL (e2 eI eI)) (p399.2), mS), some ((eL eI) (named_), mA), some ((eL eI) (V401), mA), some (eI (at_), mA), none, none, none]) (fun V401 at_ => (rs_ext (a := eI) (xs := V401) (re_eq (re_2Q (xo_ixN (a := (eL eI))) (re_vS 1 (eL (eL eI)) (p399.1)) (re_vF 5 eI (at_)))) (fun every_ => [none, some ((eL (eL eI)) (p399.1), mS), some ((eL (e2 eI eI)) (p399.2), mS), some ((eL eI) (named_), mA), some ((eL eI) (every_), mA), some (eI (at_), mA), none, none, none]) (fun every_ => (rs_seqF (s := (fun (V403 : Unit) => [none, some ((eL (eL eI)) (p399.1), mS), some ((eL (e2 eI eI)) (p399.2), mS), some ((eL eI) (named_), mA), some ((eL eI) (every_), mA), some (eI (at_), mA), none, none, none])) (rb_forRF (s := (fun (V403 : Unit) => [none, some ((eL (eL eI)) (p399.1), mS), some ((eL (e2 eI eI)) (p399.2), mS), some ((eL eI) (named_), mA), some ((eL eI) (every_), mA), some (eI (at_), mA), none, none, none])) (gl := fun (t : Int × Unit) => 0) (gh := fun (t : Int × Unit) => t.1) () (ra_cons (re_cb (M := fun (t : (List Int) × Unit) => .ok ((t.1.length : Int))) (ra_cons (re_2Q (xo_ixN (a := (eL eI))) (re_vS 1 (eL (eL eI)) (p399.1)) (re_vF 5 eI (at_))) ra_nil) (fun (t : (List Int) × Unit) _ _ h => len_L (a := eI) (t.1) _ h)) ra_nil) (fun _ => ⟨rfl, rfl⟩) (el_c sl_n (el_c sl_o (el_c sl_o (el_c sl_o (el_c sl_o (el_c sl_o (el_c sl_n (el_c sl_n (el_c sl_n el_nil))))))))) (fun V403 place_ => [none, some ((eL (eL eI)) (p399.1), mS), some ((eL (e2 eI eI)) (p399.2), mS), some ((eL eI) (named_), mA), some ((eL eI) (every_), mA), some (eI (at_), mA), some (eI (place_), mA), none, none]) (fun V403 place_ => (rs_ifR kf_kr (rt_eq (rt_val (re_callP (b := eB) (M := (F_law_wrong p399.1 named_ at_ place_)) (ra_consP (re_vS 1 (eL (eL eI)) (p399.1)) (ra_consP (re_vA 3 (eL eI) (named_)) (ra_consP (re_vF 5 eI (at_)) (ra_consP (re_vF 6 eI (place_)) ra_nil)))) (fun Q X h => ⟨p399.1, named_, at_, place_, rfl, h⟩)))) (rb_retRP (e := (eO (eTL eA))) (some (([.s (Str.ofString "walk"), .i at_, .i place_] : List At))) (re_eq (re_tupFP (a := (e3 eS eI eI)) (Str.ofString "walk", at_, place_) (ra_consP (re_c (.str (Str.ofString "walk")) eS (Str.ofString "walk")) (ra_consP (re_mF 5 eI (at_)) (ra_consP (re_mF 6 eI (place_)) ra_nil)))))) (rb_nextF (V := ()) (el_c sl_n (el_c sl_o (el_c sl_o (el_c sl_o (el_c sl_o (el_c sl_o (el_c sl_n (el_c sl_n (el_c sl_n el_nil))))))))))))) (fun V403 => (rb_nextF (V := every_) (el_c sl_n (el_c sl_o (el_c sl_o (el_c sl_o (el_c sl_o (el_c sl_n (el_c sl_n (el_c sl_n (el_c sl_n el_nil)))))))))))))))) (fun V401 => (rs_seqT (s := (fun (V404 : Unit) => [none, some ((eL (eL eI)) (p399.1), mS), some ((eL (e2 eI eI)) (p399.2), mS), some ((eL eI) (named_), mA), some ((eL eI) (V401), mA), none, none, none, none])) (rb_forRFP (s := (fun (V404 : Unit) => [none, some ((eL (eL eI)) (p399.1), mS), some ((eL (e2 eI eI)) (p399.2), mS), some ((eL eI) (named_), mA), some ((eL eI) (V401), mA), none, none, none, none])) 0 (p399.2.length : Int) () (ra_consP (re_cbP ((p399.2.length : Int)) (ra_consP (re_vS 2 (eL (e2 eI eI)) (p399.2)) ra_nil) (len_L (a := (e2 eI eI)) (p399.2))) ra_nil) ⟨rfl, rfl⟩ (el_c sl_n (el_c sl_o (el_c sl_o (el_c sl_o (el_c sl_o (el_c sl_n (el_c sl_n (el_c sl_n (el_c sl_n el_nil))))))))) (fun V404 at_ => [none, some ((eL (eL eI)) (p399.1), mS), some ((eL (e2 eI eI)) (p399.2), mS), some ((eL eI) (named_), mA), some ((eL eI) (V401), mA), some (eI (at_), mA), none, none, none]) (fun V404 at_ => (rs_asg (a := (e2 eI eI)) (re_eq (re_2Q (xo_ixF (a := (e2 eI eI))) (re_vS 2 (eL (e2 eI eI)) (p399.2)) (re_vF 5 eI (at_)))) (fun p406 => [none, some ((eL (eL eI)) (p399.1), mS), some ((eL (e2 eI eI)) (p399.2), mS), some ((eL eI) (named_), mA), some ((eL eI) (V401), mA), some (eI (at_), mA), none, some (eI (p406.1), mA), some (eI (p406.2), mA)]) (fun p406 => (rs_ifR kf_kr (rt_eq (rt_or (rt_andP (rt_val (re_2P xo_eqI (re_vF 5 eI (at_)) (re_c (.int 0) eI (0)))) (rt_val (re_2P xo_lt (re_vF 7 eI (p406.1)) (re_c (.int 1) eI (1))))) (rt_and (rt_val (re_2P xo_gt (re_vF 5 eI (at_)) (re_c (.int 0) eI (0)))) (rt_val (re_2 (opP_out xo_le) (re_vF 7 eI (p406.1)) (re_tFO (e := eI) (b := (e2 eI eI)) (g := fun p => p.1) 0 (re_2Q (xo_ixF (a := (e2 eI eI))) (re_vS 2 (eL (e2 eI eI)) (p399.2)) (re_2P xo_sub (re_vF 5 eI (at_)) (re_c (.int 1) eI (1)))) (re_c (.int 0) eI (0)))))))) (rb_retRP (e := (eO (eTL eA))) (some (([.s (Str.ofString "sign"), .i at_] : List At))) (re_eq (re_tupFP (a := (e2 eS eI)) (Str.ofString "sign", at_) (ra_consP (re_c (.str (Str.ofString "sign")) eS (Str.ofString "sign")) (ra_consP (re_mF 5 eI (at_)) ra_nil))))) (rs_ifR kf_kr (rt_eq (rt_or (rt_val (re_2 (opP_out xo_neI) (re_2Q xo_mul (re_vF 8 eI (p406.2)) (re_vF 8 eI (p406.2))) (re_c (.int 1) eI (1)))) (rt_val (re_2P (xo_notIn (a := eI)) (re_vF 7 eI (p406.1)) (re_vA 4 (eL eI) (V401)))))) (rb_retRP (e := (eO (eTL eA))) (some (([.s (Str.ofString "sign"), .i at_] : List At))) (re_eq (re_tupFP (a := (e2 eS eI)) (Str.ofString "sign", at_) (ra_consP (re_c (.str (Str.ofString "sign")) eS (Str.ofString "sign")) (ra_consP (re_mF 5 eI (at_)) ra_nil))))) (rb_nextF (V := ()) (el_c sl_n (el_c sl_o (el_c sl_o (el_c sl_o (el_c sl_o (el_c sl_n (el_c sl_n (el_c sl_n (el_c sl_n el_nil)))))))))))))))) (fun V404 => (rs_ifRP kt_kt (rt_eq (rt_val (re_2P xo_gt (re_cbP ((p399.2.length : Int)) (ra_consP (re_vS 2 (eL (e2 eI eI)) (p399.2)) ra_nil) (len_L (a := (e2 eI eI)) (p399.2))) (re_c (.int 40) eI (40))))) (rb_retP' (e := (eO (eTL eA))) (some (([.s (Str.ofString "many"), .i (p399.2.length : Int)] : List At))) (re_eq (re_tupFP (a := (e2 eS eI)) (Str.ofString "many", (p399.2.length : Int)) (ra_consP (re_c (.str (Str.ofString "many")) eS (Str.ofString "many")) (ra_consP (re_cbP ((p399.2.length : Int)) (ra_consP (re_mO 2 (eL (e2 eI eI)) (p399.2)) ra_nil) (len_L (a := (e2 eI eI)) (p399.2))) ra_nil))))) (rs_ifRP kt_kt (rt_eq (rt_val (re_2P xo_gt (re_cbP ((p399.1.length : Int)) (ra_consP (re_vS 1 (eL (eL eI)) (p399.1)) ra_nil) (len_L (a := (eL eI)) (p399.1))) (re_c (.int 12) eI (12))))) (rb_retP' (e := (eO (eTL eA))) (some (([.s (Str.ofString "many"), .i (p399.1.length : Int)] : List At))) (re_eq (re_tupFP (a := (e2 eS eI)) (Str.ofString "many", (p399.1.length : Int)) (ra_consP (re_c (.str (Str.ofString "many")) eS (Str.ofString "many")) (ra_consP (re_cbP ((p399.1.length : Int)) (ra_consP (re_mO 1 (eL (eL eI)) (p399.1)) ra_nil) (len_L (a := (eL eI)) (p399.1))) ra_nil))))) (rb_retP' (e := (eO (eTL eA))) none (re_eq (re_c .none eN (()))))))))))))))))
  exact of_KT hr h
abbrev s_passages_of : Stmt := topS 8
abbrev N_passages_of : List Str := ["walks", "found", "walk"]
abbrev lv_passages_of : Nat := 1
theorem sc_passages_of : FnScope N_passages_of ["walks"] (defScope s_passages_of) := ⟨rfl, rfl, rfl, by decide +kernel, rfl, by decide +kernel, by decide +kernel⟩
def w_passages_of : WS := (wSeq (wSet 1 (wCB wLst wNil))
  (wSeq (wCut (wFor (tgN 2) (wMv 0)
  (wSeq (wExt (wPVar 1) (wMv 2))
  wNext)))
  (wSeq (wRet (wMv 1))
  wNext)))
theorem st_passages_of (x0 : D) : startE N_passages_of [x0] = [argS x0, none, none] := rfl
theorem d_passages_of (E : Ev K mg cl)  (f : Addr) (cdv : Value) (A : Around) (outer : List Env) (s : Shared) (H : Hp) (E0 : XK) (P0 : Addr → Prop) (hr : Room 0 (cxV P w K mg base N_passages_of "passages_of" s_passages_of f cdv A outer s H E0).A) :
    PSs (cxV P w K mg base N_passages_of "passages_of" s_passages_of f cdv A outer s H E0) (defBody s_passages_of) (rdS (cnOf K cl P0 H) (WXE E0) w_passages_of) := by
  have nd := sc_passages_of.nd
  exact (vss_cons (vs_set (i := 1) (ve_lst va_nil) nd)
  (vss_cons (vs_cut (vs_for (passes_of rfl) rfl (ve_mv 0) (tg_name nd)
  (fun _ => (vss_cons (vs_ext (vp_var 1) (ve_mv 2))
  vss_nil))))
  (vss_cons (vs_ret (ve_mv 1))
  vss_nil)))
theorem b_passages_of (kV doc pm : Value) (an : Option Addr) (cdv ct : Value) (us : List Value) (h : us.length = 1) : bindArgs (PySem.W.fnOf "passages_of" "passages_of" (defArgs s_passages_of) (defBody s_passages_of) (defScope s_passages_of) .none kV doc pm an cdv ct) ⟨us, []⟩ = pure ((["walks"] : List Str).zip us) := match us, h with | [_], _ => rfl
theorem spec_passages_of : ∀ ds Qv Xv, XTX.sp_passages_of ds Qv Xv → ds.length = 1 ∧ w_passages_of (startE N_passages_of ds) ⟨fun _ => Qv ⟨.none, mA⟩, fun r _ => Qv r, fun ex _ => Xv ex⟩ := by
  rintro ds Qv Xv ⟨walks_, rfl, h⟩
  refine ⟨rfl, ?_⟩
  have he : startE N_passages_of [(eL (eL eI)) walks_] = [some ((eL (eL eI)) walks_, mS), none, none] := by
    rw [st_passages_of]
    try simp only [argS_F, argS_N]
  rw [he]
  have hr : RB (fun _ => True) w_passages_of [some ((eL (eL eI)) walks_, mS), none, none] (XTX.F_passages_of walks_) (KT (eL eI) mA) := by
    unfold XTX.F_passages_of w_passages_of
    exact (rs_set (re_eq (re_lstP (a := eI) [] ra_nil)) (fun found_ => [some ((eL (eL eI)) (walks_), mS), some ((eL eI) (found_), mA), none]) (fun found_ => (rs_seqN (s := (fun (V410 : (List Int)) => [none, some ((eL eI) (V410), mA), none])) (rb_forP (s := (fun (V410 : (List Int)) => [none, some ((eL eI) (V410), mA), none])) (a := (eL eI)) found_ (re_eq (re_mO 0 (eL (eL eI)) (walks_))) (el_c sl_n (el_c sl_o (el_c sl_n el_nil))) (fun V410 walk_ => [none, some ((eL eI) (V410), mA), some ((eL eI) (walk_), mS)]) (fun V410 walk_ => (rs_ext (a := eI) (xs := V410) (re_eq (re_mO 2 (eL eI) (walk_))) (fun found_ => [none, some ((eL eI) (found_), mA), none]) (fun found_ => (rb_next (V := found_) (el_c sl_n (el_c sl_o (el_c sl_n el_nil)))))))) (fun V410 => (rb_retP' (e := (eL eI)) V410 (re_eq (re_mO 1 (eL eI) (V410))))))))
  exact of_KT hr h
abbrev s_walk_fault : Stmt := topS 9
abbrev N_walk_fault : List Str := ["walks", "signs", "there", "passage", "signed", "crossing", "sign", "seen", "at", "walk", "place"]
abbrev lv_walk_fault : Nat := 2
theorem sc_walk_fault : FnScope N_walk_fault ["walks", "signs"] (defScope s_walk_fault) := ⟨rfl, rfl, rfl, by decide +kernel, rfl, by decide +kernel, by decide +kernel⟩
def w_walk_fault : WS := (wSeq (wSet 2 wDNewK)
  (wSeq (wCut (wFor (tgN 3) (wCall XTX.sp_passages_of (wCons (wVar 0) wNil))
  (wSeq (wDPut 2 (wVar 3) (wC (.bool true)))
  wNext)))
  (wSeq (wSet 4 wDNewK)
  (wSeq (wCut (wFor (tgT [5, 6]) (wMv 1)
  (wSeq (wDPut 4 (wVar 5) (wC (.bool true)))
  wNext)))
  (wSeq (wSet 7 wDNewK)
  (wSeq (wCut (wFor_enumerate (tgT [8, 9]) (wCons (wVar 0) wNil)
  (wSeq (wCut (wFor_enumerate (tgT [10, 3]) (wCons (wVar 9) wNil)
  (wSeq (wIf (wOr (wTest (wBin woEq (wVar 3) (wC (.int 0)))) (wOr (wTest (wDIn true (wVar 3) (wVar 7))) (wOr (wTest (wDIn false (wNeg (wVar 3)) (wVar 2))) (wTest (wDIn false (wCB wAbs (wCons (wVar 3) wNil)) (wVar 4)))))) (wSeq (wRet (wCB wTup (wCons (wC (.str (Str.ofString "walk"))) (wCons (wMv 8) (wCons (wMv 10) wNil)))))
  wNext) wNext)
  (wSeq (wDPut 7 (wVar 3) (wC (.bool true)))
  wNext))))
  wNext)))
  (wSeq (wRet (wC .none))
  wNext)))))))
theorem st_walk_fault (x0 x1 : D) : startE N_walk_fault [x0, x1] = [argS x0, argS x1, none, none, none, none, none, none, none, none, none] := rfl
theorem d_walk_fault (E : Ev K mg cl) (G_passages_of : Def P w K mg base cl "passages_of" 1 XTX.sp_passages_of lv_passages_of) (f : Addr) (cdv : Value) (A : Around) (outer : List Env) (s : Shared) (H : Hp) (E0 : XK) (P0 : Addr → Prop) (hr : Room 1 (cxV P w K mg base N_walk_fault "walk_fault" s_walk_fault f cdv A outer s H E0).A) :
    PSs (cxV P w K mg base N_walk_fault "walk_fault" s_walk_fault f cdv A outer s H E0) (defBody s_walk_fault) (rdS (cnOf K cl P0 H) (WXE E0) w_walk_fault) := by
  have nd := sc_walk_fault.nd
  exact (vss_cons (vs_set (i := 2) ve_dnewK nd)
  (vss_cons (vs_cut (vs_for (passes_of rfl) rfl (ve_call (k := lv_passages_of) G_passages_of (hr.mono (by decide)) (takes_of rfl rfl rfl rfl) (va_cons (ve_var 0) va_nil)) (tg_name nd)
  (fun _ => (vss_cons (vs_dput 2 hr (ve_var 3) ve_bl)
  vss_nil))))
  (vss_cons (vs_set (i := 4) ve_dnewK nd)
  (vss_cons (vs_cut (vs_for (passes_of rfl) rfl (ve_mv 1) (tg_tup rfl (na_cons (na_cons na_nil nd) nd))
  (fun _ => (vss_cons (vs_dput 4 hr (ve_var 5) ve_bl)
  vss_nil))))
  (vss_cons (vs_set (i := 7) ve_dnewK nd)
  (vss_cons (vs_cut (vs_for_enumerate (passes_of rfl) rfl E.m_enumerate (va_cons (ve_var 0) va_nil) (tg_tup rfl (na_cons (na_cons na_nil nd) nd))
  (fun _ => (vss_cons (vs_cut (vs_for_enumerate (passes_of rfl) rfl E.m_enumerate (va_cons (ve_var 9) va_nil) (tg_tup rfl (na_cons (na_cons na_nil nd) nd))
  (fun _ => (vss_cons (vs_if (PW.pt (vw_or (vt_c (c_eq hr) (ve_var 3) ve_int) (vw_or (vt_din hr (ve_var 3) (ve_var 7)) (vw_or (vt_dnotin hr (ve_neg (ve_var 3)) (ve_var 2)) (vw_or1 (vt_dnotin hr (ve_abs1 E.m_abs (va_cons (ve_var 3) va_nil)) (ve_var 4))))))) (vss_cons (vs_ret (ve_tup (va_cons ve_str (va_cons (ve_mv 8) (va_cons (ve_mv 10) va_nil)))))
  vss_nil) vss_nil)
  (vss_cons (vs_dput 7 hr (ve_var 3) ve_bl)
  vss_nil)))))
  vss_nil))))
  (vss_cons (vs_ret ve_non)
  vss_nil)))))))
theorem b_walk_fault (kV doc pm : Value) (an : Option Addr) (cdv ct : Value) (us : List Value) (h : us.length = 2) : bindArgs (PySem.W.fnOf "walk_fault" "walk_fault" (defArgs s_walk_fault) (defBody s_walk_fault) (defScope s_walk_fault) .none kV doc pm an cdv ct) ⟨us, []⟩ = pure ((["walks", "signs"] : List Str).zip us) := match us, h with | [_, _], _ => rfl
theorem spec_walk_fault : ∀ ds Qv Xv, XTX.sp_walk_fault ds Qv Xv → ds.length = 2 ∧ w_walk_fault (startE N_walk_fault ds) ⟨fun _ => Qv ⟨.none, mA⟩, fun r _ => Qv r, fun ex _ => Xv ex⟩ := by
  rintro ds Qv Xv ⟨walks_, signs_, rfl, h⟩
  refine ⟨rfl, ?_⟩
  have he : startE N_walk_fault [(eL (eL eI)) walks_, (eL (e2 eI eI)) signs_] = [some ((eL (eL eI)) walks_, mS), some ((eL (e2 eI eI)) signs_, mS), none, none, none, none, none, none, none, none, none] := by
    rw [st_walk_fault]
    try simp only [argS_F, argS_N]
  rw [he]
  have hr : RB (fun _ => True) w_walk_fault [some ((eL (eL eI)) walks_, mS), some ((eL (e2 eI eI)) signs_, mS), none, none, none, none, none, none, none, none, none] (XTX.F_walk_fault walks_ signs_) (KT (eO (eTL eA)) mA) := by
    unfold XTX.F_walk_fault w_walk_fault
    exact (rs_set (re_eq (re_dnew (a := eB))) (fun there_ => [some ((eL (eL eI)) (walks_), mS), some ((eL (e2 eI eI)) (signs_), mS), some ((eK eB) (there_), mA), none, none, none, none, none, none, none, none]) (fun there_ => (rs_seqN (s := (fun (V420 : (List (Int × Bool))) => [some ((eL (eL eI)) (walks_), mS), some ((eL (e2 eI eI)) (signs_), mS), some ((eK eB) (V420), mA), none, none, none, none, none, none, none, none])) (rb_for (s := (fun (V420 : (List (Int × Bool))) => [some ((eL (eL eI)) (walks_), mS), some ((eL (e2 eI eI)) (signs_), mS), some ((eK eB) (V420), mA), none, none, none, none, none, none, none, none])) (a := eI) there_ (re_eq (re_callP (b := (eL eI)) (M := (XTX.F_passages_of walks_)) (ra_consP (re_vS 0 (eL (eL eI)) (walks_)) ra_nil) (fun Q X h => ⟨walks_, rfl, h⟩))) (el_c sl_o (el_c sl_o (el_c sl_o (el_c sl_n (el_c sl_n (el_c sl_n (el_c sl_n (el_c sl_n (el_c sl_n (el_c sl_n (el_c sl_n el_nil))))))))))) (fun V420 passage_ => [some ((eL (eL eI)) (walks_), mS), some ((eL (e2 eI eI)) (signs_), mS), some ((eK eB) (V420), mA), some (eI (passage_), mA), none, none, none, none, none, none, none]) (fun V420 passage_ => (rs_dput (a := eB) (kvs := V420) (re_eq (re_c (.bool true) eB (true))) (re_eq (re_vF 3 eI (passage_))) (fun there_ => [some ((eL (eL eI)) (walks_), mS), some ((eL (e2 eI eI)) (signs_), mS), some ((eK eB) (there_), mA), some (eI (passage_), mA), none, none, none, none, none, none, none]) (fun there_ => (rb_next (V := there_) (el_c sl_o (el_c sl_o (el_c sl_o (el_c sl_n (el_c sl_n (el_c sl_n (el_c sl_n (el_c sl_n (el_c sl_n (el_c sl_n (el_c sl_n el_nil)))))))))))))))) (fun V420 => (rs_set (re_eq (re_dnew (a := eB))) (fun signed_ => [some ((eL (eL eI)) (walks_), mS), some ((eL (e2 eI eI)) (signs_), mS), some ((eK eB) (V420), mA), none, some ((eK eB) (signed_), mA), none, none, none, none, none, none]) (fun signed_ => (rs_seqN (s := (fun (V421 : (List (Int × Bool))) => [some ((eL (eL eI)) (walks_), mS), none, some ((eK eB) (V420), mA), none, some ((eK eB) (V421), mA), none, none, none, none, none, none])) (rb_forP (s := (fun (V421 : (List (Int × Bool))) => [some ((eL (eL eI)) (walks_), mS), none, some ((eK eB) (V420), mA), none, some ((eK eB) (V421), mA), none, none, none, none, none, none])) (a := (e2 eI eI)) signed_ (re_eq (re_mO 1 (eL (e2 eI eI)) (signs_))) (el_c sl_o (el_c sl_n (el_c sl_o (el_c sl_n (el_c sl_o (el_c sl_n (el_c sl_n (el_c sl_n (el_c sl_n (el_c sl_n (el_c sl_n el_nil))))))))))) (fun V421 x422 => [some ((eL (eL eI)) (walks_), mS), none, some ((eK eB) (V420), mA), none, some ((eK eB) (V421), mA), some (eI (x422.1), mA), some (eI (x422.2), mA), none, none, none, none]) (fun V421 x422 => (rs_dput (a := eB) (kvs := V421) (re_eq (re_c (.bool true) eB (true))) (re_eq (re_vF 5 eI (x422.1))) (fun signed_ => [some ((eL (eL eI)) (walks_), mS), none, some ((eK eB) (V420), mA), none, some ((eK eB) (signed_), mA), some (eI (x422.1), mA), some (eI (x422.2), mA), none, none, none, none]) (fun signed_ => (rb_next (V := signed_) (el_c sl_o (el_c sl_n (el_c sl_o (el_c sl_n (el_c sl_o (el_c sl_n (el_c sl_n (el_c sl_n (el_c sl_n (el_c sl_n (el_c sl_n el_nil)))))))))))))))) (fun V421 => (rs_set (re_eq (re_dnew (a := eB))) (fun seen_ => [some ((eL (eL eI)) (walks_), mS), none, some ((eK eB) (V420), mA), none, some ((eK eB) (V421), mA), none, none, some ((eK eB) (seen_), mA), none, none, none]) (fun seen_ => (rs_seqT (s := (fun (V423 : (List (Int × Bool))) => [some ((eL (eL eI)) (walks_), mS), none, some ((eK eB) (V420), mA), none, some ((eK eB) (V421), mA), none, none, some ((eK eB) (V423), mA), none, none, none])) (rb_forEFP (s := (fun (V423 : (List (Int × Bool))) => [some ((eL (eL eI)) (walks_), mS), none, some ((eK eB) (V420), mA), none, some ((eK eB) (V421), mA), none, none, some ((eK eB) (V423), mA), none, none, none])) (a := (eL eI)) seen_ (re_eq (re_vS 0 (eL (eL eI)) (walks_))) (el_c sl_o (el_c sl_n (el_c sl_o (el_c sl_n (el_c sl_o (el_c sl_n (el_c sl_n (el_c sl_o (el_c sl_n (el_c sl_n (el_c sl_n el_nil))))))))))) (fun V423 x424 => [some ((eL (eL eI)) (walks_), mS), none, some ((eK eB) (V420), mA), none, some ((eK eB) (V421), mA), none, none, some ((eK eB) (V423), mA), some (eI (x424.1), mA), some ((eL eI) (x424.2), mS), none]) (fun V423 x424 => (rs_seqF (s := (fun (V427 : (List (Int × Bool))) => [some ((eL (eL eI)) (walks_), mS), none, some ((eK eB) (V420), mA), none, some ((eK eB) (V421), mA), none, none, some ((eK eB) (V427), mA), some (eI (x424.1), mA), some ((eL eI) (x424.2), mS), none])) (rb_forEFP (s := (fun (V427 : (List (Int × Bool))) => [some ((eL (eL eI)) (walks_), mS), none, some ((eK eB) (V420), mA), none, some ((eK eB) (V421), mA), none, none, some ((eK eB) (V427), mA), some (eI (x424.1), mA), some ((eL eI) (x424.2), mS), none])) (a := eI) V423 (re_eq (re_vS 9 (eL eI) (x424.2))) (el_c sl_o (el_c sl_n (el_c sl_o (el_c sl_n (el_c sl_o (el_c sl_n (el_c sl_n (el_c sl_o (el_c sl_o (el_c sl_o (el_c sl_n el_nil))))))))))) (fun V427 x428 => [some ((eL (eL eI)) (walks_), mS), none, some ((eK eB) (V420), mA), some (eI (x428.2), mA), some ((eK eB) (V421), mA), none, none, some ((eK eB) (V427), mA), some (eI (x424.1), mA), some ((eL eI) (x424.2), mS), some (eI (x428.1), mA)]) (fun V427 x428 => (rs_ifRP kf_kr (rt_eq (rt_orP (rt_val (re_2P xo_eqI (re_vF 3 eI (x428.2)) (re_c (.int 0) eI (0)))) (rt_orP (rt_val (re_eq (re_din (bb := true) (re_vF 3 eI (x428.2)) (re_vA 7 (eK eB) (V427))))) (rt_orP (rt_val (re_eq (re_din (bb := false) (re_neg (re_vF 3 eI (x428.2))) (re_vA 2 (eK eB) (V420))))) (rt_val (re_eq (re_din (bb := false) (re_cbP (absF x428.2) (ra_consP (re_vF 3 eI (x428.2)) ra_nil) (bi_abs (x428.2))) (re_vA 4 (eK eB) (V421))))))))) (rb_retRP (e := (eO (eTL eA))) (some (([.s (Str.ofString "walk"), .i x424.1, .i x428.1] : List At))) (re_eq (re_tupFP (a := (e3 eS eI eI)) (Str.ofString "walk", x424.1, x428.1) (ra_consP (re_c (.str (Str.ofString "walk")) eS (Str.ofString "walk")) (ra_consP (re_mF 8 eI (x424.1)) (ra_consP (re_mF 10 eI (x428.1)) ra_nil)))))) (rs_dput (a := eB) (kvs := V427) (re_eq (re_c (.bool true) eB (true))) (re_eq (re_vF 3 eI (x428.2))) (fun seen_ => [some ((eL (eL eI)) (walks_), mS), none, some ((eK eB) (V420), mA), some (eI (x428.2), mA), some ((eK eB) (V421), mA), none, none, some ((eK eB) (seen_), mA), some (eI (x424.1), mA), some ((eL eI) (x424.2), mS), some (eI (x428.1), mA)]) (fun seen_ => (rb_nextF (V := seen_) (el_c sl_o (el_c sl_n (el_c sl_o (el_c sl_n (el_c sl_o (el_c sl_n (el_c sl_n (el_c sl_o (el_c sl_o (el_c sl_o (el_c sl_n el_nil))))))))))))))))) (fun V427 => (rb_nextF (V := V427) (el_c sl_o (el_c sl_n (el_c sl_o (el_c sl_n (el_c sl_o (el_c sl_n (el_c sl_n (el_c sl_o (el_c sl_n (el_c sl_n (el_c sl_n el_nil)))))))))))))))) (fun V423 => (rb_retP' (e := (eO (eTL eA))) none (re_eq (re_c .none eN (()))))))))))))))))
  exact of_KT hr h
abbrev s_sign_fault : Stmt := topS 10
abbrev N_sign_fault : List Str := ["walks", "signs", "there", "ahead", "at", "crossing", "sign"]
abbrev lv_sign_fault : Nat := 2
theorem sc_sign_fault : FnScope N_sign_fault ["walks", "signs"] (defScope s_sign_fault) := ⟨rfl, rfl, rfl, by decide +kernel, rfl, by decide +kernel, by decide +kernel⟩
def w_sign_fault : WS := (wSeq (wSet 2 (wCall XTX.sp_passages_of (wCons (wMv 0) wNil)))
  (wSeq (wSet 3 (wC (.int 0)))
  (wSeq (wCut (wFor_enumerate (tgNT 4 (tgT [5, 6])) (wCons (wVar 1) wNil)
  (wSeq (wIf (wOr (wTest (wBin woLe (wVar 5) (wVar 3))) (wOr (wTest (wBin (woInT true) (wVar 6) (wCB wTup (wCons (wC (.int 1)) (wCons (wNeg (wC (.int 1))) wNil))))) (wTest (wBin woNotIn (wVar 5) (wVar 2))))) (wSeq (wRet (wCB wTup (wCons (wC (.str (Str.ofString "sign"))) (wCons (wMv 4) wNil))))
  wNext) wNext)
  (wSeq (wSet 3 (wMv 5))
  wNext))))
  (wSeq (wRet (wC .none))
  wNext))))
theorem st_sign_fault (x0 x1 : D) : startE N_sign_fault [x0, x1] = [argS x0, argS x1, none, none, none, none, none] := rfl
theorem d_sign_fault (E : Ev K mg cl) (G_passages_of : Def P w K mg base cl "passages_of" 1 XTX.sp_passages_of lv_passages_of) (f : Addr) (cdv : Value) (A : Around) (outer : List Env) (s : Shared) (H : Hp) (E0 : XK) (P0 : Addr → Prop) (hr : Room 1 (cxV P w K mg base N_sign_fault "sign_fault" s_sign_fault f cdv A outer s H E0).A) :
    PSs (cxV P w K mg base N_sign_fault "sign_fault" s_sign_fault f cdv A outer s H E0) (defBody s_sign_fault) (rdS (cnOf K cl P0 H) (WXE E0) w_sign_fault) := by
  have nd := sc_sign_fault.nd
  exact (vss_cons (vs_set (i := 2) (ve_call (k := lv_passages_of) G_passages_of (hr.mono (by decide)) (takes_of rfl rfl rfl rfl) (va_cons (ve_mv 0) va_nil)) nd)
  (vss_cons (vs_set (i := 3) ve_int nd)
  (vss_cons (vs_cut (vs_for_enumerate (passes_of rfl) rfl E.m_enumerate (va_cons (ve_var 1) va_nil) (tg_nt (i := 4) rfl (tg_tup rfl (na_cons (na_cons na_nil nd) nd)) nd)
  (fun _ => (vss_cons (vs_if (PW.pt (vw_or (vt_c c_le (ve_var 5) (ve_var 3)) (vw_or (vt_c c_notInT (ve_var 6) (ve_tup (va_cons ve_int (va_cons (ve_neg ve_int) va_nil)))) (vw_or1 (vt_c (c_notIn hr) (ve_var 5) (ve_var 2)))))) (vss_cons (vs_ret (ve_tup (va_cons ve_str (va_cons (ve_mv 4) va_nil))))
  vss_nil) vss_nil)
  (vss_cons (vs_set (i := 3) (ve_mv 5) nd)
  vss_nil)))))
  (vss_cons (vs_ret ve_non)
  vss_nil))))
theorem b_sign_fault (kV doc pm : Value) (an : Option Addr) (cdv ct : Value) (us : List Value) (h : us.length = 2) : bindArgs (PySem.W.fnOf "sign_fault" "sign_fault" (defArgs s_sign_fault) (defBody s_sign_fault) (defScope s_sign_fault) .none kV doc pm an cdv ct) ⟨us, []⟩ = pure ((["walks", "signs"] : List Str).zip us) := match us, h with | [_, _], _ => rfl
theorem spec_sign_fault : ∀ ds Qv Xv, XTX.sp_sign_fault ds Qv Xv → ds.length = 2 ∧ w_sign_fault (startE N_sign_fault ds) ⟨fun _ => Qv ⟨.none, mA⟩, fun r _ => Qv r, fun ex _ => Xv ex⟩ := by
  rintro ds Qv Xv ⟨walks_, signs_, rfl, h⟩
  refine ⟨rfl, ?_⟩
  have he : startE N_sign_fault [(eL (eL eI)) walks_, (eL (e2 eI eI)) signs_] = [some ((eL (eL eI)) walks_, mS), some ((eL (e2 eI eI)) signs_, mS), none, none, none, none, none] := by
    rw [st_sign_fault]
    try simp only [argS_F, argS_N]
  rw [he]
  have hr : RB (fun _ => True) w_sign_fault [some ((eL (eL eI)) walks_, mS), some ((eL (e2 eI eI)) signs_, mS), none, none, none, none, none] (XTX.F_sign_fault walks_ signs_) (KT (eO (eTL eA)) mA) := by
    unfold XTX.F_sign_fault w_sign_fault
    exact (rs_set (re_eq (re_callP (b := (eL eI)) (M := (XTX.F_passages_of walks_)) (ra_consP (re_mO 0 (eL (eL eI)) (walks_)) ra_nil) (fun Q X h => ⟨walks_, rfl, h⟩))) (fun there_ => [none, some ((eL (e2 eI eI)) (signs_), mS), some ((eL eI) (there_), mA), none, none, none, none]) (fun there_ => (rs_set (re_eq (re_c (.int 0) eI (0))) (fun ahead_ => [none, some ((eL (e2 eI eI)) (signs_), mS), some ((eL eI) (there_), mA), some (eI (ahead_), mA), none, none, none]) (fun ahead_ => (rs_seqT (s := (fun (V431 : Int) => [none, some ((eL (e2 eI eI)) (signs_), mS), some ((eL eI) (there_), mA), some (eI (V431), mA), none, none, none])) (rb_forEFP (s := (fun (V431 : Int) => [none, some ((eL (e2 eI eI)) (signs_), mS), some ((eL eI) (there_), mA), some (eI (V431), mA), none, none, none])) (a := (e2 eI eI)) ahead_ (re_eq (re_vS 1 (eL (e2 eI eI)) (signs_))) (el_c sl_n (el_c sl_o (el_c sl_o (el_c sl_o (el_c sl_n (el_c sl_n (el_c sl_n el_nil))))))) (fun V431 x432 => [none, some ((eL (e2 eI eI)) (signs_), mS), some ((eL eI) (there_), mA), some (eI (V431), mA), some (eI (x432.1), mA), some (eI (x432.2.1), mA), some (eI (x432.2.2), mA)]) (fun V431 x432 => (rs_ifRP kf_kr (rt_eq (rt_orP (rt_val (re_2P xo_le (re_vF 5 eI (x432.2.1)) (re_vF 3 eI (V431)))) (rt_orP (rt_val (re_2P (xo_notInT2 (a := eI) (b := eI) hs_I) (re_vF 6 eI (x432.2.2)) (re_tupFP (a := (e2 eI eI)) (1, -(1)) (ra_consP (re_c (.int 1) eI (1)) (ra_consP (re_neg (re_c (.int 1) eI (1))) ra_nil))))) (rt_val (re_2P (xo_notIn (a := eI)) (re_vF 5 eI (x432.2.1)) (re_vA 2 (eL eI) (there_))))))) (rb_retRP (e := (eO (eTL eA))) (some (([.s (Str.ofString "sign"), .i x432.1] : List At))) (re_eq (re_tupFP (a := (e2 eS eI)) (Str.ofString "sign", x432.1) (ra_consP (re_c (.str (Str.ofString "sign")) eS (Str.ofString "sign")) (ra_consP (re_mF 4 eI (x432.1)) ra_nil))))) (rs_set (re_eq (re_mF 5 eI (x432.2.1))) (fun ahead_ => [none, some ((eL (e2 eI eI)) (signs_), mS), some ((eL eI) (there_), mA), some (eI (ahead_), mA), some (eI (x432.1), mA), some (eI (x432.2.1), mA), some (eI (x432.2.2), mA)]) (fun ahead_ => (rb_nextF (V := ahead_) (el_c sl_n (el_c sl_o (el_c sl_o (el_c sl_o (el_c sl_n (el_c sl_n (el_c sl_n el_nil))))))))))))) (fun V431 => (rb_retP' (e := (eO (eTL eA))) none (re_eq (re_c .none eN (()))))))))))
  exact of_KT hr h
abbrev s_fault : Stmt := topS 11
abbrev N_fault : List Str := ["drawing", "walks", "signs", "found"]
abbrev lv_fault : Nat := 3
theorem sc_fault : FnScope N_fault ["drawing"] (defScope s_fault) := ⟨rfl, rfl, rfl, by decide +kernel, rfl, by decide +kernel, by decide +kernel⟩
def w_fault : WS := (wSeq (wAsg (tgT [1, 2]) (wMv 0))
  (wSeq (wSet 3 (wCall XTX.sp_walk_fault (wCons (wVar 1) (wCons (wVar 2) wNil))))
  (wSeq (wCut (wIf (wTest (wBin woIsN (wVar 3) (wC .none))) (wSeq (wSet 3 (wCall XTX.sp_sign_fault (wCons (wVar 1) (wCons (wVar 2) wNil))))
  wNext) wNext))
  (wSeq (wCut (wIf (wAnd (wTest (wBin woIsN (wVar 3) (wC .none))) (wTest (wBin woGt (wCB wLen (wCons (wVar 2) wNil)) (wC (.int 40))))) (wSeq (wSet 3 (wCB wTup (wCons (wC (.str (Str.ofString "many"))) (wCons (wCB wLen (wCons (wMv 2) wNil)) wNil))))
  wNext) wNext))
  (wSeq (wCut (wIf (wAnd (wTest (wBin woIsN (wVar 3) (wC .none))) (wTest (wBin woGt (wCB wLen (wCons (wVar 1) wNil)) (wC (.int 12))))) (wSeq (wSet 3 (wCB wTup (wCons (wC (.str (Str.ofString "many"))) (wCons (wCB wLen (wCons (wMv 1) wNil)) wNil))))
  wNext) wNext))
  (wSeq (wRet (wMv 3))
  wNext))))))
theorem st_fault (x0 : D) : startE N_fault [x0] = [argS x0, none, none, none] := rfl
theorem d_fault (E : Ev K mg cl) (G_walk_fault : Def P w K mg base cl "walk_fault" 2 XTX.sp_walk_fault lv_walk_fault) (G_sign_fault : Def P w K mg base cl "sign_fault" 2 XTX.sp_sign_fault lv_sign_fault) (f : Addr) (cdv : Value) (A : Around) (outer : List Env) (s : Shared) (H : Hp) (E0 : XK) (P0 : Addr → Prop) (hr : Room 2 (cxV P w K mg base N_fault "fault" s_fault f cdv A outer s H E0).A) :
    PSs (cxV P w K mg base N_fault "fault" s_fault f cdv A outer s H E0) (defBody s_fault) (rdS (cnOf K cl P0 H) (WXE E0) w_fault) := by
  have nd := sc_fault.nd
  exact (vss_cons (vs_asg (ve_mv 0) (tg_tup rfl (na_cons (na_cons na_nil nd) nd)))
  (vss_cons (vs_set (i := 3) (ve_call (k := lv_walk_fault) G_walk_fault (hr.mono (by decide)) (takes_of rfl rfl rfl rfl) (va_cons (ve_var 1) (va_cons (ve_var 2) va_nil))) nd)
  (vss_cons (vs_cut (vs_if (vt_c c_isN (ve_var 3) ve_non) (vss_cons (vs_set (i := 3) (ve_call (k := lv_sign_fault) G_sign_fault (hr.mono (by decide)) (takes_of rfl rfl rfl rfl) (va_cons (ve_var 1) (va_cons (ve_var 2) va_nil))) nd)
  vss_nil) vss_nil))
  (vss_cons (vs_cut (vs_if (PW.pt (vw_and (vt_c c_isN (ve_var 3) ve_non) (vw_and1 (vt_c c_gt (ve_len1 E.m_len (va_cons (ve_var 2) va_nil)) (ve_gintE E.c_MOST_CROSSINGS))))) (vss_cons (vs_set (i := 3) (ve_tup (va_cons ve_str (va_cons (ve_len1 E.m_len (va_cons (ve_mv 2) va_nil)) va_nil))) nd)
  vss_nil) vss_nil))
  (vss_cons (vs_cut (vs_if (PW.pt (vw_and (vt_c c_isN (ve_var 3) ve_non) (vw_and1 (vt_c c_gt (ve_len1 E.m_len (va_cons (ve_var 1) va_nil)) (ve_gintE E.c_MOST_WALKS))))) (vss_cons (vs_set (i := 3) (ve_tup (va_cons ve_str (va_cons (ve_len1 E.m_len (va_cons (ve_mv 1) va_nil)) va_nil))) nd)
  vss_nil) vss_nil))
  (vss_cons (vs_ret (ve_mv 3))
  vss_nil))))))
theorem b_fault (kV doc pm : Value) (an : Option Addr) (cdv ct : Value) (us : List Value) (h : us.length = 1) : bindArgs (PySem.W.fnOf "fault" "fault" (defArgs s_fault) (defBody s_fault) (defScope s_fault) .none kV doc pm an cdv ct) ⟨us, []⟩ = pure ((["drawing"] : List Str).zip us) := match us, h with | [_], _ => rfl
theorem spec_fault : ∀ ds Qv Xv, XTX.sp_fault ds Qv Xv → ds.length = 1 ∧ w_fault (startE N_fault ds) ⟨fun _ => Qv ⟨.none, mA⟩, fun r _ => Qv r, fun ex _ => Xv ex⟩ := by
  rintro ds Qv Xv ⟨drawing_, rfl, h⟩
  refine ⟨rfl, ?_⟩
  have he : startE N_fault [(e2 (eL (eL eI)) (eL (e2 eI eI))) drawing_] = [some ((e2 (eL (eL eI)) (eL (e2 eI eI))) drawing_, mS), none, none, none] := by
    rw [st_fault]
    try simp only [argS_F, argS_N]
  rw [he]
  have hr : RB (fun _ => True) w_fault [some ((e2 (eL (eL eI)) (eL (e2 eI eI))) drawing_, mS), none, none, none] (XTX.F_fault drawing_) (KT (eO (eTL eA)) mA) := by
    unfold XTX.F_fault w_fault
    exact (rs_asg (a := (e2 (eL (eL eI)) (eL (e2 eI eI)))) (re_eq (re_mO 0 (e2 (eL (eL eI)) (eL (e2 eI eI))) (drawing_))) (fun p440 => [none, some ((eL (eL eI)) (p440.1), mS), some ((eL (e2 eI eI)) (p440.2), mS), none]) (fun p440 => (rs_set (re_eq (re_callP (b := (eO (eTL eA))) (M := (XTX.F_walk_fault p440.1 p440.2)) (ra_consP (re_vS 1 (eL (eL eI)) (p440.1)) (ra_consP (re_vS 2 (eL (e2 eI eI)) (p440.2)) ra_nil)) (fun Q X h => ⟨p440.1, p440.2, rfl, h⟩))) (fun found_ => [none, some ((eL (eL eI)) (p440.1), mS), some ((eL (e2 eI eI)) (p440.2), mS), some ((eO (eTL eA)) (found_), mA)]) (fun found_ => (rs_seqN (s := (fun (V441 : (Option (List At))) => [none, some ((eL (eL eI)) (p440.1), mS), some ((eL (e2 eI eI)) (p440.2), mS), some ((eO (eTL eA)) (V441), mA)])) (rb_ifP (rt_eq (rt_val (re_2P (xo_isNO (a := (eTL eA)) (fun _ => rfl)) (re_vF 3 (eO (eTL eA)) (found_)) (re_c .none eN (()))))) (rs_set (re_eq (re_callP (b := (eO (eTL eA))) (M := (XTX.F_sign_fault p440.1 p440.2)) (ra_consP (re_vS 1 (eL (eL eI)) (p440.1)) (ra_consP (re_vS 2 (eL (e2 eI eI)) (p440.2)) ra_nil)) (fun Q X h => ⟨p440.1, p440.2, rfl, h⟩))) (fun found_ => [none, some ((eL (eL eI)) (p440.1), mS), some ((eL (e2 eI eI)) (p440.2), mS), some ((eO (eTL eA)) (found_), mA)]) (fun found_ => (rb_next (V := found_) (el_c sl_n (el_c sl_o (el_c sl_o (el_c sl_o el_nil))))))) (rb_next (V := found_) (el_c sl_n (el_c sl_o (el_c sl_o (el_c sl_o el_nil)))))) (fun V441 => (rs_seqN (s := (fun (V442 : (Option (List At))) => [none, some ((eL (eL eI)) (p440.1), mS), none, some ((eO (eTL eA)) (V442), mA)])) (rb_ifP (rt_eq (rt_andP (rt_val (re_2P (xo_isNO (a := (eTL eA)) (fun _ => rfl)) (re_vF 3 (eO (eTL eA)) (V441)) (re_c .none eN (())))) (rt_val (re_2P xo_gt (re_cbP ((p440.2.length : Int)) (ra_consP (re_vS 2 (eL (e2 eI eI)) (p440.2)) ra_nil) (len_L (a := (e2 eI eI)) (p440.2))) (re_c (.int 40) eI 40))))) (rs_set (re_eq (re_tupFP (a := (e2 eS eI)) (Str.ofString "many", (p440.2.length : Int)) (ra_consP (re_c (.str (Str.ofString "many")) eS (Str.ofString "many")) (ra_consP (re_cbP ((p440.2.length : Int)) (ra_consP (re_mO 2 (eL (e2 eI eI)) (p440.2)) ra_nil) (len_L (a := (e2 eI eI)) (p440.2))) ra_nil)))) (fun found_ => [none, some ((eL (eL eI)) (p440.1), mS), none, some ((e2 eS eI) (found_), mA)]) (fun found_ => (rb_next (V := ((some (([.s found_.1, .i found_.2] : List At))) : (Option (List At)))) (el_c sl_n (el_c sl_o (el_c sl_n (el_c sl_o el_nil))))))) (rb_next (V := V441) (el_c sl_n (el_c sl_o (el_c sl_n (el_c sl_o el_nil)))))) (fun V442 => (rs_seqN (s := (fun (V443 : (Option (List At))) => [none, none, none, some ((eO (eTL eA)) (V443), mA)])) (rb_ifP (rt_eq (rt_andP (rt_val (re_2P (xo_isNO (a := (eTL eA)) (fun _ => rfl)) (re_vF 3 (eO (eTL eA)) (V442)) (re_c .none eN (())))) (rt_val (re_2P xo_gt (re_cbP ((p440.1.length : Int)) (ra_consP (re_vS 1 (eL (eL eI)) (p440.1)) ra_nil) (len_L (a := (eL eI)) (p440.1))) (re_c (.int 12) eI 12))))) (rs_set (re_eq (re_tupFP (a := (e2 eS eI)) (Str.ofString "many", (p440.1.length : Int)) (ra_consP (re_c (.str (Str.ofString "many")) eS (Str.ofString "many")) (ra_consP (re_cbP ((p440.1.length : Int)) (ra_consP (re_mO 1 (eL (eL eI)) (p440.1)) ra_nil) (len_L (a := (eL eI)) (p440.1))) ra_nil)))) (fun found_ => [none, none, none, some ((e2 eS eI) (found_), mA)]) (fun found_ => (rb_next (V := ((some (([.s found_.1, .i found_.2] : List At))) : (Option (List At)))) (el_c sl_n (el_c sl_n (el_c sl_n (el_c sl_o el_nil))))))) (rb_next (V := V442) (el_c sl_n (el_c sl_n (el_c sl_n (el_c sl_o el_nil)))))) (fun V443 => (rb_retP' (e := (eO (eTL eA))) V443 (re_eq (re_mF 3 (eO (eTL eA)) (V443))))))))))))))
  exact of_KT hr h
abbrev si_NotADrawing : Stmt := (clsBody (topS 2)).getD 0 (.Pass ⟨0, 0, 0, 0⟩)
theorem sci_NotADrawing : FnScope ["self", "fault"] ["self", "fault"] (defScope si_NotADrawing) := ⟨rfl, rfl, rfl, by decide +kernel, rfl, by decide +kernel, by decide +kernel⟩
theorem di_NotADrawing (f' : Addr) (cdv : Value) (A : Around) (outer : List Env) (s : Shared) (H : Hp) (E : XK) : PSs (cxOf (L2.CX P w) P w K mg base ["self", "fault"] "NotADrawing.__init__" (defScope si_NotADrawing) f' cdv A outer s H E) (defBody si_NotADrawing) (tOst K "fault" (tVar 0) (tVar 1)) := pss_one (ps_ost (pe_var (i := 0) rfl (Or.inl rfl)) (pe_var (i := 1) rfl (Or.inl rfl)))
theorem bi_NotADrawing (kV doc pm : Value) (an : Option Addr) (cdv ct : Value) (us : List Value) (h : us.length = 2) : bindArgs (PySem.W.fnOf "__init__" "NotADrawing.__init__" (defArgs si_NotADrawing) (defBody si_NotADrawing) (defScope si_NotADrawing) .none kV doc pm an cdv ct) ⟨us, []⟩ = pure ((["self", "fault"] : List Str).zip us) := match us, h with | [_, _], _ => rfl
abbrev s_checked : Stmt := topS 12
abbrev N_checked : List Str := ["drawing", "found", "walk"]
abbrev lv_checked : Nat := 4
theorem sc_checked : FnScope N_checked ["drawing"] (defScope s_checked) := ⟨rfl, rfl, rfl, by decide +kernel, rfl, by decide +kernel, by decide +kernel⟩
def w_checked : WS := (wSeq (wSet 1 (wCall XTX.sp_fault (wCons (wVar 0) wNil)))
  (wSeq (wIf (wTest (wBin woNotN (wVar 1) (wC .none))) (wSeq (wRaiseF "NotADrawing" "fault" (wVar 1))
  wNext) wNext)
  (wSeq (wRet (wCB wTup (wCons (wLc [2] (tgN 2) (wBin wIx (wVar 0) (wC (.int 0))) wYes (wCB wList (wCons (wVar 2) wNil))) (wCons (wCB wList (wCons (wBin wIx (wVar 0) (wC (.int 1))) wNil)) wNil))))
  wNext)))
theorem st_checked (x0 : D) : startE N_checked [x0] = [argS x0, none, none] := rfl
theorem d_checked (E : Ev K mg cl) (G_fault : Def P w K mg base cl "fault" 1 XTX.sp_fault lv_fault) (H_NotADrawing : ErrF P w K mg base cl "NotADrawing" "fault") (f : Addr) (cdv : Value) (A : Around) (outer : List Env) (s : Shared) (H : Hp) (E0 : XK) (P0 : Addr → Prop) (hr : Room 3 (cxV P w K mg base N_checked "checked" s_checked f cdv A outer s H E0).A) :
    PSs (cxV P w K mg base N_checked "checked" s_checked f cdv A outer s H E0) (defBody s_checked) (rdS (cnOf K cl P0 H) (WXE E0) w_checked) := by
  have nd := sc_checked.nd
  exact (vss_cons (vs_set (i := 1) (ve_call (k := lv_fault) G_fault (hr.mono (by decide)) (takes_of rfl rfl rfl rfl) (va_cons (ve_var 0) va_nil)) nd)
  (vss_cons (vs_if (vt_c c_notN (ve_var 1) ve_non) (vss_cons (vs_raiseF H_NotADrawing hr (by decide) rfl (takes_of rfl rfl rfl rfl) (ve_var 1))
  vss_nil) vss_nil)
  (vss_cons (vs_ret (ve_tup (va_cons (ve_lcN rfl nd [("walk", 2)] (ve_ix (ve_var 0) ve_int) (fun _ _ _ _ _ => pg_name nd rfl (by first | exact .inl rfl | exact .inr rfl)) (fun _ _ _ _ _ => vts_nil) (fun _ _ _ _ _ => (ve_list1 E.m_list (va_cons (ve_var 2) va_nil)))) (va_cons (ve_list1 E.m_list (va_cons (ve_ix (ve_var 0) ve_int) va_nil)) va_nil))))
  vss_nil)))
theorem b_checked (kV doc pm : Value) (an : Option Addr) (cdv ct : Value) (us : List Value) (h : us.length = 1) : bindArgs (PySem.W.fnOf "checked" "checked" (defArgs s_checked) (defBody s_checked) (defScope s_checked) .none kV doc pm an cdv ct) ⟨us, []⟩ = pure ((["drawing"] : List Str).zip us) := match us, h with | [_], _ => rfl
theorem spec_checked : ∀ ds Qv Xv, sp_checked ds Qv Xv → ds.length = 1 ∧ w_checked (startE N_checked ds) ⟨fun _ => Qv ⟨.none, mA⟩, fun r _ => Qv r, fun ex _ => Xv ex⟩ := by
  rintro ds Qv Xv ⟨drawing_, rfl, h⟩
  refine ⟨rfl, ?_⟩
  have he : startE N_checked [(e2 (eL (eL eI)) (eL (e2 eI eI))) drawing_] = [some ((e2 (eL (eL eI)) (eL (e2 eI eI))) drawing_, mS), none, none] := by
    rw [st_checked]
    try simp only [argS_F, argS_N]
  rw [he]
  have hr : RB (fun _ => True) w_checked [some ((e2 (eL (eL eI)) (eL (e2 eI eI))) drawing_, mS), none, none] (F_checked drawing_) (KT (e2 (eL (eL eI)) (eL (e2 eI eI))) mA) := by
    unfold F_checked w_checked
    exact (rs_set (re_eq (re_callP (b := (eO (eTL eA))) (M := (XTX.F_fault drawing_)) (ra_consP (re_vS 0 (e2 (eL (eL eI)) (eL (e2 eI eI))) (drawing_)) ra_nil) (fun Q X h => ⟨drawing_, rfl, h⟩))) (fun found_ => [some ((e2 (eL (eL eI)) (eL (e2 eI eI))) (drawing_), mS), some ((eO (eTL eA)) (found_), mA), none]) (fun found_ => (rs_ifRP kt_kt (rt_eq (rt_val (re_2P (xo_notNO (a := (eTL eA)) (fun _ => rfl)) (re_vF 1 (eO (eTL eA)) (found_)) (re_c .none eN (()))))) (rb_raiseF (e := (eTL eA)) (re_eq (re_someP (a := (eTL eA)) (re_vF 1 (eO (eTL eA)) (found_))))) (rb_retI (re_eq (re_tup (a := (e2 (eL (eL eI)) (eL (e2 eI eI)))) (fun (t : (List (List Int)) × (List (Int × Int)) × Unit) => (t.1, t.2.1)) (ra_cons (re_lc1P none mA (a := (eL eI)) (ent := (fun walk_ => [some ((e2 (eL (eL eI)) (eL (e2 eI eI))) (drawing_), mS), some ((eO (eTL eA)) (found_), mA), some ((eL eI) (walk_), mS)])) (F := (fun walk_ : (List Int) => (Out.ok (walk_)))) (re_eq (re_tN (e := (eL (eL eI))) (b := (e2 (eL (eL eI)) (eL (e2 eI eI)))) 0 (drawing_.1) (re_vS 0 (e2 (eL (eL eI)) (eL (e2 eI eI))) (drawing_)) (re_c (.int 0) eI (0)))) (fun _ => ⟨_, rfl, by simp only [bEnv_c, bEnv_n, bS_fl]; rfl⟩) (fun walk_ => ⟨_, re_eq (re_cbP (walk_) (ra_consP (re_vS 2 (eL eI) (walk_)) ra_nil) (bi_listF (a := eI) (walk_)))⟩) (kid_A (c := (eL eI)))) (ra_consP (re_cbP (drawing_.2) (ra_consP (re_tN (e := (eL (e2 eI eI))) (b := (e2 (eL (eL eI)) (eL (e2 eI eI)))) 1 (drawing_.2) (re_vS 0 (e2 (eL (eL eI)) (eL (e2 eI eI))) (drawing_)) (re_c (.int 1) eI (1))) ra_nil) (bi_listF (a := (e2 eI eI)) (drawing_.2))) ra_nil))))))))
  exact of_KT hr h
abbrev s_law_refused : Stmt := topS 31
abbrev N_law_refused : List Str := ["_law_drawing", "e", "_law_fine"]
abbrev lv_law_refused : Nat := 5
theorem sc_law_refused : FnScope N_law_refused ["_law_drawing"] (defScope s_law_refused) := ⟨rfl, rfl, rfl, by decide +kernel, rfl, by decide +kernel, by decide +kernel⟩
def w_law_refused : WS := (wSeq (wCut (wTryF (wSeq (wExpr (wCall sp_checked (wCons (wMv 0) wNil)))
  wNext) ["NotADrawing"] 1 (fun ad466 ex465 => wPre (wSeq (wSet 2 (wAndV (wIsE 1 ad466 ((["PlaitError", "NotADrawing", "NoCrossing", "TooBig"] : List Str).contains ex465.cls)) (wIsE 1 ad466 ((["PlaitError", "NotADrawing", "NoCrossing", "TooBig"] : List Str).contains ex465.cls))))
  (wSeq (wIf (wOr (wTest (wIsE 1 ad466 ((["NoCrossing"] : List Str).contains ex465.cls))) (wOr (wTest (wIsE 1 ad466 ((["TooBig"] : List Str).contains ex465.cls))) (wNot (wTest (wVar 2))))) (wSeq (wRet (wCB wTup (wCons (wC (.bool true)) (wCons (wCB wTup (wCons (wC (.str (Str.ofString "strange"))) (wCons (wC (.int 0)) wNil))) wNil))))
  wNext) wNext)
  (wSeq (wRet (wCB wTup (wCons (wC (.bool true)) (wCons (wXf 1 ad466 ex465 "NotADrawing" "fault") wNil))))
  wNext))))))
  (wSeq (wRet (wCB wTup (wCons (wC (.bool false)) (wCons (wC .none) wNil))))
  wNext))
theorem st_law_refused (x0 : D) : startE N_law_refused [x0] = [argS x0, none, none] := rfl
theorem d_law_refused (E : Ev K mg cl) (G_checked : Def P w K mg base cl "checked" 1 sp_checked lv_checked) (f : Addr) (cdv : Value) (A : Around) (outer : List Env) (s : Shared) (H : Hp) (E0 : XK) (P0 : Addr → Prop) (hr : Room 4 (cxV P w K mg base N_law_refused "_law_refused" s_law_refused f cdv A outer s H E0).A) :
    PSs (cxV P w K mg base N_law_refused "_law_refused" s_law_refused f cdv A outer s H E0) (defBody s_law_refused) (rdS (cnOf K cl P0 H) (WXE E0) w_law_refused) := by
  have nd := sc_law_refused.nd
  exact (vss_cons (vs_cut (vs_tryF (i := 1) rfl rfl nd E.k_NotADrawing (takes_of rfl rfl rfl rfl) (fun _ _ _ tk1 hp1 => (vss_cons (vs_expr (ve_call (k := lv_checked) G_checked (hr.mono (by decide)) tk1 (va_cons (ve_mv 0) va_nil)))
  vss_nil)) (fun ad466 oe ex465 D d pn R_ H1_ hs_ eD xf hz hv => vss_pre (vss_cons (vs_set (i := 2) (ve_and (ve_isEF E.t eD xf hz hv E.q_PlaitError E.m_isinstance 1) (ve_one (ve_isEFB E.t eD xf hz hv E.q_ValueError E.m_ValueError E.m_isinstance 1))) nd)
  (vss_cons (vs_if (PW.pt (vw_or (vt_val (ve_isEF E.t eD xf hz hv E.q_NoCrossing E.m_isinstance 1)) (vw_or (vt_val (ve_isEF E.t eD xf hz hv E.q_TooBig E.m_isinstance 1)) (vw_or1 (vt_not (vt_val (ve_var 2))))))) (vss_cons (vs_ret (ve_tup (va_cons ve_bl (va_cons (ve_tup (va_cons ve_str (va_cons ve_int va_nil))) va_nil))))
  vss_nil) vss_nil)
  (vss_cons (vs_ret (ve_tup (va_cons ve_bl (va_cons (ve_xf E.t eD xf hz hv E.n_NotADrawing 1) va_nil))))
  vss_nil))))))
  (vss_cons (vs_ret (ve_tup (va_cons ve_bl (va_cons ve_non va_nil))))
  vss_nil))
theorem b_law_refused (kV doc pm : Value) (an : Option Addr) (cdv ct : Value) (us : List Value) (h : us.length = 1) : bindArgs (PySem.W.fnOf "_law_refused" "_law_refused" (defArgs s_law_refused) (defBody s_law_refused) (defScope s_law_refused) .none kV doc pm an cdv ct) ⟨us, []⟩ = pure ((["_law_drawing"] : List Str).zip us) := match us, h with | [_], _ => rfl
theorem spec_law_refused : ∀ ds Qv Xv, sp_law_refused ds Qv Xv → ds.length = 1 ∧ w_law_refused (startE N_law_refused ds) ⟨fun _ => Qv ⟨.none, mA⟩, fun r _ => Qv r, fun ex _ => Xv ex⟩ := by
  rintro ds Qv Xv ⟨drawing_, rfl, h⟩
  refine ⟨rfl, ?_⟩
  have he : startE N_law_refused [(e2 (eL (eL eI)) (eL (e2 eI eI))) drawing_] = [some ((e2 (eL (eL eI)) (eL (e2 eI eI))) drawing_, mS), none, none] := by
    rw [st_law_refused]
    try simp only [argS_F, argS_N]
  rw [he]
  have hr : RB (fun _ => True) w_law_refused [some ((e2 (eL (eL eI)) (eL (e2 eI eI))) drawing_, mS), none, none] (F_law_refused drawing_) (KT (e2 eB (eO (eTL eA))) mA) := by
    unfold F_law_refused w_law_refused
    exact (rs_seqT (s := (fun (V467 : Unit) => [none, none, none])) (rb_tryFNF [none, none, none] (rs_expr (re_eq (re_callP (b := (e2 (eL (eL eI)) (eL (e2 eI eI)))) (M := (F_checked drawing_)) (ra_consP (re_mO 0 (e2 (eL (eL eI)) (eL (e2 eI eI))) (drawing_)) ra_nil) (fun Q X h => ⟨drawing_, rfl, h⟩) (hg := (el_c sl_n (el_c sl_n (el_c sl_n el_nil)))))) (fun _ => (rb_nextF (V := ()) (el_c sl_n (el_c sl_n (el_c sl_n el_nil)))))) (fun ad466 ex465 => (rs_set (re_eq (re_andP (re_isE) (re_isE))) (fun fine_ => [none, some (opD ad466, mS), some (eB (fine_), mA)]) (fun fine_ => (rs_ifRP kf_kr (rt_eq (rt_orP (rt_val (re_isE)) (rt_orP (rt_val (re_isE)) (rt_eq (rt_notP (rt_val (re_vF 2 eB (fine_)))))))) (rb_retRP (e := (e2 eB (eO (eTL eA)))) (true, (some (([.s (Str.ofString "strange"), .i 0] : List At)))) (re_eq (re_tupFP (a := (e2 eB (e2 eS eI))) (true, (Str.ofString "strange", 0)) (ra_consP (re_c (.bool true) eB (true)) (ra_consP (re_tupFP (a := (e2 eS eI)) (Str.ofString "strange", 0) (ra_consP (re_c (.str (Str.ofString "strange")) eS (Str.ofString "strange")) (ra_consP (re_c (.int 0) eI (0)) ra_nil))) ra_nil))))) (rb_retF (e := (e2 eB (eO (eTL eA)))) (fun x => (x.1, (some (x.2)))) (re_eq (re_tupF (a := (e2 eB (eTL eA))) (fun (t : Bool × (List At) × Unit) => (t.1, t.2.1)) (ra_cons (re_c (.bool true) eB (true)) (ra_cons (re_xf (a := (eTL eA))) ra_nil)))))))))) (fun V467 => (rb_retP' (e := (e2 eB (eO (eTL eA)))) (false, none) (re_eq (re_tupFP (a := (e2 eB eN)) (false, ()) (ra_consP (re_c (.bool false) eB (false)) (ra_consP (re_c .none eN (())) ra_nil)))))))
  exact of_KT hr h
abbrev s_law_is_whole : Stmt := topS 22
abbrev N_law_is_whole : List Str := ["_law_one"]
abbrev lv_law_is_whole : Nat := 1
theorem sc_law_is_whole : FnScope N_law_is_whole ["_law_one"] (defScope s_law_is_whole) := ⟨rfl, rfl, rfl, by decide +kernel, rfl, by decide +kernel, by decide +kernel⟩
def w_law_is_whole : WS := (wSeq (wRet (wAndV (wIsi "int" (wVar 0)) (wNotV (wIsi "bool" (wVar 0)))))
  wNext)
theorem st_law_is_whole (x0 : D) : startE N_law_is_whole [x0] = [argS x0] := rfl
theorem d_law_is_whole (E : Ev K mg cl)  (f : Addr) (cdv : Value) (A : Around) (outer : List Env) (s : Shared) (H : Hp) (E0 : XK) (P0 : Addr → Prop) (hr : Room 0 (cxV P w K mg base N_law_is_whole "_law_is_whole" s_law_is_whole f cdv A outer s H E0).A) :
    PSs (cxV P w K mg base N_law_is_whole "_law_is_whole" s_law_is_whole f cdv A outer s H E0) (defBody s_law_is_whole) (rdS (cnOf K cl P0 H) (WXE E0) w_law_is_whole) := by
  have nd := sc_law_is_whole.nd
  exact (vss_cons (vs_ret (ve_and (ve_isi ta_int E.m_isinstance E.m_int (by decide +kernel) (ve_var 0)) (ve_one (ve_not (ve_isi ta_bool E.m_isinstance E.m_bool (by decide +kernel) (ve_var 0))))))
  vss_nil)
theorem b_law_is_whole (kV doc pm : Value) (an : Option Addr) (cdv ct : Value) (us : List Value) (h : us.length = 1) : bindArgs (PySem.W.fnOf "_law_is_whole" "_law_is_whole" (defArgs s_law_is_whole) (defBody s_law_is_whole) (defScope s_law_is_whole) .none kV doc pm an cdv ct) ⟨us, []⟩ = pure ((["_law_one"] : List Str).zip us) := match us, h with | [_], _ => rfl
theorem spec_law_is_whole : ∀ ds Qv Xv, sp_law_is_whole ds Qv Xv → ds.length = 1 ∧ w_law_is_whole (startE N_law_is_whole ds) ⟨fun _ => Qv ⟨.none, mA⟩, fun r _ => Qv r, fun ex _ => Xv ex⟩ := by
  rintro ds Qv Xv ⟨one_, rfl, h⟩
  refine ⟨rfl, ?_⟩
  have he : startE N_law_is_whole [eA one_] = [some (eA one_, mA)] := by
    rw [st_law_is_whole]
    try simp only [argS_F, argS_N]
  rw [he]
  have hr : RB (fun _ => True) w_law_is_whole [some (eA one_, mA)] (F_law_is_whole one_) (KT eB mA) := by
    unfold F_law_is_whole w_law_is_whole
    exact (rb_retP' (e := eB) (tyIs "int" (eA one_) && !(tyIs "bool" (eA one_))) (re_eq (re_andP (re_isiA (re_vF 0 eA (one_))) (re_notP (re_isiA (re_vF 0 eA (one_)))))))
  exact of_KT hr h
abbrev s_law_is_drawing : Stmt := topS 23
abbrev N_law_is_drawing : List Str := ["_law_found", "_law_walk", "_law_one", "_law_entry"]
abbrev lv_law_is_drawing : Nat := 2
theorem sc_law_is_drawing : FnScope N_law_is_drawing ["_law_found"] (defScope s_law_is_drawing) := ⟨rfl, rfl, rfl, by decide +kernel, rfl, by decide +kernel, by decide +kernel⟩
def w_law_is_drawing : WS := (wSeq (wIf (wOr (wNot (wTest (wIsi "tuple" (wVar 0)))) (wTest (wBin woNe (wCB wLen (wCons (wVar 0) wNil)) (wC (.int 2))))) (wSeq (wRet (wC (.bool false)))
  wNext) wNext)
  (wSeq (wIf (wOr (wNot (wTest (wIsi "list" (wBin wIx (wVar 0) (wC (.int 0)))))) (wNot (wTest (wIsi "list" (wBin wIx (wVar 0) (wC (.int 1))))))) (wRet (wC (.bool false))) wNext)
  (wSeq (wCut (wFor (tgN 1) (wBin wIx (wVar 0) (wC (.int 0)))
  (wSeq (wIf (wNot (wTest (wIsi "list" (wVar 1)))) (wRet (wC (.bool false))) wNext)
  (wSeq (wCut (wFor (tgN 2) (wMv 1)
  (wSeq (wIf (wNot (wTest (wCall sp_law_is_whole (wCons (wVar 2) wNil)))) (wSeq (wRet (wC (.bool false)))
  wNext) wNext)
  wNext)))
  wNext))))
  (wSeq (wCut (wFor (tgN 3) (wBin wIx (wMv 0) (wC (.int 1)))
  (wSeq (wIf (wOr (wNot (wTest (wIsi "tuple" (wVar 3)))) (wTest (wBin woNe (wCB wLen (wCons (wVar 3) wNil)) (wC (.int 2))))) (wSeq (wRet (wC (.bool false)))
  wNext) wNext)
  (wSeq (wIf (wOr (wNot (wTest (wCall sp_law_is_whole (wCons (wBin wIx (wVar 3) (wC (.int 0))) wNil)))) (wNot (wTest (wCall sp_law_is_whole (wCons (wBin wIx (wVar 3) (wC (.int 1))) wNil))))) (wSeq (wRet (wC (.bool false)))
  wNext) wNext)
  wNext))))
  (wSeq (wRet (wC (.bool true)))
  wNext)))))
theorem st_law_is_drawing (x0 : D) : startE N_law_is_drawing [x0] = [argS x0, none, none, none] := rfl
theorem d_law_is_drawing (E : Ev K mg cl) (G_law_is_whole : Def P w K mg base cl "_law_is_whole" 1 sp_law_is_whole lv_law_is_whole) (f : Addr) (cdv : Value) (A : Around) (outer : List Env) (s : Shared) (H : Hp) (E0 : XK) (P0 : Addr → Prop) (hr : Room 1 (cxV P w K mg base N_law_is_drawing "_law_is_drawing" s_law_is_drawing f cdv A outer s H E0).A) :
    PSs (cxV P w K mg base N_law_is_drawing "_law_is_drawing" s_law_is_drawing f cdv A outer s H E0) (defBody s_law_is_drawing) (rdS (cnOf K cl P0 H) (WXE E0) w_law_is_drawing) := by
  have nd := sc_law_is_drawing.nd
  exact (vss_cons (vs_if (PW.pt (vw_or (vt_not (vt_val (ve_isi ta_tuple E.m_isinstance E.m_tuple (by decide +kernel) (ve_var 0)))) (vw_or1 (vt_c (c_ne hr) (ve_len1 E.m_len (va_cons (ve_var 0) va_nil)) ve_int)))) (vss_cons (vs_ret ve_bl)
  vss_nil) vss_nil)
  (vss_cons (vs_if (PW.pt (vw_or (vt_not (vt_val (ve_isi ta_list E.m_isinstance E.m_list (by decide +kernel) (ve_ix (ve_var 0) ve_int)))) (vw_or1 (vt_not (vt_val (ve_isi ta_list E.m_isinstance E.m_list (by decide +kernel) (ve_ix (ve_var 0) ve_int))))))) (vss_one (vs_ret ve_bl)) vss_nil)
  (vss_cons (vs_cut (vs_for (passes_of rfl) rfl (ve_ix (ve_var 0) ve_int) (tg_name nd)
  (fun _ => (vss_cons (vs_if (vt_not (vt_val (ve_isi ta_list E.m_isinstance E.m_list (by decide +kernel) (ve_var 1)))) (vss_one (vs_ret ve_bl)) vss_nil)
  (vss_cons (vs_cut (vs_for (passes_of rfl) rfl (ve_mv 1) (tg_name nd)
  (fun _ => (vss_cons (vs_if (vt_not (vt_val (ve_call (k := lv_law_is_whole) G_law_is_whole (hr.mono (by decide)) (takes_of rfl rfl rfl rfl) (va_cons (ve_var 2) va_nil)))) (vss_cons (vs_ret ve_bl)
  vss_nil) vss_nil)
  vss_nil))))
  vss_nil)))))
  (vss_cons (vs_cut (vs_for (passes_of rfl) rfl (ve_ix (ve_mv 0) ve_int) (tg_name nd)
  (fun _ => (vss_cons (vs_if (PW.pt (vw_or (vt_not (vt_val (ve_isi ta_tuple E.m_isinstance E.m_tuple (by decide +kernel) (ve_var 3)))) (vw_or1 (vt_c (c_ne hr) (ve_len1 E.m_len (va_cons (ve_var 3) va_nil)) ve_int)))) (vss_cons (vs_ret ve_bl)
  vss_nil) vss_nil)
  (vss_cons (vs_if (PW.pt (vw_or (vt_not (vt_val (ve_call (k := lv_law_is_whole) G_law_is_whole (hr.mono (by decide)) (takes_of rfl rfl rfl rfl) (va_cons (ve_ix (ve_var 3) ve_int) va_nil)))) (vw_or1 (vt_not (vt_val (ve_call (k := lv_law_is_whole) G_law_is_whole (hr.mono (by decide)) (takes_of rfl rfl rfl rfl) (va_cons (ve_ix (ve_var 3) ve_int) va_nil))))))) (vss_cons (vs_ret ve_bl)
  vss_nil) vss_nil)
  vss_nil)))))
  (vss_cons (vs_ret ve_bl)
  vss_nil)))))
theorem b_law_is_drawing (kV doc pm : Value) (an : Option Addr) (cdv ct : Value) (us : List Value) (h : us.length = 1) : bindArgs (PySem.W.fnOf "_law_is_drawing" "_law_is_drawing" (defArgs s_law_is_drawing) (defBody s_law_is_drawing) (defScope s_law_is_drawing) .none kV doc pm an cdv ct) ⟨us, []⟩ = pure ((["_law_found"] : List Str).zip us) := match us, h with | [_], _ => rfl
theorem spec_law_is_drawing : ∀ ds Qv Xv, sp_law_is_drawing ds Qv Xv → ds.length = 1 ∧ w_law_is_drawing (startE N_law_is_drawing ds) ⟨fun _ => Qv ⟨.none, mA⟩, fun r _ => Qv r, fun ex _ => Xv ex⟩ := by
  rintro ds Qv Xv ⟨found_, rfl, h⟩
  refine ⟨rfl, ?_⟩
  have he : startE N_law_is_drawing [(e2 (eL (eL eI)) (eL (e2 eI eI))) found_] = [some ((e2 (eL (eL eI)) (eL (e2 eI eI))) found_, mS), none, none, none] := by
    rw [st_law_is_drawing]
    try simp only [argS_F, argS_N]
  rw [he]
  have hr : RB (fun _ => True) w_law_is_drawing [some ((e2 (eL (eL eI)) (eL (e2 eI eI))) found_, mS), none, none, none] (F_law_is_drawing found_) (KT eB mA) := by
    unfold F_law_is_drawing w_law_is_drawing
    exact (rs_ifRP kt_kt (rt_eq (rt_orF (rt_eq (rt_notP (rt_val (re_isi true (re_vS 0 (e2 (eL (eL eI)) (eL (e2 eI eI))) (found_)))))) (rt_val (re_2P xo_neI (re_cbP (b := eI) 2 (ra_consP (re_vS 0 (e2 (eL (eL eI)) (eL (e2 eI eI))) (found_)) ra_nil) (bi_lenT ⟨_, rfl, rfl⟩)) (re_c (.int 2) eI (2)))))) (rb_retP' (e := eB) false (re_eq (re_c (.bool false) eB (false)))) (rs_ifFN (rt_eq (rt_orF (rt_eq (rt_notP (rt_val (re_isi true (re_tN (e := (eL (eL eI))) (b := (e2 (eL (eL eI)) (eL (e2 eI eI)))) 0 (found_.1) (re_vS 0 (e2 (eL (eL eI)) (eL (e2 eI eI))) (found_)) (re_c (.int 0) eI (0))))))) (rt_eq (rt_notP (rt_val (re_isi true (re_tN (e := (eL (e2 eI eI))) (b := (e2 (eL (eL eI)) (eL (e2 eI eI)))) 1 (found_.2) (re_vS 0 (e2 (eL (eL eI)) (eL (e2 eI eI))) (found_)) (re_c (.int 1) eI (1))))))))) (rs_seqT (s := (fun (V455 : Unit) => [some ((e2 (eL (eL eI)) (eL (e2 eI eI))) (found_), mS), none, none, none])) (rb_forFP (s := (fun (V455 : Unit) => [some ((e2 (eL (eL eI)) (eL (e2 eI eI))) (found_), mS), none, none, none])) (a := (eL eI)) () (re_eq (re_tN (e := (eL (eL eI))) (b := (e2 (eL (eL eI)) (eL (e2 eI eI)))) 0 (found_.1) (re_vS 0 (e2 (eL (eL eI)) (eL (e2 eI eI))) (found_)) (re_c (.int 0) eI (0)))) (el_c sl_o (el_c sl_n (el_c sl_n (el_c sl_n el_nil)))) (fun V455 walk_ => [some ((e2 (eL (eL eI)) (eL (e2 eI eI))) (found_), mS), some ((eL eI) (walk_), mS), none, none]) (fun V455 walk_ => (rs_ifFN (rt_eq (rt_eq (rt_notP (rt_val (re_isi true (re_vS 1 (eL eI) (walk_))))))) (rs_seqF (s := (fun (V457 : Unit) => [some ((e2 (eL (eL eI)) (eL (e2 eI eI))) (found_), mS), none, none, none])) (rb_forFP (s := (fun (V457 : Unit) => [some ((e2 (eL (eL eI)) (eL (e2 eI eI))) (found_), mS), none, none, none])) (a := eI) () (re_eq (re_mO 1 (eL eI) (walk_))) (el_c sl_o (el_c sl_n (el_c sl_n (el_c sl_n el_nil)))) (fun V457 one_ => [some ((e2 (eL (eL eI)) (eL (e2 eI eI))) (found_), mS), none, some (eI (one_), mA), none]) (fun V457 one_ => (rs_ifR kf_kr (rt_eq (rt_not (rt_val (re_callP (b := eB) (M := (F_law_is_whole (.i one_))) (ra_consP (re_vF 2 eI (one_)) ra_nil) (fun Q X h => ⟨(.i one_), rfl, h⟩))))) (rb_retRP (e := eB) false (re_eq (re_c (.bool false) eB (false)))) (rb_nextF (V := ()) (el_c sl_o (el_c sl_n (el_c sl_n (el_c sl_n el_nil)))))))) (fun V457 => (rb_nextF (V := ()) (el_c sl_o (el_c sl_n (el_c sl_n (el_c sl_n el_nil)))))))))) (fun V455 => (rs_seqT (s := (fun (V458 : Unit) => [none, none, none, none])) (rb_forFP (s := (fun (V458 : Unit) => [none, none, none, none])) (a := (e2 eI eI)) () (re_eq (re_tN (e := (eL (e2 eI eI))) (b := (e2 (eL (eL eI)) (eL (e2 eI eI)))) 1 (found_.2) (re_mO 0 (e2 (eL (eL eI)) (eL (e2 eI eI))) (found_)) (re_c (.int 1) eI (1)))) (el_c sl_n (el_c sl_n (el_c sl_n (el_c sl_n el_nil)))) (fun V458 entry_ => [none, none, none, some ((e2 eI eI) (entry_), mA)]) (fun V458 entry_ => (rs_ifRP kf_kr (rt_eq (rt_orF (rt_eq (rt_notP (rt_val (re_isi true (re_vF 3 (e2 eI eI) (entry_)))))) (rt_val (re_2P xo_neI (re_cbP (b := eI) 2 (ra_consP (re_vF 3 (e2 eI eI) (entry_)) ra_nil) (bi_lenT ⟨_, rfl, rfl⟩)) (re_c (.int 2) eI (2)))))) (rb_retRP (e := eB) false (re_eq (re_c (.bool false) eB (false)))) (rs_ifR kf_kr (rt_eq (rt_or (rt_not (rt_val (re_callP (b := eB) (M := (F_law_is_whole (.i entry_.1))) (ra_consP (re_tF (e := eI) (b := (e2 eI eI)) 0 (entry_.1) (re_vF 3 (e2 eI eI) (entry_)) (re_c (.int 0) eI (0))) ra_nil) (fun Q X h => ⟨(.i entry_.1), rfl, h⟩)))) (rt_not (rt_val (re_callP (b := eB) (M := (F_law_is_whole (.i entry_.2))) (ra_consP (re_tF (e := eI) (b := (e2 eI eI)) 1 (entry_.2) (re_vF 3 (e2 eI eI) (entry_)) (re_c (.int 1) eI (1))) ra_nil) (fun Q X h => ⟨(.i entry_.2), rfl, h⟩)))))) (rb_retRP (e := eB) false (re_eq (re_c (.bool false) eB (false)))) (rb_nextF (V := ()) (el_c sl_n (el_c sl_n (el_c sl_n (el_c sl_n el_nil))))))))) (fun V458 => (rb_retP' (e := eB) true (re_eq (re_c (.bool true) eB (true))))))))))
  exact of_KT hr h
abbrev s_law_taken : Stmt := topS 32
abbrev N_law_taken : List Str := ["_law_drawing", "_law_handed", "_law_found"]
abbrev lv_law_taken : Nat := 5
theorem sc_law_taken : FnScope N_law_taken ["_law_drawing"] (defScope s_law_taken) := ⟨rfl, rfl, rfl, by decide +kernel, rfl, by decide +kernel, by decide +kernel⟩
def w_law_taken : WS := (wSeq (wSet 1 (wCall XD.sp_law_copy (wCons (wVar 0) wNil)))
  (wSeq (wSet 2 (wCall sp_checked (wCons (wVar 1) wNil)))
  (wSeq (wIf (wOr (wNot (wTest (wCall sp_law_is_drawing (wCons (wVar 2) wNil)))) (wOr (wTest (wBin woNe (wVar 2) (wVar 0))) (wTest (wBin woNe (wVar 1) (wVar 0))))) (wSeq (wRet (wC (.bool false)))
  wNext) wNext)
  (wSeq (wApp (wPSub (wPVar 1) (wC (.int 0))) (wCB wLst (wCons (wC (.int 7)) wNil)))
  (wSeq (wClr (wPSub (wPVar 1) (wC (.int 1))))
  (wSeq (wCut (wIf (wTest (wBin woGt (wCB wLen (wCons (wBin wIx (wVar 0) (wC (.int 0))) wNil)) (wC (.int 0)))) (wSeq (wApp (wPSub (wPSub (wPVar 1) (wC (.int 0))) (wC (.int 0))) (wC (.int 5)))
  wNext) wNext))
  (wSeq (wIf (wTest (wBin woNe (wVar 2) (wVar 0))) (wSeq (wRet (wC (.bool false)))
  wNext) wNext)
  (wSeq (wApp (wPSub (wPVar 2) (wC (.int 0))) (wCB wLst wNil))
  (wSeq (wRet (wAndV (wBin woEq (wCall sp_checked (wCons (wCall XD.sp_law_copy (wCons (wVar 0) wNil)) wNil)) (wVar 0)) (wBin woIsN (wCall XTX.sp_fault (wCons (wCall XD.sp_law_copy (wCons (wVar 0) wNil)) wNil)) (wC .none))))
  wNext)))))))))
theorem st_law_taken (x0 : D) : startE N_law_taken [x0] = [argS x0, none, none] := rfl
theorem d_law_taken (E : Ev K mg cl) (G_law_copy : Def P w K mg base cl "_law_copy" 1 XD.sp_law_copy lv_law_copy) (G_fault : Def P w K mg base cl "fault" 1 XTX.sp_fault lv_fault) (G_checked : Def P w K mg base cl "checked" 1 sp_checked lv_checked) (G_law_is_drawing : Def P w K mg base cl "_law_is_drawing" 1 sp_law_is_drawing lv_law_is_drawing) (f : Addr) (cdv : Value) (A : Around) (outer : List Env) (s : Shared) (H : Hp) (E0 : XK) (P0 : Addr → Prop) (hr : Room 4 (cxV P w K mg base N_law_taken "_law_taken" s_law_taken f cdv A outer s H E0).A) :
    PSs (cxV P w K mg base N_law_taken "_law_taken" s_law_taken f cdv A outer s H E0) (defBody s_law_taken) (rdS (cnOf K cl P0 H) (WXE E0) w_law_taken) := by
  have nd := sc_law_taken.nd
  exact (vss_cons (vs_set (i := 1) (ve_call (k := lv_law_copy) G_law_copy (hr.mono (by decide)) (takes_of rfl rfl rfl rfl) (va_cons (ve_var 0) va_nil)) nd)
  (vss_cons (vs_set (i := 2) (ve_call (k := lv_checked) G_checked (hr.mono (by decide)) (takes_of rfl rfl rfl rfl) (va_cons (ve_var 1) va_nil)) nd)
  (vss_cons (vs_if (PW.pt (vw_or (vt_not (vt_val (ve_call (k := lv_law_is_drawing) G_law_is_drawing (hr.mono (by decide)) (takes_of rfl rfl rfl rfl) (va_cons (ve_var 2) va_nil)))) (vw_or (vt_c (c_ne hr) (ve_var 2) (ve_var 0)) (vw_or1 (vt_c (c_ne hr) (ve_var 1) (ve_var 0)))))) (vss_cons (vs_ret ve_bl)
  vss_nil) vss_nil)
  (vss_cons (vs_app (vp_sub (vp_var 1) ve_int) (ve_lst (va_cons ve_int va_nil)))
  (vss_cons (vs_clr (vp_sub (vp_var 1) ve_int))
  (vss_cons (vs_cut (vs_if (vt_c c_gt (ve_len1 E.m_len (va_cons (ve_ix (ve_var 0) ve_int) va_nil)) ve_int) (vss_cons (vs_app (vp_sub (vp_sub (vp_var 1) ve_int) ve_int) ve_int)
  vss_nil) vss_nil))
  (vss_cons (vs_if (vt_c (c_ne hr) (ve_var 2) (ve_var 0)) (vss_cons (vs_ret ve_bl)
  vss_nil) vss_nil)
  (vss_cons (vs_app (vp_sub (vp_var 2) ve_int) (ve_lst va_nil))
  (vss_cons (vs_ret (ve_and (ve_c (c_eq hr) (ve_call (k := lv_checked) G_checked (hr.mono (by decide)) (takes_of rfl rfl rfl rfl) (va_cons (ve_call (k := lv_law_copy) G_law_copy (hr.mono (by decide)) (takes_of rfl rfl rfl rfl) (va_cons (ve_var 0) va_nil)) va_nil)) (ve_var 0)) (ve_one (ve_c c_isN (ve_call (k := lv_fault) G_fault (hr.mono (by decide)) (takes_of rfl rfl rfl rfl) (va_cons (ve_call (k := lv_law_copy) G_law_copy (hr.mono (by decide)) (takes_of rfl rfl rfl rfl) (va_cons (ve_var 0) va_nil)) va_nil)) ve_non))))
  vss_nil)))))))))
theorem b_law_taken (kV doc pm : Value) (an : Option Addr) (cdv ct : Value) (us : List Value) (h : us.length = 1) : bindArgs (PySem.W.fnOf "_law_taken" "_law_taken" (defArgs s_law_taken) (defBody s_law_taken) (defScope s_law_taken) .none kV doc pm an cdv ct) ⟨us, []⟩ = pure ((["_law_drawing"] : List Str).zip us) := match us, h with | [_], _ => rfl
theorem spec_law_taken : ∀ ds Qv Xv, sp_law_taken ds Qv Xv → ds.length = 1 ∧ w_law_taken (startE N_law_taken ds) ⟨fun _ => Qv ⟨.none, mA⟩, fun r _ => Qv r, fun ex _ => Xv ex⟩ := by
  rintro ds Qv Xv ⟨drawing_, rfl, h⟩
  refine ⟨rfl, ?_⟩
  have he : startE N_law_taken [(e2 (eL (eL eI)) (eL (e2 eI eI))) drawing_] = [some ((e2 (eL (eL eI)) (eL (e2 eI eI))) drawing_, mS), none, none] := by
    rw [st_law_taken]
    try simp only [argS_F, argS_N]
  rw [he]
  have hr : RB (fun _ => True) w_law_taken [some ((e2 (eL (eL eI)) (eL (e2 eI eI))) drawing_, mS), none, none] (F_law_taken drawing_) (KT eB mA) := by
    unfold F_law_taken w_law_taken
    exact (rs_set (re_eq (re_callP (b := (e2 (eL (eL eI)) (eL (e2 eI eI)))) (M := (XD.F_law_copy drawing_)) (ra_consP (re_vS 0 (e2 (eL (eL eI)) (eL (e2 eI eI))) (drawing_)) ra_nil) (fun Q X h => ⟨drawing_, rfl, h⟩))) (fun handed_ => [some ((e2 (eL (eL eI)) (eL (e2 eI eI))) (drawing_), mS), some ((e2 (eL (eL eI)) (eL (e2 eI eI))) (handed_), mA), none]) (fun handed_ => (rs_set (re_eq (re_callP (b := (e2 (eL (eL eI)) (eL (e2 eI eI)))) (M := (F_checked handed_)) (ra_consP (re_vA 1 (e2 (eL (eL eI)) (eL (e2 eI eI))) (handed_)) ra_nil) (fun Q X h => ⟨handed_, rfl, h⟩))) (fun found_ => [some ((e2 (eL (eL eI)) (eL (e2 eI eI))) (drawing_), mS), some ((e2 (eL (eL eI)) (eL (e2 eI eI))) (handed_), mA), some ((e2 (eL (eL eI)) (eL (e2 eI eI))) (found_), mA)]) (fun found_ => (rs_ifR kt_kt (rt_eq (rt_or (rt_not (rt_val (re_callP (b := eB) (M := (F_law_is_drawing found_)) (ra_consP (re_vA 2 (e2 (eL (eL eI)) (eL (e2 eI eI))) (found_)) ra_nil) (fun Q X h => ⟨found_, rfl, h⟩)))) (rt_orP (rt_val (re_2P (xo_neD (a := (e2 (eL (eL eI)) (eL (e2 eI eI))))) (re_vA 2 (e2 (eL (eL eI)) (eL (e2 eI eI))) (found_)) (re_vS 0 (e2 (eL (eL eI)) (eL (e2 eI eI))) (drawing_)))) (rt_val (re_2P (xo_neD (a := (e2 (eL (eL eI)) (eL (e2 eI eI))))) (re_vA 1 (e2 (eL (eL eI)) (eL (e2 eI eI))) (handed_)) (re_vS 0 (e2 (eL (eL eI)) (eL (e2 eI eI))) (drawing_))))))) (rb_retP' (e := eB) false (re_eq (re_c (.bool false) eB (false)))) (rs_appP (env := [some ((e2 (eL (eL eI)) (eL (e2 eI eI))) (drawing_), mS), some ((e2 (eL (eL eI)) (eL (e2 eI eI))) (handed_), mA), some ((e2 (eL (eL eI)) (eL (e2 eI eI))) (found_), mA)]) (k := fun handed_ => (((Out.ok (handed_, fun (y : ((List (List Int)) × (List (Int × Int)))) => y)).bind fun r => .ok ((fun (x : ((List (List Int)) × (List (Int × Int)))) => x.2) r.1, fun y => r.2 ((fun (x : ((List (List Int)) × (List (Int × Int)))) (y : (List (Int × Int))) => (x.1, y)) r.1 y))).bind fun r => (fun handed_ => ((if (decide ((drawing_.1.length : Int) > 0)) = true then ((((Out.ok (handed_, fun (y : ((List (List Int)) × (List (Int × Int)))) => y)).bind fun r => .ok ((fun (x : ((List (List Int)) × (List (Int × Int)))) => x.1) r.1, fun y => r.2 ((fun (x : ((List (List Int)) × (List (Int × Int)))) (y : (List (List Int))) => (y, x.2)) r.1 y))).bind fun r => (Out.ok (0)).bind fun q => (lift (atI r.1 q)).bind fun x => .ok (x, fun y => r.2 (setI r.1 q y))).bind fun r => (Out.ok (5)).bind fun v => (lift (appO r.1 v)).bind fun y => (fun handed_ => (Out.ok ())) (r.2 y)) else (Out.ok ())).bind fun (V461 : Unit) => (if (!decide (found_ = drawing_)) = true then (Out.ok false) else (((Out.ok (found_, fun (y : ((List (List Int)) × (List (Int × Int)))) => y)).bind fun r => .ok ((fun (x : ((List (List Int)) × (List (Int × Int)))) => x.1) r.1, fun y => r.2 ((fun (x : ((List (List Int)) × (List (Int × Int)))) (y : (List (List Int))) => (y, x.2)) r.1 y))).bind fun r => (Out.ok (([] : (List Int)))).bind fun v => (lift (appO r.1 v)).bind fun y => (fun found_ => (((((XD.F_law_copy drawing_).bind fun x => (Out.ok ()).bind fun t => .ok (x, t)).bind (fun (t : ((List (List Int)) × (List (Int × Int))) × Unit) => F_checked t.1)).bind fun t1 => (Out.ok (drawing_)).bind fun t2 => .ok (decide (t1 = t2))).bind fun p => if p = true then ((((XD.F_law_copy drawing_).bind fun x => (Out.ok ()).bind fun t => .ok (x, t)).bind (fun (t : ((List (List Int)) × (List (Int × Int))) × Unit) => XTX.F_fault t.1)).bind fun t1 => (Out.ok (())).bind fun t2 => .ok (t1.isNone)) else .ok false)) (r.2 y))))) (r.2 []))) (rp_tup (b := (e2 (eL (eL eI)) (eL (e2 eI eI)))) (c := (eL (eL eI))) 0 (fun (x : ((List (List Int)) × (List (Int × Int)))) => x.1) (fun (x : ((List (List Int)) × (List (Int × Int)))) (y : (List (List Int))) => (y, x.2)) (rp_var 1 (e2 (eL (eL eI)) (eL (e2 eI eI))) (handed_)) (re_c (.int 0) eI (0))) (re_eq (re_lstFP (a := eI) [7] (ra_consP (re_c (.int 7) eI (7)) ra_nil))) (fun handed_ => [some ((e2 (eL (eL eI)) (eL (e2 eI eI))) (drawing_), mS), some ((e2 (eL (eL eI)) (eL (e2 eI eI))) (handed_), mA), some ((e2 (eL (eL eI)) (eL (e2 eI eI))) (found_), mA)]) (fun handed_ => (rs_clrP (env := [some ((e2 (eL (eL eI)) (eL (e2 eI eI))) (drawing_), mS), some ((e2 (eL (eL eI)) (eL (e2 eI eI))) (handed_), mA), some ((e2 (eL (eL eI)) (eL (e2 eI eI))) (found_), mA)]) (k := fun handed_ => ((if (decide ((drawing_.1.length : Int) > 0)) = true then ((((Out.ok (handed_, fun (y : ((List (List Int)) × (List (Int × Int)))) => y)).bind fun r => .ok ((fun (x : ((List (List Int)) × (List (Int × Int)))) => x.1) r.1, fun y => r.2 ((fun (x : ((List (List Int)) × (List (Int × Int)))) (y : (List (List Int))) => (y, x.2)) r.1 y))).bind fun r => (Out.ok (0)).bind fun q => (lift (atI r.1 q)).bind fun x => .ok (x, fun y => r.2 (setI r.1 q y))).bind fun r => (Out.ok (5)).bind fun v => (lift (appO r.1 v)).bind fun y => (fun handed_ => (Out.ok ())) (r.2 y)) else (Out.ok ())).bind fun (V461 : Unit) => (if (!decide (found_ = drawing_)) = true then (Out.ok false) else (((Out.ok (found_, fun (y : ((List (List Int)) × (List (Int × Int)))) => y)).bind fun r => .ok ((fun (x : ((List (List Int)) × (List (Int × Int)))) => x.1) r.1, fun y => r.2 ((fun (x : ((List (List Int)) × (List (Int × Int)))) (y : (List (List Int))) => (y, x.2)) r.1 y))).bind fun r => (Out.ok (([] : (List Int)))).bind fun v => (lift (appO r.1 v)).bind fun y => (fun found_ => (((((XD.F_law_copy drawing_).bind fun x => (Out.ok ()).bind fun t => .ok (x, t)).bind (fun (t : ((List (List Int)) × (List (Int × Int))) × Unit) => F_checked t.1)).bind fun t1 => (Out.ok (drawing_)).bind fun t2 => .ok (decide (t1 = t2))).bind fun p => if p = true then ((((XD.F_law_copy drawing_).bind fun x => (Out.ok ()).bind fun t => .ok (x, t)).bind (fun (t : ((List (List Int)) × (List (Int × Int))) × Unit) => XTX.F_fault t.1)).bind fun t1 => (Out.ok (())).bind fun t2 => .ok (t1.isNone)) else .ok false)) (r.2 y))))) (rp_tup (b := (e2 (eL (eL eI)) (eL (e2 eI eI)))) (c := (eL (e2 eI eI))) 1 (fun (x : ((List (List Int)) × (List (Int × Int)))) => x.2) (fun (x : ((List (List Int)) × (List (Int × Int)))) (y : (List (Int × Int))) => (x.1, y)) (rp_var 1 (e2 (eL (eL eI)) (eL (e2 eI eI))) (handed_)) (re_c (.int 1) eI (1))) (fun handed_ => [some ((e2 (eL (eL eI)) (eL (e2 eI eI))) (drawing_), mS), some ((e2 (eL (eL eI)) (eL (e2 eI eI))) (handed_), mA), some ((e2 (eL (eL eI)) (eL (e2 eI eI))) (found_), mA)]) (fun handed_ => (rs_seqN (s := (fun (V461 : Unit) => [some ((e2 (eL (eL eI)) (eL (e2 eI eI))) (drawing_), mS), none, some ((e2 (eL (eL eI)) (eL (e2 eI eI))) (found_), mA)])) (rb_ifP (rt_eq (rt_val (re_2P xo_gt (re_cbP ((drawing_.1.length : Int)) (ra_consP (re_tN (e := (eL (eL eI))) (b := (e2 (eL (eL eI)) (eL (e2 eI eI)))) 0 (drawing_.1) (re_vS 0 (e2 (eL (eL eI)) (eL (e2 eI eI))) (drawing_)) (re_c (.int 0) eI (0))) ra_nil) (len_L (a := (eL eI)) (drawing_.1))) (re_c (.int 0) eI (0))))) (rs_appP (env := [some ((e2 (eL (eL eI)) (eL (e2 eI eI))) (drawing_), mS), some ((e2 (eL (eL eI)) (eL (e2 eI eI))) (handed_), mA), some ((e2 (eL (eL eI)) (eL (e2 eI eI))) (found_), mA)]) (k := fun handed_ => (Out.ok ())) (rp_ix (c := (eL eI)) (rp_tup (b := (e2 (eL (eL eI)) (eL (e2 eI eI)))) (c := (eL (eL eI))) 0 (fun (x : ((List (List Int)) × (List (Int × Int)))) => x.1) (fun (x : ((List (List Int)) × (List (Int × Int)))) (y : (List (List Int))) => (y, x.2)) (rp_var 1 (e2 (eL (eL eI)) (eL (e2 eI eI))) (handed_)) (re_c (.int 0) eI (0))) (re_eq (re_c (.int 0) eI (0)))) (re_eq (re_c (.int 5) eI (5))) (fun handed_ => [some ((e2 (eL (eL eI)) (eL (e2 eI eI))) (drawing_), mS), some ((e2 (eL (eL eI)) (eL (e2 eI eI))) (handed_), mA), some ((e2 (eL (eL eI)) (eL (e2 eI eI))) (found_), mA)]) (fun handed_ => (rb_next (V := ()) (el_c sl_o (el_c sl_n (el_c sl_o el_nil)))))) (rb_next (V := ()) (el_c sl_o (el_c sl_n (el_c sl_o el_nil))))) (fun V461 => (rs_ifRP kt_kt (rt_eq (rt_val (re_2P (xo_neD (a := (e2 (eL (eL eI)) (eL (e2 eI eI))))) (re_vA 2 (e2 (eL (eL eI)) (eL (e2 eI eI))) (found_)) (re_vS 0 (e2 (eL (eL eI)) (eL (e2 eI eI))) (drawing_))))) (rb_retP' (e := eB) false (re_eq (re_c (.bool false) eB (false)))) (rs_appP (env := [some ((e2 (eL (eL eI)) (eL (e2 eI eI))) (drawing_), mS), none, some ((e2 (eL (eL eI)) (eL (e2 eI eI))) (found_), mA)]) (k := fun found_ => (((((XD.F_law_copy drawing_).bind fun x => (Out.ok ()).bind fun t => .ok (x, t)).bind (fun (t : ((List (List Int)) × (List (Int × Int))) × Unit) => F_checked t.1)).bind fun t1 => (Out.ok (drawing_)).bind fun t2 => .ok (decide (t1 = t2))).bind fun p => if p = true then ((((XD.F_law_copy drawing_).bind fun x => (Out.ok ()).bind fun t => .ok (x, t)).bind (fun (t : ((List (List Int)) × (List (Int × Int))) × Unit) => XTX.F_fault t.1)).bind fun t1 => (Out.ok (())).bind fun t2 => .ok (t1.isNone)) else .ok false)) (rp_tup (b := (e2 (eL (eL eI)) (eL (e2 eI eI)))) (c := (eL (eL eI))) 0 (fun (x : ((List (List Int)) × (List (Int × Int)))) => x.1) (fun (x : ((List (List Int)) × (List (Int × Int)))) (y : (List (List Int))) => (y, x.2)) (rp_var 2 (e2 (eL (eL eI)) (eL (e2 eI eI))) (found_)) (re_c (.int 0) eI (0))) (re_eq (re_lstP (a := eI) [] ra_nil)) (fun found_ => [some ((e2 (eL (eL eI)) (eL (e2 eI eI))) (drawing_), mS), none, some ((e2 (eL (eL eI)) (eL (e2 eI eI))) (found_), mA)]) (fun found_ => (rb_retI (re_eq (re_and (re_2 (opP_out (xo_eqD (a := (e2 (eL (eL eI)) (eL (e2 eI eI)))))) (re_call (b := (e2 (eL (eL eI)) (eL (e2 eI eI)))) (M := fun (t : ((List (List Int)) × (List (Int × Int))) × Unit) => F_checked t.1) (ra_cons (re_callP (b := (e2 (eL (eL eI)) (eL (e2 eI eI)))) (M := (XD.F_law_copy drawing_)) (ra_consP (re_vS 0 (e2 (eL (eL eI)) (eL (e2 eI eI))) (drawing_)) ra_nil) (fun Q X h => ⟨drawing_, rfl, h⟩)) ra_nil) (fun (t : ((List (List Int)) × (List (Int × Int))) × Unit) Q X h => ⟨t.1, rfl, h⟩)) (re_vS 0 (e2 (eL (eL eI)) (eL (e2 eI eI))) (drawing_))) (re_2 (opP_out (xo_isNO (a := (eTL eA)) (fun _ => rfl))) (re_call (b := (eO (eTL eA))) (M := fun (t : ((List (List Int)) × (List (Int × Int))) × Unit) => XTX.F_fault t.1) (ra_cons (re_callP (b := (e2 (eL (eL eI)) (eL (e2 eI eI)))) (M := (XD.F_law_copy drawing_)) (ra_consP (re_vS 0 (e2 (eL (eL eI)) (eL (e2 eI eI))) (drawing_)) ra_nil) (fun Q X h => ⟨drawing_, rfl, h⟩)) ra_nil) (fun (t : ((List (List Int)) × (List (Int × Int))) × Unit) Q X h => ⟨t.1, rfl, h⟩)) (re_c .none eN (()))))))))))))))))))))
  exact of_KT hr h
abbrev s_law_large : Stmt := topS 24
abbrev N_law_large : List Str := ["_law_some", "_law_count", "_law_rings", "_law_extra", "_law_walks", "_law_signs", "_law_k"]
abbrev lv_law_large : Nat := 1
theorem sc_law_large : FnScope N_law_large ["_law_some"] (defScope s_law_large) := ⟨rfl, rfl, rfl, by decide +kernel, rfl, by decide +kernel, by decide +kernel⟩
def w_law_large : WS := (wSeq (wSet 1 (wBin woAdd (wC (.int 38)) (wBin wIx (wVar 0) (wC (.int 0)))))
  (wSeq (wSet 2 (wBin woAdd (wC (.int 1)) (wBin woMod (wBin wIx (wVar 0) (wC (.int 1))) (wC (.int 4)))))
  (wSeq (wSet 3 (wC (.int 0)))
  (wSeq (wCut (wIf (wTest (wBin woEq (wBin wIx (wVar 0) (wC (.int 2))) (wC (.int 0)))) (wSeq (wSet 1 (wBin wIx (wVar 0) (wC (.int 0))))
  wNext) wNext))
  (wSeq (wCut (wIf (wTest (wBin woLt (wBin wIx (wVar 0) (wC (.int 2))) (wC (.int 2)))) (wSeq (wSet 3 (wBin woSub (wBin woAdd (wC (.int 11)) (wBin woMod (wBin wIx (wVar 0) (wC (.int 1))) (wC (.int 4)))) (wVar 2)))
  wNext) wNext))
  (wSeq (wSet 4 (wLcR 1 [6] 6 (wCons (wBin woAdd (wVar 2) (wVar 3)) wNil) wYes (wCB wLst wNil)))
  (wSeq (wSet 5 (wCB wLst wNil))
  (wSeq (wCut (wForR 1 6 (wCons (wVar 1) wNil)
  (wSeq (wApp (wPSub (wPVar 4) (wBin woMod (wVar 6) (wVar 2))) (wBin woAdd (wVar 6) (wC (.int 1))))
  (wSeq (wApp (wPSub (wPVar 4) (wBin woMod (wBin woMul (wVar 6) (wVar 6)) (wVar 2))) (wBin woSub (wNeg (wVar 6)) (wC (.int 1))))
  (wSeq (wApp (wPVar 5) (wCB wTup (wCons (wBin woAdd (wVar 6) (wC (.int 1))) (wCons (wBin woSub (wC (.int 1)) (wBin woMul (wC (.int 2)) (wBin woMod (wVar 6) (wC (.int 2))))) wNil))))
  wNext)))))
  (wSeq (wRet (wCB wTup (wCons (wMv 4) (wCons (wMv 5) wNil))))
  wNext)))))))))
theorem st_law_large (x0 : D) : startE N_law_large [x0] = [argS x0, none, none, none, none, none, none] := rfl
theorem d_law_large (E : Ev K mg cl)  (f : Addr) (cdv : Value) (A : Around) (outer : List Env) (s : Shared) (H : Hp) (E0 : XK) (P0 : Addr → Prop) (hr : Room 0 (cxV P w K mg base N_law_large "_law_large" s_law_large f cdv A outer s H E0).A) :
    PSs (cxV P w K mg base N_law_large "_law_large" s_law_large f cdv A outer s H E0) (defBody s_law_large) (rdS (cnOf K cl P0 H) (WXE E0) w_law_large) := by
  have nd := sc_law_large.nd
  exact (vss_cons (vs_set (i := 1) (ve_add ve_int (ve_ix (ve_var 0) ve_int)) nd)
  (vss_cons (vs_set (i := 2) (ve_add ve_int (ve_mod (ve_ix (ve_var 0) ve_int) ve_int)) nd)
  (vss_cons (vs_set (i := 3) ve_int nd)
  (vss_cons (vs_cut (vs_if (vt_c (c_eq hr) (ve_ix (ve_var 0) ve_int) ve_int) (vss_cons (vs_set (i := 1) (ve_ix (ve_var 0) ve_int) nd)
  vss_nil) vss_nil))
  (vss_cons (vs_cut (vs_if (vt_c c_lt (ve_ix (ve_var 0) ve_int) ve_int) (vss_cons (vs_set (i := 3) (ve_sub (ve_add ve_int (ve_mod (ve_ix (ve_var 0) ve_int) ve_int)) (ve_var 2)) nd)
  vss_nil) vss_nil))
  (vss_cons (vs_setLcR1 (n := 4) rfl nd [("_law_k", 6)] E.m_range (va_cons (ve_add (ve_var 2) (ve_var 3)) va_nil) (fun _ _ _ _ _ => pg_name nd rfl (by first | exact .inl rfl | exact .inr rfl)) (fun _ _ _ _ _ => vts_nil) (fun _ _ _ _ _ => (ve_lst va_nil)))
  (vss_cons (vs_set (i := 5) (ve_lst va_nil) nd)
  (vss_cons (vs_cut (vs_forR1 (i := 6) (passes_of rfl) rfl E.m_range (va_cons (ve_var 1) va_nil)
  (vss_cons (vs_app (vp_sub (vp_var 4) (ve_mod (ve_var 6) (ve_var 2))) (ve_add (ve_var 6) ve_int))
  (vss_cons (vs_app (vp_sub (vp_var 4) (ve_mod (ve_mul (ve_var 6) (ve_var 6)) (ve_var 2))) (ve_sub (ve_neg (ve_var 6)) ve_int))
  (vss_cons (vs_app (vp_var 5) (ve_tup (va_cons (ve_add (ve_var 6) ve_int) (va_cons (ve_sub ve_int (ve_mul ve_int (ve_mod (ve_var 6) ve_int))) va_nil))))
  vss_nil))) nd))
  (vss_cons (vs_ret (ve_tup (va_cons (ve_mv 4) (va_cons (ve_mv 5) va_nil))))
  vss_nil)))))))))
theorem b_law_large (kV doc pm : Value) (an : Option Addr) (cdv ct : Value) (us : List Value) (h : us.length = 1) : bindArgs (PySem.W.fnOf "_law_large" "_law_large" (defArgs s_law_large) (defBody s_law_large) (defScope s_law_large) .none kV doc pm an cdv ct) ⟨us, []⟩ = pure ((["_law_some"] : List Str).zip us) := match us, h with | [_], _ => rfl
theorem spec_law_large : ∀ ds Qv Xv, sp_law_large ds Qv Xv → ds.length = 1 ∧ w_law_large (startE N_law_large ds) ⟨fun _ => Qv ⟨.none, mA⟩, fun r _ => Qv r, fun ex _ => Xv ex⟩ := by
  rintro ds Qv Xv ⟨some_, rfl, h⟩
  refine ⟨rfl, ?_⟩
  have he : startE N_law_large [(eL eI) some_] = [some ((eL eI) some_, mS), none, none, none, none, none, none] := by
    rw [st_law_large]
    try simp only [argS_F, argS_N]
  rw [he]
  have hr : RB (fun _ => True) w_law_large [some ((eL eI) some_, mS), none, none, none, none, none, none] (F_law_large some_) (KT (e2 (eL (eL eI)) (eL (e2 eI eI))) mA) := by
    unfold F_law_large w_law_large
    exact (rs_set (re_eq (re_2 (opP_out xo_add) (re_c (.int 38) eI (38)) (re_2Q (xo_ixF (a := eI)) (re_vS 0 (eL eI) (some_)) (re_c (.int 0) eI (0))))) (fun count_ => [some ((eL eI) (some_), mS), some (eI (count_), mA), none, none, none, none, none]) (fun count_ => (rs_set (re_eq (re_2 (opP_out xo_add) (re_c (.int 1) eI (1)) (re_modCO 4 (re_2Q (xo_ixF (a := eI)) (re_vS 0 (eL eI) (some_)) (re_c (.int 1) eI (1))) (re_c (.int 4) eI (4))))) (fun rings_ => [some ((eL eI) (some_), mS), some (eI (count_), mA), some (eI (rings_), mA), none, none, none, none]) (fun rings_ => (rs_set (re_eq (re_c (.int 0) eI (0))) (fun extra_ => [some ((eL eI) (some_), mS), some (eI (count_), mA), some (eI (rings_), mA), some (eI (extra_), mA), none, none, none]) (fun extra_ => (rs_seqN (s := (fun (V247 : Int) => [some ((eL eI) (some_), mS), some (eI (V247), mA), some (eI (rings_), mA), some (eI (extra_), mA), none, none, none])) (rb_if (rt_eq (rt_val (re_2 (opP_out xo_eqI) (re_2Q (xo_ixF (a := eI)) (re_vS 0 (eL eI) (some_)) (re_c (.int 2) eI (2))) (re_c (.int 0) eI (0))))) (rs_set (re_eq (re_2Q (xo_ixF (a := eI)) (re_vS 0 (eL eI) (some_)) (re_c (.int 0) eI (0)))) (fun count_ => [some ((eL eI) (some_), mS), some (eI (count_), mA), some (eI (rings_), mA), some (eI (extra_), mA), none, none, none]) (fun count_ => (rb_next (V := count_) (el_c sl_o (el_c sl_o (el_c sl_o (el_c sl_o (el_c sl_n (el_c sl_n (el_c sl_n el_nil)))))))))) (rb_next (V := count_) (el_c sl_o (el_c sl_o (el_c sl_o (el_c sl_o (el_c sl_n (el_c sl_n (el_c sl_n el_nil))))))))) (fun V247 => (rs_seqN (s := (fun (V248 : Int) => [some ((eL eI) (some_), mS), some (eI (V247), mA), some (eI (rings_), mA), some (eI (V248), mA), none, none, none])) (rb_if (rt_eq (rt_val (re_2 (opP_out xo_lt) (re_2Q (xo_ixF (a := eI)) (re_vS 0 (eL eI) (some_)) (re_c (.int 2) eI (2))) (re_c (.int 2) eI (2))))) (rs_set (re_eq (re_2 (opP_out xo_sub) (re_2 (opP_out xo_add) (re_c (.int 11) eI (11)) (re_modCO 4 (re_2Q (xo_ixF (a := eI)) (re_vS 0 (eL eI) (some_)) (re_c (.int 1) eI (1))) (re_c (.int 4) eI (4)))) (re_vF 2 eI (rings_)))) (fun extra_ => [some ((eL eI) (some_), mS), some (eI (V247), mA), some (eI (rings_), mA), some (eI (extra_), mA), none, none, none]) (fun extra_ => (rb_next (V := extra_) (el_c sl_o (el_c sl_o (el_c sl_o (el_c sl_o (el_c sl_n (el_c sl_n (el_c sl_n el_nil)))))))))) (rb_next (V := extra_) (el_c sl_o (el_c sl_o (el_c sl_o (el_c sl_o (el_c sl_n (el_c sl_n (el_c sl_n el_nil))))))))) (fun V248 => (rs_set (re_eq (re_lcR1P none mA 0 (rings_ + V248) (ent := (fun k_ => [some ((eL eI) (some_), mS), some (eI (V247), mA), some (eI (rings_), mA), some (eI (V248), mA), none, none, some (eI (k_), mA)])) (F := (fun k_ : Int => (Out.ok (([] : (List Int)))))) (ra_consP (re_2P xo_add (re_vF 2 eI (rings_)) (re_vF 3 eI (V248))) ra_nil) ⟨rfl, rfl⟩ (fun _ => rfl) (fun k_ => ⟨_, re_eq (re_lstP (a := eI) [] ra_nil)⟩) (kid_A (c := (eL eI))))) (fun walks_ => [some ((eL eI) (some_), mS), some (eI (V247), mA), some (eI (rings_), mA), some (eI (V248), mA), some ((eL (eL eI)) (walks_), mA), none, none]) (fun walks_ => (rs_set (re_eq (re_lstP (a := (e2 eI eI)) [] ra_nil)) (fun signs_ => [some ((eL eI) (some_), mS), some (eI (V247), mA), some (eI (rings_), mA), some (eI (V248), mA), some ((eL (eL eI)) (walks_), mA), some ((eL (e2 eI eI)) (signs_), mA), none]) (fun signs_ => (rs_seqN (s := (fun (V249 : (List (List Int)) × (List (Int × Int))) => [some ((eL eI) (some_), mS), some (eI (V247), mA), some (eI (rings_), mA), some (eI (V248), mA), some ((eL (eL eI)) (V249.1), mA), some ((eL (e2 eI eI)) (V249.2), mA), none])) (rb_forRP (s := (fun (V249 : (List (List Int)) × (List (Int × Int))) => [some ((eL eI) (some_), mS), some (eI (V247), mA), some (eI (rings_), mA), some (eI (V248), mA), some ((eL (eL eI)) (V249.1), mA), some ((eL (e2 eI eI)) (V249.2), mA), none])) 0 V247 (walks_, signs_) (ra_consP (re_vF 1 eI (V247)) ra_nil) ⟨rfl, rfl⟩ (el_c sl_o (el_c sl_o (el_c sl_o (el_c sl_o (el_c sl_o (el_c sl_o (el_c sl_n el_nil))))))) (fun V249 k_ => [some ((eL eI) (some_), mS), some (eI (V247), mA), some (eI (rings_), mA), some (eI (V248), mA), some ((eL (eL eI)) (V249.1), mA), some ((eL (e2 eI eI)) (V249.2), mA), some (eI (k_), mA)]) (fun V249 k_ => (rs_app1 (a := eI) (xs := V249.1) (k := fun walks_ => (((lift (mulO k_ k_)).bind fun t1 => (Out.ok (rings_)).bind fun t2 => lift (modO t1 t2)).bind fun j => (lift (atI walks_ j)).bind fun r => (Out.ok ((-k_ - 1))).bind fun v => (lift (appO r v)).bind fun r2 => (fun walks_ => ((Out.ok (((k_ + 1), (1 - (2 * (k_ % 2)))))).bind fun v => (lift (appO V249.2 v)).bind fun signs_ => (Out.ok (walks_, signs_)))) (setI walks_ j r2))) (re_eq (re_2Q xo_mod (re_vF 6 eI (k_)) (re_vF 2 eI (rings_)))) (re_eq (re_2P xo_add (re_vF 6 eI (k_)) (re_c (.int 1) eI (1)))) (fun walks_ => [some ((eL eI) (some_), mS), some (eI (V247), mA), some (eI (rings_), mA), some (eI (V248), mA), some ((eL (eL eI)) (walks_), mA), some ((eL (e2 eI eI)) (V249.2), mA), some (eI (k_), mA)]) (fun walks_ => (rs_app1 (a := eI) (xs := walks_) (k := fun walks_ => ((Out.ok (((k_ + 1), (1 - (2 * (k_ % 2)))))).bind fun v => (lift (appO V249.2 v)).bind fun signs_ => (Out.ok (walks_, signs_)))) (re_eq (re_2 (opO_out xo_mod) (re_2Q xo_mul (re_vF 6 eI (k_)) (re_vF 6 eI (k_))) (re_vF 2 eI (rings_)))) (re_eq (re_2P xo_sub (re_neg (re_vF 6 eI (k_))) (re_c (.int 1) eI (1)))) (fun walks_ => [some ((eL eI) (some_), mS), some (eI (V247), mA), some (eI (rings_), mA), some (eI (V248), mA), some ((eL (eL eI)) (walks_), mA), some ((eL (e2 eI eI)) (V249.2), mA), some (eI (k_), mA)]) (fun walks_ => (rs_app (a := (e2 eI eI)) (xs := V249.2) (re_eq (re_tupFP (a := (e2 eI eI)) ((k_ + 1), (1 - (2 * (k_ % 2)))) (ra_consP (re_2P xo_add (re_vF 6 eI (k_)) (re_c (.int 1) eI (1))) (ra_consP (re_2P xo_sub (re_c (.int 1) eI (1)) (re_mulL 2 (re_c (.int 2) eI (2)) (re_modC 2 (re_vF 6 eI (k_)) (re_c (.int 2) eI (2))))) ra_nil)))) (fun signs_ => [some ((eL eI) (some_), mS), some (eI (V247), mA), some (eI (rings_), mA), some (eI (V248), mA), some ((eL (eL eI)) (walks_), mA), some ((eL (e2 eI eI)) (signs_), mA), some (eI (k_), mA)]) (fun signs_ => (rb_next (V := (walks_, signs_)) (el_c sl_o (el_c sl_o (el_c sl_o (el_c sl_o (el_c sl_o (el_c sl_o (el_c sl_n el_nil)))))))))))))))) (fun V249 => (rb_retP' (e := (e2 (eL (eL eI)) (eL (e2 eI eI)))) (V249.1, V249.2) (re_eq (re_tupP (a := (e2 (eL (eL eI)) (eL (e2 eI eI)))) (V249.1, V249.2) (ra_consP (re_mO 4 (eL (eL eI)) (V249.1)) (ra_consP (re_mO 5 (eL (e2 eI eI)) (V249.2)) ra_nil)))))))))))))))))))))
  exact of_KT hr h
abbrev s_law_spoilt_sign : Stmt := topS 27
abbrev N_law_spoilt_sign : List Str := ["_law_drawing", "_law_some", "_law_walks", "_law_signs", "_law_at", "_law_crossing", "_law_sign"]
abbrev lv_law_spoilt_sign : Nat := 2
theorem sc_law_spoilt_sign : FnScope N_law_spoilt_sign ["_law_drawing", "_law_some"] (defScope s_law_spoilt_sign) := ⟨rfl, rfl, rfl, by decide +kernel, rfl, by decide +kernel, by decide +kernel⟩
def w_law_spoilt_sign : WS := (wSeq (wAsg (tgT [2, 3]) (wCall XD.sp_law_copy (wCons (wMv 0) wNil)))
  (wSeq (wIf (wOr (wTest (wBin woEq (wCB wLen (wCons (wVar 3) wNil)) (wC (.int 0)))) (wTest (wBin woEq (wBin wIx (wVar 1) (wC (.int 1))) (wC (.int 0))))) (wSeq (wRet (wCB wTup (wCons (wMv 2) (wCons (wBin woAdd (wVar 3) (wCB wLst (wCons (wCB wTup (wCons (wBin woSub (wBin wIx (wVar 1) (wC (.int 4))) (wC (.int 3))) (wCons (wC (.int 1)) wNil))) wNil))) wNil))))
  wNext) wNext)
  (wSeq (wSet 4 (wBin woMod (wBin wIx (wVar 1) (wC (.int 3))) (wCB wLen (wCons (wVar 3) wNil))))
  (wSeq (wAsg (tgT [5, 6]) (wBin wIx (wVar 3) (wVar 4)))
  (wSeq (wCut (wIf (wTest (wBin woEq (wBin wIx (wVar 1) (wC (.int 1))) (wC (.int 1)))) (wSeq (wExpr (wPopE 3 (wVar 4)))
  wNext) (wSeq (wCut (wIf (wTest (wBin woEq (wBin wIx (wVar 1) (wC (.int 1))) (wC (.int 2)))) (wSeq (wIns 3 (wVar 4) (wCB wTup (wCons (wVar 5) (wCons (wVar 6) wNil))))
  wNext) (wSeq (wCut (wIf (wTest (wBin woEq (wBin wIx (wVar 1) (wC (.int 1))) (wC (.int 3)))) (wSeq (wExpr (wPopE 3 (wVar 4)))
  (wSeq (wIns 3 (wBin woAdd (wVar 4) (wC (.int 1))) (wCB wTup (wCons (wVar 5) (wCons (wVar 6) wNil))))
  wNext)) (wSeq (wCut (wIf (wTest (wBin woEq (wBin wIx (wVar 1) (wC (.int 1))) (wC (.int 4)))) (wSeq (wPut (wPVar 3) (wVar 4) (wCB wTup (wCons (wMv 5) (wCons (wBin wIx (wCB wLst (wCons (wC (.int 0)) (wCons (wC (.int 2)) (wCons (wNeg (wC (.int 3))) wNil)))) (wBin woMod (wBin wIx (wVar 1) (wC (.int 4))) (wC (.int 3)))) wNil))))
  wNext) (wSeq (wCut (wIf (wTest (wBin woEq (wBin wIx (wVar 1) (wC (.int 1))) (wC (.int 5)))) (wSeq (wPut (wPVar 3) (wVar 4) (wCB wTup (wCons (wNeg (wVar 5)) (wCons (wMv 6) wNil))))
  wNext) (wSeq (wPut (wPVar 3) (wVar 4) (wCB wTup (wCons (wBin wIx (wBin wIx (wVar 3) (wBin woMod (wBin wIx (wVar 1) (wC (.int 4))) (wCB wLen (wCons (wVar 3) wNil)))) (wC (.int 0))) (wCons (wMv 6) wNil))))
  wNext)))
  wNext)))
  wNext)))
  wNext)))
  wNext)))
  (wSeq (wRet (wCB wTup (wCons (wMv 2) (wCons (wMv 3) wNil))))
  wNext))))))
theorem st_law_spoilt_sign (x0 x1 : D) : startE N_law_spoilt_sign [x0, x1] = [argS x0, argS x1, none, none, none, none, none] := rfl
theorem d_law_spoilt_sign (E : Ev K mg cl) (G_law_copy : Def P w K mg base cl "_law_copy" 1 XD.sp_law_copy lv_law_copy) (f : Addr) (cdv : Value) (A : Around) (outer : List Env) (s : Shared) (H : Hp) (E0 : XK) (P0 : Addr → Prop) (hr : Room 1 (cxV P w K mg base N_law_spoilt_sign "_law_spoilt_sign" s_law_spoilt_sign f cdv A outer s H E0).A) :
    PSs (cxV P w K mg base N_law_spoilt_sign "_law_spoilt_sign" s_law_spoilt_sign f cdv A outer s H E0) (defBody s_law_spoilt_sign) (rdS (cnOf K cl P0 H) (WXE E0) w_law_spoilt_sign) := by
  have nd := sc_law_spoilt_sign.nd
  exact (vss_cons (vs_asg (ve_call (k := lv_law_copy) G_law_copy (hr.mono (by decide)) (takes_of rfl rfl rfl rfl) (va_cons (ve_mv 0) va_nil)) (tg_tup rfl (na_cons (na_cons na_nil nd) nd)))
  (vss_cons (vs_if (PW.pt (vw_or (vt_c (c_eq hr) (ve_len1 E.m_len (va_cons (ve_var 3) va_nil)) ve_int) (vw_or1 (vt_c (c_eq hr) (ve_ix (ve_var 1) ve_int) ve_int)))) (vss_cons (vs_ret (ve_tup (va_cons (ve_mv 2) (va_cons (ve_add (ve_var 3) (ve_lst (va_cons (ve_tup (va_cons (ve_sub (ve_ix (ve_var 1) ve_int) ve_int) (va_cons ve_int va_nil))) va_nil))) va_nil))))
  vss_nil) vss_nil)
  (vss_cons (vs_set (i := 4) (ve_mod (ve_ix (ve_var 1) ve_int) (ve_len1 E.m_len (va_cons (ve_var 3) va_nil))) nd)
  (vss_cons (vs_asg (ve_ix (ve_var 3) (ve_var 4)) (tg_tup rfl (na_cons (na_cons na_nil nd) nd)))
  (vss_cons (vs_cut (vs_if (vt_c (c_eq hr) (ve_ix (ve_var 1) ve_int) ve_int) (vss_cons (vs_exprX (ve_popX 3 (ve_var 4)))
  vss_nil) (vss_cons (vs_cut (vs_if (vt_c (c_eq hr) (ve_ix (ve_var 1) ve_int) ve_int) (vss_cons (vs_ins 3 (ve_var 4) (ve_tup (va_cons (ve_var 5) (va_cons (ve_var 6) va_nil))))
  vss_nil) (vss_cons (vs_cut (vs_if (vt_c (c_eq hr) (ve_ix (ve_var 1) ve_int) ve_int) (vss_cons (vs_exprX (ve_popX 3 (ve_var 4)))
  (vss_cons (vs_ins 3 (ve_add (ve_var 4) ve_int) (ve_tup (va_cons (ve_var 5) (va_cons (ve_var 6) va_nil))))
  vss_nil)) (vss_cons (vs_cut (vs_if (vt_c (c_eq hr) (ve_ix (ve_var 1) ve_int) ve_int) (vss_cons (vs_put (vp_var 3) (ve_var 4) (ve_tup (va_cons (ve_mv 5) (va_cons (ve_ix (ve_lst (va_cons ve_int (va_cons ve_int (va_cons (ve_neg ve_int) va_nil)))) (ve_mod (ve_ix (ve_var 1) ve_int) ve_int)) va_nil))))
  vss_nil) (vss_cons (vs_cut (vs_if (vt_c (c_eq hr) (ve_ix (ve_var 1) ve_int) ve_int) (vss_cons (vs_put (vp_var 3) (ve_var 4) (ve_tup (va_cons (ve_neg (ve_var 5)) (va_cons (ve_mv 6) va_nil))))
  vss_nil) (vss_cons (vs_put (vp_var 3) (ve_var 4) (ve_tup (va_cons (ve_ix (ve_ix (ve_var 3) (ve_mod (ve_ix (ve_var 1) ve_int) (ve_len1 E.m_len (va_cons (ve_var 3) va_nil)))) ve_int) (va_cons (ve_mv 6) va_nil))))
  vss_nil)))
  vss_nil)))
  vss_nil)))
  vss_nil)))
  vss_nil)))
  (vss_cons (vs_ret (ve_tup (va_cons (ve_mv 2) (va_cons (ve_mv 3) va_nil))))
  vss_nil))))))
theorem b_law_spoilt_sign (kV doc pm : Value) (an : Option Addr) (cdv ct : Value) (us : List Value) (h : us.length = 2) : bindArgs (PySem.W.fnOf "_law_spoilt_sign" "_law_spoilt_sign" (defArgs s_law_spoilt_sign) (defBody s_law_spoilt_sign) (defScope s_law_spoilt_sign) .none kV doc pm an cdv ct) ⟨us, []⟩ = pure ((["_law_drawing", "_law_some"] : List Str).zip us) := match us, h with | [_, _], _ => rfl
theorem spec_law_spoilt_sign : ∀ ds Qv Xv, sp_law_spoilt_sign ds Qv Xv → ds.length = 2 ∧ w_law_spoilt_sign (startE N_law_spoilt_sign ds) ⟨fun _ => Qv ⟨.none, mA⟩, fun r _ => Qv r, fun ex _ => Xv ex⟩ := by
  rintro ds Qv Xv ⟨drawing_, some_, rfl, h⟩
  refine ⟨rfl, ?_⟩
  have he : startE N_law_spoilt_sign [(e2 (eL (eL eI)) (eL (e2 eI eI))) drawing_, (eL eI) some_] = [some ((e2 (eL (eL eI)) (eL (e2 eI eI))) drawing_, mS), some ((eL eI) some_, mS), none, none, none, none, none] := by
    rw [st_law_spoilt_sign]
    try simp only [argS_F, argS_N]
  rw [he]
  have hr : RB (fun _ => True) w_law_spoilt_sign [some ((e2 (eL (eL eI)) (eL (e2 eI eI))) drawing_, mS), some ((eL eI) some_, mS), none, none, none, none, none] (F_law_spoilt_sign drawing_ some_) (KT (e2 (eL (eL eI)) (eL (e2 eI eI))) mA) := by
    unfold F_law_spoilt_sign w_law_spoilt_sign
    exact (rs_asg (a := (e2 (eL (eL eI)) (eL (e2 eI eI)))) (re_eq (re_callP (b := (e2 (eL (eL eI)) (eL (e2 eI eI)))) (M := (XD.F_law_copy drawing_)) (ra_consP (re_mO 0 (e2 (eL (eL eI)) (eL (e2 eI eI))) (drawing_)) ra_nil) (fun Q X h => ⟨drawing_, rfl, h⟩))) (fun p318 => [none, some ((eL eI) (some_), mS), some ((eL (eL eI)) (p318.1), mA), some ((eL (e2 eI eI)) (p318.2), mA), none, none, none]) (fun p318 => (rs_ifR kt_kt (rt_eq (rt_or (rt_val (re_2P xo_eqI (re_cbP ((p318.2.length : Int)) (ra_consP (re_vA 3 (eL (e2 eI eI)) (p318.2)) ra_nil) (len_L (a := (e2 eI eI)) (p318.2))) (re_c (.int 0) eI (0)))) (rt_val (re_2 (opP_out xo_eqI) (re_2Q (xo_ixF (a := eI)) (re_vS 1 (eL eI) (some_)) (re_c (.int 1) eI (1))) (re_c (.int 0) eI (0)))))) (rb_retI (re_eq (re_tup (a := (e2 (eL (eL eI)) (eL (e2 eI eI)))) (fun (t : (List (List Int)) × (List (Int × Int)) × Unit) => (t.1, t.2.1)) (ra_cons (re_mO 2 (eL (eL eI)) (p318.1)) (ra_cons (re_2 (opO_out (xo_catF (a := (e2 eI eI)))) (re_vA 3 (eL (e2 eI eI)) (p318.2)) (re_lstF (a := (e2 eI eI)) (fun (t : (Int × Int) × Unit) => [t.1]) (ra_cons (re_tupF (a := (e2 eI eI)) (fun (t : Int × Int × Unit) => (t.1, t.2.1)) (ra_cons (re_2 (opP_out xo_sub) (re_2Q (xo_ixF (a := eI)) (re_vS 1 (eL eI) (some_)) (re_c (.int 4) eI (4))) (re_c (.int 3) eI (3))) (ra_consP (re_c (.int 1) eI (1)) ra_nil))) ra_nil))) ra_nil))))) (rs_set (re_eq (re_2 (opO_out xo_mod) (re_2Q (xo_ixF (a := eI)) (re_vS 1 (eL eI) (some_)) (re_c (.int 3) eI (3))) (re_cbP ((p318.2.length : Int)) (ra_consP (re_vA 3 (eL (e2 eI eI)) (p318.2)) ra_nil) (len_L (a := (e2 eI eI)) (p318.2))))) (fun at_ => [none, some ((eL eI) (some_), mS), some ((eL (eL eI)) (p318.1), mA), some ((eL (e2 eI eI)) (p318.2), mA), some (eI (at_), mA), none, none]) (fun at_ => (rs_asg (a := (e2 eI eI)) (re_eq (re_2Q (xo_ixF (a := (e2 eI eI))) (re_vA 3 (eL (e2 eI eI)) (p318.2)) (re_vF 4 eI (at_)))) (fun p319 => [none, some ((eL eI) (some_), mS), some ((eL (eL eI)) (p318.1), mA), some ((eL (e2 eI eI)) (p318.2), mA), some (eI (at_), mA), some (eI (p319.1), mA), some (eI (p319.2), mA)]) (fun p319 => (rs_seqN (s := (fun (V335 : (List (Int × Int))) => [none, some ((eL eI) (some_), mS), some ((eL (eL eI)) (p318.1), mA), some ((eL (e2 eI eI)) (V335), mA), some (eI (at_), mA), some (eI (p319.1), mA), some (eI (p319.2), mA)])) (rb_if (rt_eq (rt_val (re_2 (opP_out xo_eqI) (re_2Q (xo_ixF (a := eI)) (re_vS 1 (eL eI) (some_)) (re_c (.int 1) eI (1))) (re_c (.int 1) eI (1))))) (rs_exprX2 (k := (fun (signs_ : (List (Int × Int))) => (Out.ok signs_))) (rx_pop (c := (e2 eI eI)) (xs := p318.2) (re_eq (re_vF 4 eI (at_))) (fun signs_ => [none, some ((eL eI) (some_), mS), some ((eL (eL eI)) (p318.1), mA), some ((eL (e2 eI eI)) (signs_), mA), some (eI (at_), mA), some (eI (p319.1), mA), some (eI (p319.2), mA)])) (fun signs_ => (rb_next (V := signs_) (el_c sl_n (el_c sl_o (el_c sl_o (el_c sl_o (el_c sl_o (el_c sl_o (el_c sl_o el_nil)))))))))) (rs_seqN (s := (fun (V343 : (List (Int × Int))) => [none, some ((eL eI) (some_), mS), some ((eL (eL eI)) (p318.1), mA), some ((eL (e2 eI eI)) (V343), mA), some (eI (at_), mA), some (eI (p319.1), mA), some (eI (p319.2), mA)])) (rb_if (rt_eq (rt_val (re_2 (opP_out xo_eqI) (re_2Q (xo_ixF (a := eI)) (re_vS 1 (eL eI) (some_)) (re_c (.int 1) eI (1))) (re_c (.int 2) eI (2))))) (rs_ins (c := (e2 eI eI)) (xs := p318.2) (k := (fun (signs_ : (List (Int × Int))) => (Out.ok signs_))) (re_eq (re_vF 4 eI (at_))) (re_eq (re_tupFP (a := (e2 eI eI)) (p319.1, p319.2) (ra_consP (re_vF 5 eI (p319.1)) (ra_consP (re_vF 6 eI (p319.2)) ra_nil)))) (fun signs_ => [none, some ((eL eI) (some_), mS), some ((eL (eL eI)) (p318.1), mA), some ((eL (e2 eI eI)) (signs_), mA), some (eI (at_), mA), some (eI (p319.1), mA), some (eI (p319.2), mA)]) (fun signs_ => (rb_next (V := signs_) (el_c sl_n (el_c sl_o (el_c sl_o (el_c sl_o (el_c sl_o (el_c sl_o (el_c sl_o el_nil)))))))))) (rs_seqN (s := (fun (V347 : (List (Int × Int))) => [none, some ((eL eI) (some_), mS), some ((eL (eL eI)) (p318.1), mA), some ((eL (e2 eI eI)) (V347), mA), some (eI (at_), mA), some (eI (p319.1), mA), some (eI (p319.2), mA)])) (rb_if (rt_eq (rt_val (re_2 (opP_out xo_eqI) (re_2Q (xo_ixF (a := eI)) (re_vS 1 (eL eI) (some_)) (re_c (.int 1) eI (1))) (re_c (.int 3) eI (3))))) (rs_exprX2 (k := (fun (signs_ : (List (Int × Int))) => ((Out.ok ((at_ + 1))).bind fun i => (Out.ok ((p319.1, p319.2))).bind fun v => (lift (insO signs_ i v)).bind (fun (signs_ : (List (Int × Int))) => (Out.ok signs_))))) (rx_pop (c := (e2 eI eI)) (xs := p318.2) (re_eq (re_vF 4 eI (at_))) (fun signs_ => [none, some ((eL eI) (some_), mS), some ((eL (eL eI)) (p318.1), mA), some ((eL (e2 eI eI)) (signs_), mA), some (eI (at_), mA), some (eI (p319.1), mA), some (eI (p319.2), mA)])) (fun signs_ => (rs_ins (c := (e2 eI eI)) (xs := signs_) (k := (fun (signs_ : (List (Int × Int))) => (Out.ok signs_))) (re_eq (re_2P xo_add (re_vF 4 eI (at_)) (re_c (.int 1) eI (1)))) (re_eq (re_tupFP (a := (e2 eI eI)) (p319.1, p319.2) (ra_consP (re_vF 5 eI (p319.1)) (ra_consP (re_vF 6 eI (p319.2)) ra_nil)))) (fun signs_ => [none, some ((eL eI) (some_), mS), some ((eL (eL eI)) (p318.1), mA), some ((eL (e2 eI eI)) (signs_), mA), some (eI (at_), mA), some (eI (p319.1), mA), some (eI (p319.2), mA)]) (fun signs_ => (rb_next (V := signs_) (el_c sl_n (el_c sl_o (el_c sl_o (el_c sl_o (el_c sl_o (el_c sl_o (el_c sl_o el_nil)))))))))))) (rs_seqN (s := (fun (V349 : (List (Int × Int))) => [none, some ((eL eI) (some_), mS), some ((eL (eL eI)) (p318.1), mA), some ((eL (e2 eI eI)) (V349), mA), some (eI (at_), mA), some (eI (p319.1), mA), some (eI (p319.2), mA)])) (rb_if (rt_eq (rt_val (re_2 (opP_out xo_eqI) (re_2Q (xo_ixF (a := eI)) (re_vS 1 (eL eI) (some_)) (re_c (.int 1) eI (1))) (re_c (.int 4) eI (4))))) (rs_put (a := (e2 eI eI)) (xs := p318.2) (re_eq (re_tupF (a := (e2 eI eI)) (fun (t : Int × Int × Unit) => (t.1, t.2.1)) (ra_cons (re_mF 5 eI (p319.1)) (ra_cons (re_2 (opO_out (xo_ixF (a := eI))) (re_lstFP (a := eI) [0, 2, -(3)] (ra_consP (re_c (.int 0) eI (0)) (ra_consP (re_c (.int 2) eI (2)) (ra_consP (re_neg (re_c (.int 3) eI (3))) ra_nil)))) (re_modCO 3 (re_2Q (xo_ixF (a := eI)) (re_vS 1 (eL eI) (some_)) (re_c (.int 4) eI (4))) (re_c (.int 3) eI (3)))) ra_nil)))) (re_eq (re_vF 4 eI (at_))) (fun signs_ => [none, some ((eL eI) (some_), mS), some ((eL (eL eI)) (p318.1), mA), some ((eL (e2 eI eI)) (signs_), mA), some (eI (at_), mA), some (eI (p319.1), mA), some (eI (p319.2), mA)]) (fun signs_ => (rb_next (V := signs_) (el_c sl_n (el_c sl_o (el_c sl_o (el_c sl_o (el_c sl_o (el_c sl_o (el_c sl_o el_nil)))))))))) (rs_seqN (s := (fun (V350 : (List (Int × Int))) => [none, some ((eL eI) (some_), mS), some ((eL (eL eI)) (p318.1), mA), some ((eL (e2 eI eI)) (V350), mA), some (eI (at_), mA), some (eI (p319.1), mA), some (eI (p319.2), mA)])) (rb_if (rt_eq (rt_val (re_2 (opP_out xo_eqI) (re_2Q (xo_ixF (a := eI)) (re_vS 1 (eL eI) (some_)) (re_c (.int 1) eI (1))) (re_c (.int 5) eI (5))))) (rs_put (a := (e2 eI eI)) (xs := p318.2) (re_eq (re_tupFP (a := (e2 eI eI)) (-(p319.1), p319.2) (ra_consP (re_neg (re_vF 5 eI (p319.1))) (ra_consP (re_mF 6 eI (p319.2)) ra_nil)))) (re_eq (re_vF 4 eI (at_))) (fun signs_ => [none, some ((eL eI) (some_), mS), some ((eL (eL eI)) (p318.1), mA), some ((eL (e2 eI eI)) (signs_), mA), some (eI (at_), mA), some (eI (p319.1), mA), some (eI (p319.2), mA)]) (fun signs_ => (rb_next (V := signs_) (el_c sl_n (el_c sl_o (el_c sl_o (el_c sl_o (el_c sl_o (el_c sl_o (el_c sl_o el_nil)))))))))) (rs_put (a := (e2 eI eI)) (xs := p318.2) (re_eq (re_tupF (a := (e2 eI eI)) (fun (t : Int × Int × Unit) => (t.1, t.2.1)) (ra_cons (re_tFO (e := eI) (b := (e2 eI eI)) (g := fun p => p.1) 0 (re_2 (opO_out (xo_ixF (a := (e2 eI eI)))) (re_vA 3 (eL (e2 eI eI)) (p318.2)) (re_2 (opO_out xo_mod) (re_2Q (xo_ixF (a := eI)) (re_vS 1 (eL eI) (some_)) (re_c (.int 4) eI (4))) (re_cbP ((p318.2.length : Int)) (ra_consP (re_vA 3 (eL (e2 eI eI)) (p318.2)) ra_nil) (len_L (a := (e2 eI eI)) (p318.2))))) (re_c (.int 0) eI (0))) (ra_consP (re_mF 6 eI (p319.2)) ra_nil)))) (re_eq (re_vF 4 eI (at_))) (fun signs_ => [none, some ((eL eI) (some_), mS), some ((eL (eL eI)) (p318.1), mA), some ((eL (e2 eI eI)) (signs_), mA), some (eI (at_), mA), some (eI (p319.1), mA), some (eI (p319.2), mA)]) (fun signs_ => (rb_next (V := signs_) (el_c sl_n (el_c sl_o (el_c sl_o (el_c sl_o (el_c sl_o (el_c sl_o (el_c sl_o el_nil))))))))))) (fun V350 => (rb_next (V := V350) (el_c sl_n (el_c sl_o (el_c sl_o (el_c sl_o (el_c sl_o (el_c sl_o (el_c sl_o el_nil))))))))))) (fun V349 => (rb_next (V := V349) (el_c sl_n (el_c sl_o (el_c sl_o (el_c sl_o (el_c sl_o (el_c sl_o (el_c sl_o el_nil))))))))))) (fun V347 => (rb_next (V := V347) (el_c sl_n (el_c sl_o (el_c sl_o (el_c sl_o (el_c sl_o (el_c sl_o (el_c sl_o el_nil))))))))))) (fun V343 => (rb_next (V := V343) (el_c sl_n (el_c sl_o (el_c sl_o (el_c sl_o (el_c sl_o (el_c sl_o (el_c sl_o el_nil))))))))))) (fun V335 => (rb_retP' (e := (e2 (eL (eL eI)) (eL (e2 eI eI)))) (p318.1, V335) (re_eq (re_tupP (a := (e2 (eL (eL eI)) (eL (e2 eI eI)))) (p318.1, V335) (ra_consP (re_mO 2 (eL (eL eI)) (p318.1)) (ra_consP (re_mO 3 (eL (e2 eI eI)) (V335)) ra_nil))))))))))))))
  exact of_KT hr h
abbrev s_law_other_passage : Stmt := topS 25
abbrev N_law_other_passage : List Str := ["_law_walks", "_law_one", "_law_some", "_law_every", "_law_walk"]
abbrev lv_law_other_passage : Nat := 1
theorem sc_law_other_passage : FnScope N_law_other_passage ["_law_walks", "_law_one", "_law_some"] (defScope s_law_other_passage) := ⟨rfl, rfl, rfl, by decide +kernel, rfl, by decide +kernel, by decide +kernel⟩
def w_law_other_passage : WS := (wSeq (wSet 3 (wCB wLst wNil))
  (wSeq (wCut (wFor (tgN 4) (wMv 0)
  (wSeq (wExt (wPVar 3) (wMv 4))
  wNext)))
  (wSeq (wIf (wTest (wBin woEq (wBin wIx (wVar 2) (wC (.int 0))) (wC (.int 0)))) (wSeq (wRet (wC (.int 0)))
  wNext) wNext)
  (wSeq (wIf (wTest (wBin woEq (wBin wIx (wVar 2) (wC (.int 0))) (wC (.int 1)))) (wSeq (wRet (wNeg (wVar 1)))
  wNext) wNext)
  (wSeq (wIf (wTest (wBin woEq (wBin wIx (wVar 2) (wC (.int 0))) (wC (.int 2)))) (wSeq (wRet (wBin wIx (wVar 3) (wBin woMod (wBin wIx (wVar 2) (wC (.int 4))) (wCB wLen (wCons (wVar 3) wNil)))))
  wNext) wNext)
  (wSeq (wRet (wBin woAdd (wVar 1) (wBin woMul (wBin woAdd (wBin woPow (wC (.int 10)) (wC (.int 9))) (wBin wIx (wVar 2) (wC (.int 4)))) (wBin woSub (wC (.int 1)) (wBin woMul (wC (.int 2)) (wBin woMod (wBin wIx (wVar 2) (wC (.int 4))) (wC (.int 2))))))))
  wNext))))))
theorem st_law_other_passage (x0 x1 x2 : D) : startE N_law_other_passage [x0, x1, x2] = [argS x0, argS x1, argS x2, none, none] := rfl
theorem d_law_other_passage (E : Ev K mg cl)  (f : Addr) (cdv : Value) (A : Around) (outer : List Env) (s : Shared) (H : Hp) (E0 : XK) (P0 : Addr → Prop) (hr : Room 0 (cxV P w K mg base N_law_other_passage "_law_other_passage" s_law_other_passage f cdv A outer s H E0).A) :
    PSs (cxV P w K mg base N_law_other_passage "_law_other_passage" s_law_other_passage f cdv A outer s H E0) (defBody s_law_other_passage) (rdS (cnOf K cl P0 H) (WXE E0) w_law_other_passage) := by
  have nd := sc_law_other_passage.nd
  exact (vss_cons (vs_set (i := 3) (ve_lst va_nil) nd)
  (vss_cons (vs_cut (vs_for (passes_of rfl) rfl (ve_mv 0) (tg_name nd)
  (fun _ => (vss_cons (vs_ext (vp_var 3) (ve_mv 4))
  vss_nil))))
  (vss_cons (vs_if (vt_c (c_eq hr) (ve_ix (ve_var 2) ve_int) ve_int) (vss_cons (vs_ret ve_int)
  vss_nil) vss_nil)
  (vss_cons (vs_if (vt_c (c_eq hr) (ve_ix (ve_var 2) ve_int) ve_int) (vss_cons (vs_ret (ve_neg (ve_var 1)))
  vss_nil) vss_nil)
  (vss_cons (vs_if (vt_c (c_eq hr) (ve_ix (ve_var 2) ve_int) ve_int) (vss_cons (vs_ret (ve_ix (ve_var 3) (ve_mod (ve_ix (ve_var 2) ve_int) (ve_len1 E.m_len (va_cons (ve_var 3) va_nil)))))
  vss_nil) vss_nil)
  (vss_cons (vs_ret (ve_add (ve_var 1) (ve_mul (ve_add (ve_pow ve_int ve_int) (ve_ix (ve_var 2) ve_int)) (ve_sub ve_int (ve_mul ve_int (ve_mod (ve_ix (ve_var 2) ve_int) ve_int))))))
  vss_nil))))))
theorem b_law_other_passage (kV doc pm : Value) (an : Option Addr) (cdv ct : Value) (us : List Value) (h : us.length = 3) : bindArgs (PySem.W.fnOf "_law_other_passage" "_law_other_passage" (defArgs s_law_other_passage) (defBody s_law_other_passage) (defScope s_law_other_passage) .none kV doc pm an cdv ct) ⟨us, []⟩ = pure ((["_law_walks", "_law_one", "_law_some"] : List Str).zip us) := match us, h with | [_, _, _], _ => rfl
theorem spec_law_other_passage : ∀ ds Qv Xv, sp_law_other_passage ds Qv Xv → ds.length = 3 ∧ w_law_other_passage (startE N_law_other_passage ds) ⟨fun _ => Qv ⟨.none, mA⟩, fun r _ => Qv r, fun ex _ => Xv ex⟩ := by
  rintro ds Qv Xv ⟨walks_, one_, some_, rfl, h⟩
  refine ⟨rfl, ?_⟩
  have he : startE N_law_other_passage [(eL (eL eI)) walks_, eI one_, (eL eI) some_] = [some ((eL (eL eI)) walks_, mS), some (eI one_, mA), some ((eL eI) some_, mS), none, none] := by
    rw [st_law_other_passage]
    try simp only [argS_F, argS_N]
  rw [he]
  have hr : RB (fun _ => True) w_law_other_passage [some ((eL (eL eI)) walks_, mS), some (eI one_, mA), some ((eL eI) some_, mS), none, none] (F_law_other_passage walks_ one_ some_) (KT eI mA) := by
    unfold F_law_other_passage w_law_other_passage
    exact (rs_set (re_eq (re_lstP (a := eI) [] ra_nil)) (fun every_ => [some ((eL (eL eI)) (walks_), mS), some (eI (one_), mA), some ((eL eI) (some_), mS), some ((eL eI) (every_), mA), none]) (fun every_ => (rs_seqN (s := (fun (V355 : (List Int)) => [none, some (eI (one_), mA), some ((eL eI) (some_), mS), some ((eL eI) (V355), mA), none])) (rb_forP (s := (fun (V355 : (List Int)) => [none, some (eI (one_), mA), some ((eL eI) (some_), mS), some ((eL eI) (V355), mA), none])) (a := (eL eI)) every_ (re_eq (re_mO 0 (eL (eL eI)) (walks_))) (el_c sl_n (el_c sl_o (el_c sl_o (el_c sl_o (el_c sl_n el_nil))))) (fun V355 walk_ => [none, some (eI (one_), mA), some ((eL eI) (some_), mS), some ((eL eI) (V355), mA), some ((eL eI) (walk_), mS)]) (fun V355 walk_ => (rs_ext (a := eI) (xs := V355) (re_eq (re_mO 4 (eL eI) (walk_))) (fun every_ => [none, some (eI (one_), mA), some ((eL eI) (some_), mS), some ((eL eI) (every_), mA), none]) (fun every_ => (rb_next (V := every_) (el_c sl_n (el_c sl_o (el_c sl_o (el_c sl_o (el_c sl_n el_nil)))))))))) (fun V355 => (rs_ifR kt_kt (rt_eq (rt_val (re_2 (opP_out xo_eqI) (re_2Q (xo_ixF (a := eI)) (re_vS 2 (eL eI) (some_)) (re_c (.int 0) eI (0))) (re_c (.int 0) eI (0))))) (rb_retP' (e := eI) 0 (re_eq (re_c (.int 0) eI (0)))) (rs_ifR kt_kt (rt_eq (rt_val (re_2 (opP_out xo_eqI) (re_2Q (xo_ixF (a := eI)) (re_vS 2 (eL eI) (some_)) (re_c (.int 0) eI (0))) (re_c (.int 1) eI (1))))) (rb_retP' (e := eI) (-one_) (re_eq (re_neg (re_vF 1 eI (one_))))) (rs_ifR kt_kt (rt_eq (rt_val (re_2 (opP_out xo_eqI) (re_2Q (xo_ixF (a := eI)) (re_vS 2 (eL eI) (some_)) (re_c (.int 0) eI (0))) (re_c (.int 2) eI (2))))) (rb_retI (re_eq (re_2 (opO_out (xo_ixF (a := eI))) (re_vA 3 (eL eI) (V355)) (re_2 (opO_out xo_mod) (re_2Q (xo_ixF (a := eI)) (re_vS 2 (eL eI) (some_)) (re_c (.int 4) eI (4))) (re_cbP ((V355.length : Int)) (ra_consP (re_vA 3 (eL eI) (V355)) ra_nil) (len_L (a := eI) (V355))))))) (rb_retI (re_eq (re_2 (opP_out xo_add) (re_vF 1 eI (one_)) (re_2 (opO_out xo_mul) (re_2 (opP_out xo_add) (re_powC 10 9 (re_c (.int 10) eI (10)) (re_c (.int 9) eI (9))) (re_2Q (xo_ixF (a := eI)) (re_vS 2 (eL eI) (some_)) (re_c (.int 4) eI (4)))) (re_2 (opP_out xo_sub) (re_c (.int 1) eI (1)) (re_mulLO 2 (re_c (.int 2) eI (2)) (re_modCO 2 (re_2Q (xo_ixF (a := eI)) (re_vS 2 (eL eI) (some_)) (re_c (.int 4) eI (4))) (re_c (.int 2) eI (2))))))))))))))))
  exact of_KT hr h
abbrev s_law_spoilt_walk : Stmt := topS 26
abbrev N_law_spoilt_walk : List Str := ["_law_drawing", "_law_some", "_law_walks", "_law_signs", "_law_held", "_law_walk", "_law_at", "_law_k"]
abbrev lv_law_spoilt_walk : Nat := 2
theorem sc_law_spoilt_walk : FnScope N_law_spoilt_walk ["_law_drawing", "_law_some"] (defScope s_law_spoilt_walk) := ⟨rfl, rfl, rfl, by decide +kernel, rfl, by decide +kernel, by decide +kernel⟩
def w_law_spoilt_walk : WS := (wSeq (wAsg (tgT [2, 3]) (wCall XD.sp_law_copy (wCons (wMv 0) wNil)))
  (wSeq (wSet 4 (wLcR 1 [7] 7 (wCons (wCB wLen (wCons (wVar 2) wNil)) wNil) (wTest (wBin woGt (wCB wLen (wCons (wBin wIx (wVar 2) (wVar 7)) wNil)) (wC (.int 0)))) (wVar 7)))
  (wSeq (wIf (wTest (wBin woEq (wCB wLen (wCons (wVar 4) wNil)) (wC (.int 0)))) (wSeq (wPre (wRet (wWs (wCB wTup (wCons (wWk 0 (wBin woAdd (wVar 2) (wCB wLst (wCons (wCB wLst (wCons (wBin wIx (wVar 1) (wC (.int 4))) wNil)) wNil)))) (wCons (wMv 3) wNil))))))
  wNext) wNext)
  (wAlias 5 (wPSub (wPVar 2) (wBin wIx (wVar 4) (wBin woMod (wBin wIx (wVar 1) (wC (.int 2))) (wCB wLen (wCons (wVar 4) wNil))))) (fun b374 => (wSeq (wSet 6 (wBin woMod (wBin wIx (wVar 1) (wC (.int 3))) (wCB wLen (wCons (wVar 5) wNil))))
  (wSeq (wCut (wIf (wTest (wBin woLt (wBin wIx (wVar 1) (wC (.int 0))) (wC (.int 4)))) (wSeq (wPut (wPVar 5) (wVar 6) (wFill 5 b374 (wCall sp_law_other_passage (wCons (wVar 2) (wCons (wBin wIx (wVar 5) (wVar 6)) (wCons (wVar 1) wNil))))))
  wNext) (wSeq (wCut (wIf (wTest (wBin woEq (wBin wIx (wVar 1) (wC (.int 0))) (wC (.int 4)))) (wSeq (wExpr (wPopE 5 (wVar 6)))
  wNext) (wSeq (wCut (wIf (wTest (wBin woEq (wBin wIx (wVar 1) (wC (.int 0))) (wC (.int 5)))) (wSeq (wIns 5 (wVar 6) (wBin wIx (wVar 5) (wVar 6)))
  wNext) (wSeq (wIns 5 (wVar 6) (wBin woAdd (wBin woPow (wC (.int 10)) (wC (.int 6))) (wBin wIx (wVar 1) (wC (.int 4)))))
  (wSeq (wIns 5 (wBin woMod (wBin wIx (wVar 1) (wC (.int 4))) (wCB wLen (wCons (wVar 5) wNil))) (wBin woSub (wNeg (wBin woPow (wC (.int 10)) (wC (.int 6)))) (wBin wIx (wVar 1) (wC (.int 4)))))
  wNext))))
  wNext)))
  wNext)))
  (wBack 5 b374 (wSeq (wRet (wWs (wCB wTup (wCons (wMv 2) (wCons (wMv 3) wNil)))))
  wNext)))))))))
theorem st_law_spoilt_walk (x0 x1 : D) : startE N_law_spoilt_walk [x0, x1] = [argS x0, argS x1, none, none, none, none, none, none] := rfl
theorem d_law_spoilt_walk (E : Ev K mg cl) (G_law_copy : Def P w K mg base cl "_law_copy" 1 XD.sp_law_copy lv_law_copy) (G_law_other_passage : Def P w K mg base cl "_law_other_passage" 3 sp_law_other_passage lv_law_other_passage) (f : Addr) (cdv : Value) (A : Around) (outer : List Env) (s : Shared) (H : Hp) (E0 : XK) (P0 : Addr → Prop) (hr : Room 1 (cxV P w K mg base N_law_spoilt_walk "_law_spoilt_walk" s_law_spoilt_walk f cdv A outer s H E0).A) :
    PSs (cxV P w K mg base N_law_spoilt_walk "_law_spoilt_walk" s_law_spoilt_walk f cdv A outer s H E0) (defBody s_law_spoilt_walk) (rdS (cnOf K cl P0 H) (WXE E0) w_law_spoilt_walk) := by
  have nd := sc_law_spoilt_walk.nd
  exact (vss_cons (vs_asg (ve_call (k := lv_law_copy) G_law_copy (hr.mono (by decide)) (takes_of rfl rfl rfl rfl) (va_cons (ve_mv 0) va_nil)) (tg_tup rfl (na_cons (na_cons na_nil nd) nd)))
  (vss_cons (vs_setLcR1 (n := 4) rfl nd [("_law_k", 7)] E.m_range (va_cons (ve_len1 E.m_len (va_cons (ve_var 2) va_nil)) va_nil) (fun _ _ _ _ _ => pg_name nd rfl (by first | exact .inl rfl | exact .inr rfl)) (fun _ _ _ _ _ => vts_one (vt_c c_gt (ve_len1 E.m_len (va_cons (ve_ix (ve_var 2) (ve_var 7)) va_nil)) ve_int)) (fun _ _ _ _ _ => (ve_var 7)))
  (vss_cons (vs_if (vt_c (c_eq hr) (ve_len1 E.m_len (va_cons (ve_var 4) va_nil)) ve_int) (vss_cons (vs_pre (vs_ret (ve_ws (ve_tup (va_cons (ve_wk 0 (ve_add (ve_var 2) (ve_lst (va_cons (ve_lst (va_cons (ve_ix (ve_var 1) ve_int) va_nil)) va_nil)))) (va_cons (ve_mv 3) va_nil))))))
  vss_nil) vss_nil)
  (vss_alias (x := 5) (vp_sub (vp_var 2) (ve_ix (ve_var 4) (ve_mod (ve_ix (ve_var 1) ve_int) (ve_len1 E.m_len (va_cons (ve_var 4) va_nil))))) (fun b374 => (vssB_cons (vs_set (i := 6) (ve_mod (ve_ix (ve_var 1) ve_int) (ve_len1 E.m_len (va_cons (ve_var 5) va_nil))) nd)
  (vssB_cons (vs_cut (vs_if (vt_c c_lt (ve_ix (ve_var 1) ve_int) ve_int) (vss_cons (vs_put (vp_var 5) (ve_var 6) (ve_fill (ve_call (k := lv_law_other_passage) G_law_other_passage (hr.mono (by decide)) (takes_of rfl rfl rfl rfl) (va_cons (ve_var 2) (va_cons (ve_ix (ve_var 5) (ve_var 6)) (va_cons (ve_var 1) va_nil))))))
  vss_nil) (vss_cons (vs_cut (vs_if (vt_c (c_eq hr) (ve_ix (ve_var 1) ve_int) ve_int) (vss_cons (vs_exprX (ve_popX 5 (ve_var 6)))
  vss_nil) (vss_cons (vs_cut (vs_if (vt_c (c_eq hr) (ve_ix (ve_var 1) ve_int) ve_int) (vss_cons (vs_ins 5 (ve_var 6) (ve_ix (ve_var 5) (ve_var 6)))
  vss_nil) (vss_cons (vs_ins 5 (ve_var 6) (ve_add (ve_pow ve_int ve_int) (ve_ix (ve_var 1) ve_int)))
  (vss_cons (vs_ins 5 (ve_mod (ve_ix (ve_var 1) ve_int) (ve_len1 E.m_len (va_cons (ve_var 5) va_nil))) (ve_sub (ve_neg (ve_pow ve_int ve_int)) (ve_ix (ve_var 1) ve_int)))
  vss_nil))))
  vss_nil)))
  vss_nil)))
  (vssB_back (vss_cons (vs_ret (ve_ws (ve_tup (va_cons (ve_mv 2) (va_cons (ve_mv 3) va_nil)))))
  vss_nil))))) nd))))
theorem b_law_spoilt_walk (kV doc pm : Value) (an : Option Addr) (cdv ct : Value) (us : List Value) (h : us.length = 2) : bindArgs (PySem.W.fnOf "_law_spoilt_walk" "_law_spoilt_walk" (defArgs s_law_spoilt_walk) (defBody s_law_spoilt_walk) (defScope s_law_spoilt_walk) .none kV doc pm an cdv ct) ⟨us, []⟩ = pure ((["_law_drawing", "_law_some"] : List Str).zip us) := match us, h with | [_, _], _ => rfl
theorem spec_law_spoilt_walk : ∀ ds Qv Xv, sp_law_spoilt_walk ds Qv Xv → ds.length = 2 ∧ w_law_spoilt_walk (startE N_law_spoilt_walk ds) ⟨fun _ => Qv ⟨.none, mA⟩, fun r _ => Qv r, fun ex _ => Xv ex⟩ := by
  rintro ds Qv Xv ⟨drawing_, some_, rfl, h⟩
  refine ⟨rfl, ?_⟩
  have he : startE N_law_spoilt_walk [(e2 (eL (eL eI)) (eL (e2 eI eI))) drawing_, (eL eI) some_] = [some ((e2 (eL (eL eI)) (eL (e2 eI eI))) drawing_, mS), some ((eL eI) some_, mS), none, none, none, none, none, none] := by
    rw [st_law_spoilt_walk]
    try simp only [argS_F, argS_N]
  rw [he]
  have hr : RB (fun _ => True) w_law_spoilt_walk [some ((e2 (eL (eL eI)) (eL (e2 eI eI))) drawing_, mS), some ((eL eI) some_, mS), none, none, none, none, none, none] (F_law_spoilt_walk drawing_ some_) (KT (e2 (eL (eL eI)) (eL (e2 eI eI))) mS) := by
    unfold F_law_spoilt_walk w_law_spoilt_walk
    exact (rs_asg (a := (e2 (eL (eL eI)) (eL (e2 eI eI)))) (re_eq (re_callP (b := (e2 (eL (eL eI)) (eL (e2 eI eI)))) (M := (XD.F_law_copy drawing_)) (ra_consP (re_mO 0 (e2 (eL (eL eI)) (eL (e2 eI eI))) (drawing_)) ra_nil) (fun Q X h => ⟨drawing_, rfl, h⟩))) (fun p373 => [none, some ((eL eI) (some_), mS), some ((eL (eL eI)) (p373.1), mA), some ((eL (e2 eI eI)) (p373.2), mA), none, none, none, none]) (fun p373 => (rs_set (re_eq (re_lcRP none mA 0 (p373.1.length : Int) (ent := (fun k_ => [none, some ((eL eI) (some_), mS), some ((eL (eL eI)) (p373.1), .b), some ((eL (e2 eI eI)) (p373.2), .b), none, none, none, some (eI (k_), mA)])) (P := (fun k_ : Int => ((((lift (atI p373.1 k_)).bind fun x => (Out.ok ()).bind fun t => .ok (x, t)).bind fun (t : (List Int) × Unit) => .ok ((t.1.length : Int))).bind fun t1 => (Out.ok (0)).bind fun t2 => .ok (decide (t1 > t2))))) (F := (fun k_ : Int => (Out.ok (k_)))) (ra_consP (re_cbP ((p373.1.length : Int)) (ra_consP (re_vA 2 (eL (eL eI)) (p373.1)) ra_nil) (len_L (a := (eL eI)) (p373.1))) ra_nil) ⟨rfl, rfl⟩ (fun _ => rfl) (fun k_ => rt_eq (rt_val (re_2 (opP_out xo_gt) (re_cb (M := fun (t : (List Int) × Unit) => .ok ((t.1.length : Int))) (ra_cons (re_2Q (xo_ixN (a := (eL eI))) (re_vB 2 (eL (eL eI)) (p373.1)) (re_vF 7 eI (k_))) ra_nil) (fun (t : (List Int) × Unit) _ _ h => len_L (a := eI) (t.1) _ h)) (re_c (.int 0) eI (0))))) (fun k_ => ⟨_, re_eq (re_vF 7 eI (k_))⟩) (kid_F (c := eI)))) (fun held_ => [none, some ((eL eI) (some_), mS), some ((eL (eL eI)) (p373.1), mA), some ((eL (e2 eI eI)) (p373.2), mA), some ((eL eI) (held_), mA), none, none, none]) (fun held_ => (rs_ifRP kt_kt (rt_eq (rt_val (re_2P xo_eqI (re_cbP ((held_.length : Int)) (ra_consP (re_vA 4 (eL eI) (held_)) ra_nil) (len_L (a := eI) (held_))) (re_c (.int 0) eI (0))))) (rs_pre [none, some ((eL eI) (some_), mS), some ((eL (eL eI)) (p373.1), mS), some ((eL (e2 eI eI)) (p373.2), mA), some ((eL eI) (held_), mA), none, none, none] (el_c sl_n (el_c sl_o (el_c sl_o (el_c sl_o (el_c sl_o (el_c sl_n (el_c sl_n (el_c sl_n el_nil)))))))) (rb_retI (re_eq (re_ws (re_tup (a := (e2 (eL (eL eI)) (eL (e2 eI eI)))) (fun (t : (List (List Int)) × (List (Int × Int)) × Unit) => (t.1, t.2.1)) (ra_cons (re_catN (re_vS 2 (eL (eL eI)) (p373.1)) (re_lst (a := (eL eI)) (fun (t : (List Int) × Unit) => [t.1]) (ra_cons (re_lstF (a := eI) (fun (t : Int × Unit) => [t.1]) (ra_cons (re_2Q (xo_ixF (a := eI)) (re_vS 1 (eL eI) (some_)) (re_c (.int 4) eI (4))) ra_nil)) ra_nil))) (ra_consP (re_mO 3 (eL (e2 eI eI)) (p373.2)) ra_nil))))))) (rb_alias (env := [none, some ((eL eI) (some_), mS), some ((eL (eL eI)) (p373.1), mA), some ((eL (e2 eI eI)) (p373.2), mA), some ((eL eI) (held_), mA), none, none, none]) (F := (fun (walk_ : (List Int)) (f374 : (List Int) → (List (List Int))) => (((lift (atI some_ 3)).bind fun t1 => (Out.ok ((walk_.length : Int))).bind fun t2 => lift (modO t1 t2)).bind fun (at_ : Int) => ((((lift (atI some_ 0)).bind fun t1 => (Out.ok (4)).bind fun t2 => .ok (decide (t1 < t2))).bind fun p => if p = true then ((noX (((Out.ok (f374 walk_)).bind fun x => ((lift (atI walk_ at_)).bind fun x => (Out.ok (some_, ())).bind fun t => .ok (x, t)).bind fun t => .ok (x, t)).bind (fun (t : (List (List Int)) × Int × (List Int) × Unit) => F_law_other_passage t.1 t.2.1 t.2.2.1))).bind fun v => (Out.ok (at_)).bind fun j => (lift (setO walk_ j v)).bind fun walk_ => (Out.ok walk_)) else ((((lift (atI some_ 0)).bind fun t1 => (Out.ok (4)).bind fun t2 => .ok (decide (t1 = t2))).bind fun p => if p = true then (((Out.ok (at_)).bind fun q => lift (popO walk_ q)).bind fun p => (fun (walk_ : (List Int)) => (Out.ok walk_)) p.2) else ((((lift (atI some_ 0)).bind fun t1 => (Out.ok (5)).bind fun t2 => .ok (decide (t1 = t2))).bind fun p => if p = true then ((Out.ok (at_)).bind fun i => (lift (atI walk_ at_)).bind fun v => (lift (insO walk_ i v)).bind (fun (walk_ : (List Int)) => (Out.ok walk_))) else ((Out.ok (at_)).bind fun i => ((Out.ok ((10 ^ ((6 : Int).toNat) : Int))).bind fun t1 => (lift (atI some_ 4)).bind fun t2 => .ok ((t1 + t2))).bind fun v => (lift (insO walk_ i v)).bind (fun (walk_ : (List Int)) => (((lift (atI some_ 4)).bind fun t1 => (Out.ok ((walk_.length : Int))).bind fun t2 => lift (modO t1 t2)).bind fun i => ((Out.ok (-((10 ^ ((6 : Int).toNat) : Int)))).bind fun t1 => (lift (atI some_ 4)).bind fun t2 => .ok ((t1 - t2))).bind fun v => (lift (insO walk_ i v)).bind (fun (walk_ : (List Int)) => (Out.ok walk_)))))).bind fun (V381 : (List Int)) => (Out.ok V381))).bind fun (V380 : (List Int)) => (Out.ok V380))).bind fun (V378 : (List Int)) => ((fun (walks_ : (List (List Int))) => (Out.ok (walks_, p373.2))) (f374 V378)))))) (rp_ix (c := (eL eI)) (rp_var 2 (eL (eL eI)) (p373.1)) (re_eq (re_2 (opO_out (xo_ixF (a := eI))) (re_vA 4 (eL eI) (held_)) (re_2 (opO_out xo_mod) (re_2Q (xo_ixF (a := eI)) (re_vS 1 (eL eI) (some_)) (re_c (.int 2) eI (2))) (re_cbP ((held_.length : Int)) (ra_consP (re_vA 4 (eL eI) (held_)) ra_nil) (len_L (a := eI) (held_))))))) (fun h374 walk_ => [none, some ((eL eI) (some_), mS), some (h374, mA), some ((eL (e2 eI eI)) (p373.2), mA), some ((eL eI) (held_), mA), some ((eL eI) (walk_), mA), none, none]) (fun b374 h374 walk_ f374 q374 => (rs_set (re_eq (re_2 (opO_out xo_mod) (re_2Q (xo_ixF (a := eI)) (re_vS 1 (eL eI) (some_)) (re_c (.int 3) eI (3))) (re_cbP ((walk_.length : Int)) (ra_consP (re_vA 5 (eL eI) (walk_)) ra_nil) (len_L (a := eI) (walk_))))) (fun at_ => [none, some ((eL eI) (some_), mS), some (h374, mA), some ((eL (e2 eI eI)) (p373.2), mA), some ((eL eI) (held_), mA), some ((eL eI) (walk_), mA), some (eI (at_), mA), none]) (fun at_ => (rs_seqN (s := (fun (V378 : (List Int)) => [none, some ((eL eI) (some_), mS), some (h374, mA), some ((eL (e2 eI eI)) (p373.2), mA), some ((eL eI) (held_), mA), some ((eL eI) (V378), mA), some (eI (at_), mA), none])) (rb_if (rt_eq (rt_val (re_2 (opP_out xo_lt) (re_2Q (xo_ixF (a := eI)) (re_vS 1 (eL eI) (some_)) (re_c (.int 0) eI (0))) (re_c (.int 4) eI (4))))) (rs_put (a := eI) (xs := walk_) (re_eq (re_fill (x := 5) (j := 2) q374 (re_eq (re_call (b := eI) (M := fun (t : (List (List Int)) × Int × (List Int) × Unit) => F_law_other_passage t.1 t.2.1 t.2.2.1) (ra_cons (re_vA 2 (eL (eL eI)) (f374 walk_)) (ra_cons (re_2Q (xo_ixF (a := eI)) (re_vB 5 (eL eI) (walk_)) (re_vF 6 eI (at_))) (ra_consP (re_vS 1 (eL eI) (some_)) ra_nil))) (fun (t : (List (List Int)) × Int × (List Int) × Unit) Q X h => ⟨t.1, t.2.1, t.2.2.1, rfl, h⟩))))) (re_eq (re_vF 6 eI (at_))) (fun walk_ => [none, some ((eL eI) (some_), mS), some (h374, mA), some ((eL (e2 eI eI)) (p373.2), mA), some ((eL eI) (held_), mA), some ((eL eI) (walk_), mA), some (eI (at_), mA), none]) (fun walk_ => (rb_next (V := walk_) (el_c sl_n (el_c sl_o (el_c sl_o (el_c sl_o (el_c sl_o (el_c sl_o (el_c sl_o (el_c sl_n el_nil))))))))))) (rs_seqN (s := (fun (V380 : (List Int)) => [none, some ((eL eI) (some_), mS), some (h374, mA), some ((eL (e2 eI eI)) (p373.2), mA), some ((eL eI) (held_), mA), some ((eL eI) (V380), mA), some (eI (at_), mA), none])) (rb_if (rt_eq (rt_val (re_2 (opP_out xo_eqI) (re_2Q (xo_ixF (a := eI)) (re_vS 1 (eL eI) (some_)) (re_c (.int 0) eI (0))) (re_c (.int 4) eI (4))))) (rs_exprX2 (k := (fun (walk_ : (List Int)) => (Out.ok walk_))) (rx_pop (c := eI) (xs := walk_) (re_eq (re_vF 6 eI (at_))) (fun walk_ => [none, some ((eL eI) (some_), mS), some (h374, mA), some ((eL (e2 eI eI)) (p373.2), mA), some ((eL eI) (held_), mA), some ((eL eI) (walk_), mA), some (eI (at_), mA), none])) (fun walk_ => (rb_next (V := walk_) (el_c sl_n (el_c sl_o (el_c sl_o (el_c sl_o (el_c sl_o (el_c sl_o (el_c sl_o (el_c sl_n el_nil))))))))))) (rs_seqN (s := (fun (V381 : (List Int)) => [none, some ((eL eI) (some_), mS), some (h374, mA), some ((eL (e2 eI eI)) (p373.2), mA), some ((eL eI) (held_), mA), some ((eL eI) (V381), mA), some (eI (at_), mA), none])) (rb_if (rt_eq (rt_val (re_2 (opP_out xo_eqI) (re_2Q (xo_ixF (a := eI)) (re_vS 1 (eL eI) (some_)) (re_c (.int 0) eI (0))) (re_c (.int 5) eI (5))))) (rs_ins (c := eI) (xs := walk_) (k := (fun (walk_ : (List Int)) => (Out.ok walk_))) (re_eq (re_vF 6 eI (at_))) (re_eq (re_2Q (xo_ixF (a := eI)) (re_vA 5 (eL eI) (walk_)) (re_vF 6 eI (at_)))) (fun walk_ => [none, some ((eL eI) (some_), mS), some (h374, mA), some ((eL (e2 eI eI)) (p373.2), mA), some ((eL eI) (held_), mA), some ((eL eI) (walk_), mA), some (eI (at_), mA), none]) (fun walk_ => (rb_next (V := walk_) (el_c sl_n (el_c sl_o (el_c sl_o (el_c sl_o (el_c sl_o (el_c sl_o (el_c sl_o (el_c sl_n el_nil))))))))))) (rs_ins (c := eI) (xs := walk_) (k := (fun (walk_ : (List Int)) => (((lift (atI some_ 4)).bind fun t1 => (Out.ok ((walk_.length : Int))).bind fun t2 => lift (modO t1 t2)).bind fun i => ((Out.ok (-((10 ^ ((6 : Int).toNat) : Int)))).bind fun t1 => (lift (atI some_ 4)).bind fun t2 => .ok ((t1 - t2))).bind fun v => (lift (insO walk_ i v)).bind (fun (walk_ : (List Int)) => (Out.ok walk_))))) (re_eq (re_vF 6 eI (at_))) (re_eq (re_2 (opP_out xo_add) (re_powC 10 6 (re_c (.int 10) eI (10)) (re_c (.int 6) eI (6))) (re_2Q (xo_ixF (a := eI)) (re_vS 1 (eL eI) (some_)) (re_c (.int 4) eI (4))))) (fun walk_ => [none, some ((eL eI) (some_), mS), some (h374, mA), some ((eL (e2 eI eI)) (p373.2), mA), some ((eL eI) (held_), mA), some ((eL eI) (walk_), mA), some (eI (at_), mA), none]) (fun walk_ => (rs_ins (c := eI) (xs := walk_) (k := (fun (walk_ : (List Int)) => (Out.ok walk_))) (re_eq (re_2 (opO_out xo_mod) (re_2Q (xo_ixF (a := eI)) (re_vS 1 (eL eI) (some_)) (re_c (.int 4) eI (4))) (re_cbP ((walk_.length : Int)) (ra_consP (re_vA 5 (eL eI) (walk_)) ra_nil) (len_L (a := eI) (walk_))))) (re_eq (re_2 (opP_out xo_sub) (re_neg (re_powC 10 6 (re_c (.int 10) eI (10)) (re_c (.int 6) eI (6)))) (re_2Q (xo_ixF (a := eI)) (re_vS 1 (eL eI) (some_)) (re_c (.int 4) eI (4))))) (fun walk_ => [none, some ((eL eI) (some_), mS), some (h374, mA), some ((eL (e2 eI eI)) (p373.2), mA), some ((eL eI) (held_), mA), some ((eL eI) (walk_), mA), some (eI (at_), mA), none]) (fun walk_ => (rb_next (V := walk_) (el_c sl_n (el_c sl_o (el_c sl_o (el_c sl_o (el_c sl_o (el_c sl_o (el_c sl_o (el_c sl_n el_nil)))))))))))))) (fun V381 => (rb_next (V := V381) (el_c sl_n (el_c sl_o (el_c sl_o (el_c sl_o (el_c sl_o (el_c sl_o (el_c sl_o (el_c sl_n el_nil)))))))))))) (fun V380 => (rb_next (V := V380) (el_c sl_n (el_c sl_o (el_c sl_o (el_c sl_o (el_c sl_o (el_c sl_o (el_c sl_o (el_c sl_n el_nil)))))))))))) (fun V378 => (rb_back (x := 5) (j := 2) (k := (fun (walks_ : (List (List Int))) => (Out.ok (walks_, p373.2)))) q374 (fun walks_ => [none, some ((eL eI) (some_), mS), some ((eL (eL eI)) (walks_), mA), some ((eL (e2 eI eI)) (p373.2), mA), some ((eL eI) (held_), mA), none, some (eI (at_), mA), none]) (fun walks_ => (rb_retP' (e := (e2 (eL (eL eI)) (eL (e2 eI eI)))) (walks_, p373.2) (re_eq (re_ws (re_tupP (a := (e2 (eL (eL eI)) (eL (e2 eI eI)))) (walks_, p373.2) (ra_consP (re_mO 2 (eL (eL eI)) (walks_)) (ra_consP (re_mO 3 (eL (e2 eI eI)) (p373.2)) ra_nil)))))))))))))))))))
  exact of_KT hr h
abbrev s_law_same : Stmt := topS 30
abbrev N_law_same : List Str := ["_law_found", "_law_due_here", "_law_one"]
abbrev lv_law_same : Nat := 2
theorem sc_law_same : FnScope N_law_same ["_law_found", "_law_due_here"] (defScope s_law_same) := ⟨rfl, rfl, rfl, by decide +kernel, rfl, by decide +kernel, by decide +kernel⟩
def w_law_same : WS := (wSeq (wIf (wTest (wBin woIsN (wVar 1) (wC .none))) (wSeq (wRet (wBin woIsN (wVar 0) (wC .none)))
  wNext) wNext)
  (wSeq (wIf (wOr (wNot (wTest (wIsi "tuple" (wVar 0)))) (wTest (wBin woNe (wCB wLen (wCons (wVar 0) wNil)) (wCB wLen (wCons (wVar 1) wNil))))) (wSeq (wRet (wC (.bool false)))
  wNext) wNext)
  (wSeq (wCut (wFor (tgN 2) (wSl (wVar 0) (wPt (wC (.int 1))) wNoP)
  (wSeq (wIf (wNot (wTest (wCall sp_law_is_whole (wCons (wVar 2) wNil)))) (wSeq (wRet (wC (.bool false)))
  wNext) wNext)
  wNext)))
  (wSeq (wRet (wAndV (wIsi "str" (wBin wIx (wVar 0) (wC (.int 0)))) (wBin woEq (wVar 0) (wVar 1))))
  wNext))))
theorem st_law_same (x0 x1 : D) : startE N_law_same [x0, x1] = [argS x0, argS x1, none] := rfl
theorem d_law_same (E : Ev K mg cl) (G_law_is_whole : Def P w K mg base cl "_law_is_whole" 1 sp_law_is_whole lv_law_is_whole) (f : Addr) (cdv : Value) (A : Around) (outer : List Env) (s : Shared) (H : Hp) (E0 : XK) (P0 : Addr → Prop) (hr : Room 1 (cxV P w K mg base N_law_same "_law_same" s_law_same f cdv A outer s H E0).A) :
    PSs (cxV P w K mg base N_law_same "_law_same" s_law_same f cdv A outer s H E0) (defBody s_law_same) (rdS (cnOf K cl P0 H) (WXE E0) w_law_same) := by
  have nd := sc_law_same.nd
  exact (vss_cons (vs_if (vt_c c_isN (ve_var 1) ve_non) (vss_cons (vs_ret (ve_c c_isN (ve_var 0) ve_non))
  vss_nil) vss_nil)
  (vss_cons (vs_if (PW.pt (vw_or (vt_not (vt_val (ve_isi ta_tuple E.m_isinstance E.m_tuple (by decide +kernel) (ve_var 0)))) (vw_or1 (vt_c (c_ne hr) (ve_len1 E.m_len (va_cons (ve_var 0) va_nil)) (ve_len1 E.m_len (va_cons (ve_var 1) va_nil)))))) (vss_cons (vs_ret ve_bl)
  vss_nil) vss_nil)
  (vss_cons (vs_cut (vs_for (passes_of rfl) rfl (ve_slice (ve_var 0) (vo_some ve_int) vo_none) (tg_name nd)
  (fun _ => (vss_cons (vs_if (vt_not (vt_val (ve_call (k := lv_law_is_whole) G_law_is_whole (hr.mono (by decide)) (takes_of rfl rfl rfl rfl) (va_cons (ve_var 2) va_nil)))) (vss_cons (vs_ret ve_bl)
  vss_nil) vss_nil)
  vss_nil))))
  (vss_cons (vs_ret (ve_and (ve_isi ta_str E.m_isinstance E.m_str (by decide +kernel) (ve_ix (ve_var 0) ve_int)) (ve_one (ve_c (c_eq hr) (ve_var 0) (ve_var 1)))))
  vss_nil))))
theorem b_law_same (kV doc pm : Value) (an : Option Addr) (cdv ct : Value) (us : List Value) (h : us.length = 2) : bindArgs (PySem.W.fnOf "_law_same" "_law_same" (defArgs s_law_same) (defBody s_law_same) (defScope s_law_same) .none kV doc pm an cdv ct) ⟨us, []⟩ = pure ((["_law_found", "_law_due_here"] : List Str).zip us) := match us, h with | [_, _], _ => rfl
theorem spec_law_same : ∀ ds Qv Xv, sp_law_same ds Qv Xv → ds.length = 2 ∧ w_law_same (startE N_law_same ds) ⟨fun _ => Qv ⟨.none, mA⟩, fun r _ => Qv r, fun ex _ => Xv ex⟩ := by
  rintro ds Qv Xv ⟨found_, due_here_, rfl, h⟩
  refine ⟨rfl, ?_⟩
  have he : startE N_law_same [(eO (eTL eA)) found_, (eO (eTL eA)) due_here_] = [some ((eO (eTL eA)) found_, mA), some ((eO (eTL eA)) due_here_, mA), none] := by
    rw [st_law_same]
    try simp only [argS_F, argS_N]
  rw [he]
  have hr : RB (fun _ => True) w_law_same [some ((eO (eTL eA)) found_, mA), some ((eO (eTL eA)) due_here_, mA), none] (F_law_same found_ due_here_) (KT eB mA) := by
    unfold F_law_same w_law_same
    exact (rs_ifRP kt_kt (rt_eq (rt_val (re_2P (xo_isNO (a := (eTL eA)) (fun _ => rfl)) (re_vF 1 (eO (eTL eA)) (due_here_)) (re_c .none eN (()))))) (rb_retP' (e := eB) found_.isNone (re_eq (re_2P (xo_isNO (a := (eTL eA)) (fun _ => rfl)) (re_vF 0 (eO (eTL eA)) (found_)) (re_c .none eN (()))))) (rs_ifR kt_kt (rt_eq (rt_or (rt_eq (rt_notP (rt_val (re_isiS (b := (eTL eA)) (re_vF 0 (eO (eTL eA)) (found_)))))) (rt_val (re_2 (opP_out xo_neI) (re_cb (M := fun (t : (List At) × Unit) => .ok ((t.1.length : Int))) (ra_cons (re_someP (a := (eTL eA)) (re_vF 0 (eO (eTL eA)) (found_))) ra_nil) (fun (t : (List At) × Unit) _ _ h => len_TL (a := eA) (t.1) _ h)) (re_cb (M := fun (t : (List At) × Unit) => .ok ((t.1.length : Int))) (ra_cons (re_someP (a := (eTL eA)) (re_vF 1 (eO (eTL eA)) (due_here_))) ra_nil) (fun (t : (List At) × Unit) _ _ h => len_TL (a := eA) (t.1) _ h)))))) (rb_retP' (e := eB) false (re_eq (re_c (.bool false) eB (false)))) (rs_seqT (s := (fun (V446 : Unit) => [some ((eO (eTL eA)) (found_), mA), some ((eO (eTL eA)) (due_here_), mA), none])) (rb_forTLF (s := (fun (V446 : Unit) => [some ((eO (eTL eA)) (found_), mA), some ((eO (eTL eA)) (due_here_), mA), none])) (a := eA) () (re_eq (re_slTM (a := eA) (re_someP (a := (eTL eA)) (re_vF 0 (eO (eTL eA)) (found_))) (ro_ptP (re_c (.int 1) eI (1))) ro_no)) (el_c sl_o (el_c sl_o (el_c sl_n el_nil))) (fun V446 one_ => [some ((eO (eTL eA)) (found_), mA), some ((eO (eTL eA)) (due_here_), mA), some (eA (one_), mA)]) (fun V446 one_ => (rs_ifR kf_kr (rt_eq (rt_not (rt_val (re_callP (b := eB) (M := (F_law_is_whole one_)) (ra_consP (re_vF 2 eA (one_)) ra_nil) (fun Q X h => ⟨one_, rfl, h⟩))))) (rb_retRP (e := eB) false (re_eq (re_c (.bool false) eB (false)))) (rb_nextF (V := ()) (el_c sl_o (el_c sl_o (el_c sl_n el_nil)))))) (hg := by intro _ x; rw [itemR_flat (Fl_.fl (e := eA) x)]; exact ⟨_, rfl, rfl⟩)) (fun V446 => (rb_retI (re_eq (re_and (re_isiAO (re_2 (opO_out (xo_ixT (a := eA))) (re_someP (a := (eTL eA)) (re_vF 0 (eO (eTL eA)) (found_))) (re_c (.int 0) eI (0)))) (re_2Q (xo_eqG (a := (eO (eTL eA))) (b := (eO (eTL eA)))) (re_vF 0 (eO (eTL eA)) (found_)) (re_vF 1 (eO (eTL eA)) (due_here_))))))))))
  exact of_KT hr h
abbrev s_law : Stmt := topS 33
abbrev N_law : List Str := ["_law_script", "_law_drawing", "_law_some", "_law_spoilt", "_law_k", "_law_pick", "_law_due_here", "_law_handed", "_law_refused_here", "_law_found"]
theorem sc_law : FnScope N_law ["_law_script"] (defScope s_law) := ⟨rfl, rfl, rfl, by decide +kernel, rfl, by decide +kernel, by decide +kernel⟩
def w_law : WS := (wSeq (wSet 1 (wCall XD.sp_law_drawn (wCons (wVar 0) (wCons (wC (.int 0)) (wCons (wC (.int 10)) wNil)))))
  (wSeq (wSet 2 (wCall XD.sp_law_row (wCons (wVar 0) (wCons (wC (.int 1)) (wCons (wBin woAdd (wCB wLst (wCons (wC (.int 4)) (wCons (wC (.int 3)) wNil))) (wBin woMul (wCB wLst (wCons (wC (.int 7)) (wCons (wC (.int 7)) (wCons (wC (.int 40)) (wCons (wC (.int 90)) (wCons (wC (.int 40)) (wCons (wC (.int 2)) wNil))))))) (wC (.int 2)))) wNil)))))
  (wSeq (wCut (wIf (wTest (wBin woEq (wBin wIx (wVar 2) (wC (.int 0))) (wC (.int 0)))) (wSeq (wSet 1 (wCall sp_law_large (wCons (wCall XD.sp_law_row (wCons (wMv 0) (wCons (wC (.int 2)) (wCons (wCB wLst (wCons (wC (.int 5)) (wCons (wC (.int 8)) (wCons (wC (.int 3)) wNil)))) wNil)))) wNil)))
  wNext) wNext))
  (wSeq (wSet 3 (wCall XD.sp_law_copy (wCons (wVar 1) wNil)))
  (wSeq (wCut (wForR 1 4 (wCons (wBin wIx (wVar 2) (wC (.int 1))) wNil)
  (wSeq (wSet 5 (wSl (wVar 2) (wPt (wBin woAdd (wBin woMul (wC (.int 6)) (wVar 4)) (wC (.int 2)))) (wPt (wBin woAdd (wBin woMul (wC (.int 6)) (wVar 4)) (wC (.int 8))))))
  (wSeq (wCut (wIf (wTest (wBin woEq (wBin wIx (wVar 5) (wC (.int 5))) (wC (.int 0)))) (wSeq (wSet 3 (wCall sp_law_spoilt_sign (wCons (wVar 3) (wCons (wMv 5) wNil))))
  wNext) (wSeq (wSet 3 (wCall sp_law_spoilt_walk (wCons (wVar 3) (wCons (wMv 5) wNil))))
  wNext)))
  wNext))))
  (wSeq (wSet 6 (wCall sp_law_due (wCons (wVar 3) wNil)))
  (wSeq (wSet 7 (wCall XD.sp_law_copy (wCons (wVar 3) wNil)))
  (wSeq (wIf (wOr (wNot (wTest (wCall sp_law_same (wCons (wCall XTX.sp_fault (wCons (wVar 7) wNil)) (wCons (wVar 6) wNil))))) (wTest (wBin woNe (wVar 7) (wVar 3)))) (wSeq (wRet (wC (.bool false)))
  wNext) wNext)
  (wSeq (wIf (wTest (wBin woIsN (wVar 6) (wC .none))) (wSeq (wRet (wCall sp_law_taken (wCons (wMv 3) wNil)))
  wNext) wNext)
  (wSeq (wAsg (tgT [8, 9]) (wCall sp_law_refused (wCons (wVar 7) wNil)))
  (wSeq (wIf (wOr (wNot (wTest (wVar 8))) (wOr (wNot (wTest (wCall sp_law_same (wCons (wVar 9) (wCons (wVar 6) wNil))))) (wTest (wBin woNe (wVar 7) (wVar 3))))) (wSeq (wRet (wC (.bool false)))
  wNext) wNext)
  (wSeq (wIf (wTest (wBin woNotN (wCall sp_law_due (wCons (wVar 1) wNil)) (wC .none))) (wSeq (wRet (wC (.bool true)))
  wNext) wNext)
  (wSeq (wRet (wCall sp_law_taken (wCons (wMv 1) wNil)))
  wNext)))))))))))))
theorem st_law (x0 : D) : startE N_law [x0] = [argS x0, none, none, none, none, none, none, none, none, none] := rfl
theorem d_law (E : Ev K mg cl) (G_law_row : Def P w K mg base cl "_law_row" 3 XD.sp_law_row lv_law_row) (G_law_drawn : Def P w K mg base cl "_law_drawn" 3 XD.sp_law_drawn lv_law_drawn) (G_law_copy : Def P w K mg base cl "_law_copy" 1 XD.sp_law_copy lv_law_copy) (G_law_due : Def P w K mg base cl "_law_due" 1 sp_law_due lv_law_due) (G_fault : Def P w K mg base cl "fault" 1 XTX.sp_fault lv_fault) (G_law_refused : Def P w K mg base cl "_law_refused" 1 sp_law_refused lv_law_refused) (G_law_taken : Def P w K mg base cl "_law_taken" 1 sp_law_taken lv_law_taken) (G_law_large : Def P w K mg base cl "_law_large" 1 sp_law_large lv_law_large) (G_law_spoilt_sign : Def P w K mg base cl "_law_spoilt_sign" 2 sp_law_spoilt_sign lv_law_spoilt_sign) (G_law_spoilt_walk : Def P w K mg base cl "_law_spoilt_walk" 2 sp_law_spoilt_walk lv_law_spoilt_walk) (G_law_same : Def P w K mg base cl "_law_same" 2 sp_law_same lv_law_same) (f : Addr) (cdv : Value) (A : Around) (outer : List Env) (s : Shared) (H : Hp) (E0 : XK) (P0 : Addr → Prop) (hr : Room 5 (cxV P w K mg base N_law "law" s_law f cdv A outer s H E0).A) :
    PSs (cxV P w K mg base N_law "law" s_law f cdv A outer s H E0) (defBody s_law) (rdS (cnOf K cl P0 H) (WXE E0) w_law) := by
  have nd := sc_law.nd
  exact (vss_cons (vs_set (i := 1) (ve_call (k := lv_law_drawn) G_law_drawn (hr.mono (by decide)) (takes_of rfl rfl rfl rfl) (va_cons (ve_var 0) (va_cons ve_int (va_cons ve_int va_nil)))) nd)
  (vss_cons (vs_set (i := 2) (ve_call (k := lv_law_row) G_law_row (hr.mono (by decide)) (takes_of rfl rfl rfl rfl) (va_cons (ve_var 0) (va_cons ve_int (va_cons (ve_add (ve_lst (va_cons ve_int (va_cons ve_int va_nil))) (ve_mul (ve_lst (va_cons ve_int (va_cons ve_int (va_cons ve_int (va_cons ve_int (va_cons ve_int (va_cons ve_int va_nil))))))) ve_int)) va_nil)))) nd)
  (vss_cons (vs_cut (vs_if (vt_c (c_eq hr) (ve_ix (ve_var 2) ve_int) ve_int) (vss_cons (vs_set (i := 1) (ve_call (k := lv_law_large) G_law_large (hr.mono (by decide)) (takes_of rfl rfl rfl rfl) (va_cons (ve_call (k := lv_law_row) G_law_row (hr.mono (by decide)) (takes_of rfl rfl rfl rfl) (va_cons (ve_mv 0) (va_cons ve_int (va_cons (ve_lst (va_cons ve_int (va_cons ve_int (va_cons ve_int va_nil)))) va_nil)))) va_nil)) nd)
  vss_nil) vss_nil))
  (vss_cons (vs_set (i := 3) (ve_call (k := lv_law_copy) G_law_copy (hr.mono (by decide)) (takes_of rfl rfl rfl rfl) (va_cons (ve_var 1) va_nil)) nd)
  (vss_cons (vs_cut (vs_forR1 (i := 4) (passes_of rfl) rfl E.m_range (va_cons (ve_ix (ve_var 2) ve_int) va_nil)
  (vss_cons (vs_set (i := 5) (ve_slice (ve_var 2) (vo_some (ve_add (ve_mul ve_int (ve_var 4)) ve_int)) (vo_some (ve_add (ve_mul ve_int (ve_var 4)) ve_int))) nd)
  (vss_cons (vs_cut (vs_if (vt_c (c_eq hr) (ve_ix (ve_var 5) ve_int) ve_int) (vss_cons (vs_set (i := 3) (ve_call (k := lv_law_spoilt_sign) G_law_spoilt_sign (hr.mono (by decide)) (takes_of rfl rfl rfl rfl) (va_cons (ve_var 3) (va_cons (ve_mv 5) va_nil))) nd)
  vss_nil) (vss_cons (vs_set (i := 3) (ve_call (k := lv_law_spoilt_walk) G_law_spoilt_walk (hr.mono (by decide)) (takes_of rfl rfl rfl rfl) (va_cons (ve_var 3) (va_cons (ve_mv 5) va_nil))) nd)
  vss_nil)))
  vss_nil)) nd))
  (vss_cons (vs_set (i := 6) (ve_call (k := lv_law_due) G_law_due (hr.mono (by decide)) (takes_of rfl rfl rfl rfl) (va_cons (ve_var 3) va_nil)) nd)
  (vss_cons (vs_set (i := 7) (ve_call (k := lv_law_copy) G_law_copy (hr.mono (by decide)) (takes_of rfl rfl rfl rfl) (va_cons (ve_var 3) va_nil)) nd)
  (vss_cons (vs_if (PW.pt (vw_or (vt_not (vt_val (ve_call (k := lv_law_same) G_law_same (hr.mono (by decide)) (takes_of rfl rfl rfl rfl) (va_cons (ve_call (k := lv_fault) G_fault (hr.mono (by decide)) (takes_of rfl rfl rfl rfl) (va_cons (ve_var 7) va_nil)) (va_cons (ve_var 6) va_nil))))) (vw_or1 (vt_c (c_ne hr) (ve_var 7) (ve_var 3))))) (vss_cons (vs_ret ve_bl)
  vss_nil) vss_nil)
  (vss_cons (vs_if (vt_c c_isN (ve_var 6) ve_non) (vss_cons (vs_ret (ve_call (k := lv_law_taken) G_law_taken (hr.mono (by decide)) (takes_of rfl rfl rfl rfl) (va_cons (ve_mv 3) va_nil)))
  vss_nil) vss_nil)
  (vss_cons (vs_asg (ve_call (k := lv_law_refused) G_law_refused (hr.mono (by decide)) (takes_of rfl rfl rfl rfl) (va_cons (ve_var 7) va_nil)) (tg_tup rfl (na_cons (na_cons na_nil nd) nd)))
  (vss_cons (vs_if (PW.pt (vw_or (vt_not (vt_val (ve_var 8))) (vw_or (vt_not (vt_val (ve_call (k := lv_law_same) G_law_same (hr.mono (by decide)) (takes_of rfl rfl rfl rfl) (va_cons (ve_var 9) (va_cons (ve_var 6) va_nil))))) (vw_or1 (vt_c (c_ne hr) (ve_var 7) (ve_var 3)))))) (vss_cons (vs_ret ve_bl)
  vss_nil) vss_nil)
  (vss_cons (vs_if (vt_c c_notN (ve_call (k := lv_law_due) G_law_due (hr.mono (by decide)) (takes_of rfl rfl rfl rfl) (va_cons (ve_var 1) va_nil)) ve_non) (vss_cons (vs_ret ve_bl)
  vss_nil) vss_nil)
  (vss_cons (vs_ret (ve_call (k := lv_law_taken) G_law_taken (hr.mono (by decide)) (takes_of rfl rfl rfl rfl) (va_cons (ve_mv 1) va_nil)))
  vss_nil)))))))))))))
theorem b_law (kV doc pm : Value) (an : Option Addr) (cdv ct : Value) (us : List Value) (h : us.length = 1) : bindArgs (PySem.W.fnOf "law" "law" (defArgs s_law) (defBody s_law) (defScope s_law) .none kV doc pm an cdv ct) ⟨us, []⟩ = pure ((["_law_script"] : List Str).zip us) := match us, h with | [_], _ => rfl
end
end LK11
set_option maxRecDepth 100000
set_option maxHeartbeats 4000000
namespace LK11
open PySem PySem.Spec PyProof.Rows L2 VL
def errNames : List Str := ["PlaitError", "NotADrawing", "NoCrossing", "TooBig"]
theorem spec_law : ∀ ds Qv Xv, LawS ds Qv Xv → ds.length = 1 ∧ w_law (startE N_law ds) ⟨fun _ => Qv ⟨.none, mA⟩, fun r _ => Qv r, fun ex _ => Xv ex⟩ := by
  rintro ds Qv Xv ⟨script_, rfl, hl, hb, h⟩
  refine ⟨rfl, ?_⟩
  have he : startE N_law [scriptD script_] = [some (eScr script_, mS), none, none, none, none, none, none, none, none, none] := by
    rw [st_law]
    have := argS_N (e := eScr) script_
    simp only [eScr] at this ⊢
    simp only [this]
  rw [he]
  have hr : RB (fun _ => True) w_law [some (eScr script_, mS), none, none, none, none, none, none, none, none, none] (F_law script_) (KT eB mA) := by
    unfold F_law w_law
    exact (rs_set (re_eq (re_callP (b := (e2 (eL (eL eI)) (eL (e2 eI eI)))) (M := (XD.F_law_drawn script_ 0 10)) (ra_consP (re_vS 0 eScr (script_)) (ra_consP (re_c (.int 0) eI (0)) (ra_consP (re_c (.int 10) eI (10)) ra_nil))) (fun Q X h => ⟨script_, 0, 10, rfl, h⟩))) (fun drawing_ => [some (eScr (script_), mS), some ((e2 (eL (eL eI)) (eL (e2 eI eI))) (drawing_), mA), none, none, none, none, none, none, none, none]) (fun drawing_ => (rs_set (re_eq (re_call (b := (eL eI)) (M := fun (t : (List Int) × Int × (List Int) × Unit) => XD.F_law_row t.1 t.2.1 t.2.2.1) (ra_cons (re_vS 0 eScr (script_)) (ra_cons (re_c (.int 1) eI (1)) (ra_cons (re_2 (opO_out (xo_catF (a := eI))) (re_lstFP (a := eI) [4, 3] (ra_consP (re_c (.int 4) eI (4)) (ra_consP (re_c (.int 3) eI (3)) ra_nil))) (re_2Q (xo_rep (a := eI)) (re_lstFP (a := eI) [7, 7, 40, 90, 40, 2] (ra_consP (re_c (.int 7) eI (7)) (ra_consP (re_c (.int 7) eI (7)) (ra_consP (re_c (.int 40) eI (40)) (ra_consP (re_c (.int 90) eI (90)) (ra_consP (re_c (.int 40) eI (40)) (ra_consP (re_c (.int 2) eI (2)) ra_nil))))))) (re_c (.int 2) eI (2)))) ra_nil))) (fun (t : (List Int) × Int × (List Int) × Unit) Q X h => ⟨t.1, t.2.1, t.2.2.1, rfl, h⟩))) (fun some_ => [some (eScr (script_), mS), some ((e2 (eL (eL eI)) (eL (e2 eI eI))) (drawing_), mA), some ((eL eI) (some_), mA), none, none, none, none, none, none, none]) (fun some_ => (rs_seqN (s := (fun (V475 : ((List (List Int)) × (List (Int × Int)))) => [none, some ((e2 (eL (eL eI)) (eL (e2 eI eI))) (V475), mA), some ((eL eI) (some_), mA), none, none, none, none, none, none, none])) (rb_if (rt_eq (rt_val (re_2 (opP_out xo_eqI) (re_2Q (xo_ixF (a := eI)) (re_vA 2 (eL eI) (some_)) (re_c (.int 0) eI (0))) (re_c (.int 0) eI (0))))) (rs_set (re_eq (re_call (b := (e2 (eL (eL eI)) (eL (e2 eI eI)))) (M := fun (t : (List Int) × Unit) => F_law_large t.1) (ra_cons (re_callP (b := (eL eI)) (M := (XD.F_law_row script_ 2 ([5, 8, 3]))) (ra_consP (re_mO 0 eScr (script_)) (ra_consP (re_c (.int 2) eI (2)) (ra_consP (re_lstFP (a := eI) [5, 8, 3] (ra_consP (re_c (.int 5) eI (5)) (ra_consP (re_c (.int 8) eI (8)) (ra_consP (re_c (.int 3) eI (3)) ra_nil)))) ra_nil))) (fun Q X h => ⟨script_, 2, ([5, 8, 3]), rfl, h⟩)) ra_nil) (fun (t : (List Int) × Unit) Q X h => ⟨t.1, rfl, h⟩))) (fun drawing_ => [none, some ((e2 (eL (eL eI)) (eL (e2 eI eI))) (drawing_), mA), some ((eL eI) (some_), mA), none, none, none, none, none, none, none]) (fun drawing_ => (rb_next (V := drawing_) (el_c sl_n (el_c sl_o (el_c sl_o (el_c sl_n (el_c sl_n (el_c sl_n (el_c sl_n (el_c sl_n (el_c sl_n (el_c sl_n el_nil))))))))))))) (rb_next (V := drawing_) (el_c sl_n (el_c sl_o (el_c sl_o (el_c sl_n (el_c sl_n (el_c sl_n (el_c sl_n (el_c sl_n (el_c sl_n (el_c sl_n el_nil)))))))))))) (fun V475 => (rs_set (re_eq (re_callP (b := (e2 (eL (eL eI)) (eL (e2 eI eI)))) (M := (XD.F_law_copy V475)) (ra_consP (re_vA 1 (e2 (eL (eL eI)) (eL (e2 eI eI))) (V475)) ra_nil) (fun Q X h => ⟨V475, rfl, h⟩))) (fun spoilt_ => [none, some ((e2 (eL (eL eI)) (eL (e2 eI eI))) (V475), mA), some ((eL eI) (some_), mA), some ((e2 (eL (eL eI)) (eL (e2 eI eI))) (spoilt_), mA), none, none, none, none, none, none]) (fun spoilt_ => (rs_seqN (s := (fun (V476 : ((List (List Int)) × (List (Int × Int)))) => [none, some ((e2 (eL (eL eI)) (eL (e2 eI eI))) (V475), mA), some ((eL eI) (some_), mA), some ((e2 (eL (eL eI)) (eL (e2 eI eI))) (V476), mS), none, none, none, none, none, none])) (rb_forR (s := (fun (V476 : ((List (List Int)) × (List (Int × Int)))) => [none, some ((e2 (eL (eL eI)) (eL (e2 eI eI))) (V475), mA), some ((eL eI) (some_), mA), some ((e2 (eL (eL eI)) (eL (e2 eI eI))) (V476), mS), none, none, none, none, none, none])) (gl := fun (t : Int × Unit) => 0) (gh := fun (t : Int × Unit) => t.1) spoilt_ (ra_cons (re_2Q (xo_ixF (a := eI)) (re_vA 2 (eL eI) (some_)) (re_c (.int 1) eI (1))) ra_nil) (fun _ => ⟨rfl, rfl⟩) (el_c sl_n (el_c sl_o (el_c sl_o (el_c sl_o (el_c sl_n (el_c sl_n (el_c sl_n (el_c sl_n (el_c sl_n (el_c sl_n el_nil)))))))))) (fun V476 k_ => [none, some ((e2 (eL (eL eI)) (eL (e2 eI eI))) (V475), mA), some ((eL eI) (some_), mA), some ((e2 (eL (eL eI)) (eL (e2 eI eI))) (V476), mS), some (eI (k_), mA), none, none, none, none, none]) (fun V476 k_ => (rs_set (re_eq (re_slF (a := eI) (re_vA 2 (eL eI) (some_)) (ro_ptP (re_2P xo_add (re_mulL 6 (re_c (.int 6) eI (6)) (re_vF 4 eI (k_))) (re_c (.int 2) eI (2)))) (ro_ptP (re_2P xo_add (re_mulL 6 (re_c (.int 6) eI (6)) (re_vF 4 eI (k_))) (re_c (.int 8) eI (8)))))) (fun pick_ => [none, some ((e2 (eL (eL eI)) (eL (e2 eI eI))) (V475), mA), some ((eL eI) (some_), mA), some ((e2 (eL (eL eI)) (eL (e2 eI eI))) (V476), mS), some (eI (k_), mA), some ((eL eI) (pick_), mA), none, none, none, none]) (fun pick_ => (rs_seqN (s := (fun (V479 : ((List (List Int)) × (List (Int × Int)))) => [none, some ((e2 (eL (eL eI)) (eL (e2 eI eI))) (V475), mA), some ((eL eI) (some_), mA), some ((e2 (eL (eL eI)) (eL (e2 eI eI))) (V479), mS), some (eI (k_), mA), none, none, none, none, none])) (rb_if (rt_eq (rt_val (re_2 (opP_out xo_eqI) (re_2Q (xo_ixF (a := eI)) (re_vA 5 (eL eI) (pick_)) (re_c (.int 5) eI (5))) (re_c (.int 0) eI (0))))) (rs_set (re_eq (re_callP (b := (e2 (eL (eL eI)) (eL (e2 eI eI)))) (M := (F_law_spoilt_sign V476 pick_)) (ra_consP (re_vS 3 (e2 (eL (eL eI)) (eL (e2 eI eI))) (V476)) (ra_consP (re_mO 5 (eL eI) (pick_)) ra_nil)) (fun Q X h => ⟨V476, pick_, rfl, h⟩))) (fun spoilt_ => [none, some ((e2 (eL (eL eI)) (eL (e2 eI eI))) (V475), mA), some ((eL eI) (some_), mA), some ((e2 (eL (eL eI)) (eL (e2 eI eI))) (spoilt_), mA), some (eI (k_), mA), none, none, none, none, none]) (fun spoilt_ => (rb_next (V := spoilt_) (el_c sl_n (el_c sl_o (el_c sl_o (el_c sl_o (el_c sl_o (el_c sl_n (el_c sl_n (el_c sl_n (el_c sl_n (el_c sl_n el_nil))))))))))))) (rs_set (re_eq (re_callPS (b := (e2 (eL (eL eI)) (eL (e2 eI eI)))) (M := (F_law_spoilt_walk V476 pick_)) (ra_consP (re_vS 3 (e2 (eL (eL eI)) (eL (e2 eI eI))) (V476)) (ra_consP (re_mO 5 (eL eI) (pick_)) ra_nil)) (fun Q X h => ⟨V476, pick_, rfl, h⟩))) (fun spoilt_ => [none, some ((e2 (eL (eL eI)) (eL (e2 eI eI))) (V475), mA), some ((eL eI) (some_), mA), some ((e2 (eL (eL eI)) (eL (e2 eI eI))) (spoilt_), mS), some (eI (k_), mA), none, none, none, none, none]) (fun spoilt_ => (rb_next (V := spoilt_) (el_c sl_n (el_c sl_o (el_c sl_o (el_c sl_o (el_c sl_o (el_c sl_n (el_c sl_n (el_c sl_n (el_c sl_n (el_c sl_n el_nil)))))))))))))) (fun V479 => (rb_next (V := V479) (el_c sl_n (el_c sl_o (el_c sl_o (el_c sl_o (el_c sl_n (el_c sl_n (el_c sl_n (el_c sl_n (el_c sl_n (el_c sl_n el_nil))))))))))))))))) (fun V476 => (rs_set (re_eq (re_callP (b := (eO (eTL eA))) (M := (F_law_due V476)) (ra_consP (re_vS 3 (e2 (eL (eL eI)) (eL (e2 eI eI))) (V476)) ra_nil) (fun Q X h => ⟨V476, rfl, h⟩))) (fun due_here_ => [none, some ((e2 (eL (eL eI)) (eL (e2 eI eI))) (V475), mA), some ((eL eI) (some_), mA), some ((e2 (eL (eL eI)) (eL (e2 eI eI))) (V476), mS), none, none, some ((eO (eTL eA)) (due_here_), mA), none, none, none]) (fun due_here_ => (rs_set (re_eq (re_callP (b := (e2 (eL (eL eI)) (eL (e2 eI eI)))) (M := (XD.F_law_copy V476)) (ra_consP (re_vS 3 (e2 (eL (eL eI)) (eL (e2 eI eI))) (V476)) ra_nil) (fun Q X h => ⟨V476, rfl, h⟩))) (fun handed_ => [none, some ((e2 (eL (eL eI)) (eL (e2 eI eI))) (V475), mA), some ((eL eI) (some_), mA), some ((e2 (eL (eL eI)) (eL (e2 eI eI))) (V476), mS), none, none, some ((eO (eTL eA)) (due_here_), mA), some ((e2 (eL (eL eI)) (eL (e2 eI eI))) (handed_), mA), none, none]) (fun handed_ => (rs_ifR kt_kt (rt_eq (rt_or (rt_not (rt_val (re_call (b := eB) (M := fun (t : (Option (List At)) × (Option (List At)) × Unit) => F_law_same t.1 t.2.1) (ra_cons (re_callP (b := (eO (eTL eA))) (M := (XTX.F_fault handed_)) (ra_consP (re_vA 7 (e2 (eL (eL eI)) (eL (e2 eI eI))) (handed_)) ra_nil) (fun Q X h => ⟨handed_, rfl, h⟩)) (ra_consP (re_vF 6 (eO (eTL eA)) (due_here_)) ra_nil)) (fun (t : (Option (List At)) × (Option (List At)) × Unit) Q X h => ⟨t.1, t.2.1, rfl, h⟩)))) (rt_val (re_2P (xo_neD (a := (e2 (eL (eL eI)) (eL (e2 eI eI))))) (re_vA 7 (e2 (eL (eL eI)) (eL (e2 eI eI))) (handed_)) (re_vS 3 (e2 (eL (eL eI)) (eL (e2 eI eI))) (V476)))))) (rb_retP' (e := eB) false (re_eq (re_c (.bool false) eB (false)))) (rs_ifRP kt_kt (rt_eq (rt_val (re_2P (xo_isNO (a := (eTL eA)) (fun _ => rfl)) (re_vF 6 (eO (eTL eA)) (due_here_)) (re_c .none eN (()))))) (rb_retI (re_eq (re_callP (b := eB) (M := (F_law_taken V476)) (ra_consP (re_mO 3 (e2 (eL (eL eI)) (eL (e2 eI eI))) (V476)) ra_nil) (fun Q X h => ⟨V476, rfl, h⟩)))) (rs_asg (a := (e2 eB (eO (eTL eA)))) (re_eq (re_callP (b := (e2 eB (eO (eTL eA)))) (M := (F_law_refused handed_)) (ra_consP (re_vA 7 (e2 (eL (eL eI)) (eL (e2 eI eI))) (handed_)) ra_nil) (fun Q X h => ⟨handed_, rfl, h⟩))) (fun p480 => [none, some ((e2 (eL (eL eI)) (eL (e2 eI eI))) (V475), mA), some ((eL eI) (some_), mA), some ((e2 (eL (eL eI)) (eL (e2 eI eI))) (V476), mS), none, none, some ((eO (eTL eA)) (due_here_), mA), some ((e2 (eL (eL eI)) (eL (e2 eI eI))) (handed_), mA), some (eB (p480.1), mA), some ((eO (eTL eA)) (p480.2), mA)]) (fun p480 => (rs_ifR kt_kt (rt_eq (rt_or (rt_eq (rt_notP (rt_val (re_vF 8 eB (p480.1))))) (rt_or (rt_not (rt_val (re_callP (b := eB) (M := (F_law_same p480.2 due_here_)) (ra_consP (re_vF 9 (eO (eTL eA)) (p480.2)) (ra_consP (re_vF 6 (eO (eTL eA)) (due_here_)) ra_nil)) (fun Q X h => ⟨p480.2, due_here_, rfl, h⟩)))) (rt_val (re_2P (xo_neD (a := (e2 (eL (eL eI)) (eL (e2 eI eI))))) (re_vA 7 (e2 (eL (eL eI)) (eL (e2 eI eI))) (handed_)) (re_vS 3 (e2 (eL (eL eI)) (eL (e2 eI eI))) (V476))))))) (rb_retP' (e := eB) false (re_eq (re_c (.bool false) eB (false)))) (rs_ifR kt_kt (rt_eq (rt_val (re_2 (opP_out (xo_notNO (a := (eTL eA)) (fun _ => rfl))) (re_callP (b := (eO (eTL eA))) (M := (F_law_due V475)) (ra_consP (re_vA 1 (e2 (eL (eL eI)) (eL (e2 eI eI))) (V475)) ra_nil) (fun Q X h => ⟨V475, rfl, h⟩)) (re_c .none eN (()))))) (rb_retP' (e := eB) true (re_eq (re_c (.bool true) eB (true)))) (rb_retI (re_eq (re_callP (b := eB) (M := (F_law_taken V475)) (ra_consP (re_mO 1 (e2 (eL (eL eI)) (eL (e2 eI eI))) (V475)) ra_nil) (fun Q X h => ⟨V475, rfl, h⟩))))))) (hs := fun _ => ⟨_, rfl, by simp only [List.map_cons, List.map_nil, subT_A]; rfl⟩))))))))))))))))))
  exact of_KT hr ((law_ok script_ hl hb).mono (fun b e => by rw [e]; exact h) fun x e => e.elim)
theorem all_mk {P : Program} {w : World} {K : PySem.W.Frag} {h : Heap} {mg : Str → Option Value} {fa : Addr} (X : K.In h) (G : h.Ns mainGlobals mg) (hfa : mg "law" = some (.ref fa))
    (F_law_cell : FnAt K "_law_cell" s_law_cell)
    (F_law_mix : FnAt K "_law_mix" s_law_mix)
    (F_law_row : FnAt K "_law_row" s_law_row)
    (F_law_plaited : FnAt K "_law_plaited" s_law_plaited)
    (F_law_any : FnAt K "_law_any" s_law_any)
    (F_law_mixed : FnAt K "_law_mixed" s_law_mixed)
    (F_law_drawn : FnAt K "_law_drawn" s_law_drawn)
    (F_law_copy : FnAt K "_law_copy" s_law_copy)
    (F_law_wrong : FnAt K "_law_wrong" s_law_wrong)
    (F_law_due : FnAt K "_law_due" s_law_due)
    (F_passages_of : FnAt K "passages_of" s_passages_of)
    (F_walk_fault : FnAt K "walk_fault" s_walk_fault)
    (F_sign_fault : FnAt K "sign_fault" s_sign_fault)
    (F_fault : FnAt K "fault" s_fault)
    (F_checked : FnAt K "checked" s_checked)
    (F_law_refused : FnAt K "_law_refused" s_law_refused)
    (F_law_is_whole : FnAt K "_law_is_whole" s_law_is_whole)
    (F_law_is_drawing : FnAt K "_law_is_drawing" s_law_is_drawing)
    (F_law_taken : FnAt K "_law_taken" s_law_taken)
    (F_law_large : FnAt K "_law_large" s_law_large)
    (F_law_spoilt_sign : FnAt K "_law_spoilt_sign" s_law_spoilt_sign)
    (F_law_other_passage : FnAt K "_law_other_passage" s_law_other_passage)
    (F_law_spoilt_walk : FnAt K "_law_spoilt_walk" s_law_spoilt_walk)
    (F_law_same : FnAt K "_law_same" s_law_same)
    (F_law : FnAt K "law" s_law)
    (Q_NoCrossing : RefAt K "NoCrossing")
    (Q_NoCrossing_PlaitError : KitAt K "PlaitError" "NoCrossing" false)
    (Q_NoCrossing_NotADrawing : KitAt K "NotADrawing" "NoCrossing" false)
    (Q_NoCrossing_NoCrossing : KitAt K "NoCrossing" "NoCrossing" true)
    (Q_NoCrossing_TooBig : KitAt K "TooBig" "NoCrossing" false)
    (Q_PlaitError : RefAt K "PlaitError")
    (Q_PlaitError_PlaitError : KitAt K "PlaitError" "PlaitError" true)
    (Q_PlaitError_NotADrawing : KitAt K "NotADrawing" "PlaitError" true)
    (Q_PlaitError_NoCrossing : KitAt K "NoCrossing" "PlaitError" true)
    (Q_PlaitError_TooBig : KitAt K "TooBig" "PlaitError" true)
    (Q_TooBig : RefAt K "TooBig")
    (Q_TooBig_PlaitError : KitAt K "PlaitError" "TooBig" false)
    (Q_TooBig_NotADrawing : KitAt K "NotADrawing" "TooBig" false)
    (Q_TooBig_NoCrossing : KitAt K "NoCrossing" "TooBig" false)
    (Q_TooBig_TooBig : KitAt K "TooBig" "TooBig" true)
    (B_ValueError_PlaitError : KitTAt K "PlaitError" "ValueError" true)
    (B_ValueError_NotADrawing : KitTAt K "NotADrawing" "ValueError" true)
    (B_ValueError_NoCrossing : KitTAt K "NoCrossing" "ValueError" true)
    (B_ValueError_TooBig : KitTAt K "TooBig" "ValueError" true)
    (O_ValueError : NoAt K "ValueError")
    (O_abs : NoAt K "abs")
    (O_bool : NoAt K "bool")
    (O_enumerate : NoAt K "enumerate")
    (O_int : NoAt K "int")
    (O_isinstance : NoAt K "isinstance")
    (O_len : NoAt K "len")
    (O_list : NoAt K "list")
    (O_max : NoAt K "max")
    (O_min : NoAt K "min")
    (O_range : NoAt K "range")
    (O_str : NoAt K "str")
    (O_tuple : NoAt K "tuple")
    (C_NotADrawing : RefAt K "NotADrawing")
    (C_NotADrawing_PlaitError : ExmAt K "PlaitError" "NotADrawing" false)
    (C_NotADrawing_NotADrawing : ExmAt K "NotADrawing" "NotADrawing" true)
    (C_NotADrawing_NoCrossing : ExmAt K "NoCrossing" "NotADrawing" false)
    (C_NotADrawing_TooBig : ExmAt K "TooBig" "NotADrawing" false)
    (I_MOST_CROSSINGS : IntAt K "MOST_CROSSINGS" 40)
    (I_MOST_WALKS : IntAt K "MOST_WALKS" 12)
    (T_PlaitError : ExcAt K "PlaitError")
    (T_NotADrawing : ExcAt K "NotADrawing")
    (T_NoCrossing : ExcAt K "NoCrossing")
    (T_TooBig : ExcAt K "TooBig")
    (J_NotADrawing : InitAt K "NotADrawing" "fault" "NotADrawing.__init__" si_NotADrawing)
    : ∃ fd : FuncData, (∀ (s : Shared) (v : Value), BindsTo s fd ⟨[v], []⟩ [("_law_script", v)]) ∧ ∀ base : Heap, K.In base → base.Ns mainGlobals mg → FnOk P w K mg base (L2.CX P w) 6 fa fd ["_law_script"] (spOf K (fun _ => none) LawS) := by
  obtain ⟨f0, oc, od, an, osl, kV, doc, pm, cdv, ct, e1, e2, e3, e4⟩ := F_law
  have e := hfa.symm.trans (PySem.W.mg_of X G e1)
  cases e
  have FF := fun_mk (st := s_law) e2 e3 e4
  refine ⟨PySem.W.fnOf "law" "law" (defArgs s_law) (defBody s_law) (defScope s_law) .none kV doc pm an cdv ct, fun s v => .of_eq (b_law kV doc pm an cdv ct [v] rfl), fun base _ _ => ?_⟩
  have E : Ev K mg (clOf errNames mg) := ⟨asked_of X G Q_NoCrossing (each_name (names := errNames) (by
      intro x hx
      simp only [errNames, List.mem_cons, List.not_mem_nil, or_false] at hx
      rcases hx with rfl | rfl | rfl | rfl
      · exact Q_NoCrossing_PlaitError
      · exact Q_NoCrossing_NotADrawing
      · exact Q_NoCrossing_NoCrossing
      · exact Q_NoCrossing_TooBig)), asked_of X G Q_PlaitError (each_name (names := errNames) (by
      intro x hx
      simp only [errNames, List.mem_cons, List.not_mem_nil, or_false] at hx
      rcases hx with rfl | rfl | rfl | rfl
      · exact Q_PlaitError_PlaitError
      · exact Q_PlaitError_NotADrawing
      · exact Q_PlaitError_NoCrossing
      · exact Q_PlaitError_TooBig)), asked_of X G Q_TooBig (each_name (names := errNames) (by
      intro x hx
      simp only [errNames, List.mem_cons, List.not_mem_nil, or_false] at hx
      rcases hx with rfl | rfl | rfl | rfl
      · exact Q_TooBig_PlaitError
      · exact Q_TooBig_NotADrawing
      · exact Q_TooBig_NoCrossing
      · exact Q_TooBig_TooBig)), askedB_of X G (each_name (names := errNames) (by
      intro x hx
      simp only [errNames, List.mem_cons, List.not_mem_nil, or_false] at hx
      rcases hx with rfl | rfl | rfl | rfl
      · exact B_ValueError_PlaitError
      · exact B_ValueError_NotADrawing
      · exact B_ValueError_NoCrossing
      · exact B_ValueError_TooBig)), O_ValueError.out X G, O_abs.out X G, O_bool.out X G, O_enumerate.out X G, O_int.out X G, O_isinstance.out X G, O_len.out X G, O_list.out X G, O_max.out X G, O_min.out X G, O_range.out X G, O_str.out X G, O_tuple.out X G, clause_of X G C_NotADrawing (each_name (names := errNames) (by
      intro x hx
      simp only [errNames, List.mem_cons, List.not_mem_nil, or_false] at hx
      rcases hx with rfl | rfl | rfl | rfl
      · exact C_NotADrawing_PlaitError
      · exact C_NotADrawing_NotADrawing
      · exact C_NotADrawing_NoCrossing
      · exact C_NotADrawing_TooBig)), I_MOST_CROSSINGS.out X G, I_MOST_WALKS.out X G, J_NotADrawing.noFld X G, excAll_of X G (each_name (names := errNames) (by
      intro x hx
      simp only [errNames, List.mem_cons, List.not_mem_nil, or_false] at hx
      rcases hx with rfl | rfl | rfl | rfl
      · exact T_PlaitError
      · exact T_NotADrawing
      · exact T_NoCrossing
      · exact T_TooBig))⟩
  have H_NotADrawing : ErrF P w K mg base (clOf errNames mg) "NotADrawing" "fault" := InitAt.errF X G J_NotADrawing (by decide) sci_NotADrawing bi_NotADrawing di_NotADrawing
  have G_law_cell : Def P w K mg base (clOf errNames mg) "_law_cell" 2 XD.sp_law_cell lv_law_cell := def_at X G F_law_cell sc_law_cell b_law_cell (d_law_cell E ) spec_law_cell
  have G_law_mix : Def P w K mg base (clOf errNames mg) "_law_mix" 2 XD.sp_law_mix lv_law_mix := def_at X G F_law_mix sc_law_mix b_law_mix (d_law_mix E ) spec_law_mix
  have G_law_row : Def P w K mg base (clOf errNames mg) "_law_row" 3 XD.sp_law_row lv_law_row := def_at X G F_law_row sc_law_row b_law_row (d_law_row E G_law_cell G_law_mix) spec_law_row
  have G_law_plaited : Def P w K mg base (clOf errNames mg) "_law_plaited" 4 XD.sp_law_plaited lv_law_plaited := def_at X G F_law_plaited sc_law_plaited b_law_plaited (d_law_plaited E ) spec_law_plaited
  have G_law_any : Def P w K mg base (clOf errNames mg) "_law_any" 3 XD.sp_law_any lv_law_any := def_at X G F_law_any sc_law_any b_law_any (d_law_any E ) spec_law_any
  have G_law_mixed : Def P w K mg base (clOf errNames mg) "_law_mixed" 2 XD.sp_law_mixed lv_law_mixed := def_at X G F_law_mixed sc_law_mixed b_law_mixed (d_law_mixed E ) spec_law_mixed
  have G_law_drawn : Def P w K mg base (clOf errNames mg) "_law_drawn" 3 XD.sp_law_drawn lv_law_drawn := def_at X G F_law_drawn sc_law_drawn b_law_drawn (d_law_drawn E G_law_row G_law_plaited G_law_any G_law_mixed) spec_law_drawn
  have G_law_copy : Def P w K mg base (clOf errNames mg) "_law_copy" 1 XD.sp_law_copy lv_law_copy := def_at X G F_law_copy sc_law_copy b_law_copy (d_law_copy E ) spec_law_copy
  have G_law_wrong : Def P w K mg base (clOf errNames mg) "_law_wrong" 4 sp_law_wrong lv_law_wrong := def_at X G F_law_wrong sc_law_wrong b_law_wrong (d_law_wrong E ) spec_law_wrong
  have G_law_due : Def P w K mg base (clOf errNames mg) "_law_due" 1 sp_law_due lv_law_due := def_at X G F_law_due sc_law_due b_law_due (d_law_due E G_law_wrong) spec_law_due
  have G_passages_of : Def P w K mg base (clOf errNames mg) "passages_of" 1 XTX.sp_passages_of lv_passages_of := def_at X G F_passages_of sc_passages_of b_passages_of (d_passages_of E ) spec_passages_of
  have G_walk_fault : Def P w K mg base (clOf errNames mg) "walk_fault" 2 XTX.sp_walk_fault lv_walk_fault := def_at X G F_walk_fault sc_walk_fault b_walk_fault (d_walk_fault E G_passages_of) spec_walk_fault
  have G_sign_fault : Def P w K mg base (clOf errNames mg) "sign_fault" 2 XTX.sp_sign_fault lv_sign_fault := def_at X G F_sign_fault sc_sign_fault b_sign_fault (d_sign_fault E G_passages_of) spec_sign_fault
  have G_fault : Def P w K mg base (clOf errNames mg) "fault" 1 XTX.sp_fault lv_fault := def_at X G F_fault sc_fault b_fault (d_fault E G_walk_fault G_sign_fault) spec_fault
  have G_checked : Def P w K mg base (clOf errNames mg) "checked" 1 sp_checked lv_checked := def_at X G F_checked sc_checked b_checked (d_checked E G_fault H_NotADrawing) spec_checked
  have G_law_refused : Def P w K mg base (clOf errNames mg) "_law_refused" 1 sp_law_refused lv_law_refused := def_at X G F_law_refused sc_law_refused b_law_refused (d_law_refused E G_checked) spec_law_refused
  have G_law_is_whole : Def P w K mg base (clOf errNames mg) "_law_is_whole" 1 sp_law_is_whole lv_law_is_whole := def_at X G F_law_is_whole sc_law_is_whole b_law_is_whole (d_law_is_whole E ) spec_law_is_whole
  have G_law_is_drawing : Def P w K mg base (clOf errNames mg) "_law_is_drawing" 1 sp_law_is_drawing lv_law_is_drawing := def_at X G F_law_is_drawing sc_law_is_drawing b_law_is_drawing (d_law_is_drawing E G_law_is_whole) spec_law_is_drawing
  have G_law_taken : Def P w K mg base (clOf errNames mg) "_law_taken" 1 sp_law_taken lv_law_taken := def_at X G F_law_taken sc_law_taken b_law_taken (d_law_taken E G_law_copy G_fault G_checked G_law_is_drawing) spec_law_taken
  have G_law_large : Def P w K mg base (clOf errNames mg) "_law_large" 1 sp_law_large lv_law_large := def_at X G F_law_large sc_law_large b_law_large (d_law_large E ) spec_law_large
  have G_law_spoilt_sign : Def P w K mg base (clOf errNames mg) "_law_spoilt_sign" 2 sp_law_spoilt_sign lv_law_spoilt_sign := def_at X G F_law_spoilt_sign sc_law_spoilt_sign b_law_spoilt_sign (d_law_spoilt_sign E G_law_copy) spec_law_spoilt_sign
  have G_law_other_passage : Def P w K mg base (clOf errNames mg) "_law_other_passage" 3 sp_law_other_passage lv_law_other_passage := def_at X G F_law_other_passage sc_law_other_passage b_law_other_passage (d_law_other_passage E ) spec_law_other_passage
  have G_law_spoilt_walk : Def P w K mg base (clOf errNames mg) "_law_spoilt_walk" 2 sp_law_spoilt_walk lv_law_spoilt_walk := def_at X G F_law_spoilt_walk sc_law_spoilt_walk b_law_spoilt_walk (d_law_spoilt_walk E G_law_copy G_law_other_passage) spec_law_spoilt_walk
  have G_law_same : Def P w K mg base (clOf errNames mg) "_law_same" 2 sp_law_same lv_law_same := def_at X G F_law_same sc_law_same b_law_same (d_law_same E G_law_is_whole) spec_law_same
  exact FnOk.imp (def_okF (cl := clOf errNames mg) FF sc_law (d_law E G_law_row G_law_drawn G_law_copy G_law_due G_fault G_law_refused G_law_taken G_law_large G_law_spoilt_sign G_law_spoilt_walk G_law_same _) spec_law) lawS_cl
end LK11
open PySem PySem.W PyProof.Rows
set_option maxHeartbeats 0 in
theorem PySem.Challenge.cw_plait_k11_first_fault_holds : PySem.Challenge.rw_plait_k11_first_fault.Holds := by
  w_on; o_law; k_head; (case hw => w_witness2)
  k_fill
  refine L2.walk_ofB (l := PySem.Challenge.rw_plait_k11_first_fault) (n := 63) (k := 6) (x := "_law_script") (CX := fun w => L2.CX PySem.Challenge.rw_plait_k11_first_fault.prog w) (sp := fun w => VL.spOf _ (fun _ => none) VL.LawS) rfl (by decide) rfl ⟨rfl, by decide, by decide⟩ (fun w h Y => PySem.W.kIn_of Y) ?F (fun w H a ns hl hb hO hS => VL.law_sp hl hb hO hS) (fun _ _ _ _ _ h => by obtain ⟨_, _, _, _, _, _, _, _, _, _, _, _, h⟩ := h; exact h)
  case F =>
    intro w mg fa h KX G hmg
    refine' LK11.all_mk KX G hmg (VL.FnAt.mk ?z1 ?z2 ?z3 ?z4) (VL.FnAt.mk ?z5 ?z6 ?z7 ?z8) (VL.FnAt.mk ?z9 ?z10 ?z11 ?z12) (VL.FnAt.mk ?z13 ?z14 ?z15 ?z16) (VL.FnAt.mk ?z17 ?z18 ?z19 ?z20) (VL.FnAt.mk ?z21 ?z22 ?z23 ?z24) (VL.FnAt.mk ?z25 ?z26 ?z27 ?z28) (VL.FnAt.mk ?z29 ?z30 ?z31 ?z32) (VL.FnAt.mk ?z33 ?z34 ?z35 ?z36) (VL.FnAt.mk ?z37 ?z38 ?z39 ?z40) (VL.FnAt.mk ?z41 ?z42 ?z43 ?z44) (VL.FnAt.mk ?z45 ?z46 ?z47 ?z48) (VL.FnAt.mk ?z49 ?z50 ?z51 ?z52) (VL.FnAt.mk ?z53 ?z54 ?z55 ?z56) (VL.FnAt.mk ?z57 ?z58 ?z59 ?z60) (VL.FnAt.mk ?z61 ?z62 ?z63 ?z64) (VL.FnAt.mk ?z65 ?z66 ?z67 ?z68) (VL.FnAt.mk ?z69 ?z70 ?z71 ?z72) (VL.FnAt.mk ?z73 ?z74 ?z75 ?z76) (VL.FnAt.mk ?z77 ?z78 ?z79 ?z80) (VL.FnAt.mk ?z81 ?z82 ?z83 ?z84) (VL.FnAt.mk ?z85 ?z86 ?z87 ?z88) (VL.FnAt.mk ?z89 ?z90 ?z91 ?z92) (VL.FnAt.mk ?z93 ?z94 ?z95 ?z96) (VL.FnAt.mk ?z97 ?z98 ?z99 ?z100) (VL.RefAt.mk ?z101) (VL.KitAt.mk ?z102 ?z103 ?z104) (VL.KitAt.mk ?z105 ?z106 ?z107) (VL.KitAt.mk ?z108 ?z109 ?z110) (VL.KitAt.mk ?z111 ?z112 ?z113) (VL.RefAt.mk ?z114) (VL.KitAt.mk ?z115 ?z116 ?z117) (VL.KitAt.mk ?z118 ?z119 ?z120) (VL.KitAt.mk ?z121 ?z122 ?z123) (VL.KitAt.mk ?z124 ?z125 ?z126) (VL.RefAt.mk ?z127) (VL.KitAt.mk ?z128 ?z129 ?z130) (VL.KitAt.mk ?z131 ?z132 ?z133) (VL.KitAt.mk ?z134 ?z135 ?z136) (VL.KitAt.mk ?z137 ?z138 ?z139) (VL.KitTAt.mk ?z140 ?z141) (VL.KitTAt.mk ?z142 ?z143) (VL.KitTAt.mk ?z144 ?z145) (VL.KitTAt.mk ?z146 ?z147) (VL.NoAt.mk ?z148) (VL.NoAt.mk ?z149) (VL.NoAt.mk ?z150) (VL.NoAt.mk ?z151) (VL.NoAt.mk ?z152) (VL.NoAt.mk ?z153) (VL.NoAt.mk ?z154) (VL.NoAt.mk ?z155) (VL.NoAt.mk ?z156) (VL.NoAt.mk ?z157) (VL.NoAt.mk ?z158) (VL.NoAt.mk ?z159) (VL.NoAt.mk ?z160) (VL.RefAt.mk ?z161) (VL.ExmAt.mk ?z162 ?z163 ?z164) (VL.ExmAt.mk ?z165 ?z166 ?z167) (VL.ExmAt.mk ?z168 ?z169 ?z170) (VL.ExmAt.mk ?z171 ?z172 ?z173) (VL.IntAt.mk ?z174) (VL.IntAt.mk ?z175) (VL.ExcAt.mk ?z176 ?z177 ?z178 ?z179 ?z180 ?z181 ?z182 ?z183 ?z184) (VL.ExcAt.mk ?z185 ?z186 ?z187 ?z188 ?z189 ?z190 ?z191 ?z192 ?z193) (VL.ExcAt.mk ?z194 ?z195 ?z196 ?z197 ?z198 ?z199 ?z200 ?z201 ?z202) (VL.ExcAt.mk ?z203 ?z204 ?z205 ?z206 ?z207 ?z208 ?z209 ?z210 ?z211) (VL.InitAt.mk ?z212 ?z213 ?z214 ?z215 ?z216 ?z217 ?z218 ?z219 ?z220 ?z221 ?z222 ?z223 ?z224)
    (case z1 => k_is); (case z2 => k_is); (case z3 => k_is); (case z4 => k_is)
    (case z5 => k_is); (case z6 => k_is); (case z7 => k_is); (case z8 => k_is)
    (case z9 => k_is); (case z10 => k_is); (case z11 => k_is); (case z12 => k_is)
    (case z13 => k_is); (case z14 => k_is); (case z15 => k_is); (case z16 => k_is)
    (case z17 => k_is); (case z18 => k_is); (case z19 => k_is); (case z20 => k_is)
    (case z21 => k_is); (case z22 => k_is); (case z23 => k_is); (case z24 => k_is)
    (case z25 => k_is); (case z26 => k_is); (case z27 => k_is); (case z28 => k_is)
    (case z29 => k_is); (case z30 => k_is); (case z31 => k_is); (case z32 => k_is)
    (case z33 => k_is); (case z34 => k_is); (case z35 => k_is); (case z36 => k_is)
    (case z37 => k_is); (case z38 => k_is); (case z39 => k_is); (case z40 => k_is)
    (case z41 => k_is); (case z42 => k_is); (case z43 => k_is); (case z44 => k_is)
    (case z45 => k_is); (case z46 => k_is); (case z47 => k_is); (case z48 => k_is)
    (case z49 => k_is); (case z50 => k_is); (case z51 => k_is); (case z52 => k_is)
    (case z53 => k_is); (case z54 => k_is); (case z55 => k_is); (case z56 => k_is)
    (case z57 => k_is); (case z58 => k_is); (case z59 => k_is); (case z60 => k_is)
    (case z61 => k_is); (case z62 => k_is); (case z63 => k_is); (case z64 => k_is)
    (case z65 => k_is); (case z66 => k_is); (case z67 => k_is); (case z68 => k_is)
    (case z69 => k_is); (case z70 => k_is); (case z71 => k_is); (case z72 => k_is)
    (case z73 => k_is); (case z74 => k_is); (case z75 => k_is); (case z76 => k_is)
    (case z77 => k_is); (case z78 => k_is); (case z79 => k_is); (case z80 => k_is)
    (case z81 => k_is); (case z82 => k_is); (case z83 => k_is); (case z84 => k_is)
    (case z85 => k_is); (case z86 => k_is); (case z87 => k_is); (case z88 => k_is)
    (case z89 => k_is); (case z90 => k_is); (case z91 => k_is); (case z92 => k_is)
    (case z93 => k_is); (case z94 => k_is); (case z95 => k_is); (case z96 => k_is)
    (case z97 => k_is); (case z98 => k_is); (case z99 => k_is); (case z100 => k_is)
    (case z101 => k_is)
    (case z102 => k_is); (case z103 => k_is); (case z104 => kit_is)
    (case z105 => k_is); (case z106 => k_is); (case z107 => kit_is)
    (case z108 => k_is); (case z109 => k_is); (case z110 => kit_is)
    (case z111 => k_is); (case z112 => k_is); (case z113 => kit_is)
    (case z114 => k_is)
    (case z115 => k_is); (case z116 => k_is); (case z117 => kit_is)
    (case z118 => k_is); (case z119 => k_is); (case z120 => kit_is)
    (case z121 => k_is); (case z122 => k_is); (case z123 => kit_is)
    (case z124 => k_is); (case z125 => k_is); (case z126 => kit_is)
    (case z127 => k_is)
    (case z128 => k_is); (case z129 => k_is); (case z130 => kit_is)
    (case z131 => k_is); (case z132 => k_is); (case z133 => kit_is)
    (case z134 => k_is); (case z135 => k_is); (case z136 => kit_is)
    (case z137 => k_is); (case z138 => k_is); (case z139 => kit_is)
    (case z140 => k_is); (case z141 => kit_is)
    (case z142 => k_is); (case z143 => kit_is)
    (case z144 => k_is); (case z145 => kit_is)
    (case z146 => k_is); (case z147 => kit_is)
    (case z148 => k_is)
    (case z149 => k_is)
    (case z150 => k_is)
    (case z151 => k_is)
    (case z152 => k_is)
    (case z153 => k_is)
    (case z154 => k_is)
    (case z155 => k_is)
    (case z156 => k_is)
    (case z157 => k_is)
    (case z158 => k_is)
    (case z159 => k_is)
    (case z160 => k_is)
    (case z161 => k_is)
    (case z162 => k_is); (case z163 => k_is); (case z164 => kts_exm)
    (case z165 => k_is); (case z166 => k_is); (case z167 => kts_exm)
    (case z168 => k_is); (case z169 => k_is); (case z170 => kts_exm)
    (case z171 => k_is); (case z172 => k_is); (case z173 => kts_exm)
    (case z174 => k_is)
    (case z175 => k_is)
    (case z176 => k_is); (case z177 => k_is); (case z178 => k_is); (case z179 => k_is); (case z180 => k_is); (case z181 => k_is); (case z182 => k_is); (case z183 => k_is); (case z184 => k_is)
    (case z185 => k_is); (case z186 => k_is); (case z187 => k_is); (case z188 => k_is); (case z189 => k_is); (case z190 => k_is); (case z191 => k_is); (case z192 => k_is); (case z193 => k_is)
    (case z194 => k_is); (case z195 => k_is); (case z196 => k_is); (case z197 => k_is); (case z198 => k_is); (case z199 => k_is); (case z200 => k_is); (case z201 => k_is); (case z202 => k_is)
    (case z203 => k_is); (case z204 => k_is); (case z205 => k_is); (case z206 => k_is); (case z207 => k_is); (case z208 => k_is); (case z209 => k_is); (case z210 => k_is); (case z211 => k_is)
    (case z212 => k_is); (case z213 => k_is); (case z214 => rfl); (case z215 => k_is); (case z216 => k_is); (case z217 => k_is); (case z218 => k_is); (case z219 => k_is); (case z220 => k_is); (case z221 => k_is); (case z222 => k_is); (case z223 => k_is); (case z224 => k_is)
