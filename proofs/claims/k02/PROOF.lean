import PyProof.Rows.All
import Wide.All
import OpenK.AllK
import Wide.FinOn
import HandS.ForMost
import HandS.Exc
import HandS.ExcOwn
import HandS.WordsExc
import HandS.IsInst
import HandS.TupAny
import HandS.TupLen
import HandS.Conv
import HandS.Deep
import HandS.SortInts
import KE.KTupSum
import HandS.Zip
import HandS.Comp
import PyProof.AutoSeq1
import HandS.ExcField
import HandS.CallLocal
import HandS.EndBits
import HandS.HeadHook1
import HandS.SetFor
import KE.GoesEnum
import HandS.DictComp
import HandS.ExcInit
import KE.KOpsOwn
import KE.KCallOwn
import HandS.Defaults
import HandS.FStr
import HandS.HeadHook2
import HandS.Style
import HandS.Text
import HandS.Iter
import KE.KxWritten
import PyProof.StrBlock2
import HandS.OwnEq
import KE.GoesRaise
import PySem.Challenge.RW_surfaceroads_k02_whole_rows_and_texts_of
import PyProof.FitsInt
import KE.IntTextLaws
import PyProof.Rows.StrLawsPart
import PyProof.StrLawsAffix
set_option Elab.async false
set_option linter.all false
set_option maxRecDepth 100000
set_option maxHeartbeats 0
namespace PV
open PySem PySem.Spec
open PyProof.Rows L2

/-! ## 1. plain values -/
/-- a plain value -/
inductive D where
  | non | bl (b : Bool) | int (i : Int) | str (x : Str) | fn (x : Str)
  | tup (ds : List D) | lst (ds : List D) | dct (kvs : List (D × D)) | dcT (kvs : List (D × D)) | obj (c : Str) (fs : List (Str × D)) | scr (is : List Int)
/-- how an exception of the program looks -/
inductive Exn where
  | mal | refu (d : D) | note (d : D)
/-- a result: a value, an exception, or nothing is said -/
inductive R (α : Type) where
  | ok (a : α) | exc (x : Exn) | fail
abbrev Env := List (Option D)
abbrev M (α : Type) := Env → R (α × Env)
def R.bind {α β : Type} (r : R α) (f : α → R β) : R β := match r with
  | .ok a => f a
  | .exc x => .exc x
  | .fail => .fail
def M.bind {α β : Type} (m : M α) (f : α → M β) : M β := fun ρ => match m ρ with
  | .ok (a, ρ') => f a ρ'
  | .exc x => .exc x
  | .fail => .fail
def M.pure {α : Type} (a : α) : M α := fun ρ => .ok (a, ρ)
/-- what must hold so that r ends as told -/
def Wp {α : Type} (r : R α) (P : α → Prop) (N : Exn → Prop) : Prop := match r with
  | .ok a => P a
  | .exc x => N x
  | .fail => False
theorem Wp.imp {α : Type} {r : R α} {P P' : α → Prop} {N N' : Exn → Prop} (h : Wp r P N) (hp : ∀ a, P a → P' a) (hn : ∀ x, N x → N' x) : Wp r P' N' := by
  cases r with
  | ok a => exact hp _ h
  | exc x => exact hn _ h
  | fail => exact h
theorem Wp.bindM {α β : Type} {m : M α} {f : α → M β} {ρ : PV.Env} {P : β × PV.Env → Prop} {N : Exn → Prop} (h : Wp (m ρ) (fun p => Wp (f p.1 p.2) P N) N) : Wp (M.bind m f ρ) P N := by
  unfold M.bind
  cases e : m ρ with
  | ok p => rw [e] at h; exact h
  | exc x => rw [e] at h; exact h
  | fail => rw [e] at h; exact h
theorem Wp.ofBindM {α β : Type} {m : M α} {f : α → M β} {ρ : PV.Env} {P : β × PV.Env → Prop} {N : Exn → Prop} (h : Wp (M.bind m f ρ) P N) : Wp (m ρ) (fun p => Wp (f p.1 p.2) P N) N := by
  unfold M.bind at h
  cases e : m ρ with
  | ok p => rw [e] at h; exact h
  | exc x => rw [e] at h; exact h
  | fail => rw [e] at h; exact h

/-! ## 2. what a value of the machine stands for -/
def keyD : Key → D
  | .inl i => .int i
  | .inr x => .str x
section
variable (K : PySem.W.Frag) (mg : Str → Option Value)
mutual
inductive Rp (H : Hp) : V → D → Prop
  | non : Rp H .non .non
  | bl (b : Bool) : Rp H (.bl b) (.bl b)
  | int (i : Int) : Rp H (.int i) (.int i)
  | str (x : Str) : Rp H (.str x) (.str x)
  | fn {a : Addr} {x : Str} : mg x = some (.ref a) → Rp H (.ref a) (.fn x)
  | tup {a : Addr} {vs : List V} {ds : List D} : H a = some (.tup vs) → RpL H vs ds → Rp H (.ref a) (.tup ds)
  | lst {a : Addr} {vs : List V} {ds : List D} : H a = some (.lst vs) → RpL H vs ds → Rp H (.ref a) (.lst ds)
  | scr {a : Addr} {is : List Int} : SqL K H a (is.map V.int) → Rp H (.ref a) (.scr is)
  | dctK {a : Addr} {kvs : List (Key × V)} {ds : List (D × D)} : H a = some (.dK kvs) → kvs.map (fun p => keyD p.1) = ds.map (fun p => p.1) → RpL H (kvs.map (fun p => p.2)) (ds.map (fun p => p.2)) → Rp H (.ref a) (.dct ds)
  | dctT {a : Addr} {kvs : List (List Key × V)} {ds : List (D × D)} : H a = some (.dT kvs) → kvs.map (fun p => D.tup (p.1.map keyD)) = ds.map (fun p => p.1) → RpL H (kvs.map (fun p => p.2)) (ds.map (fun p => p.2)) → Rp H (.ref a) (.dcT ds)
  | obj {a C dx : Addr} {c : Str} {fs : List (Str × V)} {ds : List (Str × D)} : H a = some (.ins C dx fs) → mg c = some (.ref C) → fs.map (fun p => p.1) = ds.map (fun p => p.1) → RpL H (fs.map (fun p => p.2)) (ds.map (fun p => p.2)) → Rp H (.ref a) (.obj c ds)
inductive RpL (H : Hp) : List V → List D → Prop
  | nil : RpL H [] []
  | cons {v : V} {vs : List V} {d : D} {ds : List D} : Rp H v d → RpL H vs ds → RpL H (v :: vs) (d :: ds)
end
end
section
variable {K : PySem.W.Frag} {mg : Str → Option Value} {H H' : Hp}
theorem same_upd {p : Addr} {o : HO} (h : H p = none) : Same H (upd H p o) := fun b x e => by
  rw [upd_ne (ne_of_none e h)]
  exact e
mutual
theorem Rp.mono (s : Same H H') : ∀ {v : V} {d : D}, Rp K mg H v d → Rp K mg H' v d
  | _, _, .non => .non
  | _, _, .bl b => .bl b
  | _, _, .int i => .int i
  | _, _, .str x => .str x
  | _, _, .fn h => .fn h
  | _, _, .tup h r => .tup (s _ _ h) (RpL.mono s r)
  | _, _, .lst h r => .lst (s _ _ h) (RpL.mono s r)
  | _, _, .scr h => .scr (s.seq h)
  | _, _, .dctK h e r => .dctK (s _ _ h) e (RpL.mono s r)
  | _, _, .dctT h e r => .dctT (s _ _ h) e (RpL.mono s r)
  | _, _, .obj h c e r => .obj (s _ _ h) c e (RpL.mono s r)
theorem RpL.mono (s : Same H H') : ∀ {vs : List V} {ds : List D}, RpL K mg H vs ds → RpL K mg H' vs ds
  | _, _, .nil => .nil
  | _, _, .cons h r => .cons (Rp.mono s h) (RpL.mono s r)
end
theorem Rp.tup_inv {v : V} {ds : List D} (h : Rp K mg H v (.tup ds)) : ∃ a vs, v = .ref a ∧ H a = some (.tup vs) ∧ RpL K mg H vs ds := by
  cases h with
  | tup h r => exact ⟨_, _, rfl, h, r⟩
theorem Rp.lst_inv {v : V} {ds : List D} (h : Rp K mg H v (.lst ds)) : ∃ a vs, v = .ref a ∧ H a = some (.lst vs) ∧ RpL K mg H vs ds := by
  cases h with
  | lst h r => exact ⟨_, _, rfl, h, r⟩
theorem Rp.dct_inv {v : V} {ds : List (D × D)} (h : Rp K mg H v (.dct ds)) : ∃ a kvs, v = .ref a ∧ H a = some (.dK kvs) ∧ kvs.map (fun p => keyD p.1) = ds.map (fun p => p.1) ∧ RpL K mg H (kvs.map (fun p => p.2)) (ds.map (fun p => p.2)) := by
  cases h with
  | dctK h e r => exact ⟨_, _, rfl, h, e, r⟩
theorem Rp.dcT_inv {v : V} {ds : List (D × D)} (h : Rp K mg H v (.dcT ds)) : ∃ a kvs, v = .ref a ∧ H a = some (.dT kvs) ∧ kvs.map (fun p => D.tup (p.1.map keyD)) = ds.map (fun p => p.1) ∧ RpL K mg H (kvs.map (fun p => p.2)) (ds.map (fun p => p.2)) := by
  cases h with
  | dctT h e r => exact ⟨_, _, rfl, h, e, r⟩
theorem RpL.length : ∀ {vs : List V} {ds : List D}, RpL K mg H vs ds → vs.length = ds.length
  | _, _, .nil => rfl
  | _, _, .cons _ r => by rw [List.length_cons, List.length_cons, RpL.length r]
theorem RpL.get : ∀ {vs : List V} {ds : List D} {i : Nat} {v : V}, RpL K mg H vs ds → vs[i]? = some v → ∃ d, ds[i]? = some d ∧ Rp K mg H v d
  | _, _, _, _, .nil, e => by rw [List.getElem?_nil] at e; exact nomatch e
  | _, _, 0, _, .cons h _, e => by simp at e; subst e; exact ⟨_, rfl, h⟩
  | _, _, i + 1, v, .cons _ r, e => by
    obtain ⟨d, h1, h2⟩ := RpL.get (i := i) (v := v) r (by simpa using e)
    exact ⟨d, by simpa using h1, h2⟩
theorem RpL.getD : ∀ {vs : List V} {ds : List D} {i : Nat} {d : D}, RpL K mg H vs ds → ds[i]? = some d → ∃ v, vs[i]? = some v ∧ Rp K mg H v d
  | _, _, _, _, .nil, e => by rw [List.getElem?_nil] at e; exact nomatch e
  | _, _, 0, _, .cons h _, e => by simp at e; subst e; exact ⟨_, rfl, h⟩
  | _, _, i + 1, v, .cons _ r, e => by
    obtain ⟨d, h1, h2⟩ := RpL.getD (i := i) (d := v) r (by simpa using e)
    exact ⟨d, by simpa using h1, h2⟩
theorem RpL.append : ∀ {vs us : List V} {ds es : List D}, RpL K mg H vs ds → RpL K mg H us es → RpL K mg H (vs ++ us) (ds ++ es)
  | _, _, _, _, .nil, q => q
  | _, _, _, _, .cons h r, q => .cons h (RpL.append r q)
theorem RpL.take : ∀ {vs : List V} {ds : List D} (n : Nat), RpL K mg H vs ds → RpL K mg H (vs.take n) (ds.take n)
  | _, _, 0, _ => .nil
  | _, _, _ + 1, .nil => .nil
  | _, _, n + 1, .cons h r => .cons h (RpL.take n r)
theorem RpL.drop : ∀ {vs : List V} {ds : List D} (n : Nat), RpL K mg H vs ds → RpL K mg H (vs.drop n) (ds.drop n)
  | _, _, 0, r => r
  | _, _, _ + 1, .nil => .nil
  | _, _, n + 1, .cons _ r => RpL.drop n r
theorem RpL.reverse : ∀ {vs : List V} {ds : List D}, RpL K mg H vs ds → RpL K mg H vs.reverse ds.reverse
  | _, _, .nil => .nil
  | _, _, .cons h r => by
    simp only [List.reverse_cons]
    exact RpL.append (RpL.reverse r) (.cons h .nil)
theorem RpL.set : ∀ {vs : List V} {ds : List D} (i : Nat) {v : V} {d : D}, RpL K mg H vs ds → Rp K mg H v d → RpL K mg H (vs.set i v) (ds.set i d)
  | _, _, _, _, _, .nil, _ => .nil
  | _, _, 0, _, _, .cons _ r, q => .cons q r
  | _, _, i + 1, _, _, .cons h r, q => .cons h (RpL.set i r q)
theorem RpL.dropLast : ∀ {vs : List V} {ds : List D}, RpL K mg H vs ds → RpL K mg H vs.dropLast ds.dropLast := fun {vs ds} r => by
  rw [List.dropLast_eq_take, List.dropLast_eq_take, r.length]
  exact r.take _
theorem RpL.eraseIdx : ∀ {vs : List V} {ds : List D} (i : Nat), RpL K mg H vs ds → RpL K mg H (vs.eraseIdx i) (ds.eraseIdx i)
  | _, _, _, .nil => .nil
  | _, _, 0, .cons _ r => r
  | _, _, i + 1, .cons h r => .cons h (RpL.eraseIdx i r)
theorem RpL.ints : ∀ {vs : List V} {is : List Int}, RpL K mg H vs (is.map D.int) → vs = is.map V.int
  | _, [], .nil => rfl
  | _, _ :: _, .cons (.int _) r => by rw [List.map_cons, RpL.ints r]
theorem RpL.bls : ∀ {vs : List V} {is : List Bool}, RpL K mg H vs (is.map D.bl) → vs = is.map V.bl
  | _, [], .nil => rfl
  | _, _ :: _, .cons (.bl _) r => by rw [List.map_cons, RpL.bls r]
theorem RpL.strs : ∀ {vs : List V} {is : List Str}, RpL K mg H vs (is.map D.str) → vs = is.map V.str
  | _, [], .nil => rfl
  | _, _ :: _, .cons (.str _) r => by rw [List.map_cons, RpL.strs r]
theorem RpL.ofInts : ∀ (is : List Int), RpL K mg H (is.map V.int) (is.map D.int)
  | [] => .nil
  | i :: r => .cons (.int i) (RpL.ofInts r)
theorem Rp.scr_inv {v : V} {is : List Int} (h : Rp K mg H v (.scr is)) {G : Hp} : ∃ a vs, v = .ref a ∧ SqL K H a vs ∧ RpL K mg G vs (is.map D.int) := by
  cases h with
  | scr h => exact ⟨_, _, rfl, h, .ofInts is⟩
end

/-! ## 3. owned values -/
/-- d is told by v, the objects at fp being its own -/
inductive OwnL (Q : D → V → List Addr → Prop) : List D → List V → List Addr → Prop
  | nil : OwnL Q [] [] []
  | cons {d : D} {v : V} {fp : List Addr} {ds : List D} {vs : List V} {fps : List Addr} : Q d v fp → OwnL Q ds vs fps → OwnL Q (d :: ds) (v :: vs) (fp ++ fps)
theorem OwnL.imp {Q Q' : D → V → List Addr → Prop} : ∀ {ds : List D} {vs : List V} {fp : List Addr}, OwnL Q ds vs fp → (∀ d v f, (∀ a ∈ f, a ∈ fp) → Q d v f → Q' d v f) → OwnL Q' ds vs fp
  | _, _, _, .nil, _ => .nil
  | _, _, _, .cons h r, k => .cons (k _ _ _ (fun a ha => List.mem_append_left _ ha) h) (OwnL.imp r fun d v f hf q => k d v f (fun a ha => List.mem_append_right _ (hf a ha)) q)
theorem OwnL.rpl {K : PySem.W.Frag} {mg : Str → Option Value} {H : Hp} {Q : D → V → List Addr → Prop} : ∀ {ds : List D} {vs : List V} {fp : List Addr}, OwnL Q ds vs fp → (∀ d v f, (∀ a ∈ f, a ∈ fp) → Q d v f → Rp K mg H v d) → RpL K mg H vs ds
  | _, _, _, .nil, _ => .nil
  | _, _, _, .cons h r, k => .cons (k _ _ _ (fun a ha => List.mem_append_left _ ha) h) (OwnL.rpl r fun d v f hf q => k d v f (fun a ha => List.mem_append_right _ (hf a ha)) q)
theorem OwnL.length {Q : D → V → List Addr → Prop} : ∀ {ds : List D} {vs : List V} {fp : List Addr}, OwnL Q ds vs fp → vs.length = ds.length
  | _, _, _, .nil => rfl
  | _, _, _, .cons _ r => by rw [List.length_cons, List.length_cons, OwnL.length r]
theorem OwnL.append {Q : D → V → List Addr → Prop} : ∀ {ds : List D} {vs : List V} {fp : List Addr} {ds' : List D} {vs' : List V} {fp' : List Addr}, OwnL Q ds vs fp → OwnL Q ds' vs' fp' → OwnL Q (ds ++ ds') (vs ++ vs') (fp ++ fp')
  | _, _, _, _, _, _, .nil, q => q
  | _, _, _, _, _, _, .cons h r, q => by
    rw [List.append_assoc]
    exact .cons h (OwnL.append r q)
/-- at a stands a container d: its parts, as they are told, as they stand -/
def Cont (mg : Str → Option Value) (H : Hp) (a : Addr) (d : D) (ds : List D) (vs : List V) : Prop :=
  (d = .lst ds ∧ H a = some (.lst vs)) ∨
  (∃ es kvs, d = .dct es ∧ H a = some (.dK kvs) ∧ kvs.map (fun p => keyD p.1) = es.map (fun p => p.1) ∧ ds = es.map (fun p => p.2) ∧ vs = kvs.map (fun p => p.2)) ∨
  (∃ es kvs, d = .dcT es ∧ H a = some (.dT kvs) ∧ kvs.map (fun p => D.tup (p.1.map keyD)) = es.map (fun p => p.1) ∧ ds = es.map (fun p => p.2) ∧ vs = kvs.map (fun p => p.2)) ∨
  (∃ c C dx es us, d = .obj c es ∧ H a = some (.ins C dx us) ∧ mg c = some (.ref C) ∧ us.map (fun p => p.1) = es.map (fun p => p.1) ∧ ds = es.map (fun p => p.2) ∧ vs = us.map (fun p => p.2))
section
variable {K : PySem.W.Frag} {mg : Str → Option Value} {H H' : Hp} {a : Addr} {d : D} {ds : List D} {vs : List V}
theorem Cont.live (c : Cont mg H a d ds vs) : H a ≠ none := by
  rcases c with ⟨_, e⟩ | ⟨_, _, _, e, _⟩ | ⟨_, _, _, e, _⟩ | ⟨_, _, _, _, _, _, e, _⟩ <;> (rw [e]; exact fun z => nomatch z)
theorem Cont.keep (c : Cont mg H a d ds vs) (k : ∀ o, H a = some o → H' a = some o) : Cont mg H' a d ds vs := by
  rcases c with ⟨e1, e⟩ | ⟨es, kvs, e1, e, r⟩ | ⟨es, kvs, e1, e, r⟩ | ⟨c, C, dx, es, us, e1, e, r⟩
  · exact .inl ⟨e1, k _ e⟩
  · exact .inr (.inl ⟨es, kvs, e1, k _ e, r⟩)
  · exact .inr (.inr (.inl ⟨es, kvs, e1, k _ e, r⟩))
  · exact .inr (.inr (.inr ⟨c, C, dx, es, us, e1, k _ e, r⟩))
theorem Cont.rp (c : Cont mg H a d ds vs) (r : RpL K mg H vs ds) : Rp K mg H (.ref a) d := by
  rcases c with ⟨rfl, e⟩ | ⟨es, kvs, rfl, e, ks, rfl, rfl⟩ | ⟨es, kvs, rfl, e, ks, rfl, rfl⟩ | ⟨c, C, dx, es, us, rfl, e, g, ks, rfl, rfl⟩
  · exact .lst e r
  · exact .dctK e ks r
  · exact .dctT e ks r
  · exact .obj e g ks r
theorem Cont.lst {es : List D} (c : Cont mg H a (.lst es) ds vs) : ds = es ∧ H a = some (.lst vs) := by
  rcases c with ⟨z, e⟩ | ⟨_, _, z, _⟩ | ⟨_, _, z, _⟩ | ⟨_, _, _, _, _, z, _⟩ <;> first | (cases z; exact ⟨rfl, e⟩) | cases z
theorem Cont.dct {es : List (D × D)} (c : Cont mg H a (.dct es) ds vs) : ∃ kvs, H a = some (.dK kvs) ∧ kvs.map (fun p => keyD p.1) = es.map (fun p => p.1) ∧ ds = es.map (fun p => p.2) ∧ vs = kvs.map (fun p => p.2) := by
  rcases c with ⟨z, _⟩ | ⟨_, kvs, z, r⟩ | ⟨_, _, z, _⟩ | ⟨_, _, _, _, _, z, _⟩ <;> first | (cases z; exact ⟨kvs, r⟩) | cases z
theorem Cont.dcT {es : List (D × D)} (c : Cont mg H a (.dcT es) ds vs) : ∃ kvs, H a = some (.dT kvs) ∧ kvs.map (fun p => D.tup (p.1.map keyD)) = es.map (fun p => p.1) ∧ ds = es.map (fun p => p.2) ∧ vs = kvs.map (fun p => p.2) := by
  rcases c with ⟨z, _⟩ | ⟨_, _, z, _⟩ | ⟨_, kvs, z, r⟩ | ⟨_, _, _, _, _, z, _⟩ <;> first | (cases z; exact ⟨kvs, r⟩) | cases z
theorem Cont.obj {c : Str} {es : List (Str × D)} (q : Cont mg H a (.obj c es) ds vs) : ∃ C dx us, H a = some (.ins C dx us) ∧ mg c = some (.ref C) ∧ us.map (fun p => p.1) = es.map (fun p => p.1) ∧ ds = es.map (fun p => p.2) ∧ vs = us.map (fun p => p.2) := by
  rcases q with ⟨z, _⟩ | ⟨_, _, z, _⟩ | ⟨_, _, z, _⟩ | ⟨_, C, dx, _, us, z, r⟩ <;> first | (cases z; exact ⟨C, dx, us, r⟩) | cases z
/-- what is no container -/
def isCont : D → Bool
  | .lst _ => true
  | .dct _ => true
  | .dcT _ => true
  | .obj _ _ => true
  | _ => false
theorem Cont.is (c : Cont mg H a d ds vs) : isCont d = true := by
  rcases c with ⟨rfl, _⟩ | ⟨_, _, rfl, _⟩ | ⟨_, _, rfl, _⟩ | ⟨_, _, _, _, _, rfl, _⟩ <;> rfl
end
section
variable (K : PySem.W.Frag) (mg : Str → Option Value)
def Own (G H : Hp) : Nat → D → V → List Addr → Prop
  | 0, d, v, fp => Rp K mg G v d ∧ fp = []
  | n + 1, d, v, fp => ∃ a rest ds vs, v = .ref a ∧ fp = a :: rest ∧ Cont mg H a d ds vs ∧ OwnL (Own G H n) ds vs rest
end
section
variable {K : PySem.W.Frag} {mg : Str → Option Value} {G H G' H' : Hp}
theorem Own.rp (s : Same G H) : ∀ {n : Nat} {d : D} {v : V} {fp : List Addr}, Own K mg G H n d v fp → Rp K mg H v d
  | 0, _, _, _, ⟨h, _⟩ => h.mono s
  | n + 1, _, _, _, ⟨a, rest, ds, vs, rfl, _, c, hl⟩ => c.rp (hl.rpl fun _ _ _ _ q => Own.rp s q)
/-- what is not touched stays -/
theorem Own.frame (s : Same G G') : ∀ {n : Nat} {d : D} {v : V} {fp : List Addr}, (∀ a ∈ fp, ∀ o, H a = some o → H' a = some o) → Own K mg G H n d v fp → Own K mg G' H' n d v fp
  | 0, _, _, _, _, ⟨h, e⟩ => ⟨h.mono s, e⟩
  | n + 1, _, _, _, k, ⟨a, rest, ds, vs, e1, e2, c, hl⟩ => by
    subst e2
    exact ⟨a, rest, ds, vs, e1, rfl, c.keep (k a List.mem_cons_self), hl.imp fun _ _ _ hf q => Own.frame s (fun b hb o => k b (List.mem_cons_of_mem _ (hf b hb)) o) q⟩
theorem OwnL.dom {Q : D → V → List Addr → Prop} {P : Addr → Prop} : ∀ {ds : List D} {vs : List V} {fp : List Addr}, OwnL Q ds vs fp → (∀ d v f, Q d v f → ∀ a ∈ f, P a) → ∀ a ∈ fp, P a
  | _, _, _, .nil, _, _, h => nomatch h
  | _, _, _, .cons h r, k, a, ha => (List.mem_append.mp ha).elim (k _ _ _ h a) (OwnL.dom r k a)
theorem Own.dom : ∀ {n : Nat} {d : D} {v : V} {fp : List Addr}, Own K mg G H n d v fp → ∀ a ∈ fp, H a ≠ none
  | 0, _, _, _, ⟨_, e⟩, a, ha => by rw [e] at ha; cases ha
  | n + 1, _, _, _, ⟨a, rest, ds, vs, _, e, c, hl⟩, b, hb => by
    subst e
    rcases List.mem_cons.1 hb with rfl | hb
    · exact c.live
    · exact hl.dom (fun _ _ _ q => Own.dom q) b hb
/-- frozen: the own objects join the shared part -/
def join (G H : Hp) (fp : List Addr) : Hp := fun a => if a ∈ fp then H a else G a
theorem join_same {fp : List Addr} (h : ∀ a ∈ fp, G a = none) : Same G (join G H fp) := fun a o e => by
  unfold join
  rw [if_neg (fun z => by rw [h a z] at e; cases e)]
  exact e
theorem join_sub {fp : List Addr} (s : Same G H) : Same (join G H fp) H := fun a o e => by
  unfold join at e
  by_cases z : a ∈ fp
  · rw [if_pos z] at e; exact e
  · rw [if_neg z] at e; exact s _ _ e
theorem Own.frozen (s : Same G G') : ∀ {n : Nat} {d : D} {v : V} {fp : List Addr}, (∀ a ∈ fp, ∀ o, H a = some o → G' a = some o) → Own K mg G H n d v fp → Rp K mg G' v d
  | 0, _, _, _, _, ⟨h, _⟩ => h.mono s
  | n + 1, _, _, _, k, ⟨a, rest, ds, vs, e1, e2, c, hl⟩ => by
    subst e1
    subst e2
    exact (c.keep (k a List.mem_cons_self)).rp (hl.rpl fun _ _ _ hf q => Own.frozen s (fun b hb o => k b (List.mem_cons_of_mem _ (hf b hb)) o) q)
end

/-! ### read for a while: to a depth the objects may change later, below they are shared -/
inductive All2 (Q : D → V → Prop) : List D → List V → Prop
  | nil : All2 Q [] []
  | cons {d : D} {v : V} {ds : List D} {vs : List V} : Q d v → All2 Q ds vs → All2 Q (d :: ds) (v :: vs)
theorem All2.imp {Q Q' : D → V → Prop} : ∀ {ds : List D} {vs : List V}, All2 Q ds vs → (∀ d v, Q d v → Q' d v) → All2 Q' ds vs
  | _, _, .nil, _ => .nil
  | _, _, .cons h r, k => .cons (k _ _ h) (All2.imp r k)
theorem All2.length {Q : D → V → Prop} : ∀ {ds : List D} {vs : List V}, All2 Q ds vs → vs.length = ds.length
  | _, _, .nil => rfl
  | _, _, .cons _ r => by rw [List.length_cons, List.length_cons, All2.length r]
theorem All2.getD {Q : D → V → Prop} : ∀ {ds : List D} {vs : List V} {i : Nat} {d : D}, All2 Q ds vs → ds[i]? = some d → ∃ v, vs[i]? = some v ∧ Q d v
  | _, _, _, _, .nil, e => by rw [List.getElem?_nil] at e; exact nomatch e
  | _, _, 0, _, .cons h _, e => by simp at e; subst e; exact ⟨_, rfl, h⟩
  | _, _, i + 1, d, .cons _ r, e => by
    obtain ⟨v, h1, h2⟩ := All2.getD (i := i) (d := d) r (by simpa using e)
    exact ⟨v, by simpa using h1, h2⟩
theorem OwnL.all2 {Q : D → V → List Addr → Prop} {Q' : D → V → Prop} : ∀ {ds : List D} {vs : List V} {fp : List Addr}, OwnL Q ds vs fp → (∀ d v f, Q d v f → Q' d v) → All2 Q' ds vs
  | _, _, _, .nil, _ => .nil
  | _, _, _, .cons h r, k => .cons (k _ _ _ h) (OwnL.all2 r k)
section
variable (K : PySem.W.Frag) (mg : Str → Option Value)
theorem All2.rpl {H : Hp} {Q : D → V → Prop} : ∀ {ds : List D} {vs : List V}, All2 Q ds vs → (∀ d v, Q d v → Rp K mg H v d) → RpL K mg H vs ds
  | _, _, .nil, _ => .nil
  | _, _, .cons h r, k => .cons (k _ _ h) (All2.rpl r k)
theorem All2.ofRpl {H : Hp} {Q : D → V → Prop} : ∀ {ds : List D} {vs : List V}, RpL K mg H vs ds → (∀ d v, Rp K mg H v d → Q d v) → All2 Q ds vs
  | _, _, .nil, _ => .nil
  | _, _, .cons h r, k => .cons (k _ _ h) (All2.ofRpl r k)
def RdV (G H : Hp) : Nat → D → V → Prop
  | 0, d, v => Rp K mg G v d
  | n + 1, d, v => Rp K mg G v d ∨ ∃ a ds vs, v = .ref a ∧ Cont mg H a d ds vs ∧ All2 (RdV G H n) ds vs
end
section
variable {K : PySem.W.Frag} {mg : Str → Option Value} {G H G' H' : Hp}
theorem RdV.ofRp {d : D} {v : V} (h : Rp K mg G v d) : ∀ {n : Nat}, RdV K mg G H n d v
  | 0 => h
  | _ + 1 => .inl h
theorem RdV.up : ∀ {n : Nat} {d : D} {v : V}, RdV K mg G H n d v → RdV K mg G H (n + 1) d v
  | 0, _, _, h => .inl h
  | n + 1, _, _, h => h.imp id fun ⟨a, ds, vs, e, c, hl⟩ => ⟨a, ds, vs, e, c, hl.imp fun _ _ q => RdV.up q⟩
theorem RdV.mono (sg : Same G G') (sh : Same H H') : ∀ {n : Nat} {d : D} {v : V}, RdV K mg G H n d v → RdV K mg G' H' n d v
  | 0, _, _, h => Rp.mono sg h
  | n + 1, _, _, h => h.imp (fun r => r.mono sg) fun ⟨a, ds, vs, e, c, hl⟩ => ⟨a, ds, vs, e, c.keep (sh a), hl.imp fun _ _ q => RdV.mono sg sh q⟩
theorem RdV.rp (s : Same G H) : ∀ {n : Nat} {d : D} {v : V}, RdV K mg G H n d v → Rp K mg H v d
  | 0, _, _, h => Rp.mono s h
  | n + 1, _, _, h => by
    rcases h with h | ⟨a, ds, vs, rfl, c, hl⟩
    · exact h.mono s
    · exact c.rp (hl.rpl _ _ fun _ _ q => RdV.rp s q)
theorem Own.rd : ∀ {n : Nat} {d : D} {v : V} {fp : List Addr}, Own K mg G H n d v fp → RdV K mg G H n d v
  | 0, _, _, _, ⟨h, _⟩ => h
  | n + 1, _, _, _, ⟨a, rest, ds, vs, e, _, c, hl⟩ => .inr ⟨a, ds, vs, e, c, hl.all2 fun _ _ _ q => Own.rd q⟩
/-- what is no container is shared -/
theorem RdV.plain {d : D} (z : isCont d = false) : ∀ {n : Nat} {v : V}, RdV K mg G H n d v → Rp K mg G v d
  | 0, _, h => h
  | _ + 1, _, h => h.elim id fun ⟨_, _, _, _, c, _⟩ => by rw [c.is] at z; cases z
theorem RdV.lst_inv (s : Same G H) {n : Nat} {es : List D} {v : V} (h : RdV K mg G H (n + 1) (.lst es) v) : ∃ a vs, v = .ref a ∧ H a = some (.lst vs) ∧ All2 (RdV K mg G H n) es vs := by
  rcases h with h | ⟨a, ds, vs, rfl, c, hl⟩
  · obtain ⟨a, vs, rfl, ha, r⟩ := h.lst_inv
    exact ⟨a, vs, rfl, s _ _ ha, All2.ofRpl K mg r fun _ _ q => RdV.ofRp q⟩
  · obtain ⟨rfl, ha⟩ := c.lst
    exact ⟨a, vs, rfl, ha, hl⟩
theorem RdV.dct_inv (s : Same G H) {n : Nat} {es : List (D × D)} {v : V} (h : RdV K mg G H (n + 1) (.dct es) v) : ∃ a kvs, v = .ref a ∧ H a = some (.dK kvs) ∧ kvs.map (fun p => keyD p.1) = es.map (fun p => p.1) ∧ All2 (RdV K mg G H n) (es.map fun p => p.2) (kvs.map fun p => p.2) := by
  rcases h with h | ⟨a, ds, vs, rfl, c, hl⟩
  · obtain ⟨a, kvs, rfl, ha, ks, r⟩ := h.dct_inv
    exact ⟨a, kvs, rfl, s _ _ ha, ks, All2.ofRpl K mg r fun _ _ q => RdV.ofRp q⟩
  · obtain ⟨kvs, ha, ks, rfl, rfl⟩ := c.dct
    exact ⟨a, kvs, rfl, ha, ks, hl⟩
theorem RdV.dcT_inv (s : Same G H) {n : Nat} {es : List (D × D)} {v : V} (h : RdV K mg G H (n + 1) (.dcT es) v) : ∃ a kvs, v = .ref a ∧ H a = some (.dT kvs) ∧ kvs.map (fun p => D.tup (p.1.map keyD)) = es.map (fun p => p.1) ∧ All2 (RdV K mg G H n) (es.map fun p => p.2) (kvs.map fun p => p.2) := by
  rcases h with h | ⟨a, ds, vs, rfl, c, hl⟩
  · obtain ⟨a, kvs, rfl, ha, ks, r⟩ := h.dcT_inv
    exact ⟨a, kvs, rfl, s _ _ ha, ks, All2.ofRpl K mg r fun _ _ q => RdV.ofRp q⟩
  · obtain ⟨kvs, ha, ks, rfl, rfl⟩ := c.dcT
    exact ⟨a, kvs, rfl, ha, ks, hl⟩
theorem Own.lst_inv {n : Nat} {es : List D} {v : V} {fp : List Addr} (h : Own K mg G H (n + 1) (.lst es) v fp) : ∃ a rest vs, v = .ref a ∧ fp = a :: rest ∧ H a = some (.lst vs) ∧ OwnL (Own K mg G H n) es vs rest := by
  obtain ⟨a, rest, ds, vs, e1, e2, c, hl⟩ := h
  obtain ⟨rfl, ha⟩ := c.lst
  exact ⟨a, rest, vs, e1, e2, ha, hl⟩
theorem Own.mkL {n : Nat} {es : List D} {a : Addr} {rest : List Addr} {vs : List V} (ha : H a = some (.lst vs)) (hl : OwnL (Own K mg G H n) es vs rest) : Own K mg G H (n + 1) (.lst es) (.ref a) (a :: rest) := ⟨a, rest, es, vs, rfl, rfl, .inl ⟨rfl, ha⟩, hl⟩
theorem Own.mkK {n : Nat} {es : List (D × D)} {a : Addr} {rest : List Addr} {kvs : List (Key × V)} (ha : H a = some (.dK kvs)) (ks : kvs.map (fun p => keyD p.1) = es.map (fun p => p.1)) (hl : OwnL (Own K mg G H n) (es.map fun p => p.2) (kvs.map fun p => p.2) rest) :
    Own K mg G H (n + 1) (.dct es) (.ref a) (a :: rest) := ⟨a, rest, _, _, rfl, rfl, .inr (.inl ⟨es, kvs, rfl, ha, ks, rfl, rfl⟩), hl⟩
theorem Own.mkT {n : Nat} {es : List (D × D)} {a : Addr} {rest : List Addr} {kvs : List (List Key × V)} (ha : H a = some (.dT kvs)) (ks : kvs.map (fun p => D.tup (p.1.map keyD)) = es.map (fun p => p.1)) (hl : OwnL (Own K mg G H n) (es.map fun p => p.2) (kvs.map fun p => p.2) rest) :
    Own K mg G H (n + 1) (.dcT es) (.ref a) (a :: rest) := ⟨a, rest, _, _, rfl, rfl, .inr (.inr (.inl ⟨es, kvs, rfl, ha, ks, rfl, rfl⟩)), hl⟩
theorem Own.mkO {n : Nat} {c : Str} {C dx : Addr} {es : List (Str × D)} {a : Addr} {rest : List Addr} {us : List (Str × V)} (ha : H a = some (.ins C dx us)) (g : mg c = some (.ref C)) (ks : us.map (fun p => p.1) = es.map (fun p => p.1)) (hl : OwnL (Own K mg G H n) (es.map fun p => p.2) (us.map fun p => p.2) rest) :
    Own K mg G H (n + 1) (.obj c es) (.ref a) (a :: rest) := ⟨a, rest, _, _, rfl, rfl, .inr (.inr (.inr ⟨c, C, dx, es, us, rfl, ha, g, ks, rfl, rfl⟩)), hl⟩
end

/-! ## 4. the state of a def's frame -/
/-- how a slot is held: read alone; owned to a depth (0: shared, never to change) -/
inductive Kd where
  | rd (n : Nat) | own (n : Nat)
/-- what is fixed for a def: how each slot is held; the slots whose object the caller will see changed; what stood at the entry -/
structure Fc where
  Γ : List Kd
  io : List (Nat × V)
  B : Hp
def Fc.kd (c : Fc) (i : Nat) : Kd := c.Γ.getD i (.own 0)
def Slt (K : PySem.W.Frag) (mg : Str → Option Value) (k : Kd) (G F H : Hp) (d : D) (v : V) (fp : List Addr) : Prop := match k with
  | .rd n => RdV K mg G F n d v ∧ fp = []
  | .own n => Own K mg G H n d v fp
/-- G: what is shared; F: what is kept; H: all. T: own objects of values that are under way -/
structure Ok (K : PySem.W.Frag) (mg : Str → Option Value) (c : Fc) (T : List Addr) (G F H : Hp) (σ : L2.St) (ρ : PV.Env) : Prop where
  gf : Same G F
  fh : Same F H
  bf : Same c.B F
  len : ρ.length = σ.length
  io : ∀ p ∈ c.io, σ[p.1]? = some (some p.2)
  slt : ∃ fps : Nat → List Addr, (∀ (i : Nat) (d : D), ρ[i]? = some (some d) → ∃ v, σ[i]? = some (some v) ∧ Slt K mg (c.kd i) G c.B H d v (fps i)) ∧
    (∀ i, (¬ ∃ d, ρ[i]? = some (some d)) → fps i = []) ∧ (∀ i, ∀ a ∈ fps i, F a = none) ∧ (∀ i, (fps i).Nodup) ∧ (∀ i j a, i ≠ j → a ∈ fps i → a ∉ fps j) ∧ T.Nodup ∧ (∀ a ∈ T, F a = none) ∧ ∀ i a, a ∈ fps i → a ∉ T
/-- from G, F on -/
structure Ext (G F G' F' : Hp) : Prop where
  g : Same G G'
  f : Same F F'
  n : ∀ a, G a = none → F a ≠ none → G' a = none
theorem Ext.refl (G F : Hp) : Ext G F G F := ⟨.refl _, .refl _, fun _ h _ => h⟩
theorem _root_.L2.Same.nn {H H' : Hp} (s : Same H H') {a : Addr} (h : H a ≠ none) : H' a ≠ none := by
  cases e : H a with
  | none => exact absurd e h
  | some o => rw [s a o e]; intro z; cases z
theorem Ext.trans {G F G1 F1 G2 F2 : Hp} (a : Ext G F G1 F1) (b : Ext G1 F1 G2 F2) : Ext G F G2 F2 := ⟨a.g.trans b.g, a.f.trans b.f, fun x h1 h2 => b.n x (a.n x h1 h2) (a.f.nn h2)⟩
section
variable {K : PySem.W.Frag} {mg : Str → Option Value} {c : Fc} {T : List Addr} {G F H G' F' H' : Hp} {σ : L2.St} {ρ : PV.Env}
theorem Ok.gh (o : Ok K mg c T G F H σ ρ) : Same G H := o.gf.trans o.fh
theorem Ok.drop (o : Ok K mg c T G F H σ ρ) : Ok K mg c [] G F H σ ρ := by
  obtain ⟨fps, h1, h0, h2, h3, h4, _, _, _⟩ := o.slt
  exact ⟨o.gf, o.fh, o.bf, o.len, o.io, fps, h1, h0, h2, h3, h4, List.nodup_nil, fun _ h => (nomatch h), fun _ _ _ h => (nomatch h)⟩
theorem Ok.dom (o : Ok K mg c T G F H σ ρ) {i : Nat} {d : D} (e : ρ[i]? = some (some d)) : ∃ v, σ[i]? = some (some v) ∧ Rp K mg H v d := by
  obtain ⟨fps, h1, _⟩ := o.slt
  obtain ⟨v, e1, h⟩ := h1 i d e
  refine ⟨v, e1, ?_⟩
  unfold Slt at h
  split at h
  · exact (h.1.mono (.refl _) (o.bf.trans o.fh)).rp o.gh
  · exact h.rp o.gh
theorem Slt.dom {B : Hp} {k : Kd} {d : D} {v : V} {fp : List Addr} (h : Slt K mg k G B H d v fp) : ∀ a ∈ fp, H a ≠ none := by
  unfold Slt at h
  split at h
  · intro a ha
    rw [h.2] at ha
    cases ha
  · exact h.dom
theorem Slt.frame {B : Hp} {k : Kd} {d : D} {v : V} {fp : List Addr} (x : Ext G F G' F') (hk : ∀ a ∈ fp, ∀ o, H a = some o → H' a = some o) (h : Slt K mg k G B H d v fp) : Slt K mg k G' B H' d v fp := by
  unfold Slt at h ⊢
  split
  · exact ⟨h.1.mono x.g (.refl _), h.2⟩
  · exact h.frame x.g hk
/-- the heap grows: what is new was not there -/
theorem Ok.grow (o : Ok K mg c T G F H σ ρ) (x : Ext G F G' F') (g' : Same G' F') (f' : Same F' H') (h' : Same H H') (n : ∀ a, F a = none → F' a ≠ none → H a = none) (hT : ∀ a ∈ T, H a ≠ none) : Ok K mg c T G' F' H' σ ρ := by
  obtain ⟨fps, h1, h0, h2, h3, h4, h5, h6, h7⟩ := o.slt
  have fr : ∀ a, F a = none → H a ≠ none → F' a = none := fun a e1 e2 => by
    cases q : F' a with
    | none => rfl
    | some u => exact absurd (n a e1 (by rw [q]; intro z; cases z)) e2
  have live : ∀ i a, a ∈ fps i → H a ≠ none := fun i a ha => by
    by_cases z : ∃ d, ρ[i]? = some (some d)
    · obtain ⟨d, e⟩ := z
      obtain ⟨v, _, h⟩ := h1 i d e
      exact h.dom a ha
    · rw [h0 i z] at ha
      cases ha
  refine ⟨g', f', o.bf.trans x.f, o.len, o.io, fps, fun i d e => ?_, h0, fun i a ha => fr a (h2 i a ha) (live i a ha), h3, h4, h5, fun a ha => fr a (h6 a ha) (hT a ha), h7⟩
  obtain ⟨v, e1, h⟩ := h1 i d e
  exact ⟨v, e1, h.frame x fun a _ o q => h' a o q⟩
end

/-! ## 5. the judgements -/
/-- how a value is handed on: it may be read just now (0: it is shared for good); it is owned to a depth from 1 on -/
inductive Md where
  | rd (n : Nat) | own (n : Nat)
def Val (K : PySem.W.Frag) (mg : Str → Option Value) (m : Md) (G H : Hp) (d : D) (v : V) (fp : List Addr) : Prop := match m with
  | .rd n => RdV K mg G H n d v ∧ fp = []
  | .own n => Own K mg G H n d v fp
def XRep (K : PySem.W.Frag) (mg : Str → Option Value) (G H : Hp) (x : Exn) (cls : Value) (dd : Option Addr) : Prop := match x with
  | .mal => ∃ C, mg "Malformed" = some (.ref C) ∧ cls = .ref C ∧ dd = none
  | .refu d => ∃ C a v, mg "Refused" = some (.ref C) ∧ cls = .ref C ∧ dd = some a ∧ H a = some (.xd [(("reason" : Str), v)]) ∧ Rp K mg G v d
  | .note d => ∃ C a v, mg "NoText" = some (.ref C) ∧ cls = .ref C ∧ dd = some a ∧ H a = some (.xd [(("at" : Str), v)]) ∧ Rp K mg G v d
/-- what must hold when x leaves -/
def Nx (K : PySem.W.Frag) (mg : Str → Option Value) (W : WX) (σ : L2.St) (G F : Hp) (x : Exn) : Prop :=
  ∀ cls dd G' F' H', Ext G F G' F' → Same G' F' → Same F' H' → XRep K mg G' H' x cls dd → W cls dd σ H'
theorem Nx.ext {K : PySem.W.Frag} {mg : Str → Option Value} {W : WX} {σ : L2.St} {G F G1 F1 : Hp} (e : Ext G F G1 F1) {x : Exn} (h : Nx K mg W σ G F x) : Nx K mg W σ G1 F1 x :=
  fun cls dd G' F' H' q => h cls dd G' F' H' (e.trans q)
/-- what the context gives: exceptions are taken as W says; loops may be left by them; nothing is being handled -/
structure Cok (X : Cx) (W : WX) : Prop where
  tk : Takes X W
  calm : X.calm = true
abbrev Pso (X : Cx) : Prop := PassesOwn (model X.prog X.w) X.A X.env X.xe
section
variable (X : Cx) (W : WX) (c : Fc)
def EX (p : Bool) (m : Md) (e : Expr) (f : M D) : Prop :=
  ∃ te, PE X e te ∧ ∀ (σ : L2.St) (ρ : PV.Env) (G F H : Hp) (Q : VK), Ok X.K X.mg c [] G F H σ ρ →
    Wp (f ρ) (fun r => ∀ v G' F' H' fp, Ext G F G' F' → Ok X.K X.mg c fp G' F' H' σ r.2 → Val X.K X.mg m G' H' r.1 v fp → (p = true → r.2 = ρ ∧ Same H H') → Q v H') (Nx X.K X.mg W σ G F) → te σ H Q
/-- a test -/
def TX (p : Bool) (e : Expr) (f : M Bool) : Prop :=
  ∃ tt, PT X e tt ∧ ∀ (σ : L2.St) (ρ : PV.Env) (G F H : Hp) (Q : Bool → Hp → Prop), Ok X.K X.mg c [] G F H σ ρ →
    Wp (f ρ) (fun r => ∀ G' F' H', Ext G F G' F' → Ok X.K X.mg c [] G' F' H' σ r.2 → (p = true → r.2 = ρ ∧ Same H H') → Q r.1 H') (Nx X.K X.mg W σ G F) → tt σ H Q
/-- .. whatever its whole is (and, or) -/
def TW (p : Bool) (e : Expr) (f : M Bool) : Prop :=
  ∃ tt, PW X e tt ∧ ∀ (σ : L2.St) (ρ : PV.Env) (G F H : Hp) (Q : Bool → Hp → Prop), Ok X.K X.mg c [] G F H σ ρ →
    Wp (f ρ) (fun r => ∀ G' F' H', Ext G F G' F' → Ok X.K X.mg c [] G' F' H' σ r.2 → (p = true → r.2 = ρ ∧ Same H H') → Q r.1 H') (Nx X.K X.mg W σ G F) → tt σ H Q
/-- how an argument is handed on: as a value; or the slot itself, whose object may be changed -/
inductive Am where
  | val (m : Md) | io (i : Nat)
inductive ValL (K : PySem.W.Frag) (mg : Str → Option Value) (G H : Hp) (σ : L2.St) : List Am → List D → List V → Prop
  | nil : ValL K mg G H σ [] [] []
  | val {m : Md} {ms : List Am} {d : D} {v : V} {fp : List Addr} {ds : List D} {vs : List V} : Val K mg m G H d v fp → ValL K mg G H σ ms ds vs → ValL K mg G H σ (.val m :: ms) (d :: ds) (v :: vs)
  | io {i : Nat} {ms : List Am} {v : V} {ds : List D} {vs : List V} : σ[i]? = some (some v) → ValL K mg G H σ ms ds vs → ValL K mg G H σ (.io i :: ms) (.non :: ds) (v :: vs)
def AX (p : Bool) (ms : List Am) (es : List Expr) (f : M (List D)) : Prop :=
  ∃ ta, PA X es ta ∧ ∀ (σ : L2.St) (ρ : PV.Env) (G F H : Hp) (Q : List V → Hp → Prop), Ok X.K X.mg c [] G F H σ ρ →
    Wp (f ρ) (fun r => ∀ vs G' F' H', Ext G F G' F' → Ok X.K X.mg c [] G' F' H' σ r.2 → ValL X.K X.mg G' H' σ ms r.1 vs → (p = true → r.2 = ρ ∧ Same H H') → Q vs H') (Nx X.K X.mg W σ G F) → ta σ H Q
end
/-- how a statement ends -/
inductive SR where
  | nx (ρ : PV.Env) | rt (d : D) (ρ : PV.Env) | exc (x : Exn) | fail
abbrev SM := PV.Env → SR
def WpS (r : SR) (P : PV.Env → Prop) (Q : D → PV.Env → Prop) (N : Exn → Prop) : Prop := match r with
  | .nx ρ => P ρ
  | .rt d ρ => Q d ρ
  | .exc x => N x
  | .fail => False
theorem WpS.imp {r : SR} {P P' : PV.Env → Prop} {Q Q' : D → PV.Env → Prop} {N N' : Exn → Prop} (h : WpS r P Q N) (hp : ∀ ρ, P ρ → P' ρ) (hq : ∀ d ρ, Q d ρ → Q' d ρ) (hn : ∀ x, N x → N' x) : WpS r P' Q' N' := by
  cases r with
  | nx ρ => exact hp _ h
  | rt d ρ => exact hq _ _ h
  | exc x => exact hn _ h
  | fail => exact h
/-- x leaves, whatever the slots are -/
def NxS (K : PySem.W.Frag) (mg : Str → Option Value) (W : WX) (n : Nat) (G F : Hp) (x : Exn) : Prop := ∀ σ : L2.St, σ.length = n → Nx K mg W σ G F x
section
variable (X : Cx) (W : WX) (c : Fc) (rk : Nat)
def StP (t : TS) (f : SM) : Prop :=
  ∀ (D : Ends) (σ : L2.St) (ρ : PV.Env) (G F H : Hp), Ok X.K X.mg c [] G F H σ ρ →
    WpS (f ρ) (fun ρ' => ∀ σ' G' F' H', Ext G F G' F' → Ok X.K X.mg c [] G' F' H' σ' ρ' → σ'.length = σ.length → D.nx σ' H')
      (fun d ρ' => ∀ σ' v G' F' H' fp, Ext G F G' F' → Ok X.K X.mg c fp G' F' H' σ' ρ' → Own X.K X.mg G' H' rk d v fp → D.rt v H') (NxS X.K X.mg W σ.length G F) → t D σ H
def SX (st : Stmt) (f : SM) : Prop := ∃ t, PS X st t ∧ StP X W c rk t f
def SXs (st : List Stmt) (f : SM) : Prop := ∃ t, PSs X st t ∧ StP X W c rk t f
end
end PV

set_option Elab.async false
set_option linter.all false
set_option maxRecDepth 100000
set_option maxHeartbeats 0
namespace PV
noncomputable section
open PySem PySem.Spec
open PyProof.Rows L2

/-! ## 6. plain machinery of the mirrors -/
/-- (by recursors: the kernel is to work with them) -/
noncomputable def look (ρ : PV.Env) : Nat → Option D := List.rec (motive := fun _ => Nat → Option D) (fun _ => none) (fun d _ ih i => Nat.rec (motive := fun _ => Option D) d (fun n _ => ih n) i) ρ
theorem look_nil (i : Nat) : look [] i = none := rfl
theorem look_zero (d : Option D) (r : PV.Env) : look (d :: r) 0 = d := rfl
theorem look_succ (d : Option D) (r : PV.Env) (n : Nat) : look (d :: r) (n + 1) = look r n := rfl
theorem look_eq : ∀ {ρ : PV.Env} {i : Nat} {d : D}, look ρ i = some d ↔ ρ[i]? = some (some d)
  | [], i, d => by simp [look_nil]
  | x :: r, 0, d => by simp [look_zero]
  | x :: r, i + 1, d => by simp [look_succ, look_eq (ρ := r) (i := i) (d := d)]
noncomputable def put {α : Type} (ρ : List α) : Nat → α → List α := List.rec (motive := fun _ => Nat → α → List α) (fun _ _ => []) (fun d r ih i x => Nat.rec (motive := fun _ => List α) (x :: r) (fun n _ => d :: ih n x) i) ρ
theorem put_eq {α : Type} : ∀ (ρ : List α) (i : Nat) (x : α), put ρ i x = ρ.set i x
  | [], _, _ => rfl
  | _ :: _, 0, _ => rfl
  | d :: r, i + 1, x => congrArg (d :: ·) (put_eq r i x)
def M.ofO {α : Type} (o : Option α) : M α := fun ρ => match o with
  | some a => .ok (a, ρ)
  | none => .fail
def eVar (i : Nat) : M D := fun ρ => match look ρ i with
  | some d => .ok (d, ρ)
  | none => .fail
def eC (d : D) : M D := fun ρ => .ok (d, ρ)
def e1 (g : D → Option D) (fa : M D) : M D := fa.bind fun x => M.ofO (g x)
def e2 (g : D → D → Option D) (fa fb : M D) : M D := fa.bind fun x => fb.bind fun y => M.ofO (g x y)
def aNil : M (List D) := fun ρ => .ok ([], ρ)
def aCons (fa : M D) (fr : M (List D)) : M (List D) := fa.bind fun x => fr.bind fun xs => M.pure (x :: xs)
def aIo (i : Nat) (g : M (List D)) : M (List D) := fun ρ => match look ρ i with
  | some _ => aCons (eC .non) g ρ
  | none => .fail
def eL (g : List D → Option D) (fa : M (List D)) : M D := fa.bind fun xs => M.ofO (g xs)
def asBl : D → Option Bool
  | .bl b => some b
  | _ => none
def tB (fa : M D) : M Bool := fa.bind fun x => M.ofO (asBl x)
def tAnd (a b : M Bool) : M Bool := a.bind fun x => if x = true then b else M.pure false
def tOr (a b : M Bool) : M Bool := a.bind fun x => if x = true then M.pure true else b
def tNot (a : M Bool) : M Bool := a.bind fun x => M.pure (!x)
def eB (a : M Bool) : M D := a.bind fun x => M.pure (.bl x)
def eIf (t : M Bool) (a b : M D) : M D := t.bind fun x => if x = true then a else b

/-! ## 7. growth of the heap -/
structure Grow (G F H G' F' H' : Hp) (fp : List Addr) : Prop where
  x : Ext G F G' F'
  gf : Same G' F'
  fh : Same F' H'
  hh : Same H H'
  n : ∀ a, F a = none → F' a ≠ none → H a = none
  nd : fp.Nodup
  fF : ∀ a ∈ fp, F' a = none
  fH : ∀ a ∈ fp, H a = none
theorem Grow.refl {G F H : Hp} (gf : Same G F) (fh : Same F H) : Grow G F H G F H [] := ⟨.refl _ _, gf, fh, .refl _, fun a h1 h2 => absurd h1 h2, List.nodup_nil, fun _ h => (nomatch h), fun _ h => (nomatch h)⟩
/-- a new shared object -/
theorem Grow.sh {G F H : Hp} {p : Addr} {o : HO} (gf : Same G F) (fh : Same F H) (hp : H p = none) : Grow G F H (upd G p o) (upd F p o) (upd H p o) [] := by
  have fp : F p = none := fh.free hp
  have gp : G p = none := gf.free fp
  have up : ∀ {A B : Hp}, Same A B → Same (upd A p o) (upd B p o) := fun s b x e => by
    by_cases z : b = p
    · subst z; rw [upd_same] at e ⊢; exact e
    · rw [upd_ne z] at e ⊢; exact s b x e
  refine ⟨⟨same_upd gp, same_upd fp, fun a h1 h2 => ?_⟩, up gf, up fh, same_upd hp, fun a h1 h2 => ?_, List.nodup_nil, fun _ h => (nomatch h), fun _ h => (nomatch h)⟩
  · rw [upd_ne (fun z => h2 (by rw [z]; exact fp))]; exact h1
  · by_cases z : a = p
    · rw [z]; exact hp
    · rw [upd_ne z] at h2; exact absurd h1 h2
/-- a new own object -/
theorem Grow.own {G F H : Hp} {p : Addr} {o : HO} (gf : Same G F) (fh : Same F H) (hp : H p = none) : Grow G F H G F (upd H p o) [p] := by
  have fp : F p = none := fh.free hp
  refine ⟨.refl _ _, gf, fh.trans (same_upd hp), same_upd hp, fun a h1 h2 => absurd h1 h2, by simp, fun a h => ?_, fun a h => ?_⟩
  · rw [List.mem_singleton.mp h]; exact fp
  · rw [List.mem_singleton.mp h]; exact hp
section
variable {K : PySem.W.Frag} {mg : Str → Option Value} {c : Fc} {T : List Addr} {G F H G' F' H' : Hp} {σ : L2.St} {ρ : PV.Env} {fp : List Addr}
theorem Ok.grown (o : Ok K mg c [] G F H σ ρ) (g : Grow G F H G' F' H' fp) : Ok K mg c fp G' F' H' σ ρ := by
  have o' := o.grow g.x g.gf g.fh g.hh g.n (fun _ h => (nomatch h))
  obtain ⟨fps, h1, h0, h2, h3, h4, _, _, _⟩ := o'.slt
  obtain ⟨fps0, k1, k0, k2, k3, k4, _, _, _⟩ := o.slt
  -- the slots' own objects stood in H, the new ones not
  have live : ∀ i a, a ∈ fps0 i → H a ≠ none := fun i a ha => by
    by_cases z : ∃ d, ρ[i]? = some (some d)
    · obtain ⟨d, e⟩ := z
      obtain ⟨v, _, h⟩ := k1 i d e
      exact h.dom a ha
    · rw [k0 i z] at ha
      cases ha
  have fr : ∀ a, F a = none → H a ≠ none → F' a = none := fun a e1 e2 => by
    cases q : F' a with
    | none => rfl
    | some u => exact absurd (g.n a e1 (by rw [q]; intro z; cases z)) e2
  refine ⟨g.gf, g.fh, o.bf.trans g.x.f, o.len, o.io, fps0, fun i d e => ?_, k0, fun i a ha => fr a (k2 i a ha) (live i a ha), k3, k4, g.nd, g.fF, fun i a ha hb => live i a ha (g.fH a hb)⟩
  obtain ⟨v, e1, h⟩ := k1 i d e
  exact ⟨v, e1, h.frame g.x fun a _ o q => g.hh a o q⟩
theorem Ok.freeze (o : Ok K mg c fp G F H σ ρ) : Ok K mg c [] (join G H fp) (join F H fp) H σ ρ ∧ Ext G F (join G H fp) (join F H fp) := by
  obtain ⟨fps, h1, h0, h2, h3, h4, h5, h6, h7⟩ := o.slt
  have gn : ∀ a ∈ fp, G a = none := fun a ha => o.gf.free (h6 a ha)
  have x : Ext G F (join G H fp) (join F H fp) := ⟨join_same gn, join_same h6, fun a e1 e2 => by
    unfold join
    rw [if_neg (fun z => e2 (h6 a z))]
    exact e1⟩
  refine ⟨⟨fun a u e => ?_, join_sub o.fh, o.bf.trans x.f, o.len, o.io, fps, fun i d e => ?_, h0, fun i a ha => ?_, h3, h4, List.nodup_nil, fun _ h => (nomatch h), fun _ _ _ h => (nomatch h)⟩, x⟩
  · unfold join at e ⊢
    by_cases z : a ∈ fp
    · rw [if_pos z] at e ⊢; exact e
    · rw [if_neg z] at e ⊢; exact o.gf a u e
  · obtain ⟨v, e1, h⟩ := h1 i d e
    exact ⟨v, e1, h.frame x fun a _ o q => q⟩
  · unfold join
    rw [if_neg (h7 i a ha)]
    exact h2 i a ha
/-- a value that may wait while the next part runs -/
def Waits (m : Md) (p : Bool) : Prop := m = .rd 0 ∨ ((∃ n, m = .rd n) ∧ p = true)
theorem Val.wait {m : Md} {p : Bool} {d : D} {v : V} (w : Waits m p) (h : Val K mg m G H d v fp) (hg : Same G G') (hh : p = true → Same H H') : Val K mg m G' H' d v [] := by
  rcases w with rfl | ⟨⟨n, rfl⟩, hp⟩
  · exact ⟨Rp.mono hg h.1, rfl⟩
  · exact ⟨h.1.mono hg (hh hp), rfl⟩
theorem Val.rp {m : Md} {d : D} {v : V} (s : Same G H) (h : Val K mg m G H d v fp) : Rp K mg H v d := by
  cases m with
  | rd n => exact h.1.rp s
  | own n => exact Own.rp s h
end

/-! ## 8. expressions -/
section
variable {X : Cx} {W : WX} {c : Fc}
abbrev EPost (X : Cx) (c : Fc) (p : Bool) (m : Md) (σ : L2.St) (ρ : PV.Env) (G F H : Hp) (Q : VK) : D × PV.Env → Prop :=
  fun r => ∀ v G' F' H' fp, Ext G F G' F' → Ok X.K X.mg c fp G' F' H' σ r.2 → Val X.K X.mg m G' H' r.1 v fp → (p = true → r.2 = ρ ∧ Same H H') → Q v H'
/-- the part's end is handed on -/
theorem EX.use (te : TE) {p : Bool} {m : Md} {f : M D} {σ : L2.St} {ρ : PV.Env} {G F H : Hp} {Q : VK}
    (h : ∀ (σ : L2.St) (ρ : PV.Env) (G F H : Hp) (Q : VK), Ok X.K X.mg c [] G F H σ ρ → Wp (f ρ) (EPost X c p m σ ρ G F H Q) (Nx X.K X.mg W σ G F) → te σ H Q)
    (o : Ok X.K X.mg c [] G F H σ ρ) {P : D × PV.Env → Prop} {N : Exn → Prop} (w : Wp (f ρ) P N)
    (k : ∀ r, P r → ∀ v G' F' H' fp, Ext G F G' F' → Ok X.K X.mg c fp G' F' H' σ r.2 → Val X.K X.mg m G' H' r.1 v fp → (p = true → r.2 = ρ ∧ Same H H') → Q v H') (kn : ∀ x, N x → Nx X.K X.mg W σ G F x) : te σ H Q :=
  h σ ρ G F H Q o (w.imp k kn)
def mdOf : Kd → Md
  | .own n => .rd n
  | .rd n => .rd n
theorem ex_var (i : Nat) {x : Str} {pos : Pos} {k : Kd} (hk : c.kd i = k := by rfl) (hN : X.N[i]? = some x := by rfl) (hv : Vis X.env.scope x := by first | exact Or.inl rfl | exact Or.inr (Or.inl rfl) | exact Or.inr (Or.inr rfl))
    (hd : (x == ("__debug__" : Str)) = false := by decide) (hcd : (x == ("__classdict__" : Str)) = false := by decide) : EX X W c true (mdOf k) (.Name x pos) (eVar i) := by
  refine ⟨_, pe_var hN hv hd hcd, fun σ ρ G F H Q o w => ?_⟩
  unfold eVar at w
  split at w
  · rename_i d e
    obtain ⟨fps, h1, _⟩ := o.slt
    obtain ⟨v, e1, q⟩ := h1 i d (look_eq.mp e)
    refine ⟨v, e1, w v G F H [] (.refl _ _) o ?_ fun _ => ⟨rfl, .refl _⟩⟩
    subst hk
    unfold Slt at q
    unfold mdOf
    split
    · rename_i hz
      rw [hz] at q
      exact ⟨q.rd, rfl⟩
    · rename_i hz
      rw [hz] at q
      exact ⟨q.1.mono (.refl _) (o.bf.trans o.fh), rfl⟩
  · exact w.elim
/-- a value that needs no heap -/
theorem ex_c {e : Expr} {v : V} {d : D} (h : PE X e (tC v)) (r : ∀ H, Rp X.K X.mg H v d) : EX X W c true (.rd 0) e (eC d) :=
  ⟨_, h, fun σ ρ G F H Q o w => w v G F H [] (.refl _ _) o ⟨r G, rfl⟩ fun _ => ⟨rfl, .refl _⟩⟩
theorem ex_int {i : Int} {j pos} : EX X W c true (.rd 0) (.Constant (.int i) j pos) (eC (.int i)) := ex_c pe_int fun _ => .int i
theorem ex_bl {b : Bool} {j pos} : EX X W c true (.rd 0) (.Constant (.bool b) j pos) (eC (.bl b)) := ex_c pe_bl fun _ => .bl b
theorem ex_non {j pos} : EX X W c true (.rd 0) (.Constant .none j pos) (eC .non) := ex_c pe_non fun _ => .non
theorem ex_str {x : Str} {j pos} : EX X W c true (.rd 0) (.Constant (.str x) j pos) (eC (.str x)) := ex_c pe_str fun _ => .str x
/-- a def of the module as a value -/
theorem ex_fn {x : Str} {a : Addr} {pos : Pos} (hm : X.mg x = some (.ref a)) (hg : Gl X x := by rfl) (hd : (x == ("__debug__" : Str)) = false := by decide) : EX X W c true (.rd 0) (.Name x pos) (eC (.fn x)) :=
  ex_c (pe_glob hg hm (v := .ref a) rfl hd) fun _ => .fn hm
/-- read just now -/
theorem ex_rd {p : Bool} {n : Nat} {e : Expr} {f : M D} (h : EX X W c p (.own n) e f) : EX X W c p (.rd n) e f := by
  obtain ⟨te, h1, h2⟩ := h
  refine ⟨te, h1, fun σ ρ G F H Q o w => EX.use te h2 o w (fun r hr v G' F' H' fp x o' q hp => ?_) fun _ z => z⟩
  exact hr v G' F' H' [] x o'.drop ⟨Own.rd q, rfl⟩ hp
theorem ex_up {p : Bool} {n : Nat} {e : Expr} {f : M D} (h : EX X W c p (.rd n) e f) : EX X W c p (.rd (n + 1)) e f := by
  obtain ⟨te, h1, h2⟩ := h
  refine ⟨te, h1, fun σ ρ G F H Q o w => EX.use te h2 o w (fun r hr v G' F' H' fp x o' q hp => ?_) fun _ z => z⟩
  exact hr v G' F' H' fp x o' ⟨q.1.up, q.2⟩ hp
/-- its own objects join the shared ones -/
theorem ex_sh {p : Bool} {n : Nat} {e : Expr} {f : M D} (h : EX X W c p (.own n) e f) : EX X W c p (.rd 0) e f := by
  obtain ⟨te, h1, h2⟩ := h
  refine ⟨te, h1, fun σ ρ G F H Q o w => EX.use te h2 o w (fun r hr v G' F' H' fp x o' q hp => ?_) fun _ z => z⟩
  obtain ⟨o2, x2⟩ := o'.freeze
  exact hr v _ _ H' [] (x.trans x2) o2 ⟨Own.frozen (G' := join G' H' fp) x2.g (fun a ha u e => by unfold join; rw [if_pos ha]; exact e) q, rfl⟩ hp
/-- less is said -/
theorem ex_np {p : Bool} {m : Md} {e : Expr} {f : M D} (h : EX X W c p m e f) : EX X W c false m e f := by
  obtain ⟨te, h1, h2⟩ := h
  exact ⟨te, h1, fun σ ρ G F H Q o w => EX.use te h2 o w (fun r hr v G' F' H' fp x o' q hp => hr v G' F' H' fp x o' q (fun z => nomatch z)) fun _ z => z⟩

/-! ### two parts in a row -/
def Op2S (K : PySem.W.Frag) (mg : Str → Option Value) (m1 m2 mo : Md) (r : R2) (g : D → D → Option D) : Prop :=
  ∀ (G F H : Hp) (d e : D) (v u : V) (z : D) (Q : VK), Same G F → Same F H → Val K mg m1 G H d v [] → Val K mg m2 G H e u [] → g d e = some z →
    (∀ w G' F' H' fr, Grow G F H G' F' H' fr → Val K mg mo G' H' z w fr → Q w H') → r v u H Q
theorem Wp.nxExt {α : Type} {K : PySem.W.Frag} {mg : Str → Option Value} {σ : L2.St} {G F G' F' : Hp} {r : R α} {P : α → Prop} (x : Ext G F G' F') (h : Wp r P (Nx K mg W σ G F)) : Wp r P (Nx K mg W σ G' F') := h.imp (fun _ z => z) fun _ z => z.ext x
theorem val_flat {K : PySem.W.Frag} {mg : Str → Option Value} {m : Md} {G H : Hp} {d : D} {v : V} {fp : List Addr} {p : Bool} (w : Waits m p) (h : Val K mg m G H d v fp) : Val K mg m G H d v [] := by
  rcases w with rfl | ⟨⟨n, rfl⟩, _⟩
  · exact ⟨h.1, rfl⟩
  · exact ⟨h.1, rfl⟩
theorem ex_2 {p1 p2 : Bool} {m1 m2 mo : Md} {a b e : Expr} {fa fb : M D} {r : R2} {g : D → D → Option D} (hpe : ∀ {ta tb}, PE X a ta → PE X b tb → PE X e (tOp r ta tb)) (hr : Op2S X.K X.mg m1 m2 mo r g)
    (ha : EX X W c p1 m1 a fa) (hb : EX X W c p2 m2 b fb) (w1 : Waits m1 p2) (w2 : Waits m2 true) : EX X W c (p1 && p2) mo e (e2 g fa fb) := by
  obtain ⟨ta, a1, a2⟩ := ha
  obtain ⟨tb, b1, b2⟩ := hb
  refine ⟨_, hpe a1 b1, fun σ ρ G F H Q o w => ?_⟩
  refine EX.use ta a2 o (Wp.ofBindM w) (fun r1 h1 v1 G1 F1 H1 fp1 x1 o1 q1 hp1 => ?_) fun _ z => z
  refine EX.use tb b2 o1.drop (Wp.nxExt x1 (Wp.ofBindM h1)) (fun r2 h2 v2 G2 F2 H2 fp2 x2 o2 q2 hp2 => ?_) fun _ z => z
  unfold M.ofO at h2
  split at h2
  · rename_i z hz
    refine hr G2 F2 H2 r1.1 r2.1 v1 v2 z Q o2.gf o2.fh (q1.wait w1 x2.g fun hp => (hp2 hp).2) (val_flat w2 q2) hz fun wv G3 F3 H3 fr g3 q3 => ?_
    refine h2 wv G3 F3 H3 fr ((x1.trans x2).trans g3.x) (o2.drop.grown g3) q3 fun hp => ?_
    rw [Bool.and_eq_true] at hp
    exact ⟨(hp2 hp.2).1.trans (hp1 hp.1).1, ((hp1 hp.1).2.trans (hp2 hp.2).2).trans g3.hh⟩
  · exact h2.elim
theorem ex_1 {p1 : Bool} {m1 mo : Md} {a e : Expr} {fa : M D} {r : V → Hp → VK → Prop} {g : D → Option D} (hpe : ∀ {ta}, PE X a ta → PE X e (tUn r ta))
    (hr : ∀ (G F H : Hp) (d : D) (v : V) (z : D) (Q : VK), Same G F → Same F H → Val X.K X.mg m1 G H d v [] → g d = some z → (∀ w G' F' H' fr, Grow G F H G' F' H' fr → Val X.K X.mg mo G' H' z w fr → Q w H') → r v H Q)
    (ha : EX X W c p1 m1 a fa) (w1 : Waits m1 true) : EX X W c p1 mo e (e1 g fa) := by
  obtain ⟨ta, a1, a2⟩ := ha
  refine ⟨_, hpe a1, fun σ ρ G F H Q o w => ?_⟩
  refine EX.use ta a2 o (Wp.ofBindM w) (fun r1 h1 v1 G1 F1 H1 fp1 x1 o1 q1 hp1 => ?_) fun _ z => z
  unfold M.ofO at h1
  split at h1
  · rename_i z hz
    refine hr G1 F1 H1 r1.1 v1 z Q o1.gf o1.fh (val_flat w1 q1) hz fun wv G3 F3 H3 fr g3 q3 => ?_
    exact h1 wv G3 F3 H3 fr (x1.trans g3.x) (o1.drop.grown g3) q3 fun hp => ⟨(hp1 hp).1, (hp1 hp).2.trans g3.hh⟩
  · exact h1.elim

/-! ### tests -/
theorem tx_val {p : Bool} {e : Expr} {f : M D} (h : EX X W c p (.rd 0) e f) (he : ∀ whole, isTrue e X.env whole = (do let v ← whole; standAt e.pos; holding [v] (truthy v)) := by intro _; rfl) : TX X W c p e (tB f) := by
  obtain ⟨te, h1, h2⟩ := h
  refine ⟨_, pt_val h1 he, fun σ ρ G F H Q o w => ?_⟩
  refine EX.use te h2 o (Wp.ofBindM w) (fun r hr v G' F' H' fp x o' q hp => ?_) fun _ z => z
  unfold M.ofO at hr
  split at hr
  · rename_i b hb
    obtain ⟨d, ρ'⟩ := r
    cases d <;> first | (cases hb; done) | skip
    cases hb
    obtain ⟨q, _⟩ := q
    cases q
    exact ⟨_, rfl, hr G' F' H' x o'.drop hp⟩
  · exact hr.elim
theorem tx_cmp {op : CmpOp} {p1 p2 : Bool} {m1 m2 : Md} {a b : Expr} {fa fb : M D} {r : R2} {g : D → D → Option D} {pos : Pos} (ho : OpR X (compareOp op) r) (hr : Op2S X.K X.mg m1 m2 (.rd 0) r g)
    (ha : EX X W c p1 m1 a fa) (hb : EX X W c p2 m2 b fb) (w1 : Waits m1 p2) (w2 : Waits m2 true) (hm : behindInMarks op b = false) : TX X W c (p1 && p2) (.Compare a [op] [b] pos) (tB (e2 g fa fb)) := by
  obtain ⟨ta, a1, a2⟩ := ha
  obtain ⟨tb, b1, b2⟩ := hb
  refine ⟨_, pt_cmpR ho a1 b1 hm, fun σ ρ G F H Q o w => ?_⟩
  have w' := Wp.ofBindM w
  refine EX.use ta a2 o (Wp.ofBindM w') (fun r1 h1 v1 G1 F1 H1 fp1 x1 o1 q1 hp1 => ?_) fun _ z => z
  refine EX.use tb b2 o1.drop (Wp.nxExt x1 (Wp.ofBindM h1)) (fun r2 h2 v2 G2 F2 H2 fp2 x2 o2 q2 hp2 => ?_) fun _ z => z
  unfold M.ofO at h2
  split at h2
  · rename_i z hz
    refine hr G2 F2 H2 r1.1 r2.1 v1 v2 z _ o2.gf o2.fh (q1.wait w1 x2.g fun hp => (hp2 hp).2) (val_flat w2 q2) hz fun wv G3 F3 H3 fr g3 q3 => ?_
    have h2' : Wp (M.ofO (asBl z) r2.2) _ _ := h2
    unfold M.ofO at h2'
    split at h2'
    · rename_i b hb
      cases z <;> first | (cases hb; done) | skip
      cases hb
      obtain ⟨q3, _⟩ := q3
      cases q3
      refine ⟨_, rfl, h2' G3 F3 H3 ((x1.trans x2).trans g3.x) (o2.drop.grown g3).drop fun hp => ?_⟩
      rw [Bool.and_eq_true] at hp
      exact ⟨(hp2 hp.2).1.trans (hp1 hp.1).1, ((hp1 hp.1).2.trans (hp2 hp.2).2).trans g3.hh⟩
    · exact h2'.elim
  · exact h2.elim
theorem tw_tx {p : Bool} {e : Expr} {f : M Bool} (h : TW X W c p e f) : TX X W c p e f := let ⟨t, h1, h2⟩ := h; ⟨t, h1.pt, h2⟩
abbrev TPost (X : Cx) (c : Fc) (p : Bool) (σ : L2.St) (ρ : PV.Env) (G F H : Hp) (Q : Bool → Hp → Prop) : Bool × PV.Env → Prop :=
  fun r => ∀ G' F' H', Ext G F G' F' → Ok X.K X.mg c [] G' F' H' σ r.2 → (p = true → r.2 = ρ ∧ Same H H') → Q r.1 H'
theorem TX.use (tt : TT) {p : Bool} {f : M Bool} {σ : L2.St} {ρ : PV.Env} {G F H : Hp} {Q : Bool → Hp → Prop}
    (h : ∀ (σ : L2.St) (ρ : PV.Env) (G F H : Hp) (Q : Bool → Hp → Prop), Ok X.K X.mg c [] G F H σ ρ → Wp (f ρ) (TPost X c p σ ρ G F H Q) (Nx X.K X.mg W σ G F) → tt σ H Q)
    (o : Ok X.K X.mg c [] G F H σ ρ) {P : Bool × PV.Env → Prop} {N : Exn → Prop} (w : Wp (f ρ) P N)
    (k : ∀ r, P r → ∀ G' F' H', Ext G F G' F' → Ok X.K X.mg c [] G' F' H' σ r.2 → (p = true → r.2 = ρ ∧ Same H H') → Q r.1 H') (kn : ∀ x, N x → Nx X.K X.mg W σ G F x) : tt σ H Q :=
  h σ ρ G F H Q o (w.imp k kn)
theorem tx_not {p : Bool} {a : Expr} {f : M Bool} {pos : Pos} (h : TX X W c p a f) : TX X W c p (.UnaryOp .Not a pos) (tNot f) := by
  obtain ⟨t, h1, h2⟩ := h
  refine ⟨_, pt_not h1, fun σ ρ G F H Q o w => ?_⟩
  exact TX.use t h2 o (Wp.ofBindM w) (fun r hr G' F' H' x o' hp => hr G' F' H' x o' hp) fun _ z => z
theorem tw_and1 {p : Bool} {a : Expr} {f : M Bool} {pos : Pos} (h : TX X W c p a f) : TW X W c p (.BoolOp .And [a] pos) f := let ⟨_, h1, h2⟩ := h; ⟨_, pw_and1 h1, h2⟩
theorem tw_or1 {p : Bool} {a : Expr} {f : M Bool} {pos : Pos} (h : TX X W c p a f) : TW X W c p (.BoolOp .Or [a] pos) f := let ⟨_, h1, h2⟩ := h; ⟨_, pw_or1 h1, h2⟩
theorem tw_and {p q : Bool} {a b : Expr} {rest : List Expr} {f g : M Bool} {pos : Pos} (h : TX X W c p a f) (k : TW X W c q (.BoolOp .And (b :: rest) pos) g) : TW X W c (p && q) (.BoolOp .And (a :: b :: rest) pos) (tAnd f g) := by
  obtain ⟨t, h1, h2⟩ := h
  obtain ⟨u, k1, k2⟩ := k
  refine ⟨_, pw_and h1 k1, fun σ ρ G F H Q o w => ?_⟩
  refine TX.use t h2 o (Wp.ofBindM w) (fun r hr G1 F1 H1 x1 o1 hp1 => ?_) fun _ z => z
  obtain ⟨b, ρ1⟩ := r
  cases b with
  | true =>
    refine TX.use u k2 o1 (Wp.nxExt x1 hr) (fun r2 hr2 G2 F2 H2 x2 o2 hp2 => hr2 G2 F2 H2 (x1.trans x2) o2 fun hp => ?_) fun _ z => z
    rw [Bool.and_eq_true] at hp
    exact ⟨(hp2 hp.2).1.trans (hp1 hp.1).1, (hp1 hp.1).2.trans (hp2 hp.2).2⟩
  | false =>
    exact hr G1 F1 H1 x1 o1 fun hp => by
      rw [Bool.and_eq_true] at hp
      exact hp1 hp.1
theorem tw_or {p q : Bool} {a b : Expr} {rest : List Expr} {f g : M Bool} {pos : Pos} (h : TX X W c p a f) (k : TW X W c q (.BoolOp .Or (b :: rest) pos) g) : TW X W c (p && q) (.BoolOp .Or (a :: b :: rest) pos) (tOr f g) := by
  obtain ⟨t, h1, h2⟩ := h
  obtain ⟨u, k1, k2⟩ := k
  refine ⟨_, pw_or h1 k1, fun σ ρ G F H Q o w => ?_⟩
  refine TX.use t h2 o (Wp.ofBindM w) (fun r hr G1 F1 H1 x1 o1 hp1 => ?_) fun _ z => z
  obtain ⟨b, ρ1⟩ := r
  cases b with
  | false =>
    refine TX.use u k2 o1 (Wp.nxExt x1 hr) (fun r2 hr2 G2 F2 H2 x2 o2 hp2 => hr2 G2 F2 H2 (x1.trans x2) o2 fun hp => ?_) fun _ z => z
    rw [Bool.and_eq_true] at hp
    exact ⟨(hp2 hp.2).1.trans (hp1 hp.1).1, (hp1 hp.1).2.trans (hp2 hp.2).2⟩
  | true =>
    exact hr G1 F1 H1 x1 o1 fun hp => by
      rw [Bool.and_eq_true] at hp
      exact hp1 hp.1

/-! ### and, or, not, if as values -/
def eAnd (a b : M D) : M D := a.bind fun x => match x with
  | .bl true => b
  | .bl false => M.pure (.bl false)
  | _ => fun _ => .fail
def eOr (a b : M D) : M D := a.bind fun x => match x with
  | .bl true => M.pure (.bl true)
  | .bl false => b
  | _ => fun _ => .fail
theorem ex_one {p : Bool} {m : Md} {op} {a : Expr} {f : M D} {pos : Pos} (h : EX X W c p m a f) : EX X W c p m (.BoolOp op [a] pos) f := let ⟨_, h1, h2⟩ := h; ⟨_, pe_one h1, h2⟩
theorem ex_and {p q : Bool} {a b : Expr} {rest : List Expr} {f g : M D} {pos : Pos} (h : EX X W c p (.rd 0) a f) (k : EX X W c q (.rd 0) (.BoolOp .And (b :: rest) pos) g) : EX X W c (p && q) (.rd 0) (.BoolOp .And (a :: b :: rest) pos) (eAnd f g) := by
  obtain ⟨t, h1, h2⟩ := h
  obtain ⟨u, k1, k2⟩ := k
  refine ⟨_, pe_and h1 k1, fun σ ρ G F H Q o w => ?_⟩
  refine EX.use t h2 o (Wp.ofBindM w) (fun r hr v G1 F1 H1 fp x1 o1 q1 hp1 => ?_) fun _ z => z
  obtain ⟨d, ρ1⟩ := r
  cases d <;> first | exact hr.elim | skip
  rename_i b
  obtain ⟨q1, _⟩ := q1
  cases q1
  refine ⟨b, rfl, ?_⟩
  cases b with
  | true =>
    refine EX.use u k2 o1.drop (Wp.nxExt x1 hr) (fun r2 hr2 v2 G2 F2 H2 fp2 x2 o2 q2 hp2 => hr2 v2 G2 F2 H2 fp2 (x1.trans x2) o2 q2 fun hp => ?_) fun _ z => z
    rw [Bool.and_eq_true] at hp
    exact ⟨(hp2 hp.2).1.trans (hp1 hp.1).1, (hp1 hp.1).2.trans (hp2 hp.2).2⟩
  | false =>
    exact hr (.bl false) G1 F1 H1 [] x1 o1.drop ⟨.bl _, rfl⟩ fun hp => by
      rw [Bool.and_eq_true] at hp
      exact hp1 hp.1
theorem ex_or {p q : Bool} {a b : Expr} {rest : List Expr} {f g : M D} {pos : Pos} (h : EX X W c p (.rd 0) a f) (k : EX X W c q (.rd 0) (.BoolOp .Or (b :: rest) pos) g) : EX X W c (p && q) (.rd 0) (.BoolOp .Or (a :: b :: rest) pos) (eOr f g) := by
  obtain ⟨t, h1, h2⟩ := h
  obtain ⟨u, k1, k2⟩ := k
  refine ⟨_, pe_or h1 k1, fun σ ρ G F H Q o w => ?_⟩
  refine EX.use t h2 o (Wp.ofBindM w) (fun r hr v G1 F1 H1 fp x1 o1 q1 hp1 => ?_) fun _ z => z
  obtain ⟨d, ρ1⟩ := r
  cases d <;> first | exact hr.elim | skip
  rename_i b
  obtain ⟨q1, _⟩ := q1
  cases q1
  refine ⟨b, rfl, ?_⟩
  cases b with
  | false =>
    refine EX.use u k2 o1.drop (Wp.nxExt x1 hr) (fun r2 hr2 v2 G2 F2 H2 fp2 x2 o2 q2 hp2 => hr2 v2 G2 F2 H2 fp2 (x1.trans x2) o2 q2 fun hp => ?_) fun _ z => z
    rw [Bool.and_eq_true] at hp
    exact ⟨(hp2 hp.2).1.trans (hp1 hp.1).1, (hp1 hp.1).2.trans (hp2 hp.2).2⟩
  | true =>
    exact hr (.bl true) G1 F1 H1 [] x1 o1.drop ⟨.bl _, rfl⟩ fun hp => by
      rw [Bool.and_eq_true] at hp
      exact hp1 hp.1
def eNot (a : M D) : M D := e1 (fun x => (asBl x).map fun b => .bl (!b)) a
theorem ex_not {p : Bool} {a : Expr} {f : M D} {pos : Pos} (h : EX X W c p (.rd 0) a f) : EX X W c p (.rd 0) (.UnaryOp .Not a pos) (eNot f) := by
  refine ex_1 (r := fun x H1 Q => ∃ c, x = .bl c ∧ Q (.bl (!c)) H1) (fun ha => pe_not ha) (fun G F H d v z Q gf fh q hz k => ?_) h (.inl rfl)
  cases d <;> first | (cases hz; done) | skip
  cases hz
  obtain ⟨q, _⟩ := q
  cases q
  exact ⟨_, rfl, k _ G F H [] (.refl gf fh) ⟨.bl _, rfl⟩⟩
theorem ex_if {p q r : Bool} {m : Md} {t a b : Expr} {ft : M Bool} {fa fb : M D} {pos : Pos} (ht : TX X W c p t ft) (ha : EX X W c q m a fa) (hb : EX X W c r m b fb) : EX X W c (p && (q && r)) m (.IfExp t a b pos) (eIf ft fa fb) := by
  obtain ⟨t, h1, h2⟩ := ht
  obtain ⟨ta, a1, a2⟩ := ha
  obtain ⟨tb, b1, b2⟩ := hb
  refine ⟨_, pe_ifExp h1 a1 b1, fun σ ρ G F H Q o w => ?_⟩
  refine TX.use t h2 o (Wp.ofBindM w) (fun s hr G1 F1 H1 x1 o1 hp1 => ?_) fun _ z => z
  obtain ⟨b, ρ1⟩ := s
  cases b with
  | true =>
    refine EX.use ta a2 o1 (Wp.nxExt x1 hr) (fun r2 hr2 v2 G2 F2 H2 fp2 x2 o2 q2 hp2 => hr2 v2 G2 F2 H2 fp2 (x1.trans x2) o2 q2 fun hp => ?_) fun _ z => z
    rw [Bool.and_eq_true, Bool.and_eq_true] at hp
    exact ⟨(hp2 hp.2.1).1.trans (hp1 hp.1).1, (hp1 hp.1).2.trans (hp2 hp.2.1).2⟩
  | false =>
    refine EX.use tb b2 o1 (Wp.nxExt x1 hr) (fun r2 hr2 v2 G2 F2 H2 fp2 x2 o2 q2 hp2 => hr2 v2 G2 F2 H2 fp2 (x1.trans x2) o2 q2 fun hp => ?_) fun _ z => z
    rw [Bool.and_eq_true, Bool.and_eq_true] at hp
    exact ⟨(hp2 hp.2.2).1.trans (hp1 hp.1).1, (hp1 hp.1).2.trans (hp2 hp.2.2).2⟩

/-! ### argument lists, displays -/
theorem ValL.vals {K : PySem.W.Frag} {mg : Str → Option Value} {G G' H H' : Hp} {σ : L2.St} : ∀ {ms : List Am} {ds : List D} {vs : List V}, (∀ m ∈ ms, ∀ k, m = .val k → k = .rd 0 ∨ ((∃ n, k = .rd n) ∧ Same H H')) → Same G G' → ValL K mg G H σ ms ds vs → ValL K mg G' H' σ ms ds vs
  | _, _, _, _, _, .nil => .nil
  | _, _, _, k, s, .val h r => by
    refine ValL.val (fp := []) ?_ (ValL.vals (fun m hm => k m (List.mem_cons_of_mem _ hm)) s r)
    rcases k _ List.mem_cons_self _ rfl with rfl | ⟨⟨n, rfl⟩, hh⟩
    · exact ⟨Rp.mono s h.1, rfl⟩
    · exact ⟨h.1.mono s hh, rfl⟩
  | _, _, _, k, s, .io h r => .io h (ValL.vals (fun m hm => k m (List.mem_cons_of_mem _ hm)) s r)
theorem ax_nil : AX X W c true [] [] aNil := ⟨_, pa_nil, fun σ ρ G F H Q o w => w [] G F H (.refl _ _) o .nil fun _ => ⟨rfl, .refl _⟩⟩
theorem ax_cons {p q : Bool} {m : Md} {ms : List Am} {e : Expr} {es : List Expr} {f : M D} {g : M (List D)} (h : EX X W c p m e f) (k : AX X W c q ms es g) (w1 : Waits m q) (hs : starEach (e :: es) X.env = (false, eval e X.env) :: starEach es X.env := by rfl) :
    AX X W c (p && q) (.val m :: ms) (e :: es) (aCons f g) := by
  obtain ⟨t, h1, h2⟩ := h
  obtain ⟨u, k1, k2⟩ := k
  refine ⟨_, pa_cons h1 k1 hs, fun σ ρ G F H Q o w => ?_⟩
  refine EX.use t h2 o (Wp.ofBindM w) (fun r hr v G1 F1 H1 fp x1 o1 q1 hp1 => ?_) fun _ z => z
  refine k2 σ r.2 G1 F1 H1 _ o1.drop ((Wp.nxExt x1 (Wp.ofBindM hr)).imp (fun r2 hr2 => ?_) fun _ z => z)
  intro vs G2 F2 H2 x2 o2 q2 hp2
  refine hr2 (v :: vs) G2 F2 H2 (x1.trans x2) o2 (ValL.val (fp := []) (q1.wait w1 x2.g fun z => (hp2 z).2) q2) fun hp => ?_
  rw [Bool.and_eq_true] at hp
  exact ⟨(hp2 hp.2).1.trans (hp1 hp.1).1, (hp1 hp.1).2.trans (hp2 hp.2).2⟩
/-- the slot itself: its object may be changed by the callee -/
theorem ax_io (i : Nat) {q : Bool} {ms : List Am} {x : Str} {pos : Pos} {es : List Expr} {g : M (List D)} (k : AX X W c q ms es g) (hN : X.N[i]? = some x := by rfl)
    (hv : Vis X.env.scope x := by first | exact Or.inl rfl | exact Or.inr (Or.inl rfl) | exact Or.inr (Or.inr rfl)) (hd : (x == ("__debug__" : Str)) = false := by decide) (hcd : (x == ("__classdict__" : Str)) = false := by decide)
    (hs : starEach (.Name x pos :: es) X.env = (false, eval (.Name x pos) X.env) :: starEach es X.env := by rfl) :
    AX X W c q (.io i :: ms) (.Name x pos :: es) (aIo i g) := by
  obtain ⟨u, k1, k2⟩ := k
  refine ⟨_, pa_cons (pe_var hN hv hd hcd) k1 hs, fun σ ρ G F H Q o w => ?_⟩
  unfold aIo at w
  split at w
  · rename_i d e
    obtain ⟨v, e1, _⟩ := o.dom (look_eq.mp e)
    refine ⟨v, e1, ?_⟩
    refine k2 σ ρ G F H _ o ((Wp.ofBindM (m := g) (Wp.ofBindM (m := eC D.non) w)).imp (fun r2 hr2 => ?_) fun _ z => z)
    intro vs G2 F2 H2 x2 o2 q2 hp2
    exact hr2 (v :: vs) G2 F2 H2 x2 o2 (ValL.io e1 q2) hp2
  · exact w.elim
theorem ValL.sh {K : PySem.W.Frag} {mg : Str → Option Value} {G H : Hp} {σ : L2.St} : ∀ {ms : List Am} {ds : List D} {vs : List V}, (∀ m ∈ ms, m = .val (.rd 0)) → ValL K mg G H σ ms ds vs → RpL K mg G vs ds
  | _, _, _, _, .nil => .nil
  | _, _, _, k, .val h r => by
    have e := k _ List.mem_cons_self
    cases e
    exact .cons h.1 (ValL.sh (fun m hm => k m (List.mem_cons_of_mem _ hm)) r)
  | _, _, _, k, .io h r => by
    have e := k _ List.mem_cons_self
    cases e
/-- all arguments are shared values -/
def allSh : List Am → Bool
  | [] => true
  | .val (.rd 0) :: r => allSh r
  | _ => false
theorem allSh_mem : ∀ {ms : List Am}, allSh ms = true → ∀ m ∈ ms, m = .val (.rd 0)
  | [], _, _, h => nomatch h
  | .val (.rd 0) :: r, h, m, hm => by
    rcases List.mem_cons.1 hm with rfl | hm
    · rfl
    · exact allSh_mem (ms := r) h m hm
  | .val (.rd (_ + 1)) :: r, h, _, _ => nomatch h
  | .val (.own _) :: r, h, _, _ => nomatch h
  | .io _ :: r, h, _, _ => nomatch h
def eTup (fa : M (List D)) : M D := eL (fun xs => if xs.length ≤ 100000 then some (.tup xs) else none) fa
def eLst (fa : M (List D)) : M D := eL (fun xs => if xs.length ≤ 100000 then some (.lst xs) else none) fa
theorem szl {n : Nat} (h : n ≤ 100000) : n ≤ sizeLine := Nat.le_trans h (by decide)
theorem ownL_sh {K : PySem.W.Frag} {mg : Str → Option Value} {G H : Hp} : ∀ {vs : List V} {ds : List D}, RpL K mg G vs ds → OwnL (Own K mg G H 0) ds vs []
  | _, _, .nil => .nil
  | _, _, .cons h r => OwnL.cons (fp := []) ⟨h, rfl⟩ (ownL_sh r)
theorem OwnL.sh {K : PySem.W.Frag} {mg : Str → Option Value} {G H : Hp} : ∀ {vs : List V} {ds : List D} {fp : List Addr}, OwnL (Own K mg G H 0) ds vs fp → RpL K mg G vs ds ∧ fp = []
  | _, _, _, .nil => ⟨.nil, rfl⟩
  | _, _, _, .cons h r => by
    obtain ⟨q, e⟩ := OwnL.sh r
    obtain ⟨h, rfl⟩ := h
    subst e
    exact ⟨.cons h q, rfl⟩
theorem ex_tup {p : Bool} {ms : List Am} {es : List Expr} {f : M (List D)} {x1 pos} (h : AX X W c p ms es f) (hm : allSh ms = true := by rfl) : EX X W c p (.rd 0) (.Tuple es x1 pos) (eTup f) := by
  obtain ⟨t, h1, h2⟩ := h
  refine ⟨_, pe_tup h1, fun σ ρ G F H Q o w => ?_⟩
  refine h2 σ ρ G F H _ o ((Wp.ofBindM w).imp (fun r hr => ?_) fun _ z => z)
  intro vs G1 F1 H1 x1 o1 q1 hp1
  have q2 := ValL.sh (allSh_mem hm) q1
  unfold M.ofO at hr
  split at hr
  · rename_i z hz
    have hz : (if _ then _ else _) = _ := hz
    split at hz
    · rename_i hl
      cases hz
      refine ⟨by rw [q2.length]; exact szl hl, fun a ha => ?_⟩
      have g := Grow.sh (o := .tup vs) o1.gf o1.fh ha
      exact hr _ _ _ _ _ (x1.trans g.x) (o1.grown g) ⟨.tup upd_same (q2.mono g.x.g), rfl⟩ fun hp => ⟨(hp1 hp).1, (hp1 hp).2.trans g.hh⟩
    · cases hz
  · exact hr.elim
theorem ex_lst {p : Bool} {ms : List Am} {es : List Expr} {f : M (List D)} {pos} (h : AX X W c p ms es f) (hm : allSh ms = true := by rfl) : EX X W c p (.own 1) (.List es pos) (eLst f) := by
  obtain ⟨t, h1, h2⟩ := h
  refine ⟨_, pe_lst h1, fun σ ρ G F H Q o w => ?_⟩
  refine h2 σ ρ G F H _ o ((Wp.ofBindM w).imp (fun r hr => ?_) fun _ z => z)
  intro vs G1 F1 H1 x1 o1 q1 hp1
  have q2 := ValL.sh (allSh_mem hm) q1
  unfold M.ofO at hr
  split at hr
  · rename_i z hz
    have hz : (if _ then _ else _) = _ := hz
    split at hz
    · rename_i hl
      cases hz
      refine ⟨by rw [q2.length]; exact szl hl, fun a ha => ?_⟩
      have g := Grow.own (o := .lst vs) o1.gf o1.fh ha
      exact hr _ _ _ _ _ (x1.trans g.x) (o1.grown g) (Own.mkL upd_same (ownL_sh q2)) fun hp => ⟨(hp1 hp).1, (hp1 hp).2.trans g.hh⟩
    · cases hz
  · exact hr.elim
end
end
end PV

set_option Elab.async false
set_option linter.all false
set_option maxRecDepth 100000
set_option maxHeartbeats 0
namespace PV
noncomputable section
open PySem PySem.Spec
open PyProof.Rows L2

/-! ## 9. operations on plain values -/
def small (n : Nat) : Bool := decide (n ≤ 100000)
def mulOk (i j : Int) : Bool := decide (i.natAbs < 2 ^ 64) || (decide (j.natAbs < 2 ^ 64) || decide (i.natAbs.log2 + j.natAbs.log2 < 100000000))
def gAdd : D → D → Option D
  | .int i, .int j => some (.int (i + j))
  | .str a, .str b => if small (a.length + b.length) = true then some (.str (a ++ b)) else none
  | .tup a, .tup b => if small (a.length + b.length) = true then some (.tup (a ++ b)) else none
  | _, _ => none
def gSub : D → D → Option D
  | .int i, .int j => some (.int (i - j))
  | _, _ => none
def gMul : D → D → Option D
  | .int i, .int j => if mulOk i j = true then some (.int (i * j)) else none
  | _, _ => none
def gDiv : D → D → Option D
  | .int i, .int j => if j = 0 then none else if j.natAbs < 1073741824 then some (.int (i.fdiv j)) else if 0 < j ∧ j.natAbs.log2 < 9000 then some (.int (i.fdiv j)) else none
  | _, _ => none
def gMod : D → D → Option D
  | .int i, .int j => if j = 0 then none else some (.int (i.fmod j))
  | _, _ => none
def gLt : D → D → Option D
  | .int i, .int j => some (.bl (decide (i < j)))
  | _, _ => none
def gLe : D → D → Option D
  | .int i, .int j => some (.bl (decide (i ≤ j)))
  | _, _ => none
def gGt : D → D → Option D
  | .int i, .int j => some (.bl (decide (j < i)))
  | _, _ => none
def gGe : D → D → Option D
  | .int i, .int j => some (.bl (decide (j ≤ i)))
  | _, _ => none
def gIsN : D → Option D
  | .non => some (.bl true)
  | _ => some (.bl false)
/-! data alone -/
mutual
def toP : D → Option PyData
  | .non => some .none
  | .bl b => some (.bool b)
  | .int i => some (.int i)
  | .str x => some (.str x)
  | .tup ds => (toPs ds).map PyData.tuple
  | .lst ds => (toPs ds).map PyData.list
  | .fn _ => none
  | .dct _ => none
  | .dcT _ => none
  | .obj _ _ => none
  | .scr _ => none
def toPs : List D → Option (List PyData)
  | [] => some []
  | d :: r => match toP d, toPs r with
    | some x, some xs => some (x :: xs)
    | _, _ => none
end
def eqS (x y : D) : Option Bool := match toP x, toP y with
  | some p, some q => if SeqAt.shaped p = true ∧ SeqAt.shaped q = true then some (PyData.eqv p q) else none
  | _, _ => none
/-! the same for the kernel to work with: data of at most n levels -/
def allR (f : D → Bool) (ds : List D) : Bool := List.rec (motive := fun _ => Bool) true (fun d _ ih => Bool.rec (motive := fun _ => Bool) false ih (f d)) ds
def eqR (f : D → D → Bool) (ds : List D) : List D → Bool := List.rec (motive := fun _ => List D → Bool) (fun es => List.rec (motive := fun _ => Bool) true (fun _ _ _ => false) es)
  (fun d _ ih es => List.rec (motive := fun _ => Bool) false (fun e r _ => Bool.rec (motive := fun _ => Bool) false (ih r) (f d e)) es) ds
def ok1 (f : D → Bool) : D → Bool
  | .non => true
  | .bl _ => true
  | .int _ => true
  | .str x => PyData.strOk x
  | .tup ds => allR f ds
  | .lst ds => allR f ds
  | _ => false
def eq1 (f : D → D → Bool) : D → D → Bool
  | .non, .non => true
  | .bl a, .bl b => a == b
  | .bl a, .int j => decide ((if a then 1 else 0) = j)
  | .int i, .bl b => decide (i = (if b then 1 else 0))
  | .int i, .int j => decide (i = j)
  | .str x, .str y => x == y
  | .lst xs, .lst ys => eqR f xs ys
  | .tup xs, .tup ys => eqR f xs ys
  | _, _ => false
def okF (n : Nat) : D → Bool := Nat.rec (motive := fun _ => D → Bool) (ok1 fun _ => false) (fun _ f => ok1 f) n
def eqF (n : Nat) : D → D → Bool := Nat.rec (motive := fun _ => D → D → Bool) (eq1 fun _ _ => false) (fun _ f => eq1 f) n
def eqD (x y : D) : Option Bool := match okF 50 x, okF 50 y with
  | true, true => some (eqF 50 x y)
  | _, _ => none
theorem allR_cons (f : D → Bool) (d : D) (ds : List D) : allR f (d :: ds) = (f d && allR f ds) := by
  show Bool.rec (motive := fun _ => Bool) false (allR f ds) (f d) = _
  cases f d <;> rfl
theorem eqR_cons (f : D → D → Bool) (d e : D) (ds es : List D) : eqR f (d :: ds) (e :: es) = (f d e && eqR f ds es) := by
  show Bool.rec (motive := fun _ => Bool) false (eqR f ds es) (f d e) = _
  cases f d e <;> rfl
theorem all_toP {n : Nat} {f : D → Bool} (h : ∀ d, f d = true → ∃ p, toP d = some p ∧ p.canLay0 = true ∧ p.depth ≤ n) : ∀ ds : List D, allR f ds = true → ∃ ps, toPs ds = some ps ∧ PyData.canLayAll0 ps = true ∧ PyData.depthAll ps ≤ n
  | [], _ => ⟨[], by simp [toPs], by simp [PyData.canLayAll0], by simp [PyData.depthAll]⟩
  | d :: r, q => by
    rw [allR_cons, Bool.and_eq_true] at q
    obtain ⟨p, h1, h2, h3⟩ := h d q.1
    obtain ⟨ps, k1, k2, k3⟩ := all_toP h r q.2
    exact ⟨p :: ps, by simp [toPs, h1, k1], by simp [PyData.canLayAll0, h2, k2], by simp only [PyData.depthAll]; omega⟩
theorem ok1_toP {n : Nat} {f : D → Bool} (h : ∀ ds : List D, allR f ds = true → ∃ ps, toPs ds = some ps ∧ PyData.canLayAll0 ps = true ∧ PyData.depthAll ps ≤ n) : ∀ d, ok1 f d = true → ∃ p, toP d = some p ∧ p.canLay0 = true ∧ p.depth ≤ n + 1
  | .non, _ => ⟨.none, by simp [toP], by simp [PyData.canLay0], by simp [PyData.depth]⟩
  | .bl b, _ => ⟨.bool b, by simp [toP], by simp [PyData.canLay0], by simp [PyData.depth]⟩
  | .int b, _ => ⟨.int b, by simp [toP], by simp [PyData.canLay0], by simp [PyData.depth]⟩
  | .str x, q => ⟨.str x, by simp [toP], by simp only [PyData.canLay0]; exact q, by simp [PyData.depth]⟩
  | .tup ds, q => by
    obtain ⟨ps, k1, k2, k3⟩ := h ds q
    exact ⟨.tuple ps, by simp [toP, k1], by simp [PyData.canLay0, k2], by simp only [PyData.depth]; omega⟩
  | .lst ds, q => by
    obtain ⟨ps, k1, k2, k3⟩ := h ds q
    exact ⟨.list ps, by simp [toP, k1], by simp [PyData.canLay0, k2], by simp only [PyData.depth]; omega⟩
  | .fn _, q => by cases q
  | .dct _, q => by cases q
  | .dcT _, q => by cases q
  | .obj _ _, q => by cases q
  | .scr _, q => by cases q
theorem allR_false : ∀ ds : List D, allR (fun _ => false) ds = true → ds = []
  | [], _ => rfl
  | d :: r, q => by
    rw [allR_cons] at q
    cases q
theorem okF_toP : ∀ (n : Nat) (d : D), okF n d = true → ∃ p, toP d = some p ∧ p.canLay0 = true ∧ p.depth ≤ n + 1
  | 0, d, q => ok1_toP (n := 0) (fun ds q => by
    have := allR_false ds q
    subst this
    exact ⟨[], by simp [toPs], by simp [PyData.canLayAll0], by simp [PyData.depthAll]⟩) d q
  | n + 1, d, q => ok1_toP (n := n + 1) (all_toP (okF_toP n)) d q
theorem eqR_toP {f : D → D → Bool} {g : D → Bool} (hf : ∀ d e p q, g d = true → g e = true → toP d = some p → toP e = some q → f d e = PyData.eqv p q) : ∀ (ds es : List D) (ps qs : List PyData), allR g ds = true → allR g es = true → toPs ds = some ps → toPs es = some qs → eqR f ds es = PyData.eqvAll ps qs
  | [], [], ps, qs, _, _, h1, h2 => by
    simp only [toPs, Option.some.injEq] at h1 h2
    subst h1 h2
    simp [eqR, PyData.eqvAll]
  | [], e :: es, ps, qs, _, _, h1, h2 => by
    simp only [toPs, Option.some.injEq] at h1 h2
    subst h1
    split at h2
    · cases h2
      simp [eqR, PyData.eqvAll]
    · cases h2
  | d :: ds, [], ps, qs, _, _, h1, h2 => by
    simp only [toPs, Option.some.injEq] at h1 h2
    subst h2
    split at h1
    · cases h1
      simp [eqR, PyData.eqvAll]
    · cases h1
  | d :: ds, e :: es, ps, qs, a1, a2, h1, h2 => by
    rw [allR_cons, Bool.and_eq_true] at a1 a2
    simp only [toPs] at h1 h2
    split at h1
    · rename_i p ps' e1 e2
      split at h2
      · rename_i q qs' e3 e4
        cases h1
        cases h2
        rw [eqR_cons, hf d e p q a1.1 a2.1 e1 e3, eqR_toP hf ds es ps' qs' a1.2 a2.2 e2 e4]
        simp [PyData.eqvAll]
      · cases h2
    · cases h1
theorem map_tup {o : Option (List PyData)} {f : List PyData → PyData} {p : PyData} (h : o.map f = some p) : ∃ ps, o = some ps ∧ p = f ps := by
  cases o with
  | none => cases h
  | some ps => cases h; exact ⟨ps, rfl, rfl⟩
theorem beq_dec (i j : Int) : (i == j) = decide (i = j) := by
  by_cases h : i = j <;> simp [h]
theorem eq1_toP {f : D → D → Bool} {g : D → Bool} (hf : ∀ (ds es : List D) (ps qs : List PyData), allR g ds = true → allR g es = true → toPs ds = some ps → toPs es = some qs → eqR f ds es = PyData.eqvAll ps qs) (d e : D) (p q : PyData) (k1 : ok1 g d = true) (k2 : ok1 g e = true) (h1 : toP d = some p) (h2 : toP e = some q) : eq1 f d e = PyData.eqv p q := by
  cases d <;> first | (cases k1; done) | skip
  all_goals (cases e <;> first | (cases k2; done) | skip)
  all_goals simp only [toP, Option.some.injEq] at h1 h2
  all_goals first
    | (subst h1; subst h2; simp [eq1, PyData.eqv]; done)
    | (obtain ⟨ps, e1, rfl⟩ := map_tup h1; subst h2; simp [eq1, PyData.eqv]; done)
    | (obtain ⟨qs, e2, rfl⟩ := map_tup h2; subst h1; simp [eq1, PyData.eqv]; done)
    | (obtain ⟨ps, e1, rfl⟩ := map_tup h1; obtain ⟨qs, e2, rfl⟩ := map_tup h2; first | (simp [eq1, PyData.eqv]; done) | (simp only [eq1, PyData.eqv]; exact hf _ _ _ _ k1 k2 e1 e2))
    | (subst h1; subst h2; simp only [eq1, PyData.eqv]; exact (beq_dec _ _).symm)
theorem eqF_toP : ∀ (n : Nat) (d e : D) (p q : PyData), okF n d = true → okF n e = true → toP d = some p → toP e = some q → eqF n d e = PyData.eqv p q
  | 0, d, e, p, q, k1, k2, h1, h2 => eq1_toP (g := fun _ => false) (fun ds es ps qs a1 a2 t1 t2 => eqR_toP (fun _ _ _ _ z => by cases z) ds es ps qs a1 a2 t1 t2) d e p q k1 k2 h1 h2
  | n + 1, d, e, p, q, k1, k2, h1, h2 => eq1_toP (g := okF n) (fun ds es ps qs a1 a2 t1 t2 => eqR_toP (eqF_toP n) ds es ps qs a1 a2 t1 t2) d e p q k1 k2 h1 h2
theorem eqD_eqS {x y : D} {b : Bool} (h : eqD x y = some b) : eqS x y = some b := by
  unfold eqD at h
  split at h
  · rename_i k1 k2
    cases h
    obtain ⟨p, t1, c1, d1⟩ := okF_toP 50 x k1
    obtain ⟨q, t2, c2, d2⟩ := okF_toP 50 y k2
    unfold eqS
    rw [t1, t2]
    have s1 : SeqAt.shaped p = true := by unfold SeqAt.shaped; rw [c1, Bool.true_and]; exact decide_eq_true (by omega)
    have s2 : SeqAt.shaped q = true := by unfold SeqAt.shaped; rw [c2, Bool.true_and]; exact decide_eq_true (by omega)
    simp only [s1, s2, and_self, if_true]
    rw [eqF_toP 50 x y p q k1 k2 t1 t2]
  · cases h
def gEq (x y : D) : Option D := (eqD x y).map .bl
def gNe (x y : D) : Option D := (eqD x y).map fun b => .bl (!b)
section
variable {K : PySem.W.Frag} {mg : Str → Option Value} {H : Hp}
mutual
theorem dp_of : ∀ {v : V} {d : D} {p : PyData}, Rp K mg H v d → toP d = some p → Dp K H v p
  | _, _, _, .non, e => by simp only [toP, Option.some.injEq] at e; subst e; exact .non
  | _, _, _, .bl b, e => by simp only [toP, Option.some.injEq] at e; subst e; exact .bl b
  | _, _, _, .int i, e => by simp only [toP, Option.some.injEq] at e; subst e; exact .int i
  | _, _, _, .str x, e => by simp only [toP, Option.some.injEq] at e; subst e; exact .str x
  | _, _, _, .fn _, e => by simp only [toP] at e; cases e
  | _, _, _, .tup h r, e => by
    simp only [toP] at e
    obtain ⟨ps, e1, rfl⟩ := Option.map_eq_some_iff.mp e
    exact .tup (.of h) (dps_of r e1)
  | _, _, _, .lst h r, e => by
    simp only [toP] at e
    obtain ⟨ps, e1, rfl⟩ := Option.map_eq_some_iff.mp e
    exact .lst (.of h) (dps_of r e1)
  | _, _, _, .scr _, e => by simp only [toP] at e; cases e
  | _, _, _, .dctK _ _ _, e => by simp only [toP] at e; cases e
  | _, _, _, .dctT _ _ _, e => by simp only [toP] at e; cases e
  | _, _, _, .obj _ _ _ _, e => by simp only [toP] at e; cases e
theorem dps_of : ∀ {vs : List V} {ds : List D} {ps : List PyData}, RpL K mg H vs ds → toPs ds = some ps → DpAll K H vs ps
  | _, _, _, .nil, e => by simp only [toPs, Option.some.injEq] at e; subst e; exact .nil
  | _, _, ps, .cons h r, e => by
    simp only [toPs] at e
    split at e
    · rename_i x xs e1 e2
      cases e
      exact .cons (dp_of h e1) (dps_of r e2)
    · cases e
end
end
section
variable {X : Cx} {W : WX} {c : Fc}
theorem OpR.imp {f : Value → Value → Sem Value} {r r' : R2} (h : OpR X f r) (k : ∀ x y H Q, r' x y H Q → r x y H Q) : OpR X f r' := fun pins s σ H x y v u Q I rx ry q => h pins s σ H x y v u Q I rx ry (k _ _ _ _ q)
/-- an operation on ints -/
theorem op2_int {K : PySem.W.Frag} {mg : Str → Option Value} {C : Int → Int → Prop} {f : Int → Int → V} {g : D → D → Option D} {k : Int → Int → D} {n m : Nat}
    (hg : ∀ x y z, g x y = some z → ∃ i j, x = .int i ∧ y = .int j ∧ C i j ∧ z = k i j) (hf : ∀ i j H, Rp K mg H (f i j) (k i j)) : Op2S K mg (.rd n) (.rd m) (.rd 0) (rI C f) g := by
  intro G F H d e v u z Q gf fh q1 q2 hz kk
  obtain ⟨i, j, rfl, rfl, hc, rfl⟩ := hg _ _ _ hz
  have r1 := q1.1.rp (gf.trans fh)
  have r2 := q2.1.rp (gf.trans fh)
  cases r1
  cases r2
  exact ⟨i, j, rfl, rfl, hc, kk _ G F H [] (.refl gf fh) ⟨hf i j G, rfl⟩⟩
theorem rI0_I {g : Int → Int → V} : ∀ x y H Q, rI (fun _ _ => True) g x y H Q → rI0 g x y H Q := fun _ _ _ _ ⟨i, j, h1, h2, _, q⟩ => ⟨i, j, h1, h2, q⟩
theorem int_inv {g : Int → Int → Option D} {x y z : D} (h : (match x, y with | .int i, .int j => g i j | _, _ => none) = some z) : ∃ i j, x = .int i ∧ y = .int j ∧ g i j = some z := by
  cases x <;> first | (cases h; done) | skip
  cases y <;> first | (cases h; done) | skip
  exact ⟨_, _, rfl, rfl, h⟩
variable {p1 p2 : Bool} {n m : Nat} {a b : Expr} {fa fb : M D} {pos : Pos}
theorem ex_sub (ha : EX X W c p1 (.rd n) a fa) (hb : EX X W c p2 (.rd m) b fb) (w1 : Waits (.rd n) p2) : EX X W c (p1 && p2) (.rd 0) (.BinOp a .Sub b pos) (e2 gSub fa fb) := by
  refine ex_2 (r := rI (fun _ _ => True) fun i j => .int (i - j)) (fun h1 h2 => pe_op (OpR.imp op_sub rI0_I) h1 h2) (op2_int (k := fun i j => .int (i - j)) (fun x y z h => ?_) fun i j _ => .int _) ha hb w1 (.inr ⟨⟨m, rfl⟩, rfl⟩)
  obtain ⟨i, j, rfl, rfl, h⟩ := int_inv (g := fun i j => some (.int (i - j))) h
  cases h
  exact ⟨i, j, rfl, rfl, trivial, rfl⟩
theorem mul_wide : OpR X (binaryOp .Mult) (rI (fun i j => mulOk i j = true) fun i j => .int (i * j)) := opI fun i j _ _ _ _ _ hc q => mul_int q (by
  unfold mulOk at hc
  simp only [Bool.or_eq_true, decide_eq_true_eq] at hc
  rcases hc with h | h | h
  · exact CMul.ok (.inl ⟨by omega, by omega⟩)
  · exact CMul.ok (.inr ⟨by omega, by omega⟩)
  · have b : ∀ x : Int, Builtin.Int.intBits x ≤ x.natAbs.log2 + 1 := fun x => by
      unfold Builtin.Int.intBits
      split <;> omega
    have h1 := b i
    have h2 := b j
    unfold IntMulOk
    intro z
    rw [Bool.and_eq_true] at z
    have far := z.right
    simp only [Builtin.Int.intTooBig, decide_eq_true_eq, show bitsLine = 134217728 from by decide] at far
    omega)
theorem ex_mul (ha : EX X W c p1 (.rd n) a fa) (hb : EX X W c p2 (.rd m) b fb) (w1 : Waits (.rd n) p2) : EX X W c (p1 && p2) (.rd 0) (.BinOp a .Mult b pos) (e2 gMul fa fb) := by
  refine ex_2 (fun h1 h2 => pe_op mul_wide h1 h2) (op2_int (k := fun i j => .int (i * j)) (fun x y z h => ?_) fun i j _ => .int _) ha hb w1 (.inr ⟨⟨m, rfl⟩, rfl⟩)
  obtain ⟨i, j, rfl, rfl, h1⟩ := int_inv (g := fun i j => if mulOk i j = true then some (.int (i * j)) else none) h
  split at h1
  · rename_i hc
    cases h1
    exact ⟨i, j, rfl, rfl, hc, rfl⟩
  · cases h1
theorem op_fdivA : OpR X (binaryOp .FloorDiv) (rI (fun i j => (j ≠ 0 ∧ j.natAbs < 1073741824) ∨ (0 < j ∧ j.natAbs.log2 < 9000)) fun i j => .int (i.fdiv j)) := by
  rintro pins s σ H _ _ v u Q I rx ry ⟨i, j, rfl, rfl, few | ⟨up, bits⟩, q⟩
  · exact op_fdivN pins s σ H _ _ v u Q I rx ry ⟨i, j, rfl, rfl, few, q⟩
  · rcases rx with ⟨t1, rfl⟩
    rcases ry with ⟨t2, rfl⟩
    exact floordiv_int (Int.ne_of_gt up) ⟨.int (i.fdiv j), H, I.tok _, ⟨_, rfl⟩, q⟩ (.inl (PyProof.noPylong_of_log2 bits))
theorem ex_div (ha : EX X W c p1 (.rd n) a fa) (hb : EX X W c p2 (.rd m) b fb) (w1 : Waits (.rd n) p2) : EX X W c (p1 && p2) (.rd 0) (.BinOp a .FloorDiv b pos) (e2 gDiv fa fb) := by
  refine ex_2 (fun h1 h2 => pe_op op_fdivA h1 h2) (op2_int (k := fun i j => .int (i.fdiv j)) (fun x y z h => ?_) fun i j _ => .int _) ha hb w1 (.inr ⟨⟨m, rfl⟩, rfl⟩)
  obtain ⟨i, j, rfl, rfl, h1⟩ := int_inv (g := fun i j => if j = 0 then none else if j.natAbs < 1073741824 then some (.int (i.fdiv j)) else if 0 < j ∧ j.natAbs.log2 < 9000 then some (.int (i.fdiv j)) else none) h
  split at h1
  · cases h1
  · rename_i hj
    split at h1
    · rename_i hc
      cases h1
      exact ⟨i, j, rfl, rfl, .inl ⟨hj, hc⟩, rfl⟩
    · split at h1
      · rename_i hc
        cases h1
        exact ⟨i, j, rfl, rfl, .inr hc, rfl⟩
      · cases h1
theorem ex_mod (ha : EX X W c p1 (.rd n) a fa) (hb : EX X W c p2 (.rd m) b fb) (w1 : Waits (.rd n) p2) : EX X W c (p1 && p2) (.rd 0) (.BinOp a .Mod b pos) (e2 gMod fa fb) := by
  refine ex_2 (fun h1 h2 => pe_op op_modN h1 h2) (op2_int (k := fun i j => .int (i.fmod j)) (fun x y z h => ?_) fun i j _ => .int _) ha hb w1 (.inr ⟨⟨m, rfl⟩, rfl⟩)
  obtain ⟨i, j, rfl, rfl, h1⟩ := int_inv (g := fun i j => if j = 0 then none else some (.int (i.fmod j))) h
  split at h1
  · cases h1
  · rename_i hc
    cases h1
    exact ⟨i, j, rfl, rfl, hc, rfl⟩
theorem lt_S {K : PySem.W.Frag} {mg : Str → Option Value} : Op2S K mg (.rd n) (.rd m) (.rd 0) (rI0 fun i j => .bl (decide (i < j))) gLt := fun G F H d e v u z Q gf fh q1 q2 hz k =>
  rI0_I _ _ _ _ (op2_int (C := fun _ _ => True) (f := fun i j => .bl (decide (i < j))) (k := fun i j => .bl (decide (i < j))) (fun x y z h => by
    obtain ⟨i, j, rfl, rfl, h⟩ := int_inv (g := fun i j => some (.bl (decide (i < j)))) h
    cases h
    exact ⟨i, j, rfl, rfl, trivial, rfl⟩) (fun i j _ => .bl _) G F H d e v u z Q gf fh q1 q2 hz k)
theorem le_S {K : PySem.W.Frag} {mg : Str → Option Value} : Op2S K mg (.rd n) (.rd m) (.rd 0) (rI0 fun i j => .bl (decide (i ≤ j))) gLe := fun G F H d e v u z Q gf fh q1 q2 hz k =>
  rI0_I _ _ _ _ (op2_int (C := fun _ _ => True) (f := fun i j => .bl (decide (i ≤ j))) (k := fun i j => .bl (decide (i ≤ j))) (fun x y z h => by
    obtain ⟨i, j, rfl, rfl, h⟩ := int_inv (g := fun i j => some (.bl (decide (i ≤ j)))) h
    cases h
    exact ⟨i, j, rfl, rfl, trivial, rfl⟩) (fun i j _ => .bl _) G F H d e v u z Q gf fh q1 q2 hz k)
theorem gt_S {K : PySem.W.Frag} {mg : Str → Option Value} : Op2S K mg (.rd n) (.rd m) (.rd 0) (rI0 fun i j => .bl (decide (j < i))) gGt := fun G F H d e v u z Q gf fh q1 q2 hz k =>
  rI0_I _ _ _ _ (op2_int (C := fun _ _ => True) (f := fun i j => .bl (decide (j < i))) (k := fun i j => .bl (decide (j < i))) (fun x y z h => by
    obtain ⟨i, j, rfl, rfl, h⟩ := int_inv (g := fun i j => some (.bl (decide (j < i)))) h
    cases h
    exact ⟨i, j, rfl, rfl, trivial, rfl⟩) (fun i j _ => .bl _) G F H d e v u z Q gf fh q1 q2 hz k)
theorem ge_S {K : PySem.W.Frag} {mg : Str → Option Value} : Op2S K mg (.rd n) (.rd m) (.rd 0) (rI0 fun i j => .bl (decide (j ≤ i))) gGe := fun G F H d e v u z Q gf fh q1 q2 hz k =>
  rI0_I _ _ _ _ (op2_int (C := fun _ _ => True) (f := fun i j => .bl (decide (j ≤ i))) (k := fun i j => .bl (decide (j ≤ i))) (fun x y z h => by
    obtain ⟨i, j, rfl, rfl, h⟩ := int_inv (g := fun i j => some (.bl (decide (j ≤ i)))) h
    cases h
    exact ⟨i, j, rfl, rfl, trivial, rfl⟩) (fun i j _ => .bl _) G F H d e v u z Q gf fh q1 q2 hz k)
theorem eq_S {K : PySem.W.Frag} {mg : Str → Option Value} : Op2S K mg (.rd n) (.rd m) (.rd 0) (rEqD K) gEq := by
  intro G F H d e v u z Q gf fh q1 q2 hz k
  unfold gEq at hz
  obtain ⟨b0, hz0, hz⟩ := Option.map_eq_some_iff.mp hz
  have hz1 := eqD_eqS hz0
  unfold eqS at hz1
  split at hz1
  · rename_i x y e1 e2
    split at hz1
    · rename_i hs
      cases hz1
      cases hz
      exact ⟨x, y, dp_of (q1.1.rp (gf.trans fh)) e1, dp_of (q2.1.rp (gf.trans fh)) e2, hs.1, hs.2, k _ G F H [] (.refl gf fh) ⟨.bl _, rfl⟩⟩
    · cases hz1
  · cases hz1
theorem ne_S {K : PySem.W.Frag} {mg : Str → Option Value} : Op2S K mg (.rd n) (.rd m) (.rd 0) (rNeD K) gNe := by
  intro G F H d e v u z Q gf fh q1 q2 hz k
  unfold gNe at hz
  obtain ⟨b0, hz0, hz⟩ := Option.map_eq_some_iff.mp hz
  have hz1 := eqD_eqS hz0
  unfold eqS at hz1
  split at hz1
  · rename_i x y e1 e2
    split at hz1
    · rename_i hs
      cases hz1
      cases hz
      exact ⟨x, y, dp_of (q1.1.rp (gf.trans fh)) e1, dp_of (q2.1.rp (gf.trans fh)) e2, hs.1, hs.2, k _ G F H [] (.refl gf fh) ⟨.bl _, rfl⟩⟩
    · cases hz1
  · cases hz1
/-- room for one call more, as the rules of data ask -/
structure Rm (X : Cx) : Prop where
  ex : ∃ k, Room k X.A
theorem Rm.u64 (h : Rm X) : X.A.units + 64 < cLine := let ⟨_, r⟩ := h.ex; r.units
theorem Rm.u65 (h : Rm X) : X.A.units + 65 < cLine := let ⟨_, r⟩ := h.ex; by have := r.un; omega
theorem Rm.u1 (h : Rm X) : X.A.units + 1 < cLine := let ⟨_, r⟩ := h.ex; hu_of r
abbrev W2 (m1 m2 : Md) (p2 : Bool) : Prop := Waits m1 p2 ∧ Waits m2 true
theorem w00 {q : Bool} : Waits (.rd 0) q := .inl rfl
theorem wrd {n : Nat} : Waits (.rd n) true := .inr ⟨⟨n, rfl⟩, rfl⟩
/-- the comparisons, as tests and as values -/
theorem tx_lt (ha : EX X W c p1 (.rd n) a fa) (hb : EX X W c p2 (.rd m) b fb) (w1 : Waits (.rd n) p2) : TX X W c (p1 && p2) (.Compare a [.Lt] [b] pos) (tB (e2 gLt fa fb)) := tx_cmp op_lt lt_S ha hb w1 wrd (nomark b)
theorem tx_le (ha : EX X W c p1 (.rd n) a fa) (hb : EX X W c p2 (.rd m) b fb) (w1 : Waits (.rd n) p2) : TX X W c (p1 && p2) (.Compare a [.LtE] [b] pos) (tB (e2 gLe fa fb)) := tx_cmp op_le le_S ha hb w1 wrd (nomark b)
theorem tx_gt (ha : EX X W c p1 (.rd n) a fa) (hb : EX X W c p2 (.rd m) b fb) (w1 : Waits (.rd n) p2) : TX X W c (p1 && p2) (.Compare a [.Gt] [b] pos) (tB (e2 gGt fa fb)) := tx_cmp op_gt gt_S ha hb w1 wrd (nomark b)
theorem tx_ge (ha : EX X W c p1 (.rd n) a fa) (hb : EX X W c p2 (.rd m) b fb) (w1 : Waits (.rd n) p2) : TX X W c (p1 && p2) (.Compare a [.GtE] [b] pos) (tB (e2 gGe fa fb)) := tx_cmp op_ge ge_S ha hb w1 wrd (nomark b)
theorem tx_eq (hr : Rm X) (ha : EX X W c p1 (.rd n) a fa) (hb : EX X W c p2 (.rd m) b fb) (w1 : Waits (.rd n) p2) : TX X W c (p1 && p2) (.Compare a [.Eq] [b] pos) (tB (e2 gEq fa fb)) := tx_cmp (op_eqD hr.u64) eq_S ha hb w1 wrd (nomark b)
theorem tx_ne (hr : Rm X) (ha : EX X W c p1 (.rd n) a fa) (hb : EX X W c p2 (.rd m) b fb) (w1 : Waits (.rd n) p2) : TX X W c (p1 && p2) (.Compare a [.NotEq] [b] pos) (tB (e2 gNe fa fb)) := tx_cmp (op_neD hr.u64) ne_S ha hb w1 wrd (nomark b)
theorem ex_lt (ha : EX X W c p1 (.rd n) a fa) (hb : EX X W c p2 (.rd m) b fb) (w1 : Waits (.rd n) p2) : EX X W c (p1 && p2) (.rd 0) (.Compare a [.Lt] [b] pos) (e2 gLt fa fb) := ex_2 (fun h1 h2 => pe_cmpR op_lt h1 h2 (nomark b)) lt_S ha hb w1 wrd
theorem ex_le (ha : EX X W c p1 (.rd n) a fa) (hb : EX X W c p2 (.rd m) b fb) (w1 : Waits (.rd n) p2) : EX X W c (p1 && p2) (.rd 0) (.Compare a [.LtE] [b] pos) (e2 gLe fa fb) := ex_2 (fun h1 h2 => pe_cmpR op_le h1 h2 (nomark b)) le_S ha hb w1 wrd
theorem ex_gt (ha : EX X W c p1 (.rd n) a fa) (hb : EX X W c p2 (.rd m) b fb) (w1 : Waits (.rd n) p2) : EX X W c (p1 && p2) (.rd 0) (.Compare a [.Gt] [b] pos) (e2 gGt fa fb) := ex_2 (fun h1 h2 => pe_cmpR op_gt h1 h2 (nomark b)) gt_S ha hb w1 wrd
theorem ex_ge (ha : EX X W c p1 (.rd n) a fa) (hb : EX X W c p2 (.rd m) b fb) (w1 : Waits (.rd n) p2) : EX X W c (p1 && p2) (.rd 0) (.Compare a [.GtE] [b] pos) (e2 gGe fa fb) := ex_2 (fun h1 h2 => pe_cmpR op_ge h1 h2 (nomark b)) ge_S ha hb w1 wrd
theorem ex_eq (hr : Rm X) (ha : EX X W c p1 (.rd n) a fa) (hb : EX X W c p2 (.rd m) b fb) (w1 : Waits (.rd n) p2) : EX X W c (p1 && p2) (.rd 0) (.Compare a [.Eq] [b] pos) (e2 gEq fa fb) := ex_2 (fun h1 h2 => pe_cmpR (op_eqD hr.u64) h1 h2 (nomark b)) eq_S ha hb w1 wrd
theorem ex_ne (hr : Rm X) (ha : EX X W c p1 (.rd n) a fa) (hb : EX X W c p2 (.rd m) b fb) (w1 : Waits (.rd n) p2) : EX X W c (p1 && p2) (.rd 0) (.Compare a [.NotEq] [b] pos) (e2 gNe fa fb) := ex_2 (fun h1 h2 => pe_cmpR (op_neD hr.u64) h1 h2 (nomark b)) ne_S ha hb w1 wrd
/-- a op b op c -/
def chK (g2 : D → D → Option D) (fc : M D) (y : D) : D → M D
  | .bl true => fc.bind fun w => M.ofO (g2 y w)
  | .bl false => M.pure (.bl false)
  | _ => fun _ => .fail
def e3c (g1 g2 : D → D → Option D) (fa fb fc : M D) : M D := fa.bind fun x => fb.bind fun y => (M.ofO (g1 x y)).bind (chK g2 fc y)
abbrev Sound (X : Cx) (W : WX) (c : Fc) (p : Bool) (m : Md) (t : TE) (f : M D) : Prop := ∀ (σ : L2.St) (ρ : PV.Env) (G F H : Hp) (Q : VK), Ok X.K X.mg c [] G F H σ ρ → Wp (f ρ) (EPost X c p m σ ρ G F H Q) (Nx X.K X.mg W σ G F) → t σ H Q
theorem chain_sem {p3 : Bool} {m1 m2 m3 : Nat} {fd : M D} {r r' : R2} {g g' : D → D → Option D} {ta tb td : TE} (hr : Op2S X.K X.mg (.rd m1) (.rd m2) (.rd 0) r g) (hr' : Op2S X.K X.mg (.rd m2) (.rd m3) (.rd 0) r' g')
    (a2 : Sound X W c p1 (.rd m1) ta fa) (b2 : Sound X W c p2 (.rd m2) tb fb) (d2 : Sound X W c p3 (.rd m3) td fd) (w1 : Waits (.rd m1) p2) (w2 : Waits (.rd m2) p3) : Sound X W c false (.rd 0) (tChain r r' ta tb td) (e3c g g' fa fb fd) := by
  intro σ ρ G F H Q o w
  refine EX.use ta a2 o (Wp.ofBindM w) (fun r1 h1 v1 G1 F1 H1 fp1 x1 o1 q1 hp1 => ?_) fun _ z => z
  refine EX.use tb b2 o1.drop (Wp.nxExt x1 (Wp.ofBindM h1)) (fun r2 h2 v2 G2 F2 H2 fp2 x2 o2 q2 hp2 => ?_) fun _ z => z
  have h2 := Wp.ofBindM (m := M.ofO (g r1.1 r2.1)) h2
  unfold M.ofO at h2
  split at h2
  · rename_i z hz
    refine hr G2 F2 H2 r1.1 r2.1 v1 v2 z _ o2.gf o2.fh (q1.wait w1 x2.g fun hp => (hp2 hp).2) (val_flat (p := true) wrd q2) hz fun wv G3 F3 H3 fr g3 q3 => ?_
    have h3 : Wp (chK g' fd r2.1 z r2.2) _ _ := h2
    have x3 := (x1.trans x2).trans g3.x
    have o3 := (o2.drop.grown g3).drop
    cases z <;> first | exact h3.elim | skip
    rename_i bz
    obtain ⟨q3, _⟩ := q3
    cases q3
    refine ⟨bz, rfl, ?_⟩
    cases bz with
    | true =>
      refine EX.use td d2 o3 (Wp.nxExt (x2.trans g3.x) (Wp.nxExt x1 (Wp.ofBindM (m := fd) h3))) (fun r4 h4 v4 G4 F4 H4 fp4 x4 o4 q4 hp4 => ?_) fun _ z => z
      unfold M.ofO at h4
      split at h4
      · rename_i z hz
        refine hr' G4 F4 H4 r2.1 r4.1 v2 v4 z _ o4.gf o4.fh (((val_flat (p := true) wrd q2).wait (p := true) wrd g3.x.g fun _ => g3.hh).wait w2 x4.g fun hp => (hp4 hp).2) (val_flat (p := true) wrd q4) hz fun wv G5 F5 H5 fr g5 q5 => ?_
        exact h4 wv G5 F5 H5 fr ((x3.trans x4).trans g5.x) (o4.drop.grown g5) q5 fun z => nomatch z
      · exact h4.elim
    | false =>
      exact h3 (.bl false) G3 F3 H3 [] x3 o3 ⟨.bl _, rfl⟩ fun z => nomatch z
  · exact h2.elim
theorem ex_chain {op op' : CmpOp} {p3 : Bool} {m1 m2 m3 : Nat} {d : Expr} {fd : M D} {r r' : R2} {g g' : D → D → Option D} (ho : OpR X (compareOp op) r) (ho' : OpR X (compareOp op') r')
    (hr : Op2S X.K X.mg (.rd m1) (.rd m2) (.rd 0) r g) (hr' : Op2S X.K X.mg (.rd m2) (.rd m3) (.rd 0) r' g') (ha : EX X W c p1 (.rd m1) a fa) (hb : EX X W c p2 (.rd m2) b fb) (hd : EX X W c p3 (.rd m3) d fd) (w1 : Waits (.rd m1) p2) (w2 : Waits (.rd m2) p3)
    (hm : lastMarks [op, op'] [b, d] = false := by with_unfolding_all rfl) : EX X W c false (.rd 0) (.Compare a [op, op'] [b, d] pos) (e3c g g' fa fb fd) :=
  let ⟨_, a1, a2⟩ := ha; let ⟨_, b1, b2⟩ := hb; let ⟨_, d1, d2⟩ := hd
  ⟨_, pe_chain ho ho' a1 b1 d1 hm, chain_sem hr hr' a2 b2 d2 w1 w2⟩
theorem tx_chain {op op' : CmpOp} {p3 : Bool} {m1 m2 m3 : Nat} {d : Expr} {fd : M D} {r r' : R2} {g g' : D → D → Option D} (ho : OpR X (compareOp op) r) (ho' : OpR X (compareOp op') r')
    (hr : Op2S X.K X.mg (.rd m1) (.rd m2) (.rd 0) r g) (hr' : Op2S X.K X.mg (.rd m2) (.rd m3) (.rd 0) r' g') (ha : EX X W c p1 (.rd m1) a fa) (hb : EX X W c p2 (.rd m2) b fb) (hd : EX X W c p3 (.rd m3) d fd) (w1 : Waits (.rd m1) p2) (w2 : Waits (.rd m2) p3)
    (hm : lastMarks [op, op'] [b, d] = false := by with_unfolding_all rfl) : TX X W c false (.Compare a [op, op'] [b, d] pos) (tB (e3c g g' fa fb fd)) := by
  obtain ⟨ta, a1, a2⟩ := ha
  obtain ⟨tb, b1, b2⟩ := hb
  obtain ⟨td, d1, d2⟩ := hd
  refine ⟨_, pt_chain ho ho' a1 b1 d1 hm, fun σ ρ G F H Q o w => ?_⟩
  refine chain_sem hr hr' a2 b2 d2 w1 w2 σ ρ G F H _ o ((Wp.ofBindM w).imp (fun q hq v G' F' H' fp x o' rv _ => ?_) fun _ z => z)
  unfold M.ofO at hq
  split at hq
  · rename_i b eb
    have rv : Rp X.K X.mg G' v q.1 := rv.1
    cases e : q.1 <;> rw [e] at eb <;> first | (cases eb; done) | skip
    cases eb
    rw [e] at rv
    cases rv
    exact ⟨_, rfl, hq G' F' H' x o'.drop fun z => nomatch z⟩
  · exact hq.elim
/-- + of ints, of texts, of tuples -/
def rAddA (K : PySem.W.Frag) : R2 := fun x y H Q => rI0 (fun i j => .int (i + j)) x y H Q ∨ (∃ i j, x = .str i ∧ y = .str j ∧ i.length + j.length ≤ sizeLine ∧ Q (.str (i ++ j)) H) ∨ rCatA K x y H Q
theorem op_addA : OpR X (binaryOp .Add) (rAddA X.K) := OpR.or op_add (OpR.or op_add_str op_catA)
theorem add_S {K : PySem.W.Frag} {mg : Str → Option Value} : Op2S K mg (.rd 0) (.rd 0) (.rd 0) (rAddA K) gAdd := by
  intro G F H d e v u z Q gf fh q1 q2 hz k
  have gh := gf.trans fh
  obtain ⟨q1, _⟩ := q1
  obtain ⟨q2, _⟩ := q2
  have q1 : Rp K mg G v d := q1
  have q2 : Rp K mg G u e := q2
  unfold gAdd at hz
  split at hz
  · cases hz
    cases q1
    cases q2
    exact .inl ⟨_, _, rfl, rfl, k _ G F H [] (.refl gf fh) ⟨.int _, rfl⟩⟩
  · split at hz
    · rename_i hs
      cases hz
      cases q1
      cases q2
      exact .inr (.inl ⟨_, _, rfl, rfl, szl (of_decide_eq_true hs), k _ G F H [] (.refl gf fh) ⟨.str _, rfl⟩⟩)
    · cases hz
  · split at hz
    · rename_i a b hs
      cases hz
      cases q1 with
      | @tup a1 vs1 _ h1 r1 =>
        cases q2 with
        | @tup a2 vs2 _ h2 r2 =>
          refine .inr (.inr ⟨_, _, _, _, rfl, rfl, .of (gh _ _ h1), .of (gh _ _ h2), ?_, fun e => ?_, fun _ e => ?_, fun _ _ p hp => ?_⟩)
          · rw [r1.length, r2.length]
            exact szl (of_decide_eq_true hs)
          · subst e
            cases r1
            exact k _ G F H [] (.refl gf fh) ⟨.tup h2 r2, rfl⟩
          · subst e
            cases r2
            rw [List.append_nil] at k
            exact k _ G F H [] (.refl gf fh) ⟨.tup h1 r1, rfl⟩
          · have g := Grow.sh (o := .tup (vs1 ++ vs2)) gf fh hp
            exact k _ _ _ _ _ g ⟨.tup upd_same ((r1.append r2).mono g.x.g), rfl⟩
    · cases hz
  · cases hz
theorem ex_add (ha : EX X W c p1 (.rd 0) a fa) (hb : EX X W c p2 (.rd 0) b fb) : EX X W c (p1 && p2) (.rd 0) (.BinOp a .Add b pos) (e2 gAdd fa fb) := ex_2 (fun h1 h2 => pe_op op_addA h1 h2) add_S ha hb w00 w00
def gNeg : D → Option D
  | .int i => some (.int (-i))
  | _ => none
theorem ex_neg (ha : EX X W c p1 (.rd n) a fa) : EX X W c p1 (.rd 0) (.UnaryOp .USub a pos) (e1 gNeg fa) := by
  refine ex_1 (fun h => pe_un un_neg h) (fun G F H d v z Q gf fh q hz k => ?_) ha wrd
  have q := q.1.rp (gf.trans fh)
  cases d <;> first | (cases hz; done) | skip
  cases hz
  cases q
  exact ⟨_, rfl, k _ G F H [] (.refl gf fh) ⟨.int _, rfl⟩⟩
def isNon : D → Bool
  | .non => true
  | _ => false
def gIs (x : D) : Option D := some (.bl (isNon x))
def gIsNot (x : D) : Option D := some (.bl (!isNon x))
theorem non_iff {K : PySem.W.Frag} {mg : Str → Option Value} {H : Hp} {v : V} {d : D} (h : Rp K mg H v d) : decide (v = .non) = isNon d := by
  cases h <;> rfl
theorem ex_is {j pos'} (ha : EX X W c p1 (.rd n) a fa) : EX X W c p1 (.rd 0) (.Compare a [.Is] [.Constant .none j pos'] pos) (e1 gIs fa) := by
  refine ex_1 (r := fun x H1 Q => Q (.bl (decide (x = .non))) H1) (fun h => pe_cmp (pc_isN h)) (fun G F H d v z Q gf fh q hz k => ?_) ha wrd
  have q := q.1.rp (gf.trans fh)
  cases hz
  show Q _ _
  rw [non_iff q]
  exact k _ G F H [] (.refl gf fh) ⟨.bl _, rfl⟩
theorem ex_isnot {j pos'} (ha : EX X W c p1 (.rd n) a fa) : EX X W c p1 (.rd 0) (.Compare a [.IsNot] [.Constant .none j pos'] pos) (e1 gIsNot fa) := by
  refine ex_1 (r := fun x H1 Q => Q (.bl (!decide (x = .non))) H1) (fun h => pe_cmp (pc_notN h)) (fun G F H d v z Q gf fh q hz k => ?_) ha wrd
  have q := q.1.rp (gf.trans fh)
  cases hz
  show Q _ _
  rw [non_iff q]
  exact k _ G F H [] (.refl gf fh) ⟨.bl _, rfl⟩
/-- a comparison's value as a test -/
theorem tx_is {j pos'} (ha : EX X W c p1 (.rd n) a fa) : TX X W c p1 (.Compare a [.Is] [.Constant .none j pos'] pos) (tB (e1 gIs fa)) := by
  obtain ⟨te, a1, a2⟩ := ha
  refine ⟨_, pt_cmp (pc_isN a1), fun σ ρ G F H Q o w => ?_⟩
  have w' := Wp.ofBindM w
  refine EX.use te a2 o (Wp.ofBindM w') (fun r h v G1 F1 H1 fp x1 o1 q hp => ?_) fun _ z => z
  have q := q.1.rp o1.gh
  refine ⟨_, rfl, ?_⟩
  rw [non_iff q]
  exact h G1 F1 H1 x1 o1.drop hp
theorem tx_isnot {j pos'} (ha : EX X W c p1 (.rd n) a fa) : TX X W c p1 (.Compare a [.IsNot] [.Constant .none j pos'] pos) (tB (e1 gIsNot fa)) := by
  obtain ⟨te, a1, a2⟩ := ha
  refine ⟨_, pt_cmp (pc_notN a1), fun σ ρ G F H Q o w => ?_⟩
  have w' := Wp.ofBindM w
  refine EX.use te a2 o (Wp.ofBindM w') (fun r h v G1 F1 H1 fp x1 o1 q hp => ?_) fun _ z => z
  have q := q.1.rp o1.gh
  refine ⟨_, rfl, ?_⟩
  rw [non_iff q]
  exact h G1 F1 H1 x1 o1.drop hp
end
end
end PV

set_option Elab.async false
set_option linter.all false
set_option maxRecDepth 100000
set_option maxHeartbeats 0
namespace PV
noncomputable section
open PySem PySem.Spec
open PyProof.Rows L2

/-! ## 10. subscripts -/
theorem atI_map {α β : Type} (f : α → β) (xs : List α) (i : Int) : atI (xs.map f) i = (atI xs i).map f := by
  unfold atI
  rw [List.length_map]
  cases ixN xs.length i with
  | none => rfl
  | some j => simp
theorem rpl_at {K : PySem.W.Frag} {mg : Str → Option Value} {H : Hp} {vs : List V} {ds : List D} {i : Int} {d : D} (r : RpL K mg H vs ds) (e : atI ds i = some d) : ∃ v, atI vs i = some v ∧ Rp K mg H v d := by
  unfold atI at e ⊢
  rw [r.length]
  cases q : ixN ds.length i with
  | none => rw [q] at e; exact nomatch e
  | some j =>
    rw [q] at e
    exact r.getD e
theorem all2_at {Q : D → V → Prop} {vs : List V} {ds : List D} {i : Int} {d : D} (r : All2 Q ds vs) (e : atI ds i = some d) : ∃ v, atI vs i = some v ∧ Q d v := by
  unfold atI at e ⊢
  rw [r.length]
  cases q : ixN ds.length i with
  | none => rw [q] at e; exact nomatch e
  | some j =>
    rw [q] at e
    exact r.getD e
/-- keys: ints, texts, tuples of them -/
def keyOf : D → Option Key
  | .int i => some (.inl i)
  | .str x => some (.inr x)
  | _ => none
def keysOf : List D → Option (List Key)
  | [] => some []
  | d :: r => match keyOf d, keysOf r with
    | some k, some ks => some (k :: ks)
    | _, _ => none
theorem keyOf_eq {d : D} {k : Key} (h : keyOf d = some k) : d = keyD k := by
  cases d <;> first | (cases h; done) | (cases h; rfl)
theorem keysOf_eq : ∀ {ds : List D} {ks : List Key}, keysOf ds = some ks → ds = ks.map keyD
  | [], _, h => by simp only [keysOf, Option.some.injEq] at h; subst h; rfl
  | d :: r, ks, h => by
    simp only [keysOf] at h
    split at h
    · rename_i k ks' h1 h2
      cases h
      rw [List.map_cons, ← keyOf_eq h1, ← keysOf_eq h2]
    · cases h
theorem keyD_inj : ∀ {a b : Key}, keyD a = keyD b → a = b
  | .inl _, .inl _, h => by cases h; rfl
  | .inr _, .inr _, h => by cases h; rfl
  | .inl _, .inr _, h => by cases h
  | .inr _, .inl _, h => by cases h
theorem keyD_map_inj : ∀ {a b : List Key}, a.map keyD = b.map keyD → a = b
  | [], [], _ => rfl
  | [], _ :: _, h => by cases h
  | _ :: _, [], h => by cases h
  | x :: a, y :: b, h => by
    rw [List.map_cons, List.map_cons, List.cons.injEq] at h
    rw [keyD_inj h.1, keyD_map_inj h.2]
/-- the same key, of two keys of one kind -/
def keyEq : D → D → Bool
  | .int i, .int j => decide (i = j)
  | .str x, .str y => decide (x = y)
  | .tup a, .tup b => match keysOf a, keysOf b with
    | some x, some y => decide (x = y)
    | _, _ => false
  | _, _ => false
def isKey : D → Bool
  | .int _ => true
  | .str _ => true
  | .tup a => (keysOf a).isSome
  | _ => false
theorem keyEq_key {a b : Key} : keyEq (keyD a) (keyD b) = decide (a = b) := by
  cases a <;> cases b
  · rw [show keyEq (keyD (.inl _)) (keyD (.inl _)) = decide (_ = _) from rfl]; simp
  · show false = _; simp
  · show false = _; simp
  · rw [show keyEq (keyD (.inr _)) (keyD (.inr _)) = decide (_ = _) from rfl]; simp
theorem keysOf_map : ∀ ks : List Key, keysOf (ks.map keyD) = some ks
  | [] => rfl
  | k :: r => by
    rw [List.map_cons]
    simp only [keysOf, keysOf_map r]
    cases k <;> rfl
theorem keyEq_tup {a b : List Key} : keyEq (.tup (a.map keyD)) (.tup (b.map keyD)) = decide (a = b) := by
  simp only [keyEq, keysOf_map]
theorem keyEq_kt {a : Key} {b : List D} : keyEq (keyD a) (.tup b) = false := by cases a <;> rfl
theorem keyEq_tk {a : Key} {b : List D} : keyEq (.tup b) (keyD a) = false := by cases a <;> rfl
def dGet (kvs : List (D × D)) (k : D) : Option D := (kvs.find? fun p => keyEq p.1 k).map fun p => p.2
def isKeyK (k : D) : Bool := (keyOf k).isSome
def isKeyT : D → Bool
  | .tup a => (keysOf a).isSome
  | _ => false
def gIx : D → D → Option D
  | .tup ds, .int i => atI ds i
  | .lst ds, .int i => atI ds i
  | .dct kvs, k => if isKeyK k = true then dGet kvs k else none
  | .dcT kvs, k => if isKeyT k = true then dGet kvs k else none
  | .str z, .int i => if small z.length = true then (atI z.cps.toList i).map fun n => .str ⟨#[n]⟩ else none
  | _, _ => none
section
variable {X : Cx} {W : WX} {c : Fc}
def rIxD : R2 := fun x y H Q => ∃ a v, x = .ref a ∧ DGet H a y (some v) ∧ Q v H
theorem ix_dict (hu : X.A.units + 1 < cLine) : IxR X rIxD := by
  rintro value slice pins s σ H _ y v u Q I rx ry ⟨a, z, rfl, g, q⟩ hs
  cases (show v = .ref a from rx)
  exact PyProof.Rows.tail_any (dict_typeIs I g) PySem.F.slot_dict_getitem.lookup (d_getItem hu I g ry fun w' s3 I3 rw' => ⟨z, H, I3, rw', q⟩) hs

theorem rp_key {K : PySem.W.Frag} {mg : Str → Option Value} {H : Hp} {v : V} {k : Key} (h : Rp K mg H v (keyD k)) : v = kV k := by
  cases k <;> (cases h; rfl)
theorem rpl_keys {K : PySem.W.Frag} {mg : Str → Option Value} {H : Hp} : ∀ {vs : List V} {ks : List Key}, RpL K mg H vs (ks.map keyD) → vs = ks.map kV
  | _, [], .nil => rfl
  | _, k :: r, .cons h t => by rw [List.map_cons, rp_key h, rpl_keys t]
theorem rp_ofKey {K : PySem.W.Frag} {mg : Str → Option Value} {H : Hp} (k : Key) : Rp K mg H (kV k) (keyD k) := by
  cases k with
  | inl i => exact .int i
  | inr x => exact .str x
theorem valV_cons {κ : Type} [DecidableEq κ] {p : κ × V} {r : List (κ × V)} {k : κ} : valV (p :: r) k = if p.1 = k then some p.2 else valV r k := by
  by_cases h : p.1 = k
  · rw [if_pos h, valV_pos h]
  · rw [if_neg h, valV_neg h]
theorem dGet_cons {p : D × D} {r : List (D × D)} {k : D} : dGet (p :: r) k = if keyEq p.1 k = true then some p.2 else dGet r k := by
  unfold dGet
  rw [List.find?_cons]
  cases keyEq p.1 k <;> rfl
/-- what a dict holds, both ways -/
theorem get_rel {κ : Type} [DecidableEq κ] {kd : κ → D} (hk : ∀ a b, keyEq (kd a) (kd b) = decide (a = b)) {Q : D → V → Prop} (k : κ) : ∀ {kvs : List (κ × V)} {ds : List (D × D)}, kvs.map (fun p => kd p.1) = ds.map (fun p => p.1) → All2 Q (ds.map fun p => p.2) (kvs.map fun p => p.2) →
    (dGet ds (kd k) = none ∧ valV kvs k = none) ∨ ∃ d v, dGet ds (kd k) = some d ∧ valV kvs k = some v ∧ Q d v
  | [], [], _, _ => .inl ⟨rfl, rfl⟩
  | [], _ :: _, differ, _ => nomatch differ
  | _ :: _, [], differ, _ => nomatch differ
  | p :: kvs, q :: ds, h, r => by
    rw [List.map_cons, List.map_cons, List.cons.injEq] at h
    rw [List.map_cons, List.map_cons] at r
    cases r with
    | cons r1 r2 =>
      rw [valV_cons, dGet_cons, ← h.1, hk]
      by_cases e : p.1 = k
      · rw [if_pos e, decide_eq_true e, if_pos rfl]
        exact .inr ⟨_, _, rfl, rfl, r1⟩
      · rw [if_neg e, decide_eq_false e, if_neg Bool.false_ne_true]
        exact get_rel hk k h.2 r2
theorem keyK (a b : Key) : keyEq (keyD a) (keyD b) = decide (a = b) := keyEq_key
theorem keyT (a b : List Key) : keyEq (D.tup (a.map keyD)) (D.tup (b.map keyD)) = decide (a = b) := keyEq_tup
theorem isKeyK_eq {k : D} (h : isKeyK k = true) : ∃ key, k = keyD key := by
  obtain ⟨key, e⟩ := Option.isSome_iff_exists.mp h
  exact ⟨key, keyOf_eq e⟩
theorem isKeyT_eq {k : D} (h : isKeyT k = true) : ∃ key : List Key, k = .tup (key.map keyD) := by
  cases k <;> first | (cases h; done) | skip
  obtain ⟨ks, e⟩ := Option.isSome_iff_exists.mp (show (keysOf _).isSome = true from h)
  exact ⟨ks, congrArg D.tup (keysOf_eq e)⟩
/-- what a dict tells of a key: the same as the plain one -/
def Tells (K : PySem.W.Frag) (mg : Str → Option Value) (G H : Hp) (n : Nat) (ds : List (D × D)) (k : D) (o : Option V) : Prop :=
  (dGet ds k = none ∧ o = none) ∨ ∃ d w, dGet ds k = some d ∧ o = some w ∧ RdV K mg G H n d w
theorem dopt_K {K : PySem.W.Frag} {mg : Str → Option Value} {G H : Hp} {n : Nat} {v u : V} {ds : List (D × D)} {k : D} (gh : Same G H) (q1 : RdV K mg G H (n + 1) (.dct ds) v) (q2 : Rp K mg H u k) (hk : isKeyK k = true) :
    ∃ a o, v = .ref a ∧ DGet H a u o ∧ Tells K mg G H n ds k o := by
  obtain ⟨key, rfl⟩ := isKeyK_eq hk
  have go : ∀ {a : Addr} {kvs : List (Key × V)}, H a = some (.dK kvs) → kvs.map (fun p => keyD p.1) = ds.map (fun p => p.1) → All2 (RdV K mg G H n) (ds.map fun p => p.2) (kvs.map fun p => p.2) → DGet H a u (valV kvs key) ∧ Tells K mg G H n ds (keyD key) (valV kvs key) := fun h1 h2 r =>
    ⟨.inl ⟨_, key, .inl h1, rp_key q2, rfl⟩, (get_rel (kd := keyD) keyK key h2 r).imp id fun ⟨d, w, e1, e2, q⟩ => ⟨d, w, e1, e2, q⟩⟩
  obtain ⟨a, kvs, rfl, h1, h2, r⟩ := q1.dct_inv gh
  exact ⟨a, _, rfl, go h1 h2 r⟩
theorem dopt_T {K : PySem.W.Frag} {mg : Str → Option Value} {G H : Hp} {n : Nat} {v u : V} {ds : List (D × D)} {k : D} (gh : Same G H) (q1 : RdV K mg G H (n + 1) (.dcT ds) v) (q2 : Rp K mg H u k) (hk : isKeyT k = true) :
    ∃ a o, v = .ref a ∧ DGet H a u o ∧ Tells K mg G H n ds k o := by
  obtain ⟨key, rfl⟩ := isKeyT_eq hk
  obtain ⟨t, us, rfl, h3, r3⟩ := q2.tup_inv
  rw [rpl_keys r3] at h3
  have go : ∀ {a : Addr} {kvs : List (List Key × V)}, H a = some (.dT kvs) → kvs.map (fun p => D.tup (p.1.map keyD)) = ds.map (fun p => p.1) → All2 (RdV K mg G H n) (ds.map fun p => p.2) (kvs.map fun p => p.2) → DGet H a (.ref t) (valV kvs key) ∧ Tells K mg G H n ds (.tup (key.map keyD)) (valV kvs key) := fun h1 h2 r =>
    ⟨.inr ⟨_, key, _, .inl h1, rfl, h3, rfl⟩, (get_rel (kd := fun k => D.tup (k.map keyD)) keyT key h2 r).imp id fun ⟨d, w, e1, e2, q⟩ => ⟨d, w, e1, e2, q⟩⟩
  obtain ⟨a, kvs, rfl, h1, h2, r⟩ := q1.dcT_inv gh
  exact ⟨a, _, rfl, go h1 h2 r⟩
/-- a dict by a key, of either kind -/
def dOpt : D → D → Option (Option D)
  | .dct kvs, k => if isKeyK k = true then some (dGet kvs k) else none
  | .dcT kvs, k => if isKeyT k = true then some (dGet kvs k) else none
  | _, _ => none
theorem dopt_of {K : PySem.W.Frag} {mg : Str → Option Value} {G H : Hp} {n : Nat} {v u : V} {x k : D} {z : Option D} (gh : Same G H) (q1 : RdV K mg G H (n + 1) x v) (q2 : Rp K mg H u k) (e : dOpt x k = some z) :
    ∃ a o, v = .ref a ∧ DGet H a u o ∧ ((z = none ∧ o = none) ∨ ∃ d w, z = some d ∧ o = some w ∧ RdV K mg G H n d w) := by
  unfold dOpt at e
  split at e
  · split at e
    · cases e; rename_i hk; exact dopt_K gh q1 q2 hk
    · cases e
  · split at e
    · cases e; rename_i hk; exact dopt_T gh q1 q2 hk
    · cases e
  · cases e
theorem dget_of {K : PySem.W.Frag} {mg : Str → Option Value} {G H : Hp} {n : Nat} {v u : V} {x k d : D} (gh : Same G H) (q1 : RdV K mg G H (n + 1) x v) (q2 : Rp K mg H u k) (e : dOpt x k = some (some d)) :
    ∃ a w, v = .ref a ∧ DGet H a u (some w) ∧ RdV K mg G H n d w := by
  obtain ⟨a, o, e1, g, ⟨z, _⟩ | ⟨d', w, z, rfl, q⟩⟩ := dopt_of gh q1 q2 e
  · cases z
  · cases z
    exact ⟨a, w, e1, g, q⟩
/-- a[i] of lists, tuples, dicts, texts -/
def rIxA (K : PySem.W.Frag) : R2 := fun x y H Q => rIxL K x y H Q ∨ rIxT K x y H Q ∨ rIxD x y H Q ∨ rIxS x y H Q
theorem ix_any (hr : Rm X) : IxR X (rIxA X.K) := IxR.or ix_list (IxR.or ix_tup (IxR.or (ix_dict hr.u1) ix_str))
theorem ix_S {K : PySem.W.Frag} {mg : Str → Option Value} {n m : Nat} : Op2S K mg (.rd (n + 1)) (.rd m) (.rd n) (rIxA K) gIx := by
  intro G F H d e v u z Q gf fh q1 q2 hz k
  have gh := gf.trans fh
  have q2 := q2.1.rp gh
  have q1 := q1.1
  have fin : ∀ w, RdV K mg G H n z w → Q w H := fun w q => k w G F H [] (.refl gf fh) ⟨q, rfl⟩
  unfold gIx at hz
  split at hz
  · cases q2
    obtain ⟨a, vs, rfl, h1, r1⟩ := (RdV.plain rfl q1).tup_inv
    obtain ⟨w, e1, q⟩ := rpl_at r1 hz
    exact .inr (.inl ⟨_, _, _, w, rfl, rfl, .of (gh _ _ h1), e1, fin w (RdV.ofRp q)⟩)
  · cases q2
    obtain ⟨a, vs, rfl, h1, r1⟩ := q1.lst_inv gh
    obtain ⟨w, e1, q⟩ := all2_at r1 hz
    exact .inl ⟨_, _, _, w, rfl, rfl, .of h1, e1, fin w q⟩
  · split at hz
    · rename_i hk
      obtain ⟨a, w, rfl, g, q⟩ := dget_of gh q1 q2 (d := z) (by simp only [dOpt]; rw [if_pos hk, hz])
      exact .inr (.inr (.inl ⟨a, w, rfl, g, fin w q⟩))
    · cases hz
  · split at hz
    · rename_i hk
      obtain ⟨a, w, rfl, g, q⟩ := dget_of gh q1 q2 (d := z) (by simp only [dOpt]; rw [if_pos hk, hz])
      exact .inr (.inr (.inl ⟨a, w, rfl, g, fin w q⟩))
    · cases hz
  · split at hz
    · rename_i hs
      obtain ⟨ch, e1, rfl⟩ := Option.map_eq_some_iff.mp hz
      cases q2
      cases RdV.plain rfl q1
      exact .inr (.inr (.inr ⟨_, _, ch, rfl, rfl, szl (of_decide_eq_true hs), e1, fin _ (RdV.ofRp (.str _))⟩))
    · cases hz
  · cases hz
variable {p1 p2 p3 : Bool} {n m : Nat} {a b : Expr} {fa fb : M D} {pos : Pos}
theorem ex_ix (hr : Rm X) (ha : EX X W c p1 (.rd (n + 1)) a fa) (hb : EX X W c p2 (.rd m) b fb) (w1 : Waits (.rd (n + 1)) p2) (hs : PlainIx b := by intro _ _; rfl) : EX X W c (p1 && p2) (.rd n) (.Subscript a b pos) (e2 gIx fa fb) :=
  ex_2 (fun h1 h2 => pe_ix (ix_any hr) h1 h2 hs) ix_S ha hb w1 wrd
/-- the index may change the state: a shared value waits -/
theorem ex_ix0 (hr : Rm X) (ha : EX X W c p1 (.rd 0) a fa) (hb : EX X W c p2 (.rd m) b fb) (hs : PlainIx b := by intro _ _; rfl) : EX X W c (p1 && p2) (.rd 0) (.Subscript a b pos) (e2 gIx fa fb) :=
  ex_2 (m1 := .rd 0) (fun h1 h2 => pe_ix (ix_any hr) h1 h2 hs) (fun G F H d e v u z Q gf fh q1 q2 hz k => ix_S G F H d e v u z Q gf fh ⟨RdV.up q1.1, q1.2⟩ q2 hz k) ha hb w00 wrd

/-! ### slices -/
def asInt : D → Option Int
  | .int i => some i
  | _ => none
def pNone : M (Option Int) := M.pure none
def pSome (f : M D) : M (Option Int) := f.bind fun x => M.ofO ((asInt x).map some)
def cutD (ds : List D) (l h : Option Int) : List D := (ds.drop (HT.sIx ds.length 0 l)).take (HT.sIx ds.length ds.length h - HT.sIx ds.length 0 l)
def gSl (l h : Option Int) : D → Option D
  | .tup ds => some (.tup (cutD ds l h))
  | .lst ds => some (.lst (cutD ds l h))
  | .scr is => some (.lst (cutD (is.map .int) l h))
  | _ => none
def eSl (fa : M D) (fl fh : M (Option Int)) : M D := fa.bind fun x => fl.bind fun l => fh.bind fun h => M.ofO (gSl l h x)
def rSlAny (K : PySem.W.Frag) : V → Option Int → Option Int → Hp → VK → Prop := fun x lo hi H Q => rSlA K x lo hi H Q ∨ rSlL K x lo hi H Q
theorem sl_any : SlR X (rSlAny X.K) := SlR.or sl_tupA sl_list
abbrev OPost (X : Cx) (c : Fc) (p : Bool) (σ : L2.St) (ρ : PV.Env) (G F H : Hp) (Q : Option Int → Hp → Prop) : Option Int × PV.Env → Prop :=
  fun r => ∀ G' F' H', Ext G F G' F' → Ok X.K X.mg c [] G' F' H' σ r.2 → (p = true → r.2 = ρ ∧ Same H H') → Q r.1 H'
def PX (X : Cx) (W : WX) (c : Fc) (p : Bool) (e : Option Expr) (f : M (Option Int)) : Prop :=
  ∃ to, PO X e to ∧ ∀ (σ : L2.St) (ρ : PV.Env) (G F H : Hp) (Q : Option Int → Hp → Prop), Ok X.K X.mg c [] G F H σ ρ → Wp (f ρ) (OPost X c p σ ρ G F H Q) (Nx X.K X.mg W σ G F) → to σ H Q
theorem px_none : PX X W c true none pNone := ⟨_, po_none, fun σ ρ G F H Q o w => w G F H (.refl _ _) o fun _ => ⟨rfl, .refl _⟩⟩
theorem px_some {e : Expr} {f : M D} (h : EX X W c p1 (.rd n) e f) : PX X W c p1 (some e) (pSome f) := by
  obtain ⟨te, h1, h2⟩ := h
  refine ⟨_, po_some h1, fun σ ρ G F H Q o w => ?_⟩
  refine EX.use te h2 o (Wp.ofBindM w) (fun r hr v G1 F1 H1 fp x1 o1 q hp => ?_) fun _ z => z
  have q := q.1.rp o1.gh
  obtain ⟨d, ρ1⟩ := r
  cases d <;> first | exact hr.elim | skip
  cases q
  exact ⟨_, rfl, hr G1 F1 H1 x1 o1.drop hp⟩
theorem cut_rpl {K : PySem.W.Frag} {mg : Str → Option Value} {H : Hp} {vs : List V} {ds : List D} (r : RpL K mg H vs ds) (l h : Option Int) : RpL K mg H (cutV vs l h) (cutD ds l h) := by
  unfold cutV cutD
  rw [r.length]
  exact (r.drop _).take _
theorem All2.take {Q : D → V → Prop} : ∀ {ds : List D} {vs : List V} (k : Nat), All2 Q ds vs → All2 Q (ds.take k) (vs.take k)
  | _, _, 0, _ => .nil
  | _, _, _ + 1, .nil => .nil
  | _, _, k + 1, .cons h r => .cons h (All2.take k r)
theorem All2.drop {Q : D → V → Prop} : ∀ {ds : List D} {vs : List V} (k : Nat), All2 Q ds vs → All2 Q (ds.drop k) (vs.drop k)
  | _, _, 0, r => r
  | _, _, _ + 1, .nil => .nil
  | _, _, k + 1, .cons _ r => All2.drop k r
theorem cut_whole {ds : List D} {l h : Option Int} (e : HT.sIx ds.length 0 l = 0 ∧ HT.sIx ds.length ds.length h = ds.length) : cutD ds l h = ds := by
  unfold cutD
  rw [e.1, e.2, List.drop_zero, Nat.sub_zero, List.take_length]
/-- the walk of a slice's parts -/
theorem sl_walk {mo : Md} {m1 : Md} {e : Expr} {lo hi : Option Expr} {fl fh : M (Option Int)} {p4 : Pos} (w1 : Waits m1 (p2 && p3))
    (hr : ∀ (G F H : Hp) (d : D) (v : V) (l h : Option Int) (z : D) (Q : VK), Same G F → Same F H → Val X.K X.mg m1 G H d v [] → gSl l h d = some z → (∀ w G' F' H' fr, Grow G F H G' F' H' fr → Val X.K X.mg mo G' H' z w fr → Q w H') → rSlAny X.K v l h H Q)
    (ha : EX X W c p1 m1 a fa) (hl : PX X W c p2 lo fl) (hh : PX X W c p3 hi fh) : EX X W c (p1 && (p2 && p3)) mo (.Subscript a (.Slice lo hi none p4) pos) (eSl fa fl fh) := by
  obtain ⟨ta, a1, a2⟩ := ha
  obtain ⟨tl, l1, l2⟩ := hl
  obtain ⟨th, h1, h2⟩ := hh
  refine ⟨_, pe_slice sl_any a1 l1 h1, fun σ ρ G F H Q o w => ?_⟩
  refine EX.use ta a2 o (Wp.ofBindM w) (fun r hr1 v G1 F1 H1 fp1 x1 o1 q1 hp1 => ?_) fun _ z => z
  refine l2 σ r.2 G1 F1 H1 _ o1.drop ((Wp.nxExt x1 (Wp.ofBindM hr1)).imp (fun rl hrl => ?_) fun _ z => z)
  intro G2 F2 H2 x2 o2 hp2
  refine h2 σ rl.2 G2 F2 H2 _ o2 ((Wp.nxExt x2 (Wp.nxExt x1 (Wp.ofBindM hrl))).imp (fun rh hrh => ?_) fun _ z => z)
  intro G3 F3 H3 x3 o3 hp3
  unfold M.ofO at hrh
  split at hrh
  · rename_i z hz
    have hh : (p2 && p3) = true → Same H1 H3 := fun hp => by
      rw [Bool.and_eq_true] at hp
      exact (hp2 hp.1).2.trans (hp3 hp.2).2
    refine hr G3 F3 H3 r.1 v rl.1 rh.1 z Q o3.gf o3.fh (q1.wait w1 (x2.trans x3).g hh) hz fun wv G4 F4 H4 fr g4 q4 => ?_
    refine hrh wv G4 F4 H4 fr (((x1.trans x2).trans x3).trans g4.x) (o3.grown g4) q4 fun hp => ?_
    rw [Bool.and_eq_true, Bool.and_eq_true] at hp
    exact ⟨(hp3 hp.2.2).1.trans ((hp2 hp.2.1).1.trans (hp1 hp.1).1), ((hp1 hp.1).2.trans ((hp2 hp.2.1).2.trans (hp3 hp.2.2).2)).trans g4.hh⟩
  · exact hrh.elim
/-- a tuple's slice: shared -/
theorem ex_slT {lo hi : Option Expr} {fl fh : M (Option Int)} {p4 : Pos} (ha : EX X W c p1 (.rd 0) a fa) (hl : PX X W c p2 lo fl) (hh : PX X W c p3 hi fh) : EX X W c (p1 && (p2 && p3)) (.rd 0) (.Subscript a (.Slice lo hi none p4) pos) (eSl fa fl fh) := by
  refine sl_walk (mo := .rd 0) (e := a) w00 (fun G F H d v l h z Q gf fh q hz k => ?_) ha hl hh
  have q : Rp X.K X.mg G v d := q.1
  have gh := gf.trans fh
  cases d <;> first | (cases hz; done) | skip
  · cases hz
    cases q with
    | @tup a vs ds h1 r1 =>
      refine .inl ⟨_, _, rfl, .of (gh _ _ h1), fun e => ?_, fun e p hp => ?_⟩
      · rw [r1.length] at e
        rw [cut_whole e] at k
        exact k _ G F H [] (.refl gf fh) ⟨.tup h1 r1, rfl⟩
      · have g := Grow.sh (o := .tup (cutV vs l h)) gf fh hp
        exact k _ _ _ _ _ g ⟨.tup upd_same ((cut_rpl r1 l h).mono g.x.g), rfl⟩
  · cases hz
    cases q with
    | @lst a vs ds h1 r1 =>
      refine .inr ⟨_, _, rfl, .of (gh _ _ h1), fun p hp => ?_⟩
      have g := Grow.sh (o := .lst (cutV vs l h)) gf fh hp
      exact k _ _ _ _ _ g ⟨.lst upd_same ((cut_rpl r1 l h).mono g.x.g), rfl⟩
  · cases hz
    obtain ⟨a, vs, rfl, h1, r1⟩ := q.scr_inv (G := G)
    refine .inr ⟨_, _, rfl, gh.seq h1, fun p hp => ?_⟩
    have g := Grow.sh (o := .lst (cutV vs l h)) gf fh hp
    exact k _ _ _ _ _ g ⟨.lst upd_same ((cut_rpl r1 l h).mono g.x.g), rfl⟩
/-- a list's slice: a new list -/
def isLst : D → Bool
  | .lst _ => true
  | .scr _ => true
  | _ => false
def eSlL (fa : M D) (fl fh : M (Option Int)) : M D := eSl (fa.bind fun x => if isLst x = true then M.pure x else fun _ => .fail) fl fh
theorem rd1_lst {K : PySem.W.Frag} {mg : Str → Option Value} {G H : Hp} {ds : List D} {v : V} (gh : Same G H) (q : RdV K mg G H 1 (.lst ds) v) : ∃ a vs, v = .ref a ∧ H a = some (.lst vs) ∧ RpL K mg G vs ds := by
  obtain ⟨a, vs, rfl, h1, r1⟩ := q.lst_inv gh
  exact ⟨a, vs, rfl, h1, r1.rpl K mg fun _ _ q => q⟩
theorem ex_lstOnly {m : Md} (ha : EX X W c p1 m a fa) : EX X W c p1 m a (fa.bind fun x => if isLst x = true then M.pure x else fun _ => .fail) := by
  obtain ⟨ta, a1, a2⟩ := ha
  refine ⟨ta, a1, fun σ ρ G F H Q o w => ?_⟩
  refine EX.use ta a2 o (Wp.ofBindM w) (fun r hr v G1 F1 H1 fp x1 o1 q hp => ?_) fun _ z => z
  have hr : Wp ((if isLst r.1 = true then M.pure r.1 else fun _ => .fail : M D) r.2) _ _ := hr
  split at hr
  · exact hr v G1 F1 H1 fp x1 o1 q hp
  · exact hr.elim
theorem ex_slL {lo hi : Option Expr} {fl fh : M (Option Int)} {p4 : Pos} (ha : EX X W c p1 (.rd 1) a fa) (hl : PX X W c p2 lo fl) (hh : PX X W c p3 hi fh) (w1 : Waits (.rd 1) (p2 && p3)) : EX X W c (p1 && (p2 && p3)) (.own 1) (.Subscript a (.Slice lo hi none p4) pos) (eSlL fa fl fh) := by
  obtain ⟨ta, a1, a2⟩ := ha
  obtain ⟨tl, l1, l2⟩ := hl
  obtain ⟨th, h1, h2⟩ := hh
  refine ⟨_, pe_slice sl_any a1 l1 h1, fun σ ρ G F H Q o w => ?_⟩
  refine EX.use ta a2 o (Wp.ofBindM (Wp.ofBindM w)) (fun r hr1 v G1 F1 H1 fp1 x1 o1 q1 hp1 => ?_) fun _ z => z
  have hr1 : Wp ((if isLst r.1 = true then M.pure r.1 else fun _ => .fail : M D) r.2) _ _ := hr1
  split at hr1
  · rename_i hlst
    refine l2 σ r.2 G1 F1 H1 _ o1.drop ((Wp.nxExt x1 (Wp.ofBindM hr1)).imp (fun rl hrl => ?_) fun _ z => z)
    intro G2 F2 H2 x2 o2 hp2
    refine h2 σ rl.2 G2 F2 H2 _ o2 ((Wp.nxExt x2 (Wp.nxExt x1 (Wp.ofBindM hrl))).imp (fun rh hrh => ?_) fun _ z => z)
    intro G3 F3 H3 x3 o3 hp3
    unfold M.ofO at hrh
    split at hrh
    · rename_i z hz
      have hh : (p2 && p3) = true → Same H1 H3 := fun hp => by
        rw [Bool.and_eq_true] at hp
        exact (hp2 hp.1).2.trans (hp3 hp.2).2
      have q3 := (q1.wait w1 (x2.trans x3).g hh).1
      obtain ⟨d, ρ1⟩ := r
      cases d <;> first | (cases hlst; done) | skip
      · cases hz
        obtain ⟨a0, vs, rfl, hs, r1⟩ := rd1_lst o3.gh q3
        refine .inr ⟨a0, vs, rfl, .of hs, fun p hp => ?_⟩
        have g := Grow.own (o := .lst (cutV vs rl.1 rh.1)) o3.gf o3.fh hp
        refine hrh _ _ _ _ _ (((x1.trans x2).trans x3).trans g.x) (o3.grown g) (Own.mkL upd_same (ownL_sh (cut_rpl r1 rl.1 rh.1))) fun hp => ?_
        rw [Bool.and_eq_true, Bool.and_eq_true] at hp
        exact ⟨(hp3 hp.2.2).1.trans ((hp2 hp.2.1).1.trans (hp1 hp.1).1), ((hp1 hp.1).2.trans ((hp2 hp.2.1).2.trans (hp3 hp.2.2).2)).trans g.hh⟩
      · cases hz
        obtain ⟨a0, vs, rfl, hs, r1⟩ := (q3.rp o3.gh).scr_inv (G := G3)
        refine .inr ⟨a0, _, rfl, hs, fun p hp => ?_⟩
        have g := Grow.own (o := .lst (cutV vs rl.1 rh.1)) o3.gf o3.fh hp
        refine hrh _ _ _ _ _ (((x1.trans x2).trans x3).trans g.x) (o3.grown g) (Own.mkL upd_same (ownL_sh (cut_rpl r1 rl.1 rh.1))) fun hp => ?_
        rw [Bool.and_eq_true, Bool.and_eq_true] at hp
        exact ⟨(hp3 hp.2.2).1.trans ((hp2 hp.2.1).1.trans (hp1 hp.1).1), ((hp1 hp.1).2.trans ((hp2 hp.2.1).2.trans (hp3 hp.2.2).2)).trans g.hh⟩
    · exact hrh.elim
  · exact hr1.elim
end
end
end PV

set_option Elab.async false
set_option linter.all false
set_option maxRecDepth 100000
set_option maxHeartbeats 0
namespace PV
noncomputable section
open PySem PySem.Spec
open PyProof.Rows L2

/-! ## 11. calls of built-ins -/
section
variable {X : Cx} {W : WX} {c : Fc}
/-- a call on arguments that are read -/
def CallS (K : PySem.W.Frag) (mg : Str → Option Value) (ms : List Am) (mo : Md) (r : List V → Hp → VK → Prop) (g : List D → Option D) : Prop :=
  ∀ (G F H : Hp) (σ : L2.St) (ds : List D) (vs : List V) (z : D) (Q : VK), Same G F → Same F H → ValL K mg G H σ ms ds vs → g ds = some z →
    (∀ w G' F' H' fr, Grow G F H G' F' H' fr → Val K mg mo G' H' z w fr → Q w H') → r vs H Q
theorem ex_L {p : Bool} {ms : List Am} {mo : Md} {e : Expr} {es : List Expr} {f : M (List D)} {r : List V → Hp → VK → Prop} {g : List D → Option D} (hpe : ∀ {t}, PA X es t → PE X e (tCB r t)) (hr : CallS X.K X.mg ms mo r g) (h : AX X W c p ms es f) :
    EX X W c p mo e (eL g f) := by
  obtain ⟨t, h1, h2⟩ := h
  refine ⟨_, hpe h1, fun σ ρ G F H Q o w => ?_⟩
  refine h2 σ ρ G F H _ o ((Wp.ofBindM w).imp (fun rr hrr => ?_) fun _ z => z)
  intro vs G1 F1 H1 x1 o1 q1 hp1
  unfold M.ofO at hrr
  split at hrr
  · rename_i z hz
    refine hr G1 F1 H1 σ rr.1 vs z Q o1.gf o1.fh q1 hz fun wv G2 F2 H2 fr g2 q2 => ?_
    exact hrr wv G2 F2 H2 fr (x1.trans g2.x) (o1.grown g2) q2 fun hp => ⟨(hp1 hp).1, (hp1 hp).2.trans g2.hh⟩
  · exact hrr.elim
theorem valL1 {K : PySem.W.Frag} {mg : Str → Option Value} {G H : Hp} {σ : L2.St} {m : Md} {ds : List D} {vs : List V} (h : ValL K mg G H σ [.val m] ds vs) : ∃ d v fp, ds = [d] ∧ vs = [v] ∧ Val K mg m G H d v fp := by
  cases h with
  | val h r =>
    cases r
    exact ⟨_, _, _, rfl, rfl, h⟩
theorem valL2 {K : PySem.W.Frag} {mg : Str → Option Value} {G H : Hp} {σ : L2.St} {m m' : Md} {ds : List D} {vs : List V} (h : ValL K mg G H σ [.val m, .val m'] ds vs) : ∃ d v fp d' v' fp', ds = [d, d'] ∧ vs = [v, v'] ∧ Val K mg m G H d v fp ∧ Val K mg m' G H d' v' fp' := by
  cases h with
  | val h r =>
    obtain ⟨d', v', fp', rfl, rfl, h'⟩ := valL1 r
    exact ⟨_, _, _, _, _, _, rfl, rfl, h, h'⟩
def g1 (g : D → Option D) : List D → Option D
  | [x] => g x
  | _ => none
def g2 (g : D → D → Option D) : List D → Option D
  | [x, y] => g x y
  | _ => none
/-- one argument, read -/
theorem call1 {K : PySem.W.Frag} {mg : Str → Option Value} {n : Nat} {mo : Md} {r : List V → Hp → VK → Prop} {g : D → Option D}
    (h : ∀ (G F H : Hp) (d : D) (v : V) (z : D) (Q : VK), Same G F → Same F H → RdV K mg G H n d v → g d = some z → (∀ w G' F' H' fr, Grow G F H G' F' H' fr → Val K mg mo G' H' z w fr → Q w H') → r [v] H Q) : CallS K mg [.val (.rd n)] mo r (g1 g) := by
  intro G F H σ ds vs z Q gf fh q hz k
  obtain ⟨d, v, fp, rfl, rfl, q1⟩ := valL1 q
  exact h G F H d v z Q gf fh q1.1 hz k
theorem call2 {K : PySem.W.Frag} {mg : Str → Option Value} {n m : Nat} {mo : Md} {r : List V → Hp → VK → Prop} {g : D → D → Option D}
    (h : ∀ (G F H : Hp) (d e : D) (v u : V) (z : D) (Q : VK), Same G F → Same F H → RdV K mg G H n d v → RdV K mg G H m e u → g d e = some z → (∀ w G' F' H' fr, Grow G F H G' F' H' fr → Val K mg mo G' H' z w fr → Q w H') → r [v, u] H Q) : CallS K mg [.val (.rd n), .val (.rd m)] mo r (g2 g) := by
  intro G F H σ ds vs z Q gf fh q hz k
  obtain ⟨d, v, fp, d', v', fp', rfl, rfl, q1, q2⟩ := valL2 q
  exact h G F H d d' v v' z Q gf fh q1.1 q2.1 hz k
/-! ### len -/
def gLen : D → Option D
  | .tup ds => some (.int ds.length)
  | .lst ds => some (.int ds.length)
  | .dct ds => some (.int ds.length)
  | .dcT ds => some (.int ds.length)
  | .str x => if small x.length = true then some (.int x.length) else none
  | _ => none
def rLenA (K : PySem.W.Frag) : List V → Hp → VK → Prop := fun xs H Q => (∃ p ys, xs = [.ref p] ∧ (SqL K H p ys ∨ SqT K H p ys) ∧ Q (.int ys.length) H) ∨ (∃ a kvs, xs = [V.ref a] ∧ H a = some (.dK kvs) ∧ Q (.int kvs.length) H) ∨ rLenT xs H Q ∨
  (∃ z, xs = [.str z] ∧ z.length ≤ sizeLine ∧ Q (.int z.length) H)
theorem call_len_dK : CallR X (.builtin "len") (fun xs H Q => ∃ a kvs, xs = [V.ref a] ∧ H a = some (.dK kvs) ∧ Q (.int kvs.length) H) := by
  rintro pins s σ H _ us Q I r ⟨a, kvs, rfl, ha, q⟩
  rw [Vals.ref1 r]
  exact d_len I (.inl ha) fun t _ I' => ⟨V.int kvs.length, H, I', ⟨t, rfl⟩, q⟩
theorem call_len_any : CallR X (.builtin "len") (rLenA X.K) := CallR.or call_len_seq (CallR.or call_len_dK (CallR.or call_len_dT call_len_str))
theorem len_S {K : PySem.W.Frag} {mg : Str → Option Value} {n : Nat} : CallS K mg [.val (.rd n)] (.rd 0) (rLenA K) (g1 gLen) := call1 fun G F H d v z Q gf fh q hz k => by
  have q := q.rp (gf.trans fh)
  unfold gLen at hz
  split at hz
  · cases hz
    cases q with
    | tup h r => exact .inl ⟨_, _, rfl, .inr (.of h), by rw [r.length]; exact k _ G F H [] (.refl gf fh) ⟨.int _, rfl⟩⟩
  · cases hz
    cases q with
    | lst h r => exact .inl ⟨_, _, rfl, .inl (.of h), by rw [r.length]; exact k _ G F H [] (.refl gf fh) ⟨.int _, rfl⟩⟩
  · cases hz
    obtain ⟨a, kvs, rfl, h, e, r⟩ := q.dct_inv
    have el := congrArg List.length e
    rw [List.length_map, List.length_map] at el
    exact .inr (.inl ⟨_, _, rfl, h, by rw [el]; exact k _ G F H [] (.refl gf fh) ⟨.int _, rfl⟩⟩)
  · cases hz
    obtain ⟨a, kvs, rfl, h, e, r⟩ := q.dcT_inv
    have el := congrArg List.length e
    rw [List.length_map, List.length_map] at el
    exact .inr (.inr (.inl ⟨_, _, rfl, h, by rw [el]; exact k _ G F H [] (.refl gf fh) ⟨.int _, rfl⟩⟩))
  · split at hz
    · rename_i hs
      cases hz
      cases q
      exact .inr (.inr (.inr ⟨_, rfl, szl (of_decide_eq_true hs), k _ G F H [] (.refl gf fh) ⟨.int _, rfl⟩⟩))
    · cases hz
  · cases hz
variable {p1 p2 p3 : Bool} {n m : Nat} {a b : Expr} {fa fb : M D} {pos pp : Pos} {es : List Expr} {f : M (List D)}
def e1L (g : D → Option D) (fa : M D) : M D := eL (g1 g) (aCons fa aNil)
def e2L (g : D → D → Option D) (fa fb : M D) : M D := eL (g2 g) (aCons fa (aCons fb aNil))
theorem and_true' {p : Bool} {m : Md} {e : Expr} {f : M D} (h : EX X W c (p && true) m e f) : EX X W c p m e f := by rw [Bool.and_true] at h; exact h
theorem ex_len (hm : X.mg "len" = none) (ha : EX X W c p1 (.rd n) a fa) (hg : Gl X "len" := by rfl) (h1 : starEach [a] X.env = (false, eval a X.env) :: starEach [] X.env := by rfl) (hpl : (backTo pos (starEach [] X.env)).any (·.1) = false := by rfl) :
    EX X W c p1 (.rd 0) (.Call (.Name "len" pp) [a] [] pos) (e1L gLen fa) := and_true' (ex_L (fun h => pe_callB call_len_any hg hm PySem.boot_len h (by decide) (by decide) h1 hpl) len_S (ax_cons ha ax_nil wrd h1))
/-! ### sum -/
def intsOf : List D → Option (List Int)
  | [] => some []
  | .int i :: r => (intsOf r).map (i :: ·)
  | _ => none
theorem intsOf_eq : ∀ {ds : List D} {is : List Int}, intsOf ds = some is → ds = is.map D.int
  | [], _, h => by simp only [intsOf, Option.some.injEq] at h; subst h; rfl
  | .int i :: r, is, h => by
    simp only [intsOf] at h
    obtain ⟨js, e, rfl⟩ := Option.map_eq_some_iff.mp h
    rw [List.map_cons, ← intsOf_eq e]
  | .non :: _, _, h => by simp only [intsOf] at h; cases h
  | .bl _ :: _, _, h => by simp only [intsOf] at h; cases h
  | .str _ :: _, _, h => by simp only [intsOf] at h; cases h
  | .fn _ :: _, _, h => by simp only [intsOf] at h; cases h
  | .tup _ :: _, _, h => by simp only [intsOf] at h; cases h
  | .lst _ :: _, _, h => by simp only [intsOf] at h; cases h
  | .dct _ :: _, _, h => by simp only [intsOf] at h; cases h
  | .dcT _ :: _, _, h => by simp only [intsOf] at h; cases h
  | .obj _ _ :: _, _, h => by simp only [intsOf] at h; cases h
  | .scr _ :: _, _, h => by simp only [intsOf] at h; cases h
def itemsOf : D → Option (List D)
  | .tup ds => some ds
  | .lst ds => some ds
  | _ => none
def gSum (x : D) : Option D := match itemsOf x with
  | some ds => (intsOf ds).map fun is => .int is.sum
  | none => none
def rSumT (K : PySem.W.Frag) : List V → Hp → VK → Prop := fun vs H Q => ∃ (a : Addr) (ns : List Int), vs = [V.ref a] ∧ SqT K H a (ns.map V.int) ∧ Q (.int ns.sum) H
theorem cr_sumT (hc : X.calm = true) : CallR X (.builtin "sum") (rSumT X.K) := by
  rintro pins s σ H _ us Q I r ⟨a, ns, rfl, row, q⟩
  obtain ⟨its, rv, tup, _⟩ := I.tuple row
  obtain ⟨xs, same⟩ := rv.ints.allInts.items
  have total : preSum (numAt xs) xs.size = ns.sum := by
    have two : ((intItems xs).toList |> numsOf) = ns := by rw [← same]; exact rv.ints.numsOf
    rw [nums_intItems] at two
    rw [preSum_eq, ← two]
    exact congrArg List.sum (List.take_of_length_le (by simp))
  rw [Vals.ref1 r]
  refine PySem.W.ktm_sumG (xs := xs) (I.ok.hd hc) (same ▸ tup) fun h' tk t' kept => ?_
  rw [total]
  exact ⟨.int ns.sum, H, I.kept kept, ⟨t', rfl⟩, q⟩
def rSumA (K : PySem.W.Frag) : List V → Hp → VK → Prop := fun xs H Q => rSum K xs H Q ∨ rSumT K xs H Q
theorem sum_S {K : PySem.W.Frag} {mg : Str → Option Value} {n : Nat} : CallS K mg [.val (.rd n)] (.rd 0) (rSumA K) (g1 gSum) := call1 fun G F H d v z Q gf fh q hz k => by
  have q := q.rp (gf.trans fh)
  unfold gSum itemsOf at hz
  cases q <;> first | (cases hz; done) | skip
  · rename_i h r
    obtain ⟨is, e, rfl⟩ := Option.map_eq_some_iff.mp hz
    rw [intsOf_eq e] at r
    rw [r.ints] at h
    exact .inr ⟨_, is, rfl, .of h, k _ G F H [] (.refl gf fh) ⟨.int _, rfl⟩⟩
  · rename_i h r
    obtain ⟨is, e, rfl⟩ := Option.map_eq_some_iff.mp hz
    rw [intsOf_eq e] at r
    rw [r.ints] at h
    exact .inl ⟨_, is, rfl, .of h, k _ G F H [] (.refl gf fh) ⟨.int _, rfl⟩⟩
theorem ex_sum (ok : Cok X W) (hm : X.mg "sum" = none) (ha : EX X W c p1 (.rd n) a fa) (hg : Gl X "sum" := by rfl) (h1 : starEach [a] X.env = (false, eval a X.env) :: starEach [] X.env := by rfl) (hpl : (backTo pos (starEach [] X.env)).any (·.1) = false := by rfl) :
    EX X W c p1 (.rd 0) (.Call (.Name "sum" pp) [a] [] pos) (e1L gSum fa) := and_true' (ex_L (fun h => pe_callB (CallR.or (cr_sum ok.calm) (cr_sumT ok.calm)) hg hm (by decide +kernel) h (by decide) (by decide) h1 hpl) sum_S (ax_cons ha ax_nil wrd h1))
/-! ### all, any of a list of bools -/
def blsOf : List D → Option (List Bool)
  | [] => some []
  | .bl i :: r => (blsOf r).map (i :: ·)
  | _ => none
theorem blsOf_eq : ∀ {ds : List D} {is : List Bool}, blsOf ds = some is → ds = is.map D.bl
  | [], _, h => by simp only [blsOf, Option.some.injEq] at h; subst h; rfl
  | .bl i :: r, is, h => by
    simp only [blsOf] at h
    obtain ⟨js, e, rfl⟩ := Option.map_eq_some_iff.mp h
    rw [List.map_cons, ← blsOf_eq e]
  | .non :: _, _, h => by simp only [blsOf] at h; cases h
  | .int _ :: _, _, h => by simp only [blsOf] at h; cases h
  | .str _ :: _, _, h => by simp only [blsOf] at h; cases h
  | .fn _ :: _, _, h => by simp only [blsOf] at h; cases h
  | .tup _ :: _, _, h => by simp only [blsOf] at h; cases h
  | .lst _ :: _, _, h => by simp only [blsOf] at h; cases h
  | .dct _ :: _, _, h => by simp only [blsOf] at h; cases h
  | .dcT _ :: _, _, h => by simp only [blsOf] at h; cases h
  | .obj _ _ :: _, _, h => by simp only [blsOf] at h; cases h
  | .scr _ :: _, _, h => by simp only [blsOf] at h; cases h
def gAll : D → Option D
  | .lst ds => (blsOf ds).map fun bs => .bl (bs.all id)
  | _ => none
def gAny : D → Option D
  | .lst ds => (blsOf ds).map fun bs => .bl (bs.any id)
  | _ => none
theorem all_S {K : PySem.W.Frag} {mg : Str → Option Value} {n : Nat} : CallS K mg [.val (.rd n)] (.rd 0) (rAll K) (g1 gAll) := call1 fun G F H d v z Q gf fh q hz k => by
  have q := q.rp (gf.trans fh)
  cases q <;> first | (cases hz; done) | skip
  rename_i h r
  obtain ⟨is, e, rfl⟩ := Option.map_eq_some_iff.mp hz
  rw [blsOf_eq e] at r
  rw [r.bls] at h
  exact ⟨_, is, rfl, .of h, k _ G F H [] (.refl gf fh) ⟨.bl _, rfl⟩⟩
theorem any_S {K : PySem.W.Frag} {mg : Str → Option Value} {n : Nat} : CallS K mg [.val (.rd n)] (.rd 0) (rAny K) (g1 gAny) := call1 fun G F H d v z Q gf fh q hz k => by
  have q := q.rp (gf.trans fh)
  cases q <;> first | (cases hz; done) | skip
  rename_i h r
  obtain ⟨is, e, rfl⟩ := Option.map_eq_some_iff.mp hz
  rw [blsOf_eq e] at r
  rw [r.bls] at h
  exact ⟨_, is, rfl, .of h, k _ G F H [] (.refl gf fh) ⟨.bl _, rfl⟩⟩
theorem ex_all (ok : Cok X W) (hm : X.mg "all" = none) (ha : EX X W c p1 (.rd n) a fa) (hg : Gl X "all" := by rfl) (h1 : starEach [a] X.env = (false, eval a X.env) :: starEach [] X.env := by rfl) (hpl : (backTo pos (starEach [] X.env)).any (·.1) = false := by rfl) :
    EX X W c p1 (.rd 0) (.Call (.Name "all" pp) [a] [] pos) (e1L gAll fa) := and_true' (ex_L (fun h => pe_callB (cr_all ok.calm) hg hm (by decide +kernel) h (by decide) (by decide) h1 hpl) all_S (ax_cons ha ax_nil wrd h1))
theorem ex_any (ok : Cok X W) (hm : X.mg "any" = none) (ha : EX X W c p1 (.rd n) a fa) (hg : Gl X "any" := by rfl) (h1 : starEach [a] X.env = (false, eval a X.env) :: starEach [] X.env := by rfl) (hpl : (backTo pos (starEach [] X.env)).any (·.1) = false := by rfl) :
    EX X W c p1 (.rd 0) (.Call (.Name "any" pp) [a] [] pos) (e1L gAny fa) := and_true' (ex_L (fun h => pe_callB (cr_any ok.calm) hg hm (by decide +kernel) h (by decide) (by decide) h1 hpl) any_S (ax_cons ha ax_nil wrd h1))
/-! ### abs, min, max of two, int, str of ints -/
def gAbs : D → Option D
  | .int i => some (D.int (if i < 0 then -i else i))
  | _ => none
def gMin : D → D → Option D
  | .int i, .int j => some (.int (if j < i then j else i))
  | _, _ => none
def gMax : D → D → Option D
  | .int i, .int j => some (.int (if j > i then j else i))
  | _, _ => none
def gInt : D → Option D
  | .int i => some (.int i)
  | _ => none
def gStr : D → Option D
  | .int i => if i.natAbs.log2 < 1920 then some (.str (toString i)) else none
  | _ => none
theorem abs_S {K : PySem.W.Frag} {mg : Str → Option Value} {n : Nat} : CallS K mg [.val (.rd n)] (.rd 0) (fun xs H Q => ∃ i, xs = [.int i] ∧ Q (.int (if i < 0 then -i else i)) H) (g1 gAbs) := call1 fun G F H d v z Q gf fh q hz k => by
  have q := q.rp (gf.trans fh)
  cases q <;> first | (cases hz; done) | skip
  cases hz
  exact ⟨_, rfl, k _ G F H [] (.refl gf fh) ⟨.int _, rfl⟩⟩
theorem int_S {K : PySem.W.Frag} {mg : Str → Option Value} {n : Nat} : CallS K mg [.val (.rd n)] (.rd 0) (fun xs H Q => (∃ i, xs = [.int i] ∧ Q (.int i) H) ∨ ∃ k, xs = [.bl k] ∧ Q (.int (if k then 1 else 0)) H) (g1 gInt) := call1 fun G F H d v z Q gf fh q hz k => by
  have q := q.rp (gf.trans fh)
  cases q <;> first | (cases hz; done) | skip
  cases hz
  exact .inl ⟨_, rfl, k _ G F H [] (.refl gf fh) ⟨.int _, rfl⟩⟩
theorem str_S {K : PySem.W.Frag} {mg : Str → Option Value} {n : Nat} : CallS K mg [.val (.rd n)] (.rd 0) (fun xs H Q => ∃ i : Int, xs = [.int i] ∧ i.natAbs.log2 < 1920 ∧ Q (.str (toString i)) H) (g1 gStr) := call1 fun G F H d v z Q gf fh q hz k => by
  have q := q.rp (gf.trans fh)
  cases q <;> first | (cases hz; done) | skip
  have hz : (if _ then _ else _) = _ := hz
  split at hz
  · rename_i hs
    cases hz
    exact ⟨_, rfl, hs, k _ G F H [] (.refl gf fh) ⟨.str _, rfl⟩⟩
  · cases hz
theorem min_S {K : PySem.W.Frag} {mg : Str → Option Value} {n m : Nat} : CallS K mg [.val (.rd n), .val (.rd m)] (.rd 0) (fun xs H Q => ∃ i j, xs = [.int i, .int j] ∧ Q (.int (if j < i then j else i)) H) (g2 gMin) := call2 fun G F H d e v u z Q gf fh q q' hz k => by
  have q := q.rp (gf.trans fh)
  have q' := q'.rp (gf.trans fh)
  cases q <;> first | (cases hz; done) | skip
  cases q' <;> first | (cases hz; done) | skip
  cases hz
  exact ⟨_, _, rfl, k _ G F H [] (.refl gf fh) ⟨.int _, rfl⟩⟩
theorem max_S {K : PySem.W.Frag} {mg : Str → Option Value} {n m : Nat} : CallS K mg [.val (.rd n), .val (.rd m)] (.rd 0) (fun xs H Q => ∃ i j, xs = [.int i, .int j] ∧ Q (.int (if j > i then j else i)) H) (g2 gMax) := call2 fun G F H d e v u z Q gf fh q q' hz k => by
  have q := q.rp (gf.trans fh)
  have q' := q'.rp (gf.trans fh)
  cases q <;> first | (cases hz; done) | skip
  cases q' <;> first | (cases hz; done) | skip
  cases hz
  exact ⟨_, _, rfl, k _ G F H [] (.refl gf fh) ⟨.int _, rfl⟩⟩
theorem ex_abs (hm : X.mg "abs" = none) (ha : EX X W c p1 (.rd n) a fa) (hg : Gl X "abs" := by rfl) (h1 : starEach [a] X.env = (false, eval a X.env) :: starEach [] X.env := by rfl) (hpl : (backTo pos (starEach [] X.env)).any (·.1) = false := by rfl) :
    EX X W c p1 (.rd 0) (.Call (.Name "abs" pp) [a] [] pos) (e1L gAbs fa) := and_true' (ex_L (fun h => pe_callB call_abs hg hm (by decide +kernel) h (by decide) (by decide) h1 hpl) abs_S (ax_cons ha ax_nil wrd h1))
theorem ex_min2 (ok : Cok X W) (hm : X.mg "min" = none) (ha : EX X W c p1 (.rd 0) a fa) (hb : EX X W c p2 (.rd 0) b fb) (hg : Gl X "min" := by rfl) (h1 : starEach [a, b] X.env = (false, eval a X.env) :: starEach [b] X.env := by rfl) (h2 : starEach [b] X.env = (false, eval b X.env) :: starEach [] X.env := by rfl) (hpl : (backTo pos (starEach [b] X.env)).any (·.1) = false := by rfl) :
    EX X W c (p1 && (p2 && true)) (.rd 0) (.Call (.Name "min" pp) [a, b] [] pos) (e2L gMin fa fb) := ex_L (fun h => pe_callB (call_min2 ok.calm) hg hm (by decide +kernel) h (by decide) (by decide) h1 hpl) min_S (ax_cons ha (ax_cons hb ax_nil w00 h2) w00 h1)
theorem ex_max2 (ok : Cok X W) (hm : X.mg "max" = none) (ha : EX X W c p1 (.rd 0) a fa) (hb : EX X W c p2 (.rd 0) b fb) (hg : Gl X "max" := by rfl) (h1 : starEach [a, b] X.env = (false, eval a X.env) :: starEach [b] X.env := by rfl) (h2 : starEach [b] X.env = (false, eval b X.env) :: starEach [] X.env := by rfl) (hpl : (backTo pos (starEach [b] X.env)).any (·.1) = false := by rfl) :
    EX X W c (p1 && (p2 && true)) (.rd 0) (.Call (.Name "max" pp) [a, b] [] pos) (e2L gMax fa fb) := ex_L (fun h => pe_callB (call_max2 ok.calm) hg hm (by decide +kernel) h (by decide) (by decide) h1 hpl) max_S (ax_cons ha (ax_cons hb ax_nil w00 h2) w00 h1)
theorem ex_intc (hm : X.mg "int" = none) (ha : EX X W c p1 (.rd n) a fa) (hg : Gl X "int" := by rfl) (h1 : starEach [a] X.env = (false, eval a X.env) :: starEach [] X.env := by rfl) (hpl : (backTo pos (starEach [] X.env)).any (·.1) = false := by rfl) :
    EX X W c p1 (.rd 0) (.Call (.Name "int" pp) [a] [] pos) (e1L gInt fa) := and_true' (ex_L (fun h => pe_callTy call_int1 hg hm (by decide +kernel) h (by decide) (by decide) h1 hpl) int_S (ax_cons ha ax_nil wrd h1))
theorem ex_strc (hm : X.mg "str" = none) (ha : EX X W c p1 (.rd n) a fa) (hg : Gl X "str" := by rfl) (h1 : starEach [a] X.env = (false, eval a X.env) :: starEach [] X.env := by rfl) (hpl : (backTo pos (starEach [] X.env)).any (·.1) = false := by rfl) :
    EX X W c p1 (.rd 0) (.Call (.Name "str" pp) [a] [] pos) (e1L gStr fa) := and_true' (ex_L (fun h => pe_callTy call_str_int hg hm (by decide +kernel) h (by decide) (by decide) h1 hpl) str_S (ax_cons ha ax_nil wrd h1))
/-! ### tuple(x), list(x) -/
def gTuple : D → Option D
  | .tup ds => some (.tup ds)
  | .lst ds => some (.tup ds)
  | _ => none
def gList : D → Option D
  | .tup ds => some (.lst ds)
  | .lst ds => some (.lst ds)
  | _ => none
theorem rd1_tup {K : PySem.W.Frag} {mg : Str → Option Value} {G H : Hp} {ds : List D} {v : V} (q : RdV K mg G H 1 (.tup ds) v) : ∃ a vs, v = .ref a ∧ G a = some (.tup vs) ∧ RpL K mg G vs ds := by
  exact (RdV.plain rfl q).tup_inv
theorem tuple_S {K : PySem.W.Frag} {mg : Str → Option Value} : CallS K mg [.val (.rd 1)] (.rd 0) (fun xs H Q => ∃ p ys, xs = [.ref p] ∧ ((SqL K H p ys ∧ ∀ l, H l = none → Q (.ref l) (upd H l (.tup ys))) ∨ (SqT K H p ys ∧ Q (.ref p) H))) (g1 gTuple) := call1 fun G F H d v z Q gf fh q hz k => by
  have gh := gf.trans fh
  cases d <;> first | (cases hz; done) | skip
  · cases hz
    obtain ⟨a, vs, rfl, h1, r1⟩ := rd1_tup q
    exact ⟨a, vs, rfl, .inr ⟨.of (gh _ _ h1), k _ G F H [] (.refl gf fh) ⟨.tup h1 r1, rfl⟩⟩⟩
  · cases hz
    obtain ⟨a, vs, rfl, h1, r1⟩ := rd1_lst gh q
    refine ⟨a, vs, rfl, .inl ⟨.of h1, fun p hp => ?_⟩⟩
    have g := Grow.sh (o := .tup vs) gf fh hp
    exact k _ _ _ _ _ g ⟨.tup upd_same (r1.mono g.x.g), rfl⟩
theorem list_S {K : PySem.W.Frag} {mg : Str → Option Value} : CallS K mg [.val (.rd 1)] (.own 1) (fun xs H Q => ∃ p ys, xs = [.ref p] ∧ (SqL K H p ys ∨ SqT K H p ys) ∧ ∀ l, H l = none → Q (.ref l) (upd H l (.lst ys))) (g1 gList) := call1 fun G F H d v z Q gf fh q hz k => by
  have gh := gf.trans fh
  cases d <;> first | (cases hz; done) | skip
  · cases hz
    obtain ⟨a, vs, rfl, h1, r1⟩ := rd1_tup q
    refine ⟨a, vs, rfl, .inr (.of (gh _ _ h1)), fun p hp => ?_⟩
    have g := Grow.own (o := .lst vs) gf fh hp
    exact k _ _ _ _ _ g (Own.mkL upd_same (ownL_sh r1))
  · cases hz
    obtain ⟨a, vs, rfl, h1, r1⟩ := rd1_lst gh q
    refine ⟨a, vs, rfl, .inl (.of h1), fun p hp => ?_⟩
    have g := Grow.own (o := .lst vs) gf fh hp
    exact k _ _ _ _ _ g (Own.mkL upd_same (ownL_sh r1))
theorem ex_tupc (hm : X.mg "tuple" = none) (ha : EX X W c p1 (.rd 1) a fa) (hg : Gl X "tuple" := by rfl) (h1 : starEach [a] X.env = (false, eval a X.env) :: starEach [] X.env := by rfl) (hpl : (backTo pos (starEach [] X.env)).any (·.1) = false := by rfl) :
    EX X W c p1 (.rd 0) (.Call (.Name "tuple" pp) [a] [] pos) (e1L gTuple fa) := and_true' (ex_L (fun h => pe_callTy call_tuple_of hg hm (by decide +kernel) h (by decide) (by decide) h1 hpl) tuple_S (ax_cons ha ax_nil wrd h1))
theorem ex_lstc (hm : X.mg "list" = none) (ha : EX X W c p1 (.rd 1) a fa) (hg : Gl X "list" := by rfl) (h1 : starEach [a] X.env = (false, eval a X.env) :: starEach [] X.env := by rfl) (hpl : (backTo pos (starEach [] X.env)).any (·.1) = false := by rfl) :
    EX X W c p1 (.own 1) (.Call (.Name "list" pp) [a] [] pos) (e1L gList fa) := and_true' (ex_L (fun h => pe_callTy call_list_of hg hm (by decide +kernel) h (by decide) (by decide) h1 hpl) list_S (ax_cons ha ax_nil wrd h1))
/-! ### tuple(range(..)), list(range(..)) -/
def rgD (a b : Int) : List D := (List.range (b - a).toNat).map fun i => D.int (a + (i : Nat))
theorem rg_rpl {K : PySem.W.Frag} {mg : Str → Option Value} {H : Hp} (a b : Int) : RpL K mg H (rgV a b) (rgD a b) := by
  unfold rgV rgD
  generalize List.range (b - a).toNat = l
  induction l with
  | nil => exact .nil
  | cons x r ih => exact .cons (.int _) ih
def rgOk (a b : Int) : Bool := decide (-1000000 ≤ a ∧ a ≤ 1000000 ∧ -1000000 ≤ b ∧ b ≤ 1000000)
theorem rgOk_ok {a b : Int} (h : rgOk a b = true) : RgOk a b := by
  have h := of_decide_eq_true h
  exact ⟨by omega, by omega, by omega, by omega, by omega⟩
def gRgT : D → D → Option D
  | .int a, .int b => if rgOk a b = true then some (.tup (rgD a b)) else none
  | _, _ => none
def gRgL : D → D → Option D
  | .int a, .int b => if rgOk a b = true then some (.lst (rgD a b)) else none
  | _, _ => none
theorem ex_tupR1 (ok : Cok X W) (hm : X.mg "tuple" = none) (hr : X.mg "range" = none) (ha : EX X W c p1 (.rd n) a fa) {pq qq : Pos} (hg : Gl X "tuple" := by rfl) (hg2 : Gl X "range" := by rfl) (h1 : starEach [a] X.env = (false, eval a X.env) :: starEach [] X.env := by rfl)
    (h2 : starEach [.Call (.Name "range" pq) [a] [] qq] X.env = (false, eval (.Call (.Name "range" pq) [a] [] qq) X.env) :: starEach [] X.env := by rfl) : EX X W c p1 (.rd 0) (.Call (.Name "tuple" pp) [.Call (.Name "range" pq) [a] [] qq] [] pos) (e1 (gRgT (.int 0)) fa) := by
  refine ex_1 (r := fun x H1 Q => ∃ k : Int, x = .int k ∧ RgOk 0 k ∧ ∀ q, H1 q = none → Q (.ref q) (upd H1 q (.tup (rgV 0 k)))) (fun h => ?_) (fun G F H d v z Q gf fh q hz k => ?_) ha wrd
  · have hp := pe_tupRg (pos := pos) (p := pp) ok.calm hg hm (prg_1 hg2 hr h h1) h2
    refine ⟨fun pins s σ H Q I hw => hp.run pins s σ H Q I ?_⟩
    have e : (fun x H1 => ∃ k : Int, x = V.int k ∧ RgOk 0 k ∧ ∀ q, H1 q = none → Q (.ref q) (upd H1 q (.tup (rgV 0 k)))) = (fun x H1 => ∃ n : Int, x = V.int n ∧ (RgOk 0 n ∧ ∀ q, H1 q = none → Q (.ref q) (upd H1 q (.tup (rgV 0 n))))) := rfl
    exact hw
  · have q := q.1.rp (gf.trans fh)
    cases q <;> first | (cases hz; done) | skip
    rename_i i0
    have hz : (if _ then _ else _) = _ := hz
    split at hz
    · rename_i hs
      cases hz
      refine ⟨_, rfl, rgOk_ok hs, fun p hp => ?_⟩
      have g := Grow.sh (o := .tup (rgV 0 i0)) gf fh hp
      exact k _ _ _ _ _ g ⟨.tup upd_same (rg_rpl 0 _), rfl⟩
    · cases hz
theorem ex_lstR1 (ok : Cok X W) (hm : X.mg "list" = none) (hr : X.mg "range" = none) (ha : EX X W c p1 (.rd n) a fa) {pq qq : Pos} (hg : Gl X "list" := by rfl) (hg2 : Gl X "range" := by rfl) (h1 : starEach [a] X.env = (false, eval a X.env) :: starEach [] X.env := by rfl)
    (h2 : starEach [.Call (.Name "range" pq) [a] [] qq] X.env = (false, eval (.Call (.Name "range" pq) [a] [] qq) X.env) :: starEach [] X.env := by rfl) : EX X W c p1 (.own 1) (.Call (.Name "list" pp) [.Call (.Name "range" pq) [a] [] qq] [] pos) (e1 (gRgL (.int 0)) fa) := by
  refine ex_1 (r := fun x H1 Q => ∃ k : Int, x = .int k ∧ RgOk 0 k ∧ ∀ q, H1 q = none → Q (.ref q) (upd H1 q (.lst (rgV 0 k)))) (fun h => ?_) (fun G F H d v z Q gf fh q hz k => ?_) ha wrd
  · have hp := pe_listRg (pos := pos) (p := pp) ok.calm hg hm (prg_1 hg2 hr h h1) h2
    exact ⟨fun pins s σ H Q I hw => hp.run pins s σ H Q I hw⟩
  · have q := q.1.rp (gf.trans fh)
    cases q <;> first | (cases hz; done) | skip
    rename_i i0
    have hz : (if _ then _ else _) = _ := hz
    split at hz
    · rename_i hs
      cases hz
      refine ⟨_, rfl, rgOk_ok hs, fun p hp => ?_⟩
      have g := Grow.own (o := .lst (rgV 0 i0)) gf fh hp
      exact k _ _ _ _ _ g (Own.mkL upd_same (ownL_sh (rg_rpl 0 _)))
    · cases hz
/-! ### + of lists, and joined texts -/
def gCat : D → D → Option D
  | .lst a, .lst b => if small (a.length + b.length) = true then some (.lst (a ++ b)) else none
  | _, _ => none
theorem own_lst {K : PySem.W.Frag} {mg : Str → Option Value} {G F H : Hp} {p : Addr} {vs : List V} {ds : List D} (gf : Same G F) (fh : Same F H) (hp : H p = none) (r : RpL K mg G vs ds) : Grow G F H G F (upd H p (.lst vs)) [p] ∧ Own K mg G (upd H p (.lst vs)) 1 (.lst ds) (.ref p) [p] :=
  ⟨Grow.own gf fh hp, Own.mkL upd_same (ownL_sh r)⟩
theorem ex_cat (ha : EX X W c p1 (.rd 1) a fa) (hb : EX X W c p2 (.rd 1) b fb) (w1 : Waits (.rd 1) p2) : EX X W c (p1 && p2) (.own 1) (.BinOp a .Add b pos) (e2 gCat fa fb) := by
  refine ex_2 (fun h1 h2 => pe_op op_cat h1 h2) (fun G F H d e v u z Q gf fh q1 q2 hz k => ?_) ha hb w1 wrd
  have gh := gf.trans fh
  unfold gCat at hz
  split at hz
  · split at hz
    · rename_i hs
      cases hz
      obtain ⟨a1, vs1, rfl, h1, r1⟩ := rd1_lst gh q1.1
      obtain ⟨a2, vs2, rfl, h2, r2⟩ := rd1_lst gh q2.1
      refine ⟨a1, a2, vs1, vs2, rfl, rfl, h1, h2, by rw [r1.length, r2.length]; exact szl (of_decide_eq_true hs), fun p hp => ?_⟩
      obtain ⟨g, ow⟩ := own_lst gf fh hp (r1.append r2)
      exact k _ _ _ _ _ g ow
    · cases hz
  · cases hz
/-- [x] * n -/
def gRep : D → D → Option D
  | .lst a, .int k => if decide (-1000000 ≤ k ∧ k ≤ 1000000) && small (a.length * k.toNat) then some (.lst (List.replicate k.toNat a).flatten) else none
  | _, _ => none
theorem rpl_rep {K : PySem.W.Frag} {mg : Str → Option Value} {H : Hp} {vs : List V} {ds : List D} (r : RpL K mg H vs ds) : ∀ k : Nat, RpL K mg H (List.replicate k vs).flatten (List.replicate k ds).flatten
  | 0 => .nil
  | k + 1 => by
    simp only [List.replicate_succ, List.flatten_cons]
    exact r.append (rpl_rep r k)
theorem ex_rep (ha : EX X W c p1 (.rd 1) a fa) (hb : EX X W c p2 (.rd n) b fb) (w1 : Waits (.rd 1) p2) : EX X W c (p1 && p2) (.own 1) (.BinOp a .Mult b pos) (e2 gRep fa fb) := by
  refine ex_2 (fun h1 h2 => pe_op op_rep h1 h2) (fun G F H d e v u z Q gf fh q1 q2 hz k => ?_) ha hb w1 wrd
  have gh := gf.trans fh
  unfold gRep at hz
  split at hz
  · split at hz
    · rename_i k0 hs
      rw [Bool.and_eq_true] at hs
      have hb := of_decide_eq_true hs.1
      cases hz
      obtain ⟨a1, vs1, rfl, h1, r1⟩ := rd1_lst gh q1.1
      have q2 := q2.1.rp gh
      cases q2
      refine ⟨a1, _, vs1, rfl, rfl, h1, by omega, by omega, by rw [r1.length]; exact szl (of_decide_eq_true hs.2), fun p hp => ?_⟩
      obtain ⟨g, ow⟩ := own_lst gf fh hp (rpl_rep r1 _)
      exact k _ _ _ _ _ g ow
    · cases hz
  · cases hz
/-! ### a text's join -/
def strsOf : List D → Option (List Str)
  | [] => some []
  | .str i :: r => (strsOf r).map (i :: ·)
  | _ => none
theorem strsOf_eq : ∀ {ds : List D} {is : List Str}, strsOf ds = some is → ds = is.map D.str
  | [], _, h => by simp only [strsOf, Option.some.injEq] at h; subst h; rfl
  | .str i :: r, is, h => by
    simp only [strsOf] at h
    obtain ⟨js, e, rfl⟩ := Option.map_eq_some_iff.mp h
    rw [List.map_cons, ← strsOf_eq e]
  | .non :: _, _, h => by simp only [strsOf] at h; cases h
  | .int _ :: _, _, h => by simp only [strsOf] at h; cases h
  | .bl _ :: _, _, h => by simp only [strsOf] at h; cases h
  | .fn _ :: _, _, h => by simp only [strsOf] at h; cases h
  | .tup _ :: _, _, h => by simp only [strsOf] at h; cases h
  | .lst _ :: _, _, h => by simp only [strsOf] at h; cases h
  | .dct _ :: _, _, h => by simp only [strsOf] at h; cases h
  | .dcT _ :: _, _, h => by simp only [strsOf] at h; cases h
  | .obj _ _ :: _, _, h => by simp only [strsOf] at h; cases h
  | .scr _ :: _, _, h => by simp only [strsOf] at h; cases h
def gJoin : D → D → Option D
  | .str a, x => match itemsOf x with
    | some ds => match strsOf ds with
      | some ys => if (ys.map (·.length)).sum + ys.length * a.length ≤ 1000000 then some (.str (Txt.join a ys)) else none
      | none => none
    | none => none
  | _, _ => none
theorem items_sq {K : PySem.W.Frag} {mg : Str → Option Value} {H : Hp} {v : V} {d : D} {ds : List D} (q : Rp K mg H v d) (e : itemsOf d = some ds) : ∃ a vs, v = .ref a ∧ (SqL K H a vs ∨ SqT K H a vs) ∧ RpL K mg H vs ds := by
  cases q <;> first | (cases e; done) | skip
  · cases e
    rename_i h r
    exact ⟨_, _, rfl, .inr (.of h), r⟩
  · cases e
    rename_i h r
    exact ⟨_, _, rfl, .inl (.of h), r⟩
def isStr : D → Bool
  | .str _ => true
  | _ => false
def eM1 (g : D → D → Option D) (fa fb : M D) : M D := fa.bind fun x => if isStr x = true then fb.bind fun y => M.ofO (g x y) else fun _ => .fail
theorem ex_m1 {mo : Md} {m2 : Md} {e : Expr} {r : V → List V → Hp → VK → Prop} {g : D → D → Option D} (hpe : ∀ {to te}, PE X a to → PE X b te → PE X e (tM1 r to te)) (hr : Op2S X.K X.mg (.rd 0) m2 mo (fun x y => r x [y]) g)
    (ha : EX X W c p1 (.rd 0) a fa) (hb : EX X W c p2 m2 b fb) (w2 : Waits m2 true) : EX X W c (p1 && p2) mo e (eM1 g fa fb) := by
  obtain ⟨ta, a1, a2⟩ := ha
  obtain ⟨tb, b1, b2⟩ := hb
  refine ⟨_, hpe a1 b1, fun σ ρ G F H Q o w => ?_⟩
  refine EX.use ta a2 o (Wp.ofBindM w) (fun r1 h1 v1 G1 F1 H1 fp1 x1 o1 q1 hp1 => ?_) fun _ z => z
  have h1 : Wp ((if isStr r1.1 = true then fb.bind fun y => M.ofO (g r1.1 y) else fun _ => .fail : M D) r1.2) _ _ := h1
  split at h1
  · rename_i hs
    obtain ⟨d, ρ1⟩ := r1
    cases d <;> first | (cases hs; done) | skip
    have q1' : Rp X.K X.mg G1 v1 _ := q1.1
    cases q1'
    refine ⟨⟨_, rfl⟩, ?_⟩
    refine EX.use tb b2 o1.drop (Wp.nxExt x1 (Wp.ofBindM h1)) (fun r2 h2 v2 G2 F2 H2 fp2 x2 o2 q2 hp2 => ?_) fun _ z => z
    unfold M.ofO at h2
    split at h2
    · rename_i z hz
      refine hr G2 F2 H2 _ r2.1 _ v2 z Q o2.gf o2.fh ⟨.str _, rfl⟩ (val_flat w2 q2) hz fun wv G3 F3 H3 fr g3 q3 => ?_
      refine h2 wv G3 F3 H3 fr ((x1.trans x2).trans g3.x) (o2.drop.grown g3) q3 fun hp => ?_
      rw [Bool.and_eq_true] at hp
      exact ⟨(hp2 hp.2).1.trans (hp1 hp.1).1, ((hp1 hp.1).2.trans (hp2 hp.2).2).trans g3.hh⟩
    · exact h2.elim
  · exact h1.elim
theorem ex_join (ha : EX X W c p1 (.rd 0) a fa) (hb : EX X W c p2 (.rd n) b fb) {apos : Pos} (hs : starEach [b] X.env = [(false, eval b X.env)] := by rfl) (hbase : attributeBase a "join" X.env (eval a X.env) = eval a X.env := by rfl) (hline : (apos.endLine == pos.line) = true := by rfl) :
    EX X W c (p1 && p2) (.rd 0) (.Call (.Attribute a "join" apos) [b] [] pos) (eM1 gJoin fa fb) := by
  refine ex_m1 (fun h1 h2 => pe_join (pos := pos) (apos := apos) h1 h2 hs hbase hline) (fun G F H d e v u z Q gf fh q1 q2 hz k => ?_) ha hb wrd
  have gh := gf.trans fh
  have q1 : Rp X.K X.mg G v d := q1.1
  have q2 := q2.1.rp gh
  unfold gJoin at hz
  split at hz
  · split at hz
    · rename_i ds e1
      split at hz
      · rename_i ys e2
        split at hz
        · rename_i hl
          cases hz
          cases q1
          obtain ⟨a1, vs, rfl, h1, r1⟩ := items_sq q2 e1
          rw [strsOf_eq e2] at r1
          rw [r1.strs] at h1
          exact ⟨_, a1, ys, rfl, rfl, h1, Nat.le_trans hl (by decide), k _ G F H [] (.refl gf fh) ⟨.str _, rfl⟩⟩
        · cases hz
      · cases hz
    · cases hz
  · cases hz
end
end
end PV

set_option Elab.async false
set_option linter.all false
set_option maxRecDepth 100000
set_option maxHeartbeats 0
namespace PV
noncomputable section
open PySem PySem.Spec
open PyProof.Rows L2

/-! ## 12. statements -/
section
variable {K : PySem.W.Frag} {mg : Str → Option Value} {c : Fc} {T fp : List Addr} {G F H G' F' H' : Hp} {σ : L2.St} {ρ : PV.Env}
def noIo (c : Fc) (i : Nat) : Bool := c.io.all fun p => decide (p.1 ≠ i)
/-- a slot is stored: the value's own objects become the slot's -/
theorem Ok.set (o : Ok K mg c (fp ++ T) G F H σ ρ) {i : Nat} {d : D} {v : V} (s : Slt K mg (c.kd i) G c.B H d v fp) (hi : noIo c i = true) : Ok K mg c T G F H (σ.set i (some v)) (ρ.set i (some d)) := by
  obtain ⟨fps, h1, h0, h2, h3, h4, h5, h6, h7⟩ := o.slt
  have nd := List.nodup_append.mp h5
  refine ⟨o.gf, o.fh, o.bf, by rw [List.length_set, List.length_set]; exact o.len, fun p hp => ?_, fun j => if j = i ∧ i < ρ.length then fp else fps j, fun j e he => ?_, fun j hj => ?_, fun j a ha => ?_, fun j => ?_, fun j k a hjk ha hb => ?_, nd.2.1, fun a ha => h6 a (List.mem_append_right _ ha), fun j a ha hb => ?_⟩
  · have hne := List.all_eq_true.mp hi p hp
    have hne := of_decide_eq_true hne
    rw [List.getElem?_set_ne (Ne.symm hne)]
    exact o.io p hp
  · by_cases z : j = i
    · subst z
      by_cases hl : j < ρ.length
      · rw [List.getElem?_set_self hl] at he
        cases he
        refine ⟨v, by rw [List.getElem?_set_self (by rw [← o.len]; exact hl)], ?_⟩
        dsimp only
        rw [if_pos ⟨rfl, hl⟩]
        exact s
      · rw [List.getElem?_eq_none (by rw [List.length_set]; omega)] at he
        cases he
    · rw [List.getElem?_set_ne (Ne.symm z)] at he
      obtain ⟨u, e1, q⟩ := h1 j e he
      refine ⟨u, by rw [List.getElem?_set_ne (Ne.symm z)]; exact e1, ?_⟩
      dsimp only
      rw [if_neg (fun w => z w.1)]
      exact q
  · by_cases z : j = i ∧ i < ρ.length
    · exfalso
      apply hj
      refine ⟨d, ?_⟩
      rw [z.1, List.getElem?_set_self z.2]
    · dsimp only
      rw [if_neg z]
      refine h0 j fun ⟨e, he⟩ => hj ⟨e, ?_⟩
      by_cases zz : j = i
      · exfalso
        apply z
        refine ⟨zz, ?_⟩
        rw [← zz]
        exact (List.getElem?_eq_some_iff.mp he).1
      · rw [List.getElem?_set_ne (Ne.symm zz)]
        exact he
  · dsimp only at ha
    split at ha
    · exact h6 a (List.mem_append_left _ ha)
    · exact h2 j a ha
  · dsimp only
    split
    · exact nd.1
    · exact h3 j
  · dsimp only at ha hb
    split at ha
    · rename_i z1
      split at hb
      · rename_i z2
        exact hjk (z1.1.trans z2.1.symm)
      · exact h7 k a hb (List.mem_append_left _ ha)
    · split at hb
      · exact h7 j a ha (List.mem_append_left _ hb)
      · exact h4 j k a hjk ha hb
  · dsimp only at ha
    split at ha
    · exact nd.2.2 a ha a hb rfl
    · exact h7 j a ha (List.mem_append_right _ hb)
theorem Ok.tnil (o : Ok K mg c fp G F H σ ρ) : Ok K mg c (fp ++ []) G F H σ ρ := by rw [List.append_nil]; exact o
/-- a slot is forgotten -/
theorem Ok.unset (o : Ok K mg c T G F H σ ρ) (i : Nat) (w : Option V) (hi : noIo c i = true) : Ok K mg c T G F H (σ.set i w) (ρ.set i none) := by
  obtain ⟨fps, h1, h0, h2, h3, h4, h5, h6, h7⟩ := o.slt
  refine ⟨o.gf, o.fh, o.bf, by rw [List.length_set, List.length_set]; exact o.len, fun p hp => ?_, fun j => if j = i then [] else fps j, fun j e he => ?_, fun j hj => ?_, fun j a ha => ?_, fun j => ?_, fun j k a hjk ha hb => ?_, h5, h6, fun j a ha hb => ?_⟩
  · have hne := of_decide_eq_true (List.all_eq_true.mp hi p hp)
    rw [List.getElem?_set_ne (Ne.symm hne)]
    exact o.io p hp
  · by_cases z : j = i
    · subst z
      by_cases hl : j < ρ.length
      · rw [List.getElem?_set_self hl] at he
        cases he
      · rw [List.getElem?_eq_none (by rw [List.length_set]; omega)] at he
        cases he
    · rw [List.getElem?_set_ne (Ne.symm z)] at he
      obtain ⟨u, e1, q⟩ := h1 j e he
      refine ⟨u, by rw [List.getElem?_set_ne (Ne.symm z)]; exact e1, ?_⟩
      dsimp only
      rw [if_neg z]
      exact q
  · by_cases z : j = i
    · dsimp only
      rw [if_pos z]
    · dsimp only
      rw [if_neg z]
      refine h0 j fun ⟨e, he⟩ => hj ⟨e, ?_⟩
      rw [List.getElem?_set_ne (Ne.symm z)]
      exact he
  · dsimp only at ha
    split at ha
    · cases ha
    · exact h2 j a ha
  · dsimp only
    split
    · exact List.nodup_nil
    · exact h3 j
  · dsimp only at ha hb
    split at ha
    · cases ha
    · split at hb
      · cases hb
      · exact h4 j k a hjk ha hb
  · dsimp only at ha
    split at ha
    · cases ha
    · exact h7 j a ha hb
end
/-- the mode in which a slot's new value comes -/
def mdK : Kd → Md
  | .own 0 => .rd 0
  | .own (n + 1) => .own (n + 1)
  | .rd n => .rd n
theorem slt_of {K : PySem.W.Frag} {mg : Str → Option Value} {k : Kd} {m : Md} {G B H : Hp} {d : D} {v : V} {fp : List Addr} (hk : mdK k = m) (hn : ∀ n, k ≠ .rd n) (q : Val K mg m G H d v fp) : Slt K mg k G B H d v fp := by
  subst hk
  cases k with
  | rd n => exact absurd rfl (hn n)
  | own n =>
    cases n with
    | zero => exact ⟨q.1, q.2⟩
    | succ n => exact q
def isOwn : Kd → Bool
  | .own _ => true
  | .rd _ => false
theorem isOwn_ne {k : Kd} (h : isOwn k = true) : ∀ n, k ≠ .rd n := fun n e => by rw [e] at h; cases h
def toS (r : R PV.Env) : SR := match r with
  | .ok ρ => .nx ρ
  | .exc x => .exc x
  | .fail => .fail
def sDo {α : Type} (f : M α) (k : α → PV.Env → SR) : SM := fun ρ => match f ρ with
  | .ok (a, ρ') => k a ρ'
  | .exc x => .exc x
  | .fail => .fail
theorem WpS.ofDo {α : Type} {f : M α} {k : α → PV.Env → SR} {ρ : PV.Env} {P : PV.Env → Prop} {Q : D → PV.Env → Prop} {N : Exn → Prop} (h : WpS (sDo f k ρ) P Q N) : Wp (f ρ) (fun r => WpS (k r.1 r.2) P Q N) N := by
  unfold sDo at h
  cases e : f ρ with
  | ok p => rw [e] at h; exact h
  | exc x => rw [e] at h; exact h
  | fail => rw [e] at h; exact h
def sAsg (i : Nat) (f : M D) : SM := sDo f fun d ρ => .nx (put ρ i (some d))
theorem sAsg_def (i : Nat) (f : M D) : sAsg i f = sDo f fun d ρ => .nx (ρ.set i (some d)) := by
  unfold sAsg
  simp only [put_eq]
def sRet (f : M D) : SM := sDo f fun d ρ => .rt d ρ
def sRetN : SM := fun ρ => .rt .non ρ
def sDrop (f : M D) : SM := sDo f fun _ ρ => .nx ρ
def sIf (t : M Bool) (a b : SM) : SM := sDo t fun x ρ => if x = true then a ρ else b ρ
def sNx : SM := fun ρ => .nx ρ
def sSeq (a b : SM) : SM := fun ρ => match a ρ with
  | .nx ρ' => b ρ'
  | r => r
def whileN (t : M Bool) (b : SM) : Nat → SM
  | 0 => fun _ => .fail
  | n + 1 => sDo t fun x ρ => if x = true then sSeq b (whileN t b n) ρ else .nx ρ
def fuelW : Nat := 1000000
def sWhile (t : M Bool) (b : SM) : SM := fun ρ => whileN t b fuelW ρ
section
variable {X : Cx} {W : WX} {c : Fc} {rk : Nat} {p : Bool}
theorem Nx.toS {K : PySem.W.Frag} {mg : Str → Option Value} {σ : L2.St} {G F : Hp} {x : Exn} (h : NxS K mg W σ.length G F x) : Nx K mg W σ G F x := h σ rfl
theorem NxS.ext {K : PySem.W.Frag} {mg : Str → Option Value} {k : Nat} {G F G1 F1 : Hp} (e : Ext G F G1 F1) {x : Exn} (h : NxS K mg W k G F x) : NxS K mg W k G1 F1 x := fun σ hs => (h σ hs).ext e
abbrev PNx (X : Cx) (c : Fc) (D : Ends) (σ : L2.St) (G F : Hp) : PV.Env → Prop := fun ρ' => ∀ σ' G' F' H', Ext G F G' F' → Ok X.K X.mg c [] G' F' H' σ' ρ' → σ'.length = σ.length → D.nx σ' H'
abbrev PRt (X : Cx) (c : Fc) (rk : Nat) (D : Ends) (G F : Hp) : PV.D → PV.Env → Prop := fun d ρ' => ∀ σ' v G' F' H' fp, Ext G F G' F' → Ok X.K X.mg c fp G' F' H' σ' ρ' → Own X.K X.mg G' H' rk d v fp → D.rt v H'
theorem sx_asg (i : Nat) {k : Kd} {m : Md} {x : Str} {e : Expr} {f : M D} {pos pos' : Pos} (h : EX X W c p m e f) (hN : X.N.Nodup) (hk : c.kd i = k := by rfl) (hm : mdK k = m := by rfl) (ho : isOwn k = true := by rfl) (hio : noIo c i = true := by rfl)
    (hi : X.N[i]? = some x := by rfl) (hx : Loc X.env.scope x := by first | exact Or.inl rfl | exact Or.inr rfl) (hs : swapsWith e (some (.Name x pos')) pos.line X.env = pure false := by rfl) (hf : X.fn x = true ∨ X.env.scope.names.lookup x = some .local := by first | exact .inl rfl | exact .inr rfl) :
    SX X W c rk (.Assign [.Name x pos'] e pos) (sAsg i f) := by
  rw [sAsg_def]
  obtain ⟨te, h1, h2⟩ := h
  refine ⟨_, ps_set hN hi hx h1 hs hf, fun D σ ρ G F H o w => ?_⟩
  refine EX.use te h2 o (WpS.ofDo w) (fun r hr v G' F' H' fp x1 o1 q hp => ?_) fun _ z => Nx.toS z
  refine hr (σ.set i (some v)) G' F' H' x1 (o1.tnil.set (slt_of (by rw [hk]; exact hm) (by rw [hk]; exact isOwn_ne ho) q) hio) (by rw [List.length_set])
theorem sx_ret {e : Expr} {f : M D} {pos : Pos} (h : EX X W c p (.rd 0) e f) : SX X W c 0 (.Return (some e) pos) (sRet f) := by
  obtain ⟨te, h1, h2⟩ := h
  refine ⟨_, ps_ret h1, fun D σ ρ G F H o w => ?_⟩
  refine EX.use te h2 o (WpS.ofDo w) (fun r hr v G' F' H' fp x1 o1 q hp => ?_) fun _ z => Nx.toS z
  exact hr σ v G' F' H' [] x1 o1.drop ⟨q.1, rfl⟩
theorem sx_retO {n : Nat} {e : Expr} {f : M D} {pos : Pos} (h : EX X W c p (.own n) e f) : SX X W c n (.Return (some e) pos) (sRet f) := by
  obtain ⟨te, h1, h2⟩ := h
  refine ⟨_, ps_ret h1, fun D σ ρ G F H o w => ?_⟩
  refine EX.use te h2 o (WpS.ofDo w) (fun r hr v G' F' H' fp x1 o1 q hp => ?_) fun _ z => Nx.toS z
  exact hr σ v G' F' H' fp x1 o1 q
theorem sx_retN {pos : Pos} : SX X W c 0 (.Return none pos) sRetN := ⟨_, ps_retN, fun D σ ρ G F H o w => w σ .non G F H [] (.refl _ _) o ⟨.non, rfl⟩⟩
theorem sx_drop {m : Md} {e : Expr} {f : M D} {pos : Pos} (h : EX X W c p m e f) (hs : swapsWith e none pos.line X.env = pure false := by rfl) : SX X W c rk (.Expr e pos) (sDrop f) := by
  obtain ⟨te, h1, h2⟩ := h
  refine ⟨_, ps_expr h1 hs, fun D σ ρ G F H o w => ?_⟩
  refine EX.use te h2 o (WpS.ofDo w) (fun r hr v G' F' H' fp x1 o1 q hp => ?_) fun _ z => Nx.toS z
  exact hr σ G' F' H' x1 o1.drop rfl
theorem sx_pass {pos : Pos} : SX X W c rk (.Pass pos) sNx := ⟨_, ps_pass, fun D σ ρ G F H o w => w σ G F H (.refl _ _) o rfl⟩
theorem sxs_nil : SXs X W c rk [] sNx := ⟨_, pss_nil, fun D σ ρ G F H o w => w σ G F H (.refl _ _) o rfl⟩
theorem stp_seq {t u : TS} {f g : SM} (h : StP X W c rk t f) (k : StP X W c rk u g) : StP X W c rk (tSeq t u) (sSeq f g) := by
  intro D σ ρ G F H o w
  refine h _ σ ρ G F H o ?_
  unfold sSeq at w
  cases e : f ρ with
  | nx ρ' =>
    rw [e] at w
    intro σ' G' F' H' x1 o1 hl
    exact k D σ' ρ' G' F' H' o1 (w.imp (fun ρ2 q σ2 G2 F2 H2 x2 o2 hl2 => q σ2 G2 F2 H2 (x1.trans x2) o2 (hl2.trans hl)) (fun d ρ2 q σ2 v G2 F2 H2 fp x2 o2 ow => q σ2 v G2 F2 H2 fp (x1.trans x2) o2 ow) fun x q => by rw [hl]; exact q.ext x1)
  | rt d ρ' => rw [e] at w; exact w
  | exc x => rw [e] at w; exact w
  | fail => rw [e] at w; exact w
theorem sxs_cons {st : Stmt} {r : List Stmt} {f g : SM} (h : SX X W c rk st f) (k : SXs X W c rk r g) : SXs X W c rk (st :: r) (sSeq f g) := by
  obtain ⟨t, h1, h2⟩ := h
  obtain ⟨u, k1, k2⟩ := k
  exact ⟨_, pss_cons h1 k1, stp_seq h2 k2⟩
theorem sxs_one {st : Stmt} {f : SM} (h : SX X W c rk st f) : SXs X W c rk [st] f := by
  obtain ⟨t, h1, h2⟩ := h
  refine ⟨_, pss_cons h1 pss_nil, fun D σ ρ G F H o w => ?_⟩
  exact h2 _ σ ρ G F H o (w.imp (fun ρ2 q σ2 G2 F2 H2 x2 o2 hl2 => q σ2 G2 F2 H2 x2 o2 hl2) (fun d ρ2 q => q) fun x q => q)
theorem sx_if {t : Expr} {a b : List Stmt} {ft : M Bool} {fa fb : SM} {pos : Pos} (ht : TX X W c p t ft) (ha : SXs X W c rk a fa) (hb : SXs X W c rk b fb) : SX X W c rk (.If t a b pos) (sIf ft fa fb) := by
  obtain ⟨tt, h1, h2⟩ := ht
  obtain ⟨ta, a1, a2⟩ := ha
  obtain ⟨tb, b1, b2⟩ := hb
  refine ⟨_, ps_if h1 a1 b1, fun D σ ρ G F H o w => ?_⟩
  refine TX.use tt h2 o (WpS.ofDo w) (fun r hr G1 F1 H1 x1 o1 hp => ?_) fun _ z => Nx.toS z
  obtain ⟨b, ρ1⟩ := r
  cases b with
  | true => exact a2 D σ ρ1 G1 F1 H1 o1 (WpS.imp hr (fun ρ2 q σ2 G2 F2 H2 x2 o2 hl2 => q σ2 G2 F2 H2 (x1.trans x2) o2 hl2) (fun d ρ2 q σ2 v G2 F2 H2 fp x2 o2 ow => q σ2 v G2 F2 H2 fp (x1.trans x2) o2 ow) fun x q => q.ext x1)
  | false => exact b2 D σ ρ1 G1 F1 H1 o1 (WpS.imp hr (fun ρ2 q σ2 G2 F2 H2 x2 o2 hl2 => q σ2 G2 F2 H2 (x1.trans x2) o2 hl2) (fun d ρ2 q σ2 v G2 F2 H2 fp x2 o2 ow => q σ2 v G2 F2 H2 fp (x1.trans x2) o2 ow) fun x q => q.ext x1)
theorem sx_while (po : Pso X) {t : Expr} {b : List Stmt} {ft : M Bool} {fb : SM} {pos : Pos} (ht : TX X W c p t ft) (hb : SXs X W c rk b fb) : SX X W c rk (.While t b [] pos) (sWhile ft fb) := by
  obtain ⟨tt, h1, h2⟩ := ht
  obtain ⟨tb, b1, b2⟩ := hb
  refine ⟨_, ps_while po h1 b1, fun D σ ρ G F H o w => ?_⟩
  refine ⟨fun m σ' H' => ∃ ρ' G' F', Ext G F G' F' ∧ Ok X.K X.mg c [] G' F' H' σ' ρ' ∧ σ'.length = σ.length ∧ WpS (whileN ft fb m ρ') (PNx X c D σ' G' F') (PRt X c rk D G' F') (NxS X.K X.mg W σ'.length G' F'), ⟨fuelW, ρ, G, F, .refl _ _, o, rfl, w⟩, fun m σ1 H1 hw => ?_⟩
  obtain ⟨ρ1, G1, F1, x1, o1, hl1, w1⟩ := hw
  cases m with
  | zero => exact w1.elim
  | succ m =>
    refine TX.use tt h2 o1 (WpS.ofDo w1) (fun r hr G2 F2 H2 x2 o2 hp => ?_) fun _ z => Nx.toS z
    obtain ⟨b, ρ2⟩ := r
    cases b with
    | true =>
      show if true = true then _ else _
      rw [if_pos rfl]
      refine ⟨fun σ3 H3 => ∃ ρ3 G3 F3, Ext G F G3 F3 ∧ Ok X.K X.mg c [] G3 F3 H3 σ3 ρ3 ∧ σ3.length = σ.length ∧ WpS (whileN ft fb m ρ3) (PNx X c D σ3 G3 F3) (PRt X c rk D G3 F3) (NxS X.K X.mg W σ3.length G3 F3), fun σ3 H3 q => ⟨m, Nat.lt_succ_self m, q⟩, ?_⟩
      have hr : WpS (sSeq fb (whileN ft fb m) ρ2) _ _ _ := hr
      unfold sSeq at hr
      refine b2 _ σ1 ρ2 G2 F2 H2 o2 ?_
      cases e : fb ρ2 with
      | nx ρ3 =>
        rw [e] at hr
        intro σ3 G3 F3 H3 x3 o3 hl3
        refine ⟨ρ3, G3, F3, (x1.trans x2).trans x3, o3, hl3.trans hl1, hr.imp (fun ρ4 q σ4 G4 F4 H4 x4 o4 hl4 => q σ4 G4 F4 H4 ((x2.trans x3).trans x4) o4 (hl4.trans hl3)) (fun d ρ4 q σ4 v G4 F4 H4 fp x4 o4 ow => q σ4 v G4 F4 H4 fp ((x2.trans x3).trans x4) o4 ow) fun x q => by rw [hl3]; exact q.ext (x2.trans x3)⟩
      | rt d ρ3 =>
        rw [e] at hr
        intro σ4 v G4 F4 H4 fp x4 o4 ow
        exact hr σ4 v G4 F4 H4 fp (x2.trans x4) o4 ow
      | exc x => rw [e] at hr; exact NxS.ext x2 hr
      | fail => rw [e] at hr; exact hr
    | false =>
      show if false = true then _ else _
      rw [if_neg (by simp : ¬ false = true)]
      exact hr σ1 G2 F2 H2 x2 o2 rfl
/-! ### raise -/
def sRaise (x : Exn) : SM := fun _ => .exc x
/-- what the text says of a class of errors without __init__ -/
structure MalC (K : PySem.W.Frag) (mg : Str → Option Value) (x : Str) (C : Addr) : Prop where
  gP : mg x = some (.ref C)
  xP : PySem.W.excIn K C [.type "ValueError", .type "Exception", .type "BaseException", .type "object"] "ValueError.__new__" = true
  kP : PySem.W.keepIn K (.ref C) = true
  bP : PySem.W.subIn K (.ref C) (.type "BaseException") = some true
  tP : PySem.W.typeIn K (.ref C) = some (.type "type")
theorem sx_raise (ok : Cok X W) {C : Addr} {m : Str} {j : Nat} {pn p2 pos pos2 : Pos} (M : MalC X.K X.mg "Malformed" C) (hg : Gl X "Malformed" := by rfl) : SX X W c rk (.Raise (some (.Call (.Name "Malformed" pn) [.Constant (.str m) j p2] [] pos)) none pos2) (sRaise .mal) := by
  refine ⟨_, ps_raise ok.calm ok.tk (pmk_own PySem.F.excBase_ValueError M.xP M.gP M.kP (raises_own M.bP M.tP) hg), fun D σ ρ G F H o w => ?_⟩
  exact (w σ rfl) (.ref C) none G F H (.refl _ _) o.gf o.fh ⟨C, M.gP, rfl, rfl⟩
end
end
end PV

set_option Elab.async false
set_option linter.all false
set_option maxRecDepth 100000
set_option maxHeartbeats 0
namespace PV
noncomputable section
open PySem PySem.Spec
open PyProof.Rows L2

/-! ## 13. defs and their calls -/
/-- how a parameter is handed on: shared; read to a depth; owned, and seen changed by the caller -/
inductive Pm where
  | sh | rd (n : Nat) | io (n : Nat)
def kdP : Pm → Kd
  | .sh => .own 0
  | .rd n => .rd n
  | .io n => .own n
section
variable (K : PySem.W.Frag) (mg : Str → Option Value)
inductive ArgL (G F H : Hp) : List Pm → List D → List V → List Addr → Prop
  | nil : ArgL G F H [] [] [] []
  | sh {d : D} {v : V} {ps : List Pm} {ds : List D} {vs : List V} {fp : List Addr} : Rp K mg G v d → ArgL G F H ps ds vs fp → ArgL G F H (.sh :: ps) (d :: ds) (v :: vs) fp
  | rd {n : Nat} {d : D} {v : V} {ps : List Pm} {ds : List D} {vs : List V} {fp : List Addr} : RdV K mg G F n d v → ArgL G F H ps ds vs fp → ArgL G F H (.rd n :: ps) (d :: ds) (v :: vs) fp
  | io {n : Nat} {d : D} {v : V} {f : List Addr} {ps : List Pm} {ds : List D} {vs : List V} {fp : List Addr} : Own K mg G H n d v f → ArgL G F H ps ds vs fp → ArgL G F H (.io n :: ps) (d :: ds) (v :: vs) (f ++ fp)
inductive OutL (G H : Hp) : List Pm → List V → List D → List Addr → Prop
  | nil : OutL G H [] [] [] []
  | sh {v : V} {ps : List Pm} {vs : List V} {os : List D} {fo : List Addr} : OutL G H ps vs os fo → OutL G H (.sh :: ps) (v :: vs) os fo
  | rd {n : Nat} {v : V} {ps : List Pm} {vs : List V} {os : List D} {fo : List Addr} : OutL G H ps vs os fo → OutL G H (.rd n :: ps) (v :: vs) os fo
  | io {n : Nat} {d : D} {v : V} {f : List Addr} {ps : List Pm} {vs : List V} {os : List D} {fo : List Addr} : Own K mg G H n d v f → OutL G H ps vs os fo → OutL G H (.io n :: ps) (v :: vs) (d :: os) (f ++ fo)
/-- the promise of a def whose mirror is m -/
def spM (ps : List Pm) (rk : Nat) (m : List D → R (D × List D)) : Sp := fun vs H Q E => ∃ G F ds fp, Same G F ∧ Same F H ∧ ArgL K mg G F H ps ds vs fp ∧ fp.Nodup ∧ (∀ a ∈ fp, F a = none) ∧
  Wp (m ds) (fun r => ∀ v G' F' H' fr fo, Ext G F G' F' → Same G' F' → Same F' H' → Own K mg G' H' rk r.1 v fr → OutL K mg G' H' ps vs r.2 fo → (fr ++ fo).Nodup → (∀ a ∈ fr ++ fo, F' a = none) → Q v H')
    (fun x => ∀ cls dd G' F' H', Ext G F G' F' → Same G' F' → Same F' H' → XRep K mg G' H' x cls dd → E cls dd H')
end
theorem ArgL.len {K : PySem.W.Frag} {mg : Str → Option Value} {G F H : Hp} : ∀ {ps : List Pm} {ds : List D} {vs : List V} {fp : List Addr}, ArgL K mg G F H ps ds vs fp → vs.length = ps.length ∧ ds.length = ps.length
  | _, _, _, _, .nil => ⟨rfl, rfl⟩
  | _, _, _, _, .sh _ r => ⟨congrArg (· + 1) r.len.1, congrArg (· + 1) r.len.2⟩
  | _, _, _, _, .rd _ r => ⟨congrArg (· + 1) r.len.1, congrArg (· + 1) r.len.2⟩
  | _, _, _, _, .io _ r => ⟨congrArg (· + 1) r.len.1, congrArg (· + 1) r.len.2⟩
/-- a mirror that hands back a value alone -/
def m0 (f : List D → R D) : List D → R (D × List D) := fun ds => match f ds with
  | .ok d => .ok (d, [])
  | .exc x => .exc x
  | .fail => .fail
def envOf (n : Nat) (ds : List D) : PV.Env := ds.map some ++ List.replicate (n - ds.length) none
def outsOf : List Pm → Nat → PV.Env → Option (List D)
  | [], _, _ => some []
  | .io _ :: ps, i, ρ => match look ρ i, outsOf ps (i + 1) ρ with
    | some d, some os => some (d :: os)
    | _, _ => none
  | _ :: ps, i, ρ => outsOf ps (i + 1) ρ
def endR (ps : List Pm) (d : D) (ρ : PV.Env) : R (D × List D) := match outsOf ps 0 ρ with
  | some os => .ok (d, os)
  | none => .fail
/-- a body, run -/
def runB (n : Nat) (ps : List Pm) (rk : Nat) (s : SM) : List D → R (D × List D) := fun ds => match s (envOf n ds) with
  | .nx ρ => if rk = 0 then endR ps .non ρ else .fail
  | .rt d ρ => endR ps d ρ
  | .exc x => .exc x
  | .fail => .fail
def runF (n : Nat) (rk : Nat) (s : SM) : List D → R D := fun ds => match s (envOf n ds) with
  | .nx _ => if rk = 0 then .ok .non else .fail
  | .rt d _ => .ok d
  | .exc x => .exc x
  | .fail => .fail
def noIoP : List Pm → Bool
  | [] => true
  | .io _ :: _ => false
  | _ :: r => noIoP r
theorem outs_none : ∀ {ps : List Pm} {i : Nat} {ρ : PV.Env}, noIoP ps = true → outsOf ps i ρ = some []
  | [], _, _, _ => rfl
  | .sh :: ps, i, ρ, h => outs_none (ps := ps) h
  | .rd _ :: ps, i, ρ, h => outs_none (ps := ps) h
  | .io _ :: _, _, _, h => by cases h
theorem runB_F {n : Nat} {ps : List Pm} {rk : Nat} {s : SM} (h : noIoP ps = true) : runB n ps rk s = m0 (runF n rk s) := by
  funext ds
  unfold runB m0 runF endR
  cases s (envOf n ds) with
  | nx ρ =>
    dsimp only
    split
    · rw [outs_none h]
    · rfl
  | rt d ρ => dsimp only; rw [outs_none h]
  | exc x => rfl
  | fail => rfl
/-- the slots whose object the caller will see -/
def ioOf : List Pm → Nat → List V → List (Nat × V)
  | [], _, _ => []
  | .io _ :: ps, i, vs => (i, vs.headD .non) :: ioOf ps (i + 1) vs.tail
  | _ :: ps, i, vs => ioOf ps (i + 1) vs.tail
def fcOf (ps : List Pm) (ls : List Kd) (vs : List V) (B : Hp) : Fc := ⟨ps.map kdP ++ ls, ioOf ps 0 vs, B⟩
section
variable {K : PySem.W.Frag} {mg : Str → Option Value} {G F H : Hp}
/-- each argument, with its own objects, by its place -/
theorem ArgL.fps : ∀ {ps : List Pm} {ds : List D} {vs : List V} {fp : List Addr}, ArgL K mg G F H ps ds vs fp → ∃ fps : Nat → List Addr,
    (∀ (i : Nat) (d : D), ds[i]? = some d → ∃ v p, vs[i]? = some v ∧ ps[i]? = some p ∧ Slt K mg (kdP p) G F H d v (fps i)) ∧ (∀ i, ds.length ≤ i → fps i = []) ∧ (∀ i, ∀ a ∈ fps i, a ∈ fp) ∧ (fp.Nodup → (∀ i, (fps i).Nodup) ∧ ∀ i j a, i ≠ j → a ∈ fps i → a ∉ fps j)
  | _, _, _, _, .nil => ⟨fun _ => [], fun i d h => by simp at h, fun _ _ => rfl, fun _ a h => (nomatch h), fun _ => ⟨fun _ => List.nodup_nil, fun _ _ _ _ h => (nomatch h)⟩⟩
  | _, _, _, _, .sh (ds := ds) h r => by
    obtain ⟨fps, h1, h2, h3, h4⟩ := r.fps
    refine ⟨fun i => match i with | 0 => [] | i + 1 => fps i, fun i d e => ?_, fun i hi => ?_, fun i a ha => ?_, fun nd => ⟨fun i => ?_, fun i j a hij ha hb => ?_⟩⟩
    · cases i with
      | zero => cases e; exact ⟨_, _, rfl, rfl, h, rfl⟩
      | succ i => exact h1 i d e
    · cases i with
      | zero => exact absurd hi (Nat.not_succ_le_zero _)
      | succ i => exact h2 i (Nat.le_of_succ_le_succ hi)
    · cases i with
      | zero => cases ha
      | succ i => exact h3 i a ha
    · cases i with
      | zero => exact List.nodup_nil
      | succ i => exact (h4 nd).1 i
    · cases i with
      | zero => cases ha
      | succ i =>
        cases j with
        | zero => cases hb
        | succ j => exact (h4 nd).2 i j a (fun z => hij (by rw [z])) ha hb
  | _, _, _, _, .rd (ds := ds) h r => by
    obtain ⟨fps, h1, h2, h3, h4⟩ := r.fps
    refine ⟨fun i => match i with | 0 => [] | i + 1 => fps i, fun i d e => ?_, fun i hi => ?_, fun i a ha => ?_, fun nd => ⟨fun i => ?_, fun i j a hij ha hb => ?_⟩⟩
    · cases i with
      | zero => cases e; exact ⟨_, _, rfl, rfl, h, rfl⟩
      | succ i => exact h1 i d e
    · cases i with
      | zero => exact absurd hi (Nat.not_succ_le_zero _)
      | succ i => exact h2 i (Nat.le_of_succ_le_succ hi)
    · cases i with
      | zero => cases ha
      | succ i => exact h3 i a ha
    · cases i with
      | zero => exact List.nodup_nil
      | succ i => exact (h4 nd).1 i
    · cases i with
      | zero => cases ha
      | succ i =>
        cases j with
        | zero => cases hb
        | succ j => exact (h4 nd).2 i j a (fun z => hij (by rw [z])) ha hb
  | _, _, _, _, .io (f := f) (ds := ds) (fp := fp) h r => by
    obtain ⟨fps, h1, h2, h3, h4⟩ := r.fps
    refine ⟨fun i => match i with | 0 => f | i + 1 => fps i, fun i d e => ?_, fun i hi => ?_, fun i a ha => ?_, fun nd => ⟨fun i => ?_, fun i j a hij ha hb => ?_⟩⟩
    · cases i with
      | zero => cases e; exact ⟨_, _, rfl, rfl, h⟩
      | succ i => exact h1 i d e
    · cases i with
      | zero => exact absurd hi (Nat.not_succ_le_zero _)
      | succ i => exact h2 i (Nat.le_of_succ_le_succ hi)
    · cases i with
      | zero => exact List.mem_append_left _ ha
      | succ i => exact List.mem_append_right _ (h3 i a ha)
    · have nd := List.nodup_append.mp nd
      cases i with
      | zero => exact nd.1
      | succ i => exact (h4 nd.2.1).1 i
    · have nd := List.nodup_append.mp nd
      cases i with
      | zero =>
        cases j with
        | zero => exact hij rfl
        | succ j => exact nd.2.2 a ha a (h3 j a hb) rfl
      | succ i =>
        cases j with
        | zero => exact nd.2.2 a hb a (h3 i a ha) rfl
        | succ j => exact (h4 nd.2.1).2 i j a (fun z => hij (by rw [z])) ha hb
theorem ioOf_at : ∀ (ps : List Pm) (i : Nat) (vs : List V), vs.length = ps.length → ∀ p ∈ ioOf ps i vs, i ≤ p.1 ∧ vs[p.1 - i]? = some p.2
  | [], _, _, _, _, h => nomatch h
  | q :: ps, i, [], hl, _, _ => by cases hl
  | q :: ps, i, v :: vs, hl, p, h => by
    have hl' : vs.length = ps.length := Nat.succ.inj hl
    have rc : p ∈ ioOf ps (i + 1) vs → i ≤ p.1 ∧ (v :: vs)[p.1 - i]? = some p.2 := fun h => by
      obtain ⟨h1, h2⟩ := ioOf_at ps (i + 1) vs hl' p h
      refine ⟨by omega, ?_⟩
      have e : p.1 - i = (p.1 - (i + 1)) + 1 := by omega
      rw [e]
      exact h2
    cases q with
    | sh => exact rc h
    | rd n => exact rc h
    | io n =>
      rcases List.mem_cons.1 h with rfl | h
      · exact ⟨Nat.le_refl _, by simp⟩
      · exact rc h
theorem ok_start {ps : List Pm} {ls : List Kd} {ds : List D} {vs : List V} {fp : List Addr} {N : List Str} (gf : Same G F) (fh : Same F H) (a : ArgL K mg G F H ps ds vs fp) (nd : fp.Nodup) (hf : ∀ x ∈ fp, F x = none) :
    Ok K mg (fcOf ps ls vs F) [] G F H (L2.start N vs) (envOf N.length ds) := by
  obtain ⟨fps, h1, h2, h3, h4⟩ := a.fps
  obtain ⟨l1, l2⟩ := a.len
  have at0 : ∀ (i : Nat) (d : D), (envOf N.length ds)[i]? = some (some d) → ds[i]? = some d := fun i d e => by
    unfold envOf at e
    by_cases hi : i < ds.length
    · rw [List.getElem?_append_left (by simpa using hi), List.getElem?_map] at e
      cases q : ds[i]? with
      | none => rw [q] at e; exact nomatch e
      | some z => rw [q] at e; cases e; rfl
    · rw [List.getElem?_append_right (by simpa using hi), List.getElem?_replicate] at e
      split at e <;> cases e
  have st0 : ∀ (i : Nat) (v : V), vs[i]? = some v → (L2.start N vs)[i]? = some (some v) := fun i v e => by
    unfold L2.start
    have hi := (List.getElem?_eq_some_iff.mp e).1
    rw [List.getElem?_append_left (by simpa using hi), List.getElem?_map, e]
    rfl
  refine ⟨gf, fh, .refl _, ?_, fun p hp => ?_, fps, fun i d e => ?_, fun i hi => ?_, fun i x hx => hf x (h3 i x hx), (h4 nd).1, (h4 nd).2, List.nodup_nil, fun _ h => (nomatch h), fun _ _ _ h => (nomatch h)⟩
  · unfold envOf L2.start
    rw [List.length_append, List.length_map, List.length_replicate, List.length_append, List.length_map, List.length_replicate, l1, l2]
  · obtain ⟨_, e⟩ := ioOf_at ps 0 vs l1 p hp
    exact st0 _ _ e
  · obtain ⟨v, p, e1, e2, s⟩ := h1 i d (at0 i d e)
    refine ⟨v, st0 i v e1, ?_⟩
    have ek : (fcOf ps ls vs F).kd i = kdP p := by
      unfold fcOf Fc.kd
      have hi := (List.getElem?_eq_some_iff.mp e2).1
      rw [List.getD_eq_getElem?_getD, List.getElem?_append_left (by simpa using hi), List.getElem?_map, e2]
      rfl
    rw [ek]
    exact s
  · by_cases hl : ds.length ≤ i
    · exact h2 i hl
    · exfalso
      apply hi
      have hl : i < ds.length := by omega
      refine ⟨ds[i], ?_⟩
      unfold envOf
      rw [List.getElem?_append_left (by simpa using hl), List.getElem?_map, List.getElem?_eq_getElem hl]
      rfl
/-- behind the body: what the caller sees -/
theorem outs_of {B : Hp} {c : Fc} {T : List Addr} {σ : L2.St} {ρ : PV.Env} {fps : Nat → List Addr} (hio0 : ∀ p ∈ c.io, σ[p.1]? = some (some p.2)) (h1 : ∀ (i : Nat) (d : D), ρ[i]? = some (some d) → ∃ v, σ[i]? = some (some v) ∧ Slt K mg (c.kd i) G B H d v (fps i))
    (h2 : ∀ i, ∀ a ∈ fps i, F a = none) (h3 : ∀ i, (fps i).Nodup) (h4 : ∀ i j a, i ≠ j → a ∈ fps i → a ∉ fps j) (h7 : ∀ i a, a ∈ fps i → a ∉ T) : ∀ (ps : List Pm) (i : Nat) (vs : List V) (os : List D), (∀ j p, ps[j]? = some p → c.kd (i + j) = kdP p) → (∀ p ∈ ioOf ps i vs, p ∈ c.io) → vs.length = ps.length → outsOf ps i ρ = some os →
    ∃ fo, OutL K mg G H ps vs os fo ∧ fo.Nodup ∧ (∀ a ∈ fo, F a = none) ∧ (∀ a ∈ fo, a ∉ T) ∧ ∀ a ∈ fo, ∃ j, i ≤ j ∧ a ∈ fps j := by
  intro ps
  induction ps with
  | nil =>
    intro i vs os _ _ hl e
    cases vs with
    | nil => cases e; exact ⟨[], .nil, List.nodup_nil, fun _ h => (nomatch h), fun _ h => (nomatch h), fun _ h => (nomatch h)⟩
    | cons v vs => cases hl
  | cons p ps ih =>
    intro i vs os hk hio hl e
    cases vs with
    | nil => cases hl
    | cons v vs =>
      have hk' : ∀ j q, ps[j]? = some q → c.kd (i + 1 + j) = kdP q := fun j q e => by
        have := hk (j + 1) q e
        rw [show i + 1 + j = i + (j + 1) from by omega]
        exact this
      have hl' : vs.length = ps.length := Nat.succ.inj hl
      cases p with
      | sh =>
        obtain ⟨fo, q1, q2, q3, q4, q5⟩ := ih (i + 1) vs os hk' hio hl' e
        exact ⟨fo, .sh q1, q2, q3, q4, fun a ha => let ⟨j, hj, r⟩ := q5 a ha; ⟨j, by omega, r⟩⟩
      | rd n =>
        obtain ⟨fo, q1, q2, q3, q4, q5⟩ := ih (i + 1) vs os hk' hio hl' e
        exact ⟨fo, .rd q1, q2, q3, q4, fun a ha => let ⟨j, hj, r⟩ := q5 a ha; ⟨j, by omega, r⟩⟩
      | io n =>
        simp only [outsOf] at e
        split at e
        · rename_i d os' e1 e2
          cases e
          obtain ⟨fo, q1, q2, q3, q4, q5⟩ := ih (i + 1) vs os' hk' (fun p hp => hio p (List.mem_cons_of_mem _ hp)) hl' e2
          obtain ⟨u, e3, s⟩ := h1 i d (look_eq.mp e1)
          have e4 := hio0 (i, v) (hio _ List.mem_cons_self)
          rw [e3] at e4
          cases e4
          have ek : c.kd i = .own n := hk 0 (.io n) rfl
          rw [ek] at s
          refine ⟨_, .io s q1, List.nodup_append.mpr ⟨h3 i, q2, fun a ha b hb z => ?_⟩, fun a ha => ?_, fun a ha => ?_, fun a ha => ?_⟩
          · subst z
            obtain ⟨j, hj, q⟩ := q5 a hb
            exact h4 i j a (by omega) ha q
          · exact (List.mem_append.mp ha).elim (h2 i a) (q3 a)
          · exact (List.mem_append.mp ha).elim (h7 i a) (q4 a)
          · rcases List.mem_append.1 ha with ha | ha
            · exact ⟨i, Nat.le_refl _, ha⟩
            · obtain ⟨j, hj, r⟩ := q5 a ha
              exact ⟨j, by omega, r⟩
        · cases e
theorem fc_kd {ps : List Pm} {ls : List Kd} {vs : List V} {B : Hp} (j : Nat) (p : Pm) (e : ps[j]? = some p)   : (fcOf ps ls vs B).kd (0 + j) = kdP p := by
  unfold fcOf Fc.kd
  have hi := (List.getElem?_eq_some_iff.mp e).1
  rw [Nat.zero_add, List.getD_eq_getElem?_getD, List.getElem?_append_left (by simpa using hi), List.getElem?_map, e]
  rfl
end
/-- what a rule for a def's text gives, once its body is walked -/
abbrev ByBody (P : Program) (w : World) (K : PySem.W.Frag) (mg : Str → Option Value) (base : Heap) (qual : Str) (st : Stmt) (f : Addr) (fd : FuncData) (N pn : List Str) (k : Nat) : Prop := ∀ {sp : Sp}, (∀ vs H Q E, sp vs H Q E → vs.length = pn.length) →
    (∀ (cdv : Value) (A : Around) (outer : List PySem.Env) (s : Shared) (H : Hp) (vs : List V) (Q : VK) (E : XK), Room k (A.deeper (envOfC qual (defScope st) s.heap.objs.size f cdv)) → sp vs H Q E →
      ∃ t, PSs (cxOf (L2.CX P w) P w K mg base N qual (defScope st) f cdv A outer s H E) (defBody st) t ∧ t { nx := fun _ H' => Q .non H', rt := Q } (start N vs) H) → FnOk P w K mg base (L2.CX P w) (k + 1) f fd pn sp
/-- THE RULE for a def: its body's derivation gives its promise -/
theorem fn_bodyG {P : Program} {w : World} {K : PySem.W.Frag} {mg : Str → Option Value} {base : Heap} {qual : Str} {st : Stmt} {f : Addr} {fd : FuncData} {N pn : List Str} {k rk : Nat} {ps : List Pm} {ls : List Kd} {s : SM} (F : ByBody P w K mg base qual st f fd N pn k) (hl : pn.length = ps.length)
    (hb : ∀ (cdv : Value) (A : Around) (outer : List PySem.Env) (s0 : Shared) (H : Hp) (E : XK) (vs : List V) (B : Hp), Room k (A.deeper (envOfC qual (defScope st) s0.heap.objs.size f cdv)) →
      Cok (cxOf (L2.CX P w) P w K mg base N qual (defScope st) f cdv A outer s0 H E) (fun cls d _ H => E cls d H) → Pso (cxOf (L2.CX P w) P w K mg base N qual (defScope st) f cdv A outer s0 H E) → SXs (cxOf (L2.CX P w) P w K mg base N qual (defScope st) f cdv A outer s0 H E) (fun cls d _ H => E cls d H) (fcOf ps ls vs B) rk (defBody st) s) :
    FnOk P w K mg base (L2.CX P w) (k + 1) f fd pn (spM K mg ps rk (runB N.length ps rk s)) := by
  refine F (fun vs H Q E h => ?_) fun cdv A outer s0 H vs Q E hr h => ?_
  · obtain ⟨G, F', ds, fp, _, _, a, _⟩ := h
    rw [hl]
    exact a.len.1
  · obtain ⟨G, F', ds, fp, gf, fh, a, nd, hf, hw⟩ := h
    obtain ⟨t, h1, h2⟩ := hb cdv A outer s0 H E vs F' hr ⟨takes_of rfl rfl rfl rfl, rfl⟩ (passes_of rfl)
    refine ⟨t, h1, h2 _ _ _ G F' H (ok_start (N := N) gf fh a nd hf) ?_⟩
    have fin : ∀ (d : D) (ρ : PV.Env) (σ' : L2.St) (v : V) (G1 F1 H1 : Hp) (fr : List Addr), Wp (endR ps d ρ) (fun r => ∀ v G' F1 H' fr fo, Ext G F' G' F1 → Same G' F1 → Same F1 H' → Own K mg G' H' rk r.1 v fr → OutL K mg G' H' ps vs r.2 fo → (fr ++ fo).Nodup → (∀ a ∈ fr ++ fo, F1 a = none) → Q v H')
        (fun x => ∀ cls dd G' F1 H', Ext G F' G' F1 → Same G' F1 → Same F1 H' → XRep K mg G' H' x cls dd → E cls dd H') → Ext G F' G1 F1 → Ok K mg (fcOf ps ls vs F') fr G1 F1 H1 σ' ρ → Own K mg G1 H1 rk d v fr → Q v H1 := by
      intro d ρ σ' v G1 F1 H1 fr hw x1 o1 ow
      unfold endR at hw
      split at hw
      · rename_i os e
        obtain ⟨fps, q1, q0, q2, q3, q4, q5, q6, q7⟩ := o1.slt
        obtain ⟨fo, r1, r2, r3, r4, _⟩ := outs_of (T := fr) o1.io q1 q2 q3 q4 q7 ps 0 vs os (fun j p e => fc_kd j p e) (fun p hp => hp) a.len.1 e
        exact hw v G1 F1 H1 fr fo x1 o1.gf o1.fh ow r1 (List.nodup_append.mpr ⟨q5, r2, fun b hb b' hb' z => r4 b' hb' (by rw [← z]; exact hb)⟩) fun b hb => (List.mem_append.mp hb).elim (q6 b) (r3 b)
      · exact hw.elim
    unfold runB at hw
    cases e : s (envOf N.length ds) with
    | nx ρ =>
      rw [e] at hw
      intro σ' G1 F1 H1 x1 o1 hl
      dsimp only at hw
      split at hw
      · rename_i hz
        exact fin .non ρ σ' .non G1 F1 H1 [] hw x1 o1 (by rw [hz]; exact ⟨.non, rfl⟩)
      · exact hw.elim
    | rt d ρ =>
      rw [e] at hw
      intro σ' v G1 F1 H1 fr x1 o1 ow
      exact fin d ρ σ' v G1 F1 H1 fr hw x1 o1 ow
    | exc x =>
      rw [e] at hw
      intro σ' hs cls dd G1 F1 H1 x1 g1 f1 r
      exact hw cls dd G1 F1 H1 x1 g1 f1 r
    | fail =>
      rw [e] at hw
      exact hw.elim
/-- for a def without defaults -/
theorem fn_body {P : Program} {w : World} {K : PySem.W.Frag} {mg : Str → Option Value} {base : Heap} {x qual : Str} {st : Stmt} {f : Addr} {fd : FuncData} {N pn : List Str} {k rk : Nat} {ps : List Pm} {ls : List Kd} {s : SM} (F : Fun K x qual st f fd) (S : FnScope N pn (defScope st)) (hl : pn.length = ps.length)
    (hb : ∀ (cdv : Value) (A : Around) (outer : List PySem.Env) (s0 : Shared) (H : Hp) (E : XK) (vs : List V) (B : Hp), Room k (A.deeper (envOfC qual (defScope st) s0.heap.objs.size f cdv)) →
      Cok (cxOf (L2.CX P w) P w K mg base N qual (defScope st) f cdv A outer s0 H E) (fun cls d _ H => E cls d H) → Pso (cxOf (L2.CX P w) P w K mg base N qual (defScope st) f cdv A outer s0 H E) → SXs (cxOf (L2.CX P w) P w K mg base N qual (defScope st) f cdv A outer s0 H E) (fun cls d _ H => E cls d H) (fcOf ps ls vs B) rk (defBody st) s) :
    FnOk P w K mg base (L2.CX P w) (k + 1) f fd pn (spM K mg ps rk (runB N.length ps rk s)) := 
  fn_bodyG (fun len body => F.okX S len body) hl hb
theorem FnOk.plain {P : Program} {w : World} {K : PySem.W.Frag} {mg : Str → Option Value} {base : Heap} {f : Addr} {fd : FuncData} {n k rk : Nat} {pn : List Str} {ps : List Pm} {s : SM} (h : FnOk P w K mg base (L2.CX P w) k f fd pn (spM K mg ps rk (runB n ps rk s))) (hn : noIoP ps = true := by rfl) :
    FnOk P w K mg base (L2.CX P w) k f fd pn (spM K mg ps rk (m0 (runF n rk s))) := by rw [runB_F hn] at h; exact h
end
end PV

set_option Elab.async false
set_option linter.all false
set_option maxRecDepth 100000
set_option maxHeartbeats 0
namespace PV
noncomputable section
open PySem PySem.Spec
open PyProof.Rows L2

/-! ## 14. the call of a def -/
def mdR : Nat → Md
  | 0 => .rd 0
  | n + 1 => .own (n + 1)
def fitA : List Pm → List Am → Bool
  | [], [] => true
  | .sh :: ps, .val (.rd 0) :: ms => fitA ps ms
  | .rd n :: ps, .val (.rd m) :: ms => decide (n = m) && fitA ps ms
  | _, _ => false
def M.lift {α β : Type} (m : α → R β) (fa : M α) : M β := fa.bind fun a ρ => match m a with
  | .ok d => .ok (d, ρ)
  | .exc x => .exc x
  | .fail => .fail
def eCall (m : List D → R D) (fa : M (List D)) : M D := M.lift m fa
section
variable {K : PySem.W.Frag} {mg : Str → Option Value} {G F H : Hp} {σ : L2.St}
theorem args_val : ∀ {ps : List Pm} {ms : List Am} {ds : List D} {vs : List V}, fitA ps ms = true → ValL K mg G H σ ms ds vs → ArgL K mg G H H ps ds vs []
  | [], [], _, _, _, .nil => .nil
  | .sh :: ps, .val (.rd 0) :: ms, _, _, e, .val h r => .sh h.1 (args_val (ps := ps) (ms := ms) e r)
  | .rd n :: ps, .val (.rd m) :: ms, _, _, e, .val h r => by
    have e' : (decide (n = m) && fitA ps ms) = true := e
    rw [Bool.and_eq_true] at e'
    have z := of_decide_eq_true e'.1
    subst z
    exact .rd h.1 (args_val e'.2 r)
  | .io _ :: _, _ :: _, _, _, e, _ => by cases e
  | .io _ :: _, [], _, _, e, _ => by cases e
  | .sh :: _, [], _, _, e, _ => by cases e
  | .rd _ :: _, [], _, _, e, _ => by cases e
  | [], _ :: _, _, _, e, _ => by cases e
  | .sh :: _, .io _ :: _, _, _, e, _ => by cases e
  | .sh :: _, .val (.own _) :: _, _, _, e, _ => by cases e
  | .sh :: _, .val (.rd (_ + 1)) :: _, _, _, e, _ => by cases e
  | .rd _ :: _, .io _ :: _, _, _, e, _ => by cases e
  | .rd _ :: _, .val (.own _) :: _, _, _, e, _ => by cases e
theorem outs_nil : ∀ {ps : List Pm} {vs : List V} {fo : List Addr}, OutL K mg G H ps vs [] fo → fo = []
  | _, _, _, .nil => rfl
  | _, _, _, .sh r => outs_nil r
  | _, _, _, .rd r => outs_nil r
/-- what is kept, and what is newly shared -/
def glue (F G : Hp) : Hp := fun a => match F a with
  | some o => some o
  | none => G a
theorem glue_l {F G : Hp} : Same F (glue F G) := fun a o e => by unfold glue; rw [e]
theorem glue_cases {F G : Hp} {a : Addr} {o : HO} (e : glue F G a = some o) : F a = some o ∨ (F a = none ∧ G a = some o) := by
  unfold glue at e
  cases q : F a with
  | some u => rw [q] at e; exact .inl e
  | none => rw [q] at e; exact .inr ⟨rfl, e⟩
theorem glue_none {F G : Hp} {a : Addr} (h1 : F a = none) (h2 : G a = none) : glue F G a = none := by unfold glue; rw [h1]; exact h2
/-- behind a call that changes nothing of ours -/
theorem Ok.called {c : Fc} {ρ : PV.Env} {G' F' H' : Hp} {fr : List Addr} {rk : Nat} {d : D} {v : V} (o : Ok K mg c [] G F H σ ρ) (x : Ext G H G' F') (gf : Same G' F') (fh : Same F' H') (ow : Own K mg G' H' rk d v fr) (nd : fr.Nodup) (hf : ∀ a ∈ fr, F' a = none) :
    Ext G F G' (glue F G') ∧ Ok K mg c fr G' (glue F G') H' σ ρ ∧ Same H H' := by
  have hh : Same H H' := x.f.trans fh
  have gs : Same G' (glue F G') := fun a u e => by
    unfold glue
    cases q : F a with
    | none => exact e
    | some u' =>
      have e1 := hh a u' (o.fh a u' q)
      have e2 := fh a u (gf a u e)
      rw [e1] at e2
      exact e2
  have gh : Same (glue F G') H' := fun a u e => by
    rcases glue_cases e with q | ⟨_, q⟩
    · exact hh a u (o.fh a u q)
    · exact fh a u (gf a u q)
  have ex : Ext G F G' (glue F G') := ⟨x.g, glue_l, fun a e1 e2 => x.n a e1 (o.fh.nn e2)⟩
  have o1 := o.grow ex gs gh hh (fun a e1 e2 => by
    cases q : glue F G' a with
    | none => exact absurd q e2
    | some u =>
      rcases glue_cases q with w | ⟨_, w⟩
      · rw [e1] at w; cases w
      · cases z : H a with
        | none => rfl
        | some t =>
          have hG : G a = none := by
            cases y : G a with
            | none => rfl
            | some s => rw [o.gf a s y] at e1; cases e1
          rw [x.n a hG (by rw [z]; intro; contradiction)] at w
          cases w) (fun _ h => (nomatch h))
  obtain ⟨fps, h1, h0, h2, h3, h4, _, _, _⟩ := o1.slt
  obtain ⟨fps0, k1, k0, k2, k3, k4, _, _, _⟩ := o.slt
  refine ⟨ex, ⟨gs, gh, o.bf.trans ex.f, o.len, o.io, fps0, fun i e he => ?_, k0, fun i a ha => ?_, k3, k4, nd, fun a ha => ?_, fun i a ha hb => ?_⟩, hh⟩
  · obtain ⟨u, e1, s⟩ := k1 i e he
    exact ⟨u, e1, s.frame ex fun a _ t q => hh a t q⟩
  · have hH : H a ≠ none := by
      by_cases z : ∃ e, ρ[i]? = some (some e)
      · obtain ⟨e, he⟩ := z
        obtain ⟨u, _, s⟩ := k1 i e he
        exact s.dom a ha
      · rw [k0 i z] at ha; cases ha
    have hG : G a = none := o.gf.free (k2 i a ha)
    exact glue_none (k2 i a ha) (x.n a hG hH)
  · have hF' := hf a ha
    refine glue_none ?_ (gf.free hF')
    cases q : F a with
    | none => rfl
    | some u =>
      have := x.f a u (o.fh a u q)
      rw [hF'] at this
      cases this
  · have hH : H a ≠ none := by
      by_cases z : ∃ e, ρ[i]? = some (some e)
      · obtain ⟨e, he⟩ := z
        obtain ⟨u, _, s⟩ := k1 i e he
        exact s.dom a ha
      · rw [k0 i z] at ha; cases ha
    exact (x.f.nn hH) (hf a hb)
end
section
variable {X : Cx} {W : WX} {c : Fc}
theorem ex_call {k rk : Nat} {f : Addr} {fd : FuncData} {pn : List Str} {ps : List Pm} {m : List D → R D} {p : Bool} {ms : List Am} {x : Str} {pp pos : Pos} {e : Expr} {es : List Expr} {fa : M (List D)} (ok : Cok X W)
    (F : FnOk X.prog X.w X.K X.mg X.base (L2.CX X.prog X.w) k f fd pn (spM X.K X.mg ps rk (m0 m))) (hr : Room k X.A) (hm : X.mg x = some (.ref f)) (hk : PySem.W.keepIn X.K (.ref f) = true) (hb : Binds X.K fd pn []) (ha : AX X W c p ms (e :: es) fa) (hfit : fitA ps ms = true := by rfl)
    (hg : Gl X x := by rfl) (hdb : (x == ("__debug__" : Str)) = false := by decide) (he : starEach (e :: es) X.env = (false, eval e X.env) :: starEach es X.env := by rfl) (hpl : (backTo pos (starEach es X.env)).any (·.1) = false := by rfl) :
    EX X W c p (mdR rk) (.Call (.Name x pp) (e :: es) [] pos) (eCall m fa) := by
  obtain ⟨ta, a1, a2⟩ := ha
  refine ⟨_, pe_callS F hr hg hm hk hb (fun σ => passAt ok.tk σ) a1 hdb he hpl, fun σ ρ G F0 H Q o w => ?_⟩
  refine a2 σ ρ G F0 H _ o ((Wp.ofBindM w).imp (fun r hr => ?_) fun _ z => z)
  intro vs G1 F1 H1 x1 o1 q1 hp1
  refine ⟨G1, H1, r.1, [], o1.gh, .refl _, args_val hfit q1, List.nodup_nil, fun _ h => (nomatch h), ?_⟩
  unfold m0
  cases em : m r.1 with
  | ok d =>
    rw [em] at hr
    intro v G2 F2 H2 fr fo x2 gf2 fh2 ow out nd hf
    have efo := outs_nil out
    subst efo
    rw [List.append_nil] at nd hf
    obtain ⟨x3, o3, hh⟩ := o1.called x2 gf2 fh2 ow nd hf
    have hv : Val X.K X.mg (mdR rk) G2 H2 d v fr := by
      cases rk with
      | zero => exact ⟨ow.1, ow.2⟩
      | succ n => exact ow
    exact hr v G2 _ H2 fr (x1.trans x3) o3 hv fun hp => ⟨(hp1 hp).1, (hp1 hp).2.trans hh⟩
  | exc x =>
    rw [em] at hr
    intro cls dd G2 F2 H2 x2 gf2 fh2 xr
    have hr : Nx X.K X.mg W σ G F0 x := hr
    have gs : Same G2 (glue F1 G2) := fun a u e => by
      unfold glue
      cases q : F1 a with
      | none => exact e
      | some u' =>
        have e1 := (x2.f.trans fh2) a u' (o1.fh a u' q)
        have e2 := fh2 a u (gf2 a u e)
        rw [e1] at e2
        exact e2
    refine hr cls dd G2 (glue F1 G2) H2 (x1.trans ⟨x2.g, glue_l, fun a e1 e2 => x2.n a e1 (o1.fh.nn e2)⟩) gs (fun a u e => ?_) xr
    rcases glue_cases e with q | ⟨_, q⟩
    · exact (x2.f.trans fh2) a u (o1.fh a u q)
    · exact fh2 a u (gf2 a u q)
  | fail => rw [em] at hr; exact hr.elim
end

/-! ### a call that changes the object of one slot -/
def fit0 : List Pm → List Am → Bool
  | [], [] => true
  | .sh :: ps, .val (.rd 0) :: ms => fit0 ps ms
  | _, _ => false
def fit1 (n i : Nat) : List Pm → List Am → Bool
  | .sh :: ps, .val (.rd 0) :: ms => fit1 n i ps ms
  | .io m :: ps, .io j :: ms => decide (m = n) && (decide (j = i) && fit0 ps ms)
  | _, _ => false
/-- the slot's value put in its place -/
def fill1 (x : D) : List Am → List D → List D
  | .io _ :: ms, _ :: ds => x :: fill1 x ms ds
  | _ :: ms, d :: ds => d :: fill1 x ms ds
  | _, _ => []
def eCallIO (i : Nat) (ms : List Am) (m : List D → R (D × List D)) (fa : M (List D)) : M D := fa.bind fun ds ρ => match look ρ i with
  | some x => match m (fill1 x ms ds) with
    | .ok (d, [y]) => .ok (d, put ρ i (some y))
    | .ok _ => .fail
    | .exc e => .exc e
    | .fail => .fail
  | none => .fail
theorem eCallIO_def (i : Nat) (ms : List Am) (m : List D → R (D × List D)) (fa : M (List D)) : eCallIO i ms m fa = fa.bind fun ds ρ => match look ρ i with
  | some x => match m (fill1 x ms ds) with
    | .ok (d, [y]) => .ok (d, ρ.set i (some y))
    | .ok _ => .fail
    | .exc e => .exc e
    | .fail => .fail
  | none => .fail := by
  unfold eCallIO
  simp only [put_eq]
section
variable {K : PySem.W.Frag} {mg : Str → Option Value} {G F H : Hp} {σ : L2.St}
theorem args0 : ∀ {ps : List Pm} {ms : List Am} {x : D} {ds : List D} {vs : List V}, fit0 ps ms = true → ValL K mg G H σ ms ds vs → ArgL K mg G F H ps (fill1 x ms ds) vs []
  | [], [], _, _, _, _, .nil => .nil
  | .sh :: ps, .val (.rd 0) :: ms, _, _, _, e, .val h r => .sh h.1 (args0 (ps := ps) (ms := ms) e r)
  | .io _ :: _, _ :: _, _, _, _, e, _ => by cases e
  | .rd _ :: _, _ :: _, _, _, _, e, _ => by cases e
  | .io _ :: _, [], _, _, _, e, _ => by cases e
  | .sh :: _, [], _, _, _, e, _ => by cases e
  | .rd _ :: _, [], _, _, _, e, _ => by cases e
  | [], _ :: _, _, _, _, e, _ => by cases e
  | .sh :: _, .io _ :: _, _, _, _, e, _ => by cases e
  | .sh :: _, .val (.own _) :: _, _, _, _, e, _ => by cases e
  | .sh :: _, .val (.rd (_ + 1)) :: _, _, _, _, e, _ => by cases e
theorem args1 {n i : Nat} {x : D} {u : V} {fp : List Addr} (hs : σ[i]? = some (some u)) (ow : Own K mg G H n x u fp) : ∀ {ps : List Pm} {ms : List Am} {ds : List D} {vs : List V}, fit1 n i ps ms = true → ValL K mg G H σ ms ds vs → ArgL K mg G F H ps (fill1 x ms ds) vs fp
  | .sh :: ps, .val (.rd 0) :: ms, _, _, e, .val h r => .sh h.1 (args1 hs ow (ps := ps) (ms := ms) e r)
  | .io m :: ps, .io j :: ms, _, _, e, .io (v := v) h r => by
    have e : (decide (m = n) && (decide (j = i) && fit0 ps ms)) = true := e
    rw [Bool.and_eq_true, Bool.and_eq_true] at e
    have e1 := of_decide_eq_true e.1
    have e2 := of_decide_eq_true e.2.1
    subst e1
    subst e2
    rw [hs] at h
    cases h
    have := ArgL.io (F := F) ow (args0 (F := F) (x := x) e.2.2 r)
    rw [List.append_nil] at this
    exact this
  | [], _, _, _, e, _ => by cases e
  | .sh :: _, [], _, _, e, _ => by cases e
  | .rd _ :: _, _, _, _, e, _ => by cases e
  | .io _ :: _, [], _, _, e, _ => by cases e
  | .io _ :: _, .val _ :: _, _, _, e, _ => by cases e
  | .sh :: _, .io _ :: _, _, _, e, _ => by cases e
  | .sh :: _, .val (.own _) :: _, _, _, e, _ => by cases e
  | .sh :: _, .val (.rd (_ + 1)) :: _, _, _, e, _ => by cases e
theorem outs0 : ∀ {ps : List Pm} {ms : List Am} {vs : List V} {os : List D} {fo : List Addr}, fit0 ps ms = true → OutL K mg G H ps vs os fo → os = [] ∧ fo = []
  | [], [], _, _, _, _, .nil => ⟨rfl, rfl⟩
  | .sh :: ps, .val (.rd 0) :: ms, _, _, _, e, .sh r => outs0 (ps := ps) (ms := ms) e r
  | .io _ :: _, _ :: _, _, _, _, e, _ => by cases e
  | .rd _ :: _, _ :: _, _, _, _, e, _ => by cases e
  | .io _ :: _, [], _, _, _, e, _ => by cases e
  | .sh :: _, [], _, _, _, e, _ => by cases e
  | .rd _ :: _, [], _, _, _, e, _ => by cases e
  | [], _ :: _, _, _, _, e, _ => by cases e
  | .sh :: _, .io _ :: _, _, _, _, e, _ => by cases e
  | .sh :: _, .val (.own _) :: _, _, _, _, e, _ => by cases e
  | .sh :: _, .val (.rd (_ + 1)) :: _, _, _, _, e, _ => by cases e
theorem outs1 {n i : Nat} {u : V} (hs : σ[i]? = some (some u)) : ∀ {ps : List Pm} {ms : List Am} {ds : List D} {vs : List V} {os : List D} {fo : List Addr} {G0 H0 : Hp}, fit1 n i ps ms = true → ValL K mg G0 H0 σ ms ds vs → OutL K mg G H ps vs os fo → ∃ y, os = [y] ∧ Own K mg G H n y u fo
  | .sh :: ps, .val (.rd 0) :: ms, _, _, _, _, _, _, e, .val h r, .sh q => outs1 hs (ps := ps) (ms := ms) e r q
  | .io m :: ps, .io j :: ms, _, _, _, _, _, _, e, .io (v := v) h r, .io ow q => by
    have e : (decide (m = n) && (decide (j = i) && fit0 ps ms)) = true := e
    rw [Bool.and_eq_true, Bool.and_eq_true] at e
    have e1 := of_decide_eq_true e.1
    have e2 := of_decide_eq_true e.2.1
    subst e1
    subst e2
    rw [hs] at h
    cases h
    obtain ⟨rfl, rfl⟩ := outs0 e.2.2 q
    rw [List.append_nil]
    exact ⟨_, rfl, ow⟩
  | [], _, _, _, _, _, _, _, e, _, _ => by cases e
  | .sh :: _, [], _, _, _, _, _, _, e, _, _ => by cases e
  | .rd _ :: _, _, _, _, _, _, _, _, e, _, _ => by cases e
  | .io _ :: _, [], _, _, _, _, _, _, e, _, _ => by cases e
  | .io _ :: _, .val _ :: _, _, _, _, _, _, _, e, _, _ => by cases e
  | .sh :: _, .io _ :: _, _, _, _, _, _, _, e, _, _ => by cases e
  | .sh :: _, .val (.own _) :: _, _, _, _, _, _, _, e, _, _ => by cases e
  | .sh :: _, .val (.rd (_ + 1)) :: _, _, _, _, _, _, _, e, _, _ => by cases e
/-- all but these objects -/
def less (H : Hp) (fp : List Addr) : Hp := fun a => if a ∈ fp then none else H a
theorem less_same {fp : List Addr} : Same (less H fp) H := fun a o e => by
  unfold less at e
  split at e
  · cases e
  · exact e
theorem less_of {fp : List Addr} (s : Same F H) (h : ∀ a ∈ fp, F a = none) : Same F (less H fp) := fun a o e => by
  unfold less
  rw [if_neg (fun z => by rw [h a z] at e; cases e)]
  exact s a o e
end
section
variable {X : Cx} {W : WX} {c : Fc}
theorem ex_callIO (i : Nat) {n : Nat} {k rk : Nat} {f : Addr} {fd : FuncData} {pn : List Str} {ps : List Pm} {m : List D → R (D × List D)} {p : Bool} {ms : List Am} {x : Str} {pp pos : Pos} {e : Expr} {es : List Expr} {fa : M (List D)} (ok : Cok X W)
    (F : FnOk X.prog X.w X.K X.mg X.base (L2.CX X.prog X.w) k f fd pn (spM X.K X.mg ps rk m)) (hr : Room k X.A) (hm : X.mg x = some (.ref f)) (hk : PySem.W.keepIn X.K (.ref f) = true) (hb : Binds X.K fd pn []) (ha : AX X W c p ms (e :: es) fa) (hfit : fit1 n i ps ms = true := by rfl) (hkd : c.kd i = .own n := by rfl)
    (hg : Gl X x := by rfl) (hdb : (x == ("__debug__" : Str)) = false := by decide) (he : starEach (e :: es) X.env = (false, eval e X.env) :: starEach es X.env := by rfl) (hpl : (backTo pos (starEach es X.env)).any (·.1) = false := by rfl) :
    EX X W c false (mdR rk) (.Call (.Name x pp) (e :: es) [] pos) (eCallIO i ms m fa) := by
  rw [eCallIO_def]
  obtain ⟨ta, a1, a2⟩ := ha
  refine ⟨_, pe_callS F hr hg hm hk hb (fun σ => passAt ok.tk σ) a1 hdb he hpl, fun σ ρ G F0 H Q o w => ?_⟩
  refine a2 σ ρ G F0 H _ o ((Wp.ofBindM w).imp (fun r hr => ?_) fun _ z => z)
  intro vs G1 F1 H1 x1 o1 q1 hp1
  split at hr
  · rename_i x0 ex0
    obtain ⟨fps, h1, h0, h2, h3, h4, _, _, _⟩ := o1.slt
    obtain ⟨u, hs, sl⟩ := h1 i x0 (look_eq.mp ex0)
    rw [hkd] at sl
    have sl : Own X.K X.mg G1 H1 n x0 u (fps i) := sl
    have kp : Same F1 (less H1 (fps i)) := less_of o1.fh (h2 i)
    refine ⟨G1, less H1 (fps i), fill1 x0 ms r.1, fps i, o1.gf.trans kp, less_same, args1 hs sl hfit q1, h3 i, fun a ha => by unfold less; rw [if_pos ha], ?_⟩
    cases em : m (fill1 x0 ms r.1) with
    | ok d =>
      rw [em] at hr
      intro v G2 F2 H2 fr fo x2 gf2 fh2 ow out nd hf
      obtain ⟨y, ey, oy⟩ := outs1 hs hfit q1 out
      obtain ⟨d1, os⟩ := d
      have ey : os = [y] := ey
      subst ey
      have hr : Wp (R.ok (d1, r.2.set i (some y))) _ _ := hr
      -- what stood, but for the slot's objects, stands
      have hh : ∀ a o, a ∉ fps i → H1 a = some o → H2 a = some o := fun a o na e => fh2 a o (x2.f a o (by unfold less; rw [if_neg na]; exact e))
      have gs : Same G2 (glue F1 G2) := fun a u e => by
        unfold glue
        cases q : F1 a with
        | none => exact e
        | some u' =>
          have e1 := (x2.f.trans fh2) a u' (kp a u' q)
          have e2 := fh2 a u (gf2 a u e)
          rw [e1] at e2
          exact e2
      have gh : Same (glue F1 G2) H2 := fun a u e => by
        rcases glue_cases e with q | ⟨_, q⟩
        · exact (x2.f.trans fh2) a u (kp a u q)
        · exact fh2 a u (gf2 a u q)
      have ex : Ext G1 F1 G2 (glue F1 G2) := ⟨x2.g, glue_l, fun a e1 e2 => x2.n a e1 (kp.nn e2)⟩
      have hv : Val X.K X.mg (mdR rk) G2 H2 d1 v fr := by
        cases rk with
        | zero => exact ⟨ow.1, ow.2⟩
        | succ n => exact ow
      have ndd := List.nodup_append.mp nd
      have live : ∀ j a, a ∈ fps j → H1 a ≠ none := fun j a ha => by
        by_cases z : ∃ e, r.2[j]? = some (some e)
        · obtain ⟨e, he⟩ := z
          obtain ⟨u, _, s⟩ := h1 j e he
          exact s.dom a ha
        · rw [h0 j z] at ha; cases ha
      have far : ∀ j a, j ≠ i → a ∈ fps j → less H1 (fps i) a ≠ none := fun j a hj ha => by
        unfold less
        rw [if_neg (h4 j i a hj ha)]
        exact live j a ha
      have newF : ∀ a, F2 a = none → glue F1 G2 a = none := fun a ha => by
        refine glue_none ?_ (gf2.free ha)
        cases q : F1 a with
        | none => rfl
        | some u =>
          have := x2.f a u (kp a u q)
          rw [ha] at this
          cases this
      have hil : i < r.2.length := (List.getElem?_eq_some_iff.mp (look_eq.mp ex0)).1
      refine hr v G2 (glue F1 G2) H2 fr (x1.trans ex) ⟨gs, gh, o1.bf.trans ex.f, by rw [List.length_set]; exact o1.len, o1.io, fun j => if j = i then fo else fps j, fun j e he => ?_, fun j hj => ?_, fun j a ha => ?_, fun j => ?_, fun j l a hjl ha hb => ?_, ndd.1, fun a ha => newF a (hf a (List.mem_append_left _ ha)), fun j a ha hb => ?_⟩ hv fun z => nomatch z
      · by_cases z : j = i
        · subst z
          rw [List.getElem?_set_self hil] at he
          cases he
          refine ⟨u, hs, ?_⟩
          dsimp only
          rw [if_pos rfl, hkd]
          exact oy
        · rw [List.getElem?_set_ne (Ne.symm z)] at he
          obtain ⟨w', e1, s⟩ := h1 j e he
          refine ⟨w', e1, ?_⟩
          dsimp only
          rw [if_neg z]
          exact s.frame ex fun a ha t q => hh a t (h4 j i a z ha) q
      · dsimp only
        by_cases z : j = i
        · exfalso
          apply hj
          exact ⟨y, by rw [z, List.getElem?_set_self hil]⟩
        · rw [if_neg z]
          refine h0 j fun ⟨e, he⟩ => hj ⟨e, ?_⟩
          rw [List.getElem?_set_ne (Ne.symm z)]
          exact he
      · dsimp only at ha
        split at ha
        · exact newF a (hf a (List.mem_append_right _ ha))
        · rename_i z
          refine glue_none (h2 j a ha) (x2.n a (o1.gf.free (h2 j a ha)) (far j a z ha))
      · dsimp only
        split
        · exact ndd.2.1
        · exact h3 j
      · dsimp only at ha hb
        split at ha
        · rename_i z
          split at hb
          · rename_i z2
            exact hjl (z.trans z2.symm)
          · rename_i z2
            have := hf a (List.mem_append_right _ ha)
            exact x2.f.nn (far l a z2 hb) this
        · rename_i z
          split at hb
          · have := hf a (List.mem_append_right _ hb)
            exact x2.f.nn (far j a z ha) this
          · exact h4 j l a hjl ha hb
      · dsimp only at ha
        split at ha
        · exact ndd.2.2 a hb a ha rfl
        · rename_i z
          have := hf a (List.mem_append_left _ hb)
          exact x2.f.nn (far j a z ha) this
    | exc x =>
      rw [em] at hr
      intro cls dd G2 F2 H2 x2 gf2 fh2 xr
      have hr : Nx X.K X.mg W σ G F0 x := hr
      have gs : Same G2 (glue F1 G2) := fun a u e => by
        unfold glue
        cases q : F1 a with
        | none => exact e
        | some u' =>
          have e1 := (x2.f.trans fh2) a u' (kp a u' q)
          have e2 := fh2 a u (gf2 a u e)
          rw [e1] at e2
          exact e2
      refine hr cls dd G2 (glue F1 G2) H2 (x1.trans ⟨x2.g, glue_l, fun a e1 e2 => x2.n a e1 (kp.nn e2)⟩) gs (fun a u e => ?_) xr
      rcases glue_cases e with q | ⟨_, q⟩
      · exact (x2.f.trans fh2) a u (kp a u q)
      · exact fh2 a u (gf2 a u q)
    | fail => rw [em] at hr; exact hr.elim
  · exact hr.elim
end
end
end PV

set_option Elab.async false
set_option linter.all false
set_option maxRecDepth 100000
set_option maxHeartbeats 0
namespace PV
noncomputable section
open PySem PySem.Spec
open PyProof.Rows L2

/-! ## 15. loops over what is walked -/
def wipeG {α : Type} (l : List (Option α)) : List Nat → List (Option α)
  | [] => l
  | v :: vs => put (wipeG l vs) v none
theorem wipeG_cons {α : Type} (l : List (Option α)) (v : Nat) (vs : List Nat) : wipeG l (v :: vs) = (wipeG l vs).set v none := put_eq _ _ _
theorem wipe_eq (σ : L2.St) : ∀ vs : List Nat, wipe σ vs = wipeG σ vs
  | [] => rfl
  | v :: vs => by unfold wipe; rw [wipeG_cons, wipe_eq σ vs]
theorem wipeG_len {α : Type} (l : List (Option α)) : ∀ vs : List Nat, (wipeG l vs).length = l.length
  | [] => rfl
  | v :: vs => by rw [wipeG_cons, List.length_set, wipeG_len l vs]
theorem wipeG_at {α : Type} {l : List (Option α)} {j : Nat} : ∀ {vs : List Nat}, j ∉ vs → (wipeG l vs)[j]? = l[j]?
  | [], _ => rfl
  | v :: vs, h => by
    rw [wipeG_cons]
    rw [List.getElem?_set_ne (fun e => h (by rw [e]; exact List.mem_cons_self))]
    exact wipeG_at fun z => h (List.mem_cons_of_mem _ z)
theorem wipeG_in {α : Type} {l : List (Option α)} {j : Nat} : ∀ {vs : List Nat}, j ∈ vs → (wipeG l vs)[j]? = if j < l.length then some none else none
  | [], h => nomatch h
  | v :: vs, h => by
    rw [wipeG_cons]
    by_cases e : v = j
    · subst e
      by_cases hl : v < l.length
      · rw [if_pos hl, List.getElem?_set_self (by rw [wipeG_len]; exact hl)]
      · rw [if_neg hl, List.getElem?_eq_none (by rw [List.length_set, wipeG_len]; omega)]
    · rw [List.getElem?_set_ne e]
      exact wipeG_in ((List.mem_cons.mp h).resolve_left fun z => e z.symm)
theorem wipeG_set {α : Type} {l : List (Option α)} {i : Nat} {x : Option α} {vs : List Nat} (h : i ∈ vs) : wipeG (l.set i x) vs = wipeG l vs := List.ext_getElem? fun j => by
  by_cases hj : j ∈ vs
  · rw [wipeG_in hj, wipeG_in hj, List.length_set]
  · rw [wipeG_at hj, wipeG_at hj, List.getElem?_set_ne fun e => hj (by rw [← e]; exact h)]
theorem wipeG_sub {α : Type} {l : List (Option α)} {us vs : List Nat} (h : ∀ i ∈ us, i ∈ vs) : wipeG (wipeG l us) vs = wipeG l vs := List.ext_getElem? fun j => by
  by_cases hj : j ∈ vs
  · rw [wipeG_in hj, wipeG_in hj, wipeG_len]
  · rw [wipeG_at hj, wipeG_at hj, wipeG_at fun z => hj (h j z)]
section
variable {K : PySem.W.Frag} {mg : Str → Option Value} {c : Fc} {T fp : List Addr} {G F H G' F' H' : Hp} {σ : L2.St} {ρ : PV.Env}
/-- own objects kept as they stand for a while -/
theorem Ok.pin (o : Ok K mg c (fp ++ T) G F H σ ρ) : Ok K mg c T G (join F H fp) H σ ρ ∧ Ext G F G (join F H fp) := by
  obtain ⟨fps, h1, h0, h2, h3, h4, h5, h6, h7⟩ := o.slt
  have hf : ∀ a ∈ fp, F a = none := fun a ha => h6 a (List.mem_append_left _ ha)
  have x : Ext G F G (join F H fp) := ⟨.refl _, join_same hf, fun _ h _ => h⟩
  refine ⟨⟨o.gf.trans x.f, join_sub o.fh, o.bf.trans x.f, o.len, o.io, fps, h1, h0, fun i a ha => ?_, h3, h4, (List.nodup_append.mp h5).2.1, fun a ha => ?_, fun i a ha hb => h7 i a ha (List.mem_append_right _ hb)⟩, x⟩
  · unfold join
    rw [if_neg (fun z => h7 i a ha (List.mem_append_left _ z))]
    exact h2 i a ha
  · unfold join
    rw [if_neg (fun z => (List.nodup_append.mp h5).2.2 a z a ha rfl)]
    exact h6 a (List.mem_append_right _ ha)
theorem Ok.unpin (o : Ok K mg c T G F H σ ρ) (hg : ∀ a ∈ fp, G a = none) (hb : ∀ a ∈ fp, c.B a = none) (hF : ∀ a ∈ fp, F a ≠ none) (nd : fp.Nodup) : Ok K mg c (fp ++ T) G (less F fp) H σ ρ := by
  obtain ⟨fps, h1, h0, h2, h3, h4, h5, h6, h7⟩ := o.slt
  have ln : ∀ a, F a = none → less F fp a = none := fun a ha => by
    unfold less
    split
    · rfl
    · exact ha
  refine ⟨less_of o.gf hg, less_same.trans o.fh, less_of o.bf hb, o.len, o.io, fps, h1, h0, fun i a ha => ln a (h2 i a ha), h3, h4, List.nodup_append.mpr ⟨nd, h5, fun a ha b hb z => hF a ha (by rw [z]; exact h6 b hb)⟩, fun a ha => ?_, fun i a ha hb => ?_⟩
  · rcases List.mem_append.1 ha with ha | ha
    · unfold less
      rw [if_pos ha]
    · exact ln a (h6 a ha)
  · rcases List.mem_append.1 hb with hb | hb
    · exact hF a hb (h2 i a ha)
    · exact h7 i a ha hb
theorem Ext.unpin {F1 : Hp} (hf : ∀ a ∈ fp, F a = none) (k : Same F F1) (x : Ext G F1 G' F') : Ext G F G' (less F' fp) := ⟨x.g, fun a o e => by
  unfold less
  rw [if_neg (fun z => by rw [hf a z] at e; cases e)]
  exact x.f a o (k a o e), fun a e1 e2 => x.n a e1 (k.nn e2)⟩
end
section
variable {X : Cx} {W : WX} {c : Fc} {rk : Nat} {p : Bool}
/-! ### targets -/
/-- a target, with the slots that it sets -/
def GX (X : Cx) (c : Fc) (tg : Expr) (is : List Nat) (g : D → PV.Env → Option PV.Env) : Prop :=
  (∀ (d : D) (ρ ρ' : PV.Env), g d ρ = some ρ' → ∀ vs : List Nat, (∀ i ∈ is, i ∈ vs) → wipeG ρ' vs = wipeG ρ vs) ∧ ∃ t, PG X tg t ∧ ∀ (σ : L2.St) (ρ ρ' : PV.Env) (G F H : Hp) (d : D) (v : V) (Q : L2.St → Hp → Prop), Ok X.K X.mg c [] G F H σ ρ → Rp X.K X.mg G v d → g d ρ = some ρ' →
    (∀ σ', Ok X.K X.mg c [] G F H σ' ρ' → σ'.length = σ.length → (∀ vs : List Nat, (∀ i ∈ is, i ∈ vs) → wipe σ' vs = wipe σ vs) → Q σ' H) → t v σ H Q
def tgName (i : Nat) (d : D) (ρ : PV.Env) : Option PV.Env := some (put ρ i (some d))
theorem tgName_def (i : Nat) : tgName i = fun d ρ => some (ρ.set i (some d)) := by
  funext d ρ
  unfold tgName
  rw [put_eq]
theorem gx_name (i : Nat) {x : Str} {pos : Pos} (hN : X.N.Nodup) (hk : c.kd i = .own 0 := by rfl) (hio : noIo c i = true := by rfl) (hi : X.N[i]? = some x := by rfl) (hx : Loc X.env.scope x := by first | exact Or.inl rfl | exact Or.inr rfl)
    (hf : X.fn x = true ∨ X.env.scope.names.lookup x = some .local := by first | exact .inl rfl | exact .inr rfl) : GX X c (.Name x pos) [i] (tgName i) := by
  rw [tgName_def]
  refine ⟨fun d ρ ρ' e vs h => ?_, _, pg_name hN hi hx hf, fun σ ρ ρ' G F H d v Q o r e q => ?_⟩
  · cases e
    exact wipeG_set (h i (by simp))
  · cases e
    exact q _ (Ok.set (fp := []) o (by rw [hk]; exact ⟨r, rfl⟩) hio) (by rw [List.length_set]) fun vs h => by rw [wipe_eq, wipe_eq]; exact wipeG_set (h i (by simp))
/-- several targets, from the left -/
def GXs (X : Cx) (c : Fc) (ts : List Expr) (is : List Nat) (g : List D → PV.Env → Option PV.Env) : Prop :=
  (∀ (ds : List D) (ρ ρ' : PV.Env), g ds ρ = some ρ' → ∀ vs : List Nat, (∀ i ∈ is, i ∈ vs) → wipeG ρ' vs = wipeG ρ vs) ∧ ∃ t, PGs X ts t ∧ ∀ (σ : L2.St) (ρ ρ' : PV.Env) (G F H : Hp) (ds : List D) (vs : List V) (Q : L2.St → Hp → Prop), Ok X.K X.mg c [] G F H σ ρ → RpL X.K X.mg G vs ds → g ds ρ = some ρ' →
    (∀ σ', Ok X.K X.mg c [] G F H σ' ρ' → σ'.length = σ.length → (∀ vs : List Nat, (∀ i ∈ is, i ∈ vs) → wipe σ' vs = wipe σ vs) → Q σ' H) → t vs σ H Q
def tgNil (ds : List D) (ρ : PV.Env) : Option PV.Env := match ds with
  | [] => some ρ
  | _ => none
def tgCons (g : D → PV.Env → Option PV.Env) (h : List D → PV.Env → Option PV.Env) (ds : List D) (ρ : PV.Env) : Option PV.Env := match ds with
  | d :: r => match g d ρ with
    | some ρ' => h r ρ'
    | none => none
  | [] => none
theorem gxs_nil : GXs X c [] [] tgNil := by
  refine ⟨fun ds ρ ρ' e vs h => ?_, _, pgs_nil, fun σ ρ ρ' G F H ds vs Q o r e q => ?_⟩
  · cases ds with
    | nil => cases e; rfl
    | cons _ _ => cases e
  · cases r with
    | nil => cases e; exact ⟨rfl, q σ o rfl fun _ _ => rfl⟩
    | cons _ _ => cases e
theorem gxs_cons {t : Expr} {ts : List Expr} {is js : List Nat} {g : D → PV.Env → Option PV.Env} {h : List D → PV.Env → Option PV.Env} (h1 : GX X c t is g) (h2 : GXs X c ts js h) (hs : (assignEach (t :: ts) X.env).map (·.2) = assign t X.env :: (assignEach ts X.env).map (·.2) := by rfl) : GXs X c (t :: ts) (is ++ js) (tgCons g h) := by
  obtain ⟨w1, t1, a1, a2⟩ := h1
  obtain ⟨w2, t2, b1, b2⟩ := h2
  refine ⟨fun ds ρ ρ' e vs hv => ?_, _, pgs_cons a1 b1 hs, fun σ ρ ρ' G F H ds vs Q o r e q => ?_⟩
  · cases ds with
    | nil => cases e
    | cons d r =>
      simp only [tgCons] at e
      split at e
      · rename_i ρ1 e1
        exact (w2 _ _ _ e vs fun i hi => hv i (List.mem_append_right _ hi)).trans (w1 _ _ _ e1 vs fun i hi => hv i (List.mem_append_left _ hi))
      · cases e
  cases r with
  | nil => cases e
  | cons r1 r2 =>
    simp only [tgCons] at e
    split at e
    · rename_i ρ1 e1
      refine ⟨_, _, rfl, a2 σ ρ ρ1 G F H _ _ _ o r1 e1 fun σ1 o1 hl1 w1 => ?_⟩
      exact b2 σ1 ρ1 ρ' G F H _ _ Q o1 r2 e fun σ2 o2 hl2 w2 => q σ2 o2 (hl2.trans hl1) fun vs hv => (w2 vs fun i hi => hv i (List.mem_append_right _ hi)).trans (w1 vs fun i hi => hv i (List.mem_append_left _ hi))
    · cases e
def tgTup (g : List D → PV.Env → Option PV.Env) (n : Nat) (d : D) (ρ : PV.Env) : Option PV.Env := match d with
  | .tup ds => if ds.length = n then g ds ρ else none
  | _ => none
theorem gx_tup (ok : X.calm = true) {es : List Expr} {is : List Nat} {k n : Nat} {pos : Pos} {g : List D → PV.Env → Option PV.Env} (h : GXs X c es is g) (hn : (assignEach es X.env).length = n := by rfl) (hst : (assignEach es X.env).findIdx? (·.1) = none := by rfl) : GX X c (.Tuple es k pos) is (tgTup g n) := by
  obtain ⟨w, t, h1, h2⟩ := h
  refine ⟨fun d ρ ρ' e vs hv => ?_, _, pg_tup ok h1 hn hst, fun σ ρ ρ' G F H d v Q o r e q => ?_⟩
  · unfold tgTup at e
    split at e
    · split at e
      · exact w _ _ _ e vs hv
      · cases e
    · cases e
  unfold tgTup at e
  split at e
  · split at e
    · rename_i ds hl
      obtain ⟨a, vs, rfl, ha, r⟩ := r.tup_inv
      exact ⟨a, vs, rfl, .of (o.gh _ _ ha), r.length.trans hl, h2 σ ρ ρ' G F H ds vs Q o r e q⟩
    · cases e
  · cases e
/-! ### what is walked -/
structure ItOk (K : PySem.W.Frag) (mg : Str → Option Value) (J : It) (ds : List D) (G0 : Hp) : Prop where
  stop : ∀ i H, Same G0 H → ds.length ≤ i → J.stop i H
  go : ∀ i H, Same G0 H → i < ds.length → J.go i H
  yld : ∀ i H x H' G F d, J.yld i H x H' → Same G0 G → Same G F → Same F H → ds[i]? = some d → ∃ G' F', Grow G F H G' F' H' [] ∧ Rp K mg G' x d
def IX (X : Cx) (W : WX) (c : Fc) (p : Bool) (tg iter : Expr) (f : M (List D)) : Prop :=
  ∃ wi, PI X tg iter wi ∧ ∀ (σ : L2.St) (ρ : PV.Env) (G F H : Hp) (Rr : It → Hp → Prop), Ok X.K X.mg c [] G F H σ ρ →
    Wp (f ρ) (fun r => ∀ J G' F' H', Ext G F G' F' → Ok X.K X.mg c [] G' F' H' σ r.2 → ItOk X.K X.mg J r.1 G' → (p = true → r.2 = ρ ∧ Same H H') → Rr J H') (Nx X.K X.mg W σ G F) → wi σ H Rr
/-- two ways to walk the same: whichever is asked for -/
theorem walk_or {X : Cx} {tg l : Expr} {w1 w2 : TI} (h1 : PI X tg l w1) (h2 : PI X tg l w2) : PI X tg l (fun σ H R => w1 σ H R ∨ w2 σ H R) :=
  ⟨fun pins s σ H R I h => h.elim (fun k => h1.run pins s σ H R I k) fun k => h2.run pins s σ H R I k⟩
theorem itok_l {K : PySem.W.Frag} {mg : Str → Option Value} {G0 : Hp} {a : Addr} {vs : List V} {ds : List D} (h : G0 a = some (.lst vs)) (r : RpL K mg G0 vs ds) : ItOk K mg (Itl K a) ds G0 where
  stop := fun i H s hl => ⟨vs, .of (s _ _ h), by rw [r.length]; exact hl⟩
  go := fun i H s hl => by
    have hl' : i < vs.length := by rw [r.length]; exact hl
    exact ⟨vs, vs[i], .of (s _ _ h), List.getElem?_eq_getElem hl'⟩
  yld := fun i H x H' G F d y s gf fh e => by
    obtain ⟨rfl, y⟩ := y
    have hx := y vs (.of (fh _ _ (gf _ _ (s _ _ h))))
    obtain ⟨v, e1, q⟩ := r.getD e
    rw [hx] at e1
    cases e1
    exact ⟨G, F, .refl gf fh, q.mono s⟩
theorem itok_t {K : PySem.W.Frag} {mg : Str → Option Value} {G0 : Hp} {a : Addr} {vs : List V} {ds : List D} (h : G0 a = some (.tup vs)) (r : RpL K mg G0 vs ds) : ItOk K mg (Itt K a) ds G0 where
  stop := fun i H s hl => ⟨vs, .of (s _ _ h), by rw [r.length]; exact hl⟩
  go := fun i H s hl => by
    have hl' : i < vs.length := by rw [r.length]; exact hl
    exact ⟨vs, vs[i], .of (s _ _ h), List.getElem?_eq_getElem hl'⟩
  yld := fun i H x H' G F d y s gf fh e => by
    obtain ⟨rfl, y⟩ := y
    have hx := y vs (.of (fh _ _ (gf _ _ (s _ _ h))))
    obtain ⟨v, e1, q⟩ := r.getD e
    rw [hx] at e1
    cases e1
    exact ⟨G, F, .refl gf fh, q.mono s⟩
def iSeqM (f : M D) : M (List D) := f.bind fun x => M.ofO (itemsOf x)
/-- a shared list or tuple -/
theorem ix_seqS {tg e : Expr} {f : M D} (h : EX X W c p (.rd 0) e f) : IX X W c p tg e (iSeqM f) := by
  obtain ⟨te, h1, h2⟩ := h
  -- the library's two rules, side by side; which one serves, the mirror's value tells beforehand
  refine ⟨_, walk_or (pi_list h1) (pi_tup h1), fun σ ρ G F H Rr o w => ?_⟩
  have w := Wp.ofBindM w
  cases ef : f ρ with
  | fail => rw [ef] at w; exact w.elim
  | exc x =>
    rw [ef] at w
    exact .inl (EX.use (P := fun _ => False) te h2 o (by rw [ef]; exact w) (fun _ z => z.elim) fun _ z => z)
  | ok r =>
    rw [ef] at w
    have hw : ∀ (N : Exn → Prop), Wp (f ρ) (fun r' => r' = r) N := fun N => by rw [ef]; rfl
    obtain ⟨d, ρ1⟩ := r
    cases d with
    | tup ds =>
      refine .inr (EX.use te h2 o (hw fun _ => False) (fun r' er v G1 F1 H1 fp x1 o1 q hp => ?_) fun _ z => z.elim)
      subst er
      have q : Rp X.K X.mg G1 v (.tup ds) := q.1
      obtain ⟨a, vs, rfl, ha, rr⟩ := q.tup_inv
      exact ⟨a, rfl, ⟨vs, .of (o1.gh _ _ ha)⟩, w _ G1 F1 H1 x1 o1.drop (itok_t ha rr) hp⟩
    | lst ds =>
      refine .inl (EX.use te h2 o (hw fun _ => False) (fun r' er v G1 F1 H1 fp x1 o1 q hp => ?_) fun _ z => z.elim)
      subst er
      have q : Rp X.K X.mg G1 v (.lst ds) := q.1
      obtain ⟨a, vs, rfl, ha, rr⟩ := q.lst_inv
      exact ⟨a, rfl, ⟨vs, .of (o1.gh _ _ ha)⟩, w _ G1 F1 H1 x1 o1.drop (itok_l ha rr) hp⟩
    | _ => exact w.elim
/-! ranges -/
def rg1 : List D → Option (List D)
  | [.int k] => if rgOk 0 k = true then some (rgD 0 k) else none
  | _ => none
def rg2 : List D → Option (List D)
  | [.int a, .int b] => if rgOk a b = true then some (rgD a b) else none
  | _ => none
def rgN (i j c : Int) : Nat := (Builtin.Range.rangeSize i j c).toNat
def rg3Ok (i j c : Int) : Bool := rgOk i j && (decide (c ≠ 0 ∧ c.natAbs < 1000000) && (Builtin.Range.small i j c && decide (Builtin.Range.rangeSize i j c = ((rgN i j c : Nat) : Int))))
def rgD3 (i j c : Int) : List D := (List.range (rgN i j c)).map fun k => D.int (i + (k : Nat) * c)
def rg3 : List D → Option (List D)
  | [.int a, .int b, .int c] => if rg3Ok a b c = true then some (rgD3 a b c) else none
  | _ => none
theorem rgD_len (a b : Int) : (rgD a b).length = (b - a).toNat := by unfold rgD; rw [List.length_map, List.length_range]
theorem itok_r {K : PySem.W.Frag} {mg : Str → Option Value} {G0 : Hp} (a b : Int) : ItOk K mg (Itr a (b - a).toNat) (rgD a b) G0 where
  stop := fun i H s hl => by rw [rgD_len] at hl; exact hl
  go := fun i H s hl => by rw [rgD_len] at hl; exact hl
  yld := fun i H x H' G F d y s gf fh e => by
    obtain ⟨rfl, rfl⟩ := y
    unfold rgD at e
    rw [List.getElem?_map] at e
    obtain ⟨k, e1, rfl⟩ := Option.map_eq_some_iff.mp e
    have hk := List.getElem?_eq_some_iff.mp e1
    obtain ⟨_, e2⟩ := hk
    rw [List.getElem_range] at e2
    subst e2
    exact ⟨G, F, .refl gf fh, .int _⟩
theorem itok_r3 {K : PySem.W.Frag} {mg : Str → Option Value} {G0 : Hp} (a b c : Int) : ItOk K mg (Itc a c (rgN a b c)) (rgD3 a b c) G0 where
  stop := fun i H s hl => by unfold rgD3 at hl; rw [List.length_map, List.length_range] at hl; exact hl
  go := fun i H s hl => by unfold rgD3 at hl; rw [List.length_map, List.length_range] at hl; exact hl
  yld := fun i H x H' G F d y s gf fh e => by
    obtain ⟨rfl, rfl⟩ := y
    unfold rgD3 at e
    rw [List.getElem?_map] at e
    obtain ⟨k, e1, rfl⟩ := Option.map_eq_some_iff.mp e
    have hk := List.getElem?_eq_some_iff.mp e1
    obtain ⟨_, e2⟩ := hk
    rw [List.getElem_range] at e2
    subst e2
    exact ⟨G, F, .refl gf fh, .int _⟩
def iRg (g : List D → Option (List D)) (fa : M (List D)) : M (List D) := fa.bind fun ds => M.ofO (g ds)
theorem ix_rg1 {tg a : Expr} {fa : M (List D)} {pp pos : Pos} (hm : X.mg "range" = none) (h : AX X W c p [.val (.rd 0)] [a] fa) (hg : Gl X "range" := by rfl) (hs : starEach [a] X.env = [(false, eval a X.env)] := by rfl) :
    IX X W c p tg (.Call (.Name "range" pp) [a] [] pos) (iRg rg1 fa) := by
  obtain ⟨ta, h1, h2⟩ := h
  refine ⟨_, pi_range1 hg hm h1 hs, fun σ ρ G F H Rr o w => ?_⟩
  refine h2 σ ρ G F H _ o ((Wp.ofBindM w).imp (fun r hr => ?_) fun _ z => z)
  intro vs G1 F1 H1 x1 o1 q1 hp1
  obtain ⟨d, v, fp, e1, rfl, q⟩ := valL1 q1
  have q : Rp X.K X.mg G1 v d := q.1
  rw [e1] at hr
  unfold M.ofO at hr
  split at hr
  · rename_i xs hx
    cases q <;> first | (cases hx; done) | skip
    rename_i k
    have hx : (if rgOk 0 k = true then some (rgD 0 k) else none) = some xs := hx
    split at hx
    · rename_i hk
      cases hx
      have hk := rgOk_ok hk
      refine ⟨k, rfl, hk.2.2.1, hk.2.2.2.1, hr _ G1 F1 H1 x1 o1 ?_ hp1⟩
      have := itok_r (K := X.K) (mg := X.mg) (G0 := G1) 0 k
      rw [Int.sub_zero] at this
      exact this
    · cases hx
  · exact hr.elim
theorem ix_rg2 {tg a b : Expr} {fa : M (List D)} {pp pos : Pos} (hm : X.mg "range" = none) (h : AX X W c p [.val (.rd 0), .val (.rd 0)] [a, b] fa) (hg : Gl X "range" := by rfl) (hs : starEach [a, b] X.env = [(false, eval a X.env), (false, eval b X.env)] := by rfl) (hs2 : starEach [b] X.env = [(false, eval b X.env)] := by rfl) :
    IX X W c p tg (.Call (.Name "range" pp) [a, b] [] pos) (iRg rg2 fa) := by
  obtain ⟨ta, h1, h2⟩ := h
  refine ⟨_, pi_range2 hg hm h1 hs hs2, fun σ ρ G F H Rr o w => ?_⟩
  refine h2 σ ρ G F H _ o ((Wp.ofBindM w).imp (fun r hr => ?_) fun _ z => z)
  intro vs G1 F1 H1 x1 o1 q1 hp1
  obtain ⟨d, v, fp, d', v', fp', e1, rfl, q, q'⟩ := valL2 q1
  have q : Rp X.K X.mg G1 v d := q.1
  have q' : Rp X.K X.mg G1 v' d' := q'.1
  rw [e1] at hr
  unfold M.ofO at hr
  split at hr
  · rename_i xs hx
    cases q <;> first | (cases hx; done) | skip
    cases q' <;> first | (cases hx; done) | skip
    rename_i i j
    have hx : (if rgOk i j = true then some (rgD i j) else none) = some xs := hx
    split at hx
    · rename_i hk
      cases hx
      have hk := rgOk_ok hk
      exact ⟨i, j, rfl, ⟨hk.1, hk.2.1, hk.2.2.1, hk.2.2.2.1⟩, hr _ G1 F1 H1 x1 o1 (itok_r i j) hp1⟩
    · cases hx
  · exact hr.elim
theorem ix_rg3 {tg a b d : Expr} {fa : M (List D)} {pp pos : Pos} (hm : X.mg "range" = none) (h : AX X W c p [.val (.rd 0), .val (.rd 0), .val (.rd 0)] [a, b, d] fa)
    (hpi : ∀ {ta}, PA X [a, b, d] ta → PI X tg (.Call (.Name "range" pp) [a, b, d] [] pos) (iRng3 ta)) :
    IX X W c p tg (.Call (.Name "range" pp) [a, b, d] [] pos) (iRg rg3 fa) := by
  obtain ⟨ta, h1, h2⟩ := h
  refine ⟨_, hpi h1, fun σ ρ G F H Rr o w => ?_⟩
  refine h2 σ ρ G F H _ o ((Wp.ofBindM w).imp (fun r hr => ?_) fun _ z => z)
  intro vs G1 F1 H1 x1 o1 q1 hp1
  obtain ⟨ds, ρ1⟩ := r
  cases q1 with
  | @val _ _ d0 v0 _ _ _ q q1 =>
    obtain ⟨d', v', fp', d'', v'', fp'', e1, rfl, q', q''⟩ := valL2 q1
    subst e1
    replace q : Rp X.K X.mg G1 v0 d0 := q.1
    replace q' : Rp X.K X.mg G1 v' d' := q'.1
    replace q'' : Rp X.K X.mg G1 v'' d'' := q''.1
    unfold M.ofO at hr
    split at hr
    · rename_i xs hx
      cases q <;> first | (cases hx; done) | skip
      cases q' <;> first | (cases hx; done) | skip
      cases q'' <;> first | (cases hx; done) | skip
      rename_i i j k
      have hx : (if rg3Ok i j k = true then some (rgD3 i j k) else none) = some xs := hx
      split at hx
      · rename_i hk
        cases hx
        unfold rg3Ok at hk
        rw [Bool.and_eq_true, Bool.and_eq_true, Bool.and_eq_true] at hk
        have h2 := of_decide_eq_true hk.2.1
        exact ⟨i, j, k, rgN i j k, rfl, ⟨h2.1, by omega, hk.2.2.1, of_decide_eq_true hk.2.2.2⟩, hr _ G1 F1 H1 x1 o1 (itok_r3 i j k) hp1⟩
      · cases hx
    · exact hr.elim
/-! zip of two lists, of two tuples -/
def zipD : List D → List D → List D
  | x :: xs, y :: ys => .tup [x, y] :: zipD xs ys
  | _, _ => []
theorem zipD_at : ∀ {xs ys : List D} {i : Nat} {d : D}, (zipD xs ys)[i]? = some d → ∃ x y, xs[i]? = some x ∧ ys[i]? = some y ∧ d = .tup [x, y]
  | [], _, i, d, h => by simp [zipD] at h
  | _ :: _, [], i, d, h => by simp [zipD] at h
  | x :: xs, y :: ys, 0, d, h => by
    simp [zipD] at h
    exact ⟨x, y, rfl, rfl, h.symm⟩
  | x :: xs, y :: ys, i + 1, d, h => by
    obtain ⟨a, b, h1, h2, h3⟩ := zipD_at (xs := xs) (ys := ys) (i := i) (d := d) (by simpa [zipD] using h)
    exact ⟨a, b, by simpa using h1, by simpa using h2, h3⟩
theorem zipD_len : ∀ (xs ys : List D), (zipD xs ys).length = min xs.length ys.length
  | [], ys => by simp [zipD]
  | _ :: _, [] => by simp [zipD]
  | x :: xs, y :: ys => by simp [zipD, zipD_len xs ys]
def zipM : List D → Option (List D)
  | [.tup a, .tup b] => some (zipD a b)
  | [.lst a, .lst b] => some (zipD a b)
  | _ => none
theorem pair_new {K : PySem.W.Frag} {mg : Str → Option Value} {G F H : Hp} {T : Addr} {x y : V} {d e : D} (gf : Same G F) (fh : Same F H) (hT : H T = none) (q1 : Rp K mg G x d) (q2 : Rp K mg G y e) : ∃ G' F', Grow G F H G' F' (upd H T (.tup [x, y])) [] ∧ Rp K mg G' (.ref T) (.tup [d, e]) :=
  have g := Grow.sh (o := .tup [x, y]) gf fh hT
  ⟨_, _, g, .tup upd_same (.cons (q1.mono g.x.g) (.cons (q2.mono g.x.g) .nil))⟩
theorem itok_z {K : PySem.W.Frag} {mg : Str → Option Value} {G0 : Hp} {a b : Addr} {vs us : List V} {ds es : List D} (h : G0 a = some (.lst vs)) (r : RpL K mg G0 vs ds) (h' : G0 b = some (.lst us)) (r' : RpL K mg G0 us es) : ItOk K mg (Itz K a b) (zipD ds es) G0 where
  stop := fun i H s hl => ⟨vs, us, .of (s _ _ h), .of (s _ _ h'), by rw [zipD_len] at hl; rw [r.length, r'.length]; omega⟩
  go := fun i H s hl => by
    rw [zipD_len] at hl
    have h1 : i < vs.length := by rw [r.length]; omega
    have h2 : i < us.length := by rw [r'.length]; omega
    exact ⟨vs, us, vs[i], us[i], .of (s _ _ h), .of (s _ _ h'), List.getElem?_eq_getElem h1, List.getElem?_eq_getElem h2⟩
  yld := fun i H x H' G F d y s gf fh e => by
    obtain ⟨T, x1, x2, rfl, nT, rfl, y1, y2⟩ := y
    obtain ⟨d1, d2, e1, e2, rfl⟩ := zipD_at e
    have k1 := y1 vs (.of (fh _ _ (gf _ _ (s _ _ h))))
    have k2 := y2 us (.of (fh _ _ (gf _ _ (s _ _ h'))))
    obtain ⟨v1, w1, q1⟩ := r.getD e1
    obtain ⟨v2, w2, q2⟩ := r'.getD e2
    rw [k1] at w1
    cases w1
    rw [k2] at w2
    cases w2
    exact pair_new gf fh nT (q1.mono s) (q2.mono s)
theorem itok_zT {K : PySem.W.Frag} {mg : Str → Option Value} {G0 : Hp} {a b : Addr} {vs us : List V} {ds es : List D} (h : G0 a = some (.tup vs)) (r : RpL K mg G0 vs ds) (h' : G0 b = some (.tup us)) (r' : RpL K mg G0 us es) : ItOk K mg (RZ.ItzT K a b) (zipD ds es) G0 where
  stop := fun i H s hl => ⟨vs, us, .of (s _ _ h), .of (s _ _ h'), by rw [zipD_len] at hl; rw [r.length, r'.length]; omega⟩
  go := fun i H s hl => by
    rw [zipD_len] at hl
    have h1 : i < vs.length := by rw [r.length]; omega
    have h2 : i < us.length := by rw [r'.length]; omega
    exact ⟨vs, us, vs[i], us[i], .of (s _ _ h), .of (s _ _ h'), List.getElem?_eq_getElem h1, List.getElem?_eq_getElem h2⟩
  yld := fun i H x H' G F d y s gf fh e => by
    obtain ⟨T, x1, x2, rfl, nT, rfl, y1, y2⟩ := y
    obtain ⟨d1, d2, e1, e2, rfl⟩ := zipD_at e
    have k1 := y1 vs (.of (fh _ _ (gf _ _ (s _ _ h))))
    have k2 := y2 us (.of (fh _ _ (gf _ _ (s _ _ h'))))
    obtain ⟨v1, w1, q1⟩ := r.getD e1
    obtain ⟨v2, w2, q2⟩ := r'.getD e2
    rw [k1] at w1
    cases w1
    rw [k2] at w2
    cases w2
    exact pair_new gf fh nT (q1.mono s) (q2.mono s)
theorem ix_zip {e e2 : Expr} {elts : List Expr} {kk : Nat} {fa : M (List D)} {pp pos tpos : Pos} (h : AX X W c p [.val (.rd 0), .val (.rd 0)] [e, e2] fa)
    (hpi : ∀ {ta}, PA X [e, e2] ta → PI X (.Tuple elts kk tpos) (.Call (.Name "zip" pp) [e, e2] [] pos) (RZ.iZipA X.K ta)) : IX X W c p (.Tuple elts kk tpos) (.Call (.Name "zip" pp) [e, e2] [] pos) (iRg zipM fa) := by
  obtain ⟨ta, h1, h2⟩ := h
  refine ⟨_, hpi h1, fun σ ρ G F H Rr o w => ?_⟩
  refine h2 σ ρ G F H _ o ((Wp.ofBindM w).imp (fun r hr => ?_) fun _ z => z)
  intro vs G1 F1 H1 x1 o1 q1 hp1
  obtain ⟨d, v, fp, d', v', fp', e1, rfl, q, q'⟩ := valL2 q1
  have q : Rp X.K X.mg G1 v d := q.1
  have q' : Rp X.K X.mg G1 v' d' := q'.1
  rw [e1] at hr
  unfold M.ofO at hr
  split at hr
  · rename_i xs hx
    unfold zipM at hx
    split at hx
    · rename_i eq
      cases eq
      cases hx
      obtain ⟨a, us, rfl, ha, ra⟩ := q.tup_inv
      obtain ⟨b, ws, rfl, hb, rb⟩ := q'.tup_inv
      exact ⟨a, b, us, ws, rfl, .inr ⟨.of (o1.gh _ _ ha), .of (o1.gh _ _ hb), hr _ G1 F1 H1 x1 o1 (itok_zT ha ra hb rb) hp1⟩⟩
    · rename_i eq
      cases eq
      cases hx
      obtain ⟨a, us, rfl, ha, ra⟩ := q.lst_inv
      obtain ⟨b, ws, rfl, hb, rb⟩ := q'.lst_inv
      exact ⟨a, b, us, ws, rfl, .inl ⟨.of (o1.gh _ _ ha), .of (o1.gh _ _ hb), hr _ G1 F1 H1 x1 o1 (itok_z ha ra hb rb) hp1⟩⟩
    · cases hx
  · exact hr.elim
/-! ### for -/
def forN (tg : D → PV.Env → Option PV.Env) (b : SM) (ds : List D) : SM := List.rec (motive := fun _ => SM) (fun ρ => .nx ρ) (fun d _ ih ρ => match tg d ρ with
    | some ρ1 => sSeq b ih ρ1
    | none => .fail) ds
theorem forN_nil (tg : D → PV.Env → Option PV.Env) (b : SM) (ρ : PV.Env) : forN tg b [] ρ = .nx ρ := rfl
theorem forN_cons (tg : D → PV.Env → Option PV.Env) (b : SM) (d : D) (r : List D) (ρ : PV.Env) : forN tg b (d :: r) ρ = match tg d ρ with
    | some ρ1 => sSeq b (forN tg b r) ρ1
    | none => .fail := rfl
def sFor (f : M (List D)) (tg : D → PV.Env → Option PV.Env) (b : SM) : SM := sDo f fun ds ρ => forN tg b ds ρ
theorem sx_for (ok : Cok X W) (po : Pso X) {tg iter : Expr} {is : List Nat} {b : List Stmt} {f : M (List D)} {g : D → PV.Env → Option PV.Env} {fb : SM} {pos : Pos} (hi : IX X W c p tg iter f) (hg : GX X c tg is g) (hb : SXs X W c rk b fb) (hs : ∀ x, foldedSetIterable iter X.env x = pure x := by intro _; rfl) :
    SX X W c rk (.For tg iter b [] pos) (sFor f g fb) := by
  obtain ⟨wi, i1, i2⟩ := hi
  obtain ⟨_, tg', g1, g2⟩ := hg
  obtain ⟨tb, b1, b2⟩ := hb
  refine ⟨_, ps_for po ok.calm i1 g1 b1 hs, fun D σ ρ G F H o w => ?_⟩
  refine i2 σ ρ G F H _ o ((WpS.ofDo w).imp (fun r hr => ?_) fun _ z => Nx.toS z)
  intro J G1 F1 H1 x1 o1 it hp1
  refine ⟨fun i m σ' H' => i + m = r.1.length ∧ ∃ ρ' G' F', Ext G F G' F' ∧ Same G1 G' ∧ Ok X.K X.mg c [] G' F' H' σ' ρ' ∧ σ'.length = σ.length ∧ WpS (forN g fb (r.1.drop i) ρ') (PNx X c D σ' G' F') (PRt X c rk D G' F') (NxS X.K X.mg W σ'.length G' F'),
    ⟨r.1.length, Nat.zero_add _, r.2, G1, F1, x1, .refl _, o1, rfl, ?_⟩, fun i m σ2 H2 hw => ?_⟩
  · exact WpS.imp hr (fun ρ2 q σ2 G2 F2 H2 x2 o2 hl2 => q σ2 G2 F2 H2 (x1.trans x2) o2 hl2) (fun d ρ2 q σ2 v G2 F2 H2 fp x2 o2 ow => q σ2 v G2 F2 H2 fp (x1.trans x2) o2 ow) fun x q => q.ext x1
  · obtain ⟨em, ρ2, G2, F2, x2, s2, o2, hl2, w2⟩ := hw
    by_cases hi : i < r.1.length
    · rw [List.drop_eq_getElem_cons hi] at w2
      refine .inr ⟨it.go i H2 (s2.trans o2.gh) hi, fun σ3 H3 => i + 1 + (m - 1) = r.1.length ∧ ∃ ρ' G' F', Ext G F G' F' ∧ Same G1 G' ∧ Ok X.K X.mg c [] G' F' H3 σ3 ρ' ∧ σ3.length = σ.length ∧ WpS (forN g fb (r.1.drop (i + 1)) ρ') (PNx X c D σ3 G' F') (PRt X c rk D G' F') (NxS X.K X.mg W σ3.length G' F'), fun σ3 H3 q => ⟨m - 1, by omega, q⟩, fun x H3 y => ?_⟩
      obtain ⟨G3, F3, gr, q⟩ := it.yld i H2 x H3 G2 F2 _ y s2 o2.gf o2.fh (List.getElem?_eq_getElem hi)
      have o3 := o2.grown gr
      simp only [forN_cons] at w2
      split at w2
      · rename_i ρ3 eg
        refine g2 σ2 ρ2 ρ3 G3 F3 H3 _ x _ o3 q eg fun σ3 o4 hl3 _ => ?_
        refine b2 _ σ3 ρ3 G3 F3 H3 o4 ?_
        unfold sSeq at w2
        cases e : fb ρ3 with
        | nx ρ4 =>
          rw [e] at w2
          intro σ4 G4 F4 H4 x4 o5 hl4
          refine ⟨by omega, ρ4, G4, F4, (x2.trans gr.x).trans x4, (s2.trans gr.x.g).trans x4.g, o5, hl4.trans (hl3.trans hl2), WpS.imp w2 (fun ρ5 q σ5 G5 F5 H5 x5 o5 hl5 => q σ5 G5 F5 H5 ((gr.x.trans x4).trans x5) o5 (hl5.trans (hl4.trans hl3))) (fun d ρ5 q σ5 v G5 F5 H5 fp x5 o5 ow => q σ5 v G5 F5 H5 fp ((gr.x.trans x4).trans x5) o5 ow) fun x q => by rw [hl4, hl3]; exact q.ext (gr.x.trans x4)⟩
        | rt d ρ4 =>
          rw [e] at w2
          intro σ4 v G4 F4 H4 fp x4 o5 ow
          exact w2 σ4 v G4 F4 H4 fp (gr.x.trans x4) o5 ow
        | exc x =>
          rw [e] at w2
          have w2 : NxS X.K X.mg W σ2.length G2 F2 x := w2
          rw [hl3]
          exact w2.ext gr.x
        | fail => rw [e] at w2; exact w2
      · exact w2.elim
    · have hn : r.1.length ≤ i := Nat.le_of_not_lt hi
      rw [List.drop_eq_nil_of_le hn] at w2
      refine .inl ⟨it.stop i H2 (s2.trans o2.gh) hn, ?_⟩
      have w2 : PNx X c D σ2 G2 F2 ρ2 := w2
      exact w2 σ2 G2 F2 H2 (.refl _ _) o2 rfl
end
end
end PV

set_option Elab.async false
set_option linter.all false
set_option maxRecDepth 100000
set_option maxHeartbeats 0
namespace PV
noncomputable section
open PySem PySem.Spec
open PyProof.Rows L2

/-! ## 16. list comprehensions -/
abbrev W0 : WX := fun _ _ _ _ => False
theorem cok_blk {X : Cx} {W : WX} (ok : Cok X W) {s : Shared} {H : Hp} {scope : Scope} {ce : PySem.Env} {fp : List Addr} : Cok (X.blk s H scope ce fp) W0 := ⟨fun _ _ x => by
  rcases x with ⟨_, _, _, _, _, _, _, _, _, _, _, _, _, _, _, _, z⟩
  exact z.elim, ok.calm⟩
/-! what a derivation says, with no context: the same for every block -/
def canE (K : PySem.W.Frag) (mg : Str → Option Value) (c : Fc) (p : Bool) (m : Md) (f : M D) : TE := fun σ H Q => ∃ ρ G F, Ok K mg c [] G F H σ ρ ∧
  Wp (f ρ) (fun r => ∀ v G' F' H' fp, Ext G F G' F' → Ok K mg c fp G' F' H' σ r.2 → Val K mg m G' H' r.1 v fp → (p = true → r.2 = ρ ∧ Same H H') → Q v H') (fun _ => False)
def canT (K : PySem.W.Frag) (mg : Str → Option Value) (c : Fc) (p : Bool) (f : M Bool) : TT := fun σ H Q => ∃ ρ G F, Ok K mg c [] G F H σ ρ ∧
  Wp (f ρ) (fun r => ∀ G' F' H', Ext G F G' F' → Ok K mg c [] G' F' H' σ r.2 → (p = true → r.2 = ρ ∧ Same H H') → Q r.1 H') (fun _ => False)
def canG (K : PySem.W.Frag) (mg : Str → Option Value) (c : Fc) (is : List Nat) (g : D → PV.Env → Option PV.Env) : TG := fun v σ H Q => ∃ ρ ρ' G F d, Ok K mg c [] G F H σ ρ ∧ Rp K mg G v d ∧ g d ρ = some ρ' ∧
  ∀ σ', Ok K mg c [] G F H σ' ρ' → σ'.length = σ.length → (∀ vs : List Nat, (∀ i ∈ is, i ∈ vs) → wipe σ' vs = wipe σ vs) → Q σ' H
def canI (K : PySem.W.Frag) (mg : Str → Option Value) (c : Fc) (p : Bool) (f : M (List D)) : TI := fun σ H Rr => ∃ ρ G F, Ok K mg c [] G F H σ ρ ∧
  Wp (f ρ) (fun r => ∀ J G' F' H', Ext G F G' F' → Ok K mg c [] G' F' H' σ r.2 → ItOk K mg J r.1 G' → (p = true → r.2 = ρ ∧ Same H H') → Rr J H') (fun _ => False)
section
variable {X : Cx} {c : Fc} {p : Bool} {m : Md}
theorem nx0 {K : PySem.W.Frag} {mg : Str → Option Value} {σ : L2.St} {G F : Hp} {x : Exn} (h : False) : Nx K mg W0 σ G F x := h.elim
theorem EX.can {e : Expr} {f : M D} (h : EX X W0 c p m e f) : PE X e (canE X.K X.mg c p m f) := by
  obtain ⟨te, h1, h2⟩ := h
  refine ⟨fun pins s σ H Q I q => h1.run pins s σ H Q I ?_⟩
  obtain ⟨ρ, G, F, o, w⟩ := q
  exact h2 σ ρ G F H Q o (w.imp (fun _ z => z) fun _ z => z.elim)
theorem TX.can {e : Expr} {f : M Bool} (h : TX X W0 c p e f) : PT X e (canT X.K X.mg c p f) := by
  obtain ⟨te, h1, h2⟩ := h
  refine ⟨fun pins s σ H Q I q => h1.run pins s σ H Q I ?_⟩
  obtain ⟨ρ, G, F, o, w⟩ := q
  exact h2 σ ρ G F H Q o (w.imp (fun _ z => z) fun _ z => z.elim)
theorem GX.can {e : Expr} {is : List Nat} {g : D → PV.Env → Option PV.Env} (h : GX X c e is g) : PG X e (canG X.K X.mg c is g) := by
  obtain ⟨_, te, h1, h2⟩ := h
  refine ⟨fun pins s σ H v u Q I r q => h1.run pins s σ H v u Q I r ?_⟩
  obtain ⟨ρ, ρ', G, F, d, o, rp, e, w⟩ := q
  exact h2 σ ρ ρ' G F H d v Q o rp e w
theorem IX.can {tg e : Expr} {f : M (List D)} (h : IX X W0 c p tg e f) : PI X tg e (canI X.K X.mg c p f) := by
  obtain ⟨te, h1, h2⟩ := h
  refine ⟨fun pins s σ H Q I q => h1.run pins s σ H Q I ?_⟩
  obtain ⟨ρ, G, F, o, w⟩ := q
  exact h2 σ ρ G F H Q o (w.imp (fun _ z => z) fun _ z => z.elim)
end
/-- a clause's tests: none or one -/
def TXs (X : Cx) (c : Fc) (p : Bool) (ifs : List Expr) (f : M Bool) : Prop := PTs X ifs (canT X.K X.mg c p f)
def tTrue : M Bool := M.pure true
theorem txs_nil {X : Cx} {c : Fc} : TXs X c true [] tTrue := ⟨fun pins s σ H Q I q => by
  obtain ⟨ρ, G, F, o, w⟩ := q
  exact pts_nil.run pins s σ H Q I (w G F H (.refl _ _) o fun _ => ⟨rfl, .refl _⟩)⟩
theorem txs_one {X : Cx} {c : Fc} {p : Bool} {e : Expr} {f : M Bool} (h : TX X W0 c p e f) : TXs X c p [e] f := pts_one h.can
/-! the slots of the block's names, before and behind -/
def restE (ρ1 : PV.Env) : List Nat → PV.Env → PV.Env
  | [], ρ => ρ
  | v :: vs, ρ => put (restE ρ1 vs ρ) v (look ρ1 v)
theorem restE_cons (ρ1 : PV.Env) (v : Nat) (vs : List Nat) (ρ : PV.Env) : restE ρ1 (v :: vs) ρ = (restE ρ1 vs ρ).set v (look ρ1 v) := put_eq _ _ _
theorem restE_len (ρ1 : PV.Env) : ∀ (vs : List Nat) (ρ : PV.Env), (restE ρ1 vs ρ).length = ρ.length
  | [], _ => rfl
  | v :: vs, ρ => by rw [restE_cons, List.length_set, restE_len ρ1 vs ρ]
theorem restE_at {ρ1 ρ : PV.Env} {j : Nat} : ∀ {vs : List Nat}, j ∉ vs → (restE ρ1 vs ρ)[j]? = ρ[j]?
  | [], _ => rfl
  | v :: vs, h => by
    rw [restE_cons]
    rw [List.getElem?_set_ne (fun e => h (by rw [e]; exact List.mem_cons_self))]
    exact restE_at fun z => h (List.mem_cons_of_mem _ z)
theorem restE_in {ρ1 ρ : PV.Env} {j : Nat} : ∀ {vs : List Nat}, j ∈ vs → (restE ρ1 vs ρ)[j]? = if j < ρ.length then some (look ρ1 j) else none
  | [], h => nomatch h
  | v :: vs, h => by
    rw [restE_cons]
    by_cases e : v = j
    · subst e
      by_cases hl : v < ρ.length
      · rw [if_pos hl, List.getElem?_set_self (by rw [restE_len]; exact hl)]
      · rw [if_neg hl, List.getElem?_eq_none (by rw [List.length_set, restE_len]; omega)]
    · rw [List.getElem?_set_ne e]
      exact restE_in ((List.mem_cons.mp h).resolve_left fun z => e z.symm)
theorem look_get {ρ : PV.Env} {j : Nat} (h : j < ρ.length) : ρ[j]? = some (look ρ j) := by
  cases e : look ρ j with
  | some d => exact look_eq.mp e
  | none =>
    rw [List.getElem?_eq_getElem h]
    cases q : ρ[j] with
    | none => rfl
    | some d =>
      have : look ρ j = some d := look_eq.mpr (by rw [List.getElem?_eq_getElem h, q])
      rw [e] at this
      cases this
theorem restE_wipe {ρ1 ρ : PV.Env} {vs : List Nat} (h : wipeG ρ vs = wipeG ρ1 vs) : restE ρ1 vs ρ = ρ1 := by
  have hl : ρ.length = ρ1.length := by rw [← wipeG_len ρ vs, h, wipeG_len]
  apply List.ext_getElem?; intro j
  by_cases hj : j ∈ vs
  · rw [restE_in hj]
    by_cases hlj : j < ρ.length
    · rw [if_pos hlj, look_get (by rw [← hl]; exact hlj)]
    · rw [if_neg hlj, List.getElem?_eq_none (by omega)]
  · rw [restE_at hj, ← wipeG_at hj, h, wipeG_at hj]
def ownVs (c : Fc) (vs : List Nat) : Bool := vs.all fun i => (match c.kd i with | .own 0 => true | _ => false) && noIo c i
theorem ownVs_at {c : Fc} {vs : List Nat} (h : ownVs c vs = true) {i : Nat} (hi : i ∈ vs) : c.kd i = .own 0 ∧ noIo c i = true := by
  have := List.all_eq_true.mp h i hi
  rw [Bool.and_eq_true] at this
  refine ⟨?_, this.2⟩
  have := this.1
  split at this
  · assumption
  · cases this
section
variable {K : PySem.W.Frag} {mg : Str → Option Value} {c : Fc} {T fp : List Addr} {G F H G' F' H' G1 F1 H1 : Hp} {σ : L2.St} {ρ ρ1 : PV.Env} {vs : List Nat}
theorem Ok.wiped (o : Ok K mg c T G F H σ ρ) : ∀ {vs : List Nat}, ownVs c vs = true → Ok K mg c T G F H (wipe σ vs) (wipeG ρ vs)
  | [], _ => o
  | v :: vs, h => by
    have h' : ownVs c vs = true := List.all_eq_true.mpr fun i hi => List.all_eq_true.mp h i (List.mem_cons_of_mem _ hi)
    have hv := ownVs_at h List.mem_cons_self
    unfold wipe
    rw [wipeG_cons]
    exact (Ok.wiped o h').unset v none hv.2
theorem Ok.rest (o1 : Ok K mg c [] G1 F1 H1 σ ρ1) (x : Ext G1 F1 G F) (o : Ok K mg c T G F H (wipe σ vs) (wipeG ρ vs)) (hv : ownVs c vs = true) : Ok K mg c T G F H σ (restE ρ1 vs ρ) := by
  obtain ⟨fps1, k1, k0, _, _, _, _, _, _⟩ := o1.slt
  obtain ⟨fps, h1, h0, h2, h3, h4, h5, h6, h7⟩ := o.slt
  have hl : ρ.length = σ.length := by
    have := o.len
    rw [wipeG_len, wipe_eq, wipeG_len] at this
    exact this
  have nin : ∀ i, i ∈ vs → fps i = [] := fun i hi => h0 i fun ⟨d, e⟩ => by
    rw [wipeG_in hi] at e
    split at e <;> cases e
  refine ⟨o.gf, o.fh, o.bf, by rw [restE_len]; exact hl, o1.io, fps, fun i d e => ?_, fun i hi => ?_, h2, h3, h4, h5, h6, h7⟩
  · by_cases hi : i ∈ vs
    · rw [restE_in hi] at e
      split at e
      · have e : look ρ1 i = some d := Option.some.inj e
        obtain ⟨v, e1, q⟩ := k1 i d (look_eq.mp e)
        refine ⟨v, e1, ?_⟩
        rw [(ownVs_at hv hi).1] at q ⊢
        rw [nin i hi]
        exact ⟨q.1.mono x.g, rfl⟩
      · cases e
    · rw [restE_at hi] at e
      obtain ⟨v, e1, q⟩ := h1 i d (by rw [wipeG_at hi]; exact e)
      rw [wipe_eq, wipeG_at hi] at e1
      exact ⟨v, e1, q⟩
  · by_cases hv : i ∈ vs
    · exact nin i hv
    · refine h0 i fun ⟨d, e⟩ => hi ⟨d, ?_⟩
      rw [restE_at hv]
      rw [wipeG_at hv] at e
      exact e
theorem same_off {a : Addr} {u : HO} (s : Same H H') (h : H a = none) : Same H (upd H' a u) := fun b x e => by
  rw [upd_ne (ne_of_none e h)]
  exact s b x e
/-- the heap changes at own objects that no slot has -/
theorem Ok.reheap (o : Ok K mg c T G F H σ ρ) (h : ∀ a, a ∉ T → H' a = H a) : Ok K mg c T G F H' σ ρ := by
  obtain ⟨fps, h1, h0, h2, h3, h4, h5, h6, h7⟩ := o.slt
  refine ⟨o.gf, fun a u e => ?_, o.bf, o.len, o.io, fps, fun i d e => ?_, h0, h2, h3, h4, h5, h6, h7⟩
  · rw [h a fun z => by rw [h6 a z] at e; cases e]
    exact o.fh a u e
  · obtain ⟨v, e1, q⟩ := h1 i d e
    exact ⟨v, e1, Slt.frame (.refl G F) (fun a ha u e => by rw [h a (h7 i a ha)]; exact e) q⟩
theorem mdK_own {k : Nat} {d : D} {v : V} {fp : List Addr} (q : Val K mg (mdK (.own k)) G H d v fp) : Own K mg G H k d v fp := by
  cases k with
  | zero => exact ⟨q.1, q.2⟩
  | succ k => exact q
theorem Own.push {k : Nat} {ds : List D} {a : Addr} {rest : List Addr} {vs : List V} {d : D} {v : V} (ha : H a = some (.lst vs)) (h : Own K mg G H (k + 1) (.lst ds) (.ref a) (a :: rest)) (hv : Own K mg G H k d v fp) (nd : (a :: rest ++ fp).Nodup) :
    Own K mg G (upd H a (.lst (vs ++ [v]))) (k + 1) (.lst (ds ++ [d])) (.ref a) (a :: rest ++ fp) := by
  obtain ⟨a', rest', vs', e1, e2, ha', hl⟩ := h.lst_inv
  cases e1
  cases e2
  · rw [ha] at ha'
    cases ha'
    have nd := List.nodup_cons.mp nd
    have fr : ∀ {d : D} {v : V} {f : List Addr}, (∀ b ∈ f, b ∈ rest ++ fp) → Own K mg G H k d v f → Own K mg G (upd H a (.lst (vs ++ [v]))) k d v f := fun hf q => q.frame (.refl _) fun b hb o e => by
      rw [upd_ne (fun z => nd.1 (by rw [← z]; exact hf b hb))]
      exact e
    have fr : ∀ {d' : D} {v' : V} {f : List Addr}, (∀ b ∈ f, b ∈ rest ++ fp) → Own K mg G H k d' v' f → Own K mg G (upd H a (.lst (vs ++ [v]))) k d' v' f := fun hf q => q.frame (.refl _) fun b hb o e => by
      rw [upd_ne (fun z => nd.1 (by rw [← z]; exact hf b hb))]
      exact e
    refine Own.mkL (rest := rest ++ fp) upd_same ?_
    have := OwnL.append (hl.imp fun d' v' f hf q => fr (fun b hb => List.mem_append_left _ (hf b hb)) q) (OwnL.cons (fr (fun b hb => List.mem_append_right _ hb) hv) .nil)
    rw [List.append_nil] at this
    exact this
end
/-- the turns of a comprehension -/
def lcN (vs : List Nat) (g : D → PV.Env → Option PV.Env) (t : M Bool) (f : M D) (ds : List D) : PV.Env → R (List D × PV.Env) := List.rec (motive := fun _ => PV.Env → R (List D × PV.Env)) (fun ρ => .ok ([], ρ)) (fun d _ ih ρ => match g d (wipeG ρ vs) with
    | none => .fail
    | some ρ1 => match t ρ1 with
      | .ok (true, ρ2) => match f ρ2 with
        | .ok (y, ρ3) => match ih ρ3 with
          | .ok (ys, ρ4) => .ok (y :: ys, ρ4)
          | _ => .fail
        | _ => .fail
      | .ok (false, ρ2) => ih ρ2
      | _ => .fail) ds
theorem lcN_cons (vs : List Nat) (g : D → PV.Env → Option PV.Env) (t : M Bool) (f : M D) (d : D) (r : List D) (ρ : PV.Env) : lcN vs g t f (d :: r) ρ = match g d (wipeG ρ vs) with
    | none => .fail
    | some ρ1 => match t ρ1 with
      | .ok (true, ρ2) => match f ρ2 with
        | .ok (y, ρ3) => match lcN vs g t f r ρ3 with
          | .ok (ys, ρ4) => .ok (y :: ys, ρ4)
          | _ => .fail
        | _ => .fail
      | .ok (false, ρ2) => lcN vs g t f r ρ2
      | _ => .fail := rfl
def eLc (vs : List Nat) (fi : M (List D)) (g : D → PV.Env → Option PV.Env) (t : M Bool) (f : M D) : M D := fi.bind fun ds ρ => if ds.length ≤ 100000 then match lcN vs g t f ds ρ with
    | .ok (ys, ρ2) => .ok (.lst ys, restE ρ vs ρ2)
    | _ => .fail
  else .fail
/-- an expression; as the value of a name's assignment too -/
def LX (X : Cx) (W : WX) (c : Fc) (p : Bool) (n : Nat) (e : Expr) (f : M D) : Prop :=
  ∃ te, PE X e te ∧ (∀ {i : Nat} {y : Str} {py spos : Pos}, X.N[i]? = some y → X.env.scope.names.lookup y = some .local → swapsWith e (some (.Name y py)) spos.line X.env = pure true → PS X (.Assign [.Name y py] e spos) (tAsg te (gName i))) ∧
  ∀ (σ : L2.St) (ρ : PV.Env) (G F H : Hp) (Q : VK), Ok X.K X.mg c [] G F H σ ρ → Wp (f ρ) (EPost X c p (.own n) σ ρ G F H Q) (Nx X.K X.mg W σ G F) → te σ H Q
/-- what stands while the new list grows -/
structure LcS (K : PySem.W.Frag) (mg : Str → Option Value) (c : Fc) (P : Bool) (k : Nat) (D0 : Addr) (G1 F1 H1 Gb : Hp) (σ : L2.St) (ρ : PV.Env) (acc : List D) (H : Hp) : Prop where
  ex : ∃ G F rest, Ext G1 F1 G F ∧ Same Gb G ∧ Ok K mg c (D0 :: rest) G F H σ ρ ∧ Own K mg G H (k + 1) (.lst acc) (.ref D0) (D0 :: rest) ∧ (P = true → Same H1 H)
section
variable {K : PySem.W.Frag} {mg : Str → Option Value} {c : Fc} {P : Bool} {k : Nat} {D0 : Addr} {G1 F1 H1 Gb H : Hp} {σ : L2.St} {ρ : PV.Env} {acc : List D}
theorem LcS.start (o : Ok K mg c [] G1 F1 H1 σ ρ) (h : H1 D0 = none) {vs : List Nat} (hv : ownVs c vs = true) : LcS K mg c P k D0 G1 F1 H1 G1 (wipe σ vs) (wipeG ρ vs) [] (upd H1 D0 (.lst [])) :=
  ⟨G1, F1, [], .refl _ _, .refl _, (o.grown (Grow.own o.gf o.fh h)).wiped hv, Own.mkL upd_same .nil, fun _ => same_upd h⟩
theorem LcS.wiped (s : LcS K mg c P k D0 G1 F1 H1 Gb σ ρ acc H) {vs : List Nat} (hv : ownVs c vs = true) : LcS K mg c P k D0 G1 F1 H1 Gb (wipe σ vs) (wipeG ρ vs) acc H := by
  obtain ⟨G, F, rest, x1, sb, o, ow, hp⟩ := s.ex
  exact ⟨G, F, rest, x1, sb, o.wiped hv, ow, hp⟩
theorem LcS.base (s : LcS K mg c P k D0 G1 F1 H1 Gb σ ρ acc H) : LcS K mg c P k D0 G1 F1 H1 G1 σ ρ acc H := by
  obtain ⟨G, F, rest, x1, sb, o, ow, hp⟩ := s.ex
  exact ⟨G, F, rest, x1, x1.g, o, ow, hp⟩
/-- for the part that runs meanwhile: the list is kept -/
theorem LcS.pin (s : LcS K mg c P k D0 G1 F1 H1 Gb σ ρ acc H) : ∃ G F, Ext G1 F1 G F ∧ Same Gb G ∧ Ok K mg c [] G F H σ ρ ∧ ∀ {G' F' H' : Hp} {σ' : L2.St} {ρ' : PV.Env} {fp : List Addr} (Gc : Hp), Same Gc G' → Ext G F G' F' → Ok K mg c fp G' F' H' σ' ρ' → (P = true → Same H H') →
    LcS K mg c P k D0 G1 F1 H1 Gc σ' ρ' acc H' ∧ ∀ {d : D} {v : V}, Own K mg G' H' k d v fp → H1 D0 = none → ∃ vs, H' D0 = some (.lst vs) ∧ vs.length = acc.length ∧ LcS K mg c P k D0 G1 F1 H1 Gc σ' ρ' (acc ++ [d]) (upd H' D0 (.lst (vs ++ [v]))) := by
  obtain ⟨G, F, rest, x1, sb, o, ow, hp⟩ := s.ex
  have o0 : Ok K mg c ((D0 :: rest) ++ []) G F H σ ρ := by rw [List.append_nil]; exact o
  obtain ⟨o1, xp⟩ := o0.pin
  obtain ⟨fps, _, _, _, _, _, nd, hT, _⟩ := o.slt
  refine ⟨G, join F H (D0 :: rest), x1.trans xp, sb, o1, fun {G' F' H' σ' ρ' fp} Gc sc x2 o2 hs => ?_⟩
  have stay : ∀ a ∈ D0 :: rest, ∀ u, H a = some u → F' a = some u := fun a ha u e => x2.f a u (by unfold join; rw [if_pos ha]; exact e)
  have gn : ∀ a ∈ D0 :: rest, G' a = none := fun a ha => x2.n a (o.gf.free (hT a ha)) (by unfold join; rw [if_pos ha]; exact ow.dom a ha)
  have bn : ∀ a ∈ D0 :: rest, c.B a = none := fun a ha => o.bf.free (hT a ha)
  have fn : ∀ a ∈ D0 :: rest, F' a ≠ none := fun a ha => by
    cases e : H a with
    | none => exact absurd e (ow.dom a ha)
    | some u => rw [stay a ha u e]; intro z; cases z
  have o3 := o2.unpin (fp := D0 :: rest) gn bn fn nd
  have x3 : Ext G F G' (less F' (D0 :: rest)) := Ext.unpin hT xp.f x2
  have ow3 : Own K mg G' H' (k + 1) (.lst acc) (.ref D0) (D0 :: rest) := ow.frame x2.g fun a ha u e => o2.fh a u (stay a ha u e)
  have sH : P = true → Same H1 H' := fun hP => (hp hP).trans (hs hP)
  refine ⟨⟨G', less F' (D0 :: rest), rest, x1.trans x3, sc, ?_, ow3, sH⟩, fun {d v} od h1 => ?_⟩
  · obtain ⟨fps', k1, k0, k2, k3, k4, k5, k6, k7⟩ := o3.slt
    exact ⟨o3.gf, o3.fh, o3.bf, o3.len, o3.io, fps', k1, k0, k2, k3, k4, nd, fun a ha => k6 a (List.mem_append_left _ ha), fun i a ha hb => k7 i a ha (List.mem_append_left _ hb)⟩
  · obtain ⟨a, rest', vs', e1, e2, ha', hl⟩ := ow3.lst_inv
    cases e1
    cases e2
    · obtain ⟨_, _, _, _, _, _, nd3, _, _⟩ := o3.slt
      refine ⟨vs', ha', hl.length, ⟨G', less F' (D0 :: rest), rest ++ fp, x1.trans x3, sc, o3.reheap fun a ha => upd_ne fun z => ha (by rw [z]; exact List.mem_append_left _ List.mem_cons_self), Own.push ha' (Own.mkL ha' hl) od nd3, fun hP => same_off (sH hP) h1⟩⟩
end
section
variable {X : Cx} {W : WX} {c : Fc} {p q r : Bool} {k : Nat} {m : Md}
theorem lx_lc (ok : Cok X W) (hN : X.N.Nodup) {elt tg iter : Expr} {ifs : List Expr} {scope : Scope} {own : List (Str × Nat)} {is : List Nat} {pos : Pos} {fi : M (List D)} {g : D → PV.Env → Option PV.Env} {ft : M Bool} {fe : M D}
    (hi : IX X W c p tg iter fi) (bo : BlkOk X.N X.env.scope scope own) (hv : ownVs c (own.map (·.2)) = true) (his : ∀ i ∈ is, i ∈ own.map (·.2)) (hm : mdK (.own k) = m)
    (hg : ∀ (s : Shared) (H : Hp) (C : Addr) (cl : List (Str × Addr)) (fp : List Addr), GX (X.blk s H scope (compEnvC scope cl C X.env) fp) c tg is g)
    (ht : ∀ (s : Shared) (H : Hp) (C : Addr) (cl : List (Str × Addr)) (fp : List Addr), TXs (X.blk s H scope (compEnvC scope cl C X.env) fp) c q ifs ft)
    (he : ∀ (s : Shared) (H : Hp) (C : Addr) (cl : List (Str × Addr)) (fp : List Addr), EX (X.blk s H scope (compEnvC scope cl C X.env) fp) W0 c r m elt fe)
    (hs : ∀ x, foldedSetIterable iter X.env x = pure x := by intro _; rfl) : LX X W c (p && q && r) (k + 1) (.ListComp elt [⟨tg, iter, ifs, 0⟩] scope pos) (eLc (own.map (·.2)) fi g ft fe) := by
  obtain ⟨wi, i1, i2⟩ := hi
  have gw : ∀ (d : D) (ρ ρ' : PV.Env), g d ρ = some ρ' → ∀ vs : List Nat, (∀ i ∈ is, i ∈ vs) → wipeG ρ' vs = wipeG ρ vs := by
    by_cases hne : Nonempty Shared
    · obtain ⟨s⟩ := hne
      exact (hg s (fun _ => none) 0 [] []).1
    · intro d ρ ρ' e vs hvs
      exact (hg (Classical.choice (Classical.byContradiction fun z => hne (by exfalso; exact z ⟨X.s_0⟩))) (fun _ => none) 0 [] []).1 d ρ ρ' e vs hvs
  have hg' : ∀ (s : Shared) (H : Hp) (C : Addr) (cl : List (Str × Addr)) (fp : List Addr), PG (X.blk s H scope (compEnvC scope cl C X.env) fp) tg (canG X.K X.mg c is g) := fun s H C cl fp => (hg s H C cl fp).can
  have ht' : ∀ (s : Shared) (H : Hp) (C : Addr) (cl : List (Str × Addr)) (fp : List Addr), PTs (X.blk s H scope (compEnvC scope cl C X.env) fp) ifs (canT X.K X.mg c q ft) := ht
  have he' : ∀ (s : Shared) (H : Hp) (C : Addr) (cl : List (Str × Addr)) (fp : List Addr), PE (X.blk s H scope (compEnvC scope cl C X.env) fp) elt (canE X.K X.mg c r m fe) := fun s H C cl fp => (he s H C cl fp).can
  refine ⟨_, pe_lc ok.calm hN i1 bo hg' ht' he' hs, fun {i y py spos} hy hyl hsw => ps_setLc ok.calm hN hy hyl hsw i1 bo hg' ht' he' hs, fun σ ρ G F H Q o w => ?_⟩
  clear hg' ht' he' hg ht he
  generalize own.map (·.2) = vs at *
  refine i2 σ ρ G F H _ o ((Wp.ofBindM w).imp (fun rr hr => ?_) fun _ z => z)
  intro J G1 F1 H1 x1 o1 it hp1 D0 hD
  obtain ⟨ds, ρ1⟩ := rr
  dsimp only at hr
  split at hr
  · rename_i hlen
    -- the end wished
    have hr' : ∃ ys ρ2, lcN vs g ft fe ds ρ1 = .ok (ys, ρ2) ∧ EPost X c (p && q && r) (.own (k + 1)) σ ρ G F H Q (.lst ys, restE ρ1 vs ρ2) := by
      split at hr
      · rename_i ys ρ2 e
        exact ⟨ys, ρ2, e, hr⟩
      · exact hr.elim
    obtain ⟨ys, ρ2, eN, fin⟩ := hr'
    refine ⟨fun i n H' => i + n = ds.length ∧ ∃ ρ' acc zs, LcS X.K X.mg c (p && q && r) k D0 G1 F1 H1 G1 (wipe σ vs) (wipeG ρ' vs) acc H' ∧ acc.length ≤ i ∧ ((p && q && r) = true → wipeG ρ' vs = wipeG ρ1 vs) ∧ lcN vs g ft fe (ds.drop i) ρ' = .ok (zs, ρ2) ∧ acc ++ zs = ys,
      ⟨ds.length, Nat.zero_add _, ρ1, [], ys, LcS.start o1 hD hv, Nat.le_refl _, fun _ => rfl, eN, rfl⟩, fun i n H2 hw => ?_⟩
    obtain ⟨en, ρ', acc, zs, st, la, pw, eN2, ez⟩ := hw
    by_cases hi : i < ds.length
    · obtain ⟨G2, F2, xg, _, o2, back⟩ := st.pin
      have sg := xg.g
      rw [List.drop_eq_getElem_cons hi] at eN2
      refine .inr ⟨it.go i H2 (sg.trans o2.gh) hi, fun H3 => i + 1 + (n - 1) = ds.length ∧ ∃ ρ' acc zs, LcS X.K X.mg c (p && q && r) k D0 G1 F1 H1 G1 (wipe σ vs) (wipeG ρ' vs) acc H3 ∧ acc.length ≤ i + 1 ∧ ((p && q && r) = true → wipeG ρ' vs = wipeG ρ1 vs) ∧ lcN vs g ft fe (ds.drop (i + 1)) ρ' = .ok (zs, ρ2) ∧ acc ++ zs = ys,
        fun H3 hq => ⟨n - 1, by omega, hq⟩, fun x H3 y => ?_⟩
      obtain ⟨G3, F3, gr, rp⟩ := it.yld i H2 x H3 G2 F2 _ y sg o2.gf o2.fh (List.getElem?_eq_getElem hi)
      have o3 := o2.grown gr
      simp only [lcN_cons] at eN2
      split at eN2
      · cases eN2
      · rename_i ρa ea
        refine ⟨wipeG ρ' vs, ρa, G3, F3, _, o3, rp, ea, fun σ4 o4 hl4 w4 => ?_⟩
        have w5 : wipe σ4 vs = wipe σ vs := (w4 vs his).trans (by rw [wipe_eq, wipe_eq]; exact wipeG_sub fun i hi => hi)
        refine ⟨w5, ρa, G3, F3, o4, ?_⟩
        have wa : wipeG ρa vs = wipeG ρ' vs := (gw _ _ _ ea vs his).trans (wipeG_sub fun i hi => hi)
        split at eN2
        · rename_i ρb eb
          rw [eb]
          intro G5 F5 H5 x5 o5 hp5
          show if true = true then _ else _
          rw [if_pos rfl]
          refine ⟨ρb, G5, F5, o5, ?_⟩
          split at eN2
          · rename_i y ρc ec
            rw [ec]
            intro v G6 F6 H6 fp x6 o6 q6 hp6
            split at eN2
            · rename_i ys4 ρ4 e4
              cases eN2
              obtain ⟨vs', hD', hl', st'⟩ := (back G1 (sg.trans (gr.x.trans (x5.trans x6)).g) (gr.x.trans (x5.trans x6)) o6 fun hP => by
                rw [Bool.and_eq_true, Bool.and_eq_true] at hP
                exact (gr.hh.trans (hp5 hP.1.2).2).trans (hp6 hP.2).2).2 (mdK_own (by rw [hm]; exact q6)) hD
              refine ⟨vs', hD', by have : 100000 ≤ sizeLine := by decide
                                   omega, by omega, ρc, acc ++ [y], ys4, ?_, by rw [List.length_append]; simp; exact la, fun hP => ?_, e4, by rw [List.append_assoc]; exact ez⟩
              · rw [← w5]; exact st'.wiped hv
              · have hP' := hP
                rw [Bool.and_eq_true, Bool.and_eq_true] at hP'
                have e5 : ρb = ρa := (hp5 hP'.1.2).1
                have e6 : ρc = ρb := (hp6 hP'.2).1
                rw [e6, e5, wa]
                exact pw hP
            · cases eN2
          · cases eN2
        · rename_i ρb eb
          rw [eb]
          intro G5 F5 H5 x5 o5 hp5
          show if false = true then _ else _
          rw [if_neg (by simp : ¬ false = true)]
          have st' := (back G1 (sg.trans (gr.x.trans x5).g) (gr.x.trans x5) o5 fun hP => by
            rw [Bool.and_eq_true, Bool.and_eq_true] at hP
            exact gr.hh.trans (hp5 hP.1.2).2).1
          refine ⟨by omega, ρb, acc, zs, ?_, by omega, fun hP => ?_, eN2, ez⟩
          · rw [← w5]; exact st'.wiped hv
          · have hP' := hP
            rw [Bool.and_eq_true, Bool.and_eq_true] at hP'
            have e5 : ρb = ρa := (hp5 hP'.1.2).1
            rw [e5, wa]
            exact pw hP
        · cases eN2
    · have hn : ds.length ≤ i := Nat.le_of_not_lt hi
      rw [List.drop_eq_nil_of_le hn] at eN2
      cases eN2
      rw [List.append_nil] at ez
      subst ez
      obtain ⟨G2, F2, rest, x2, _, o2, ow2, h2⟩ := st.ex
      refine .inl ⟨it.stop i H2 (x2.g.trans o2.gh) hn, ?_⟩
      refine fin (.ref D0) G2 F2 H2 (D0 :: rest) (x1.trans x2) (o1.rest x2 o2 hv) ow2 fun hP => ?_
      have hP' := hP
      rw [Bool.and_eq_true, Bool.and_eq_true] at hP'
      refine ⟨?_, (hp1 hP'.1.1).2.trans (h2 hP)⟩
      rw [restE_wipe (pw hP)]
      exact (hp1 hP'.1.1).1
  · exact hr.elim
theorem LX.ex {n : Nat} {e : Expr} {f : M D} (h : LX X W c p n e f) : EX X W c p (.own n) e f := let ⟨te, h1, _, h2⟩ := h; ⟨te, h1, h2⟩
/-- x = [..], in the same def -/
theorem sx_asgL {rk : Nat} (i : Nat) {n : Nat} {x : Str} {e : Expr} {f : M D} {pos pos' : Pos} {kd : Kd} (h : LX X W c p n e f) (hk : c.kd i = kd := by rfl) (hm : kd = .own 0 ∨ kd = .own n := by first | exact .inr rfl | exact .inl rfl) (hio : noIo c i = true := by rfl) (hi : X.N[i]? = some x := by rfl)
    (hyl : X.env.scope.names.lookup x = some .local := by rfl) (hs : swapsWith e (some (.Name x pos')) pos.line X.env = pure true := by rfl) : SX X W c rk (.Assign [.Name x pos'] e pos) (sAsg i f) := by
  rw [sAsg_def]
  obtain ⟨te, _, h1, h2⟩ := h
  refine ⟨_, h1 hi hyl hs, fun D σ ρ G F H o w => ?_⟩
  refine h2 σ ρ G F H _ o ((WpS.ofDo w).imp (fun r hr => ?_) fun _ z => Nx.toS z)
  intro v G' F' H' fp x1 o1 q hp
  rcases hm with rfl | rfl
  · obtain ⟨o2, x2⟩ := o1.freeze
    exact hr (σ.set i (some v)) _ _ H' (x1.trans x2) (Ok.set (fp := []) o2 (by rw [hk]; exact ⟨Own.frozen (G' := join G' H' fp) x2.g (fun a ha u e => by unfold join; rw [if_pos ha]; exact e) q, rfl⟩) hio) (by rw [List.length_set])
  · exact hr (σ.set i (some v)) G' F' H' x1 (o1.tnil.set (by rw [hk]; exact q) hio) (by rw [List.length_set])
end
end
end PV

set_option Elab.async false
set_option linter.all false
set_option maxRecDepth 100000
set_option maxHeartbeats 0
namespace PV
noncomputable section
open PySem PySem.Spec
open PyProof.Rows L2

/-! ## 17. list comprehensions of two clauses -/
def lc2N (vs vs1 : List Nat) (g : D → PV.Env → Option PV.Env) (t : M Bool) (fi1 : M (List D)) (g1 : D → PV.Env → Option PV.Env) (t1 : M Bool) (f : M D) (ds : List D) : PV.Env → R (List D × PV.Env) := List.rec (motive := fun _ => PV.Env → R (List D × PV.Env)) (fun ρ => .ok ([], ρ)) (fun d _ ih ρ => match g d (wipeG ρ vs) with
    | none => .fail
    | some ρ1 => match t ρ1 with
      | .ok (true, ρ2) => match fi1 ρ2 with
        | .ok (ds1, ρ3) => match lcN vs1 g1 t1 f ds1 ρ3 with
          | .ok (ys, ρ4) => match ih ρ4 with
            | .ok (zs, ρ5) => .ok (ys ++ zs, ρ5)
            | _ => .fail
          | _ => .fail
        | _ => .fail
      | .ok (false, ρ2) => ih ρ2
      | _ => .fail) ds
theorem lc2N_cons (vs vs1 : List Nat) (g : D → PV.Env → Option PV.Env) (t : M Bool) (fi1 : M (List D)) (g1 : D → PV.Env → Option PV.Env) (t1 : M Bool) (f : M D) (d : D) (r : List D) (ρ : PV.Env) : lc2N vs vs1 g t fi1 g1 t1 f (d :: r) ρ = match g d (wipeG ρ vs) with
    | none => .fail
    | some ρ1 => match t ρ1 with
      | .ok (true, ρ2) => match fi1 ρ2 with
        | .ok (ds1, ρ3) => match lcN vs1 g1 t1 f ds1 ρ3 with
          | .ok (ys, ρ4) => match lc2N vs vs1 g t fi1 g1 t1 f r ρ4 with
            | .ok (zs, ρ5) => .ok (ys ++ zs, ρ5)
            | _ => .fail
          | _ => .fail
        | _ => .fail
      | .ok (false, ρ2) => lc2N vs vs1 g t fi1 g1 t1 f r ρ2
      | _ => .fail := rfl
def eLc2 (vs vs1 : List Nat) (fi : M (List D)) (g : D → PV.Env → Option PV.Env) (t : M Bool) (fi1 : M (List D)) (g1 : D → PV.Env → Option PV.Env) (t1 : M Bool) (f : M D) : M D := fi.bind fun ds ρ => match lc2N vs vs1 g t fi1 g1 t1 f ds ρ with
    | .ok (ys, ρ2) => if ys.length ≤ 100000 then .ok (.lst ys, restE ρ vs ρ2) else .fail
    | _ => .fail
section
variable {X : Cx} {W : WX} {c : Fc} {p q p1 q1 r : Bool} {k : Nat} {m : Md}
theorem lx_lc2 (ok : Cok X W) (hN : X.N.Nodup) {elt tg iter tg1 iter1 : Expr} {ifs ifs1 : List Expr} {scope : Scope} {own : List (Str × Nat)} {is is1 vs1 : List Nat} {pos : Pos} {fi fi1 : M (List D)} {g g1 : D → PV.Env → Option PV.Env} {ft ft1 : M Bool} {fe : M D}
    (hi : IX X W c p tg iter fi) (bo : BlkOk X.N X.env.scope scope own) (hv : ownVs c (own.map (·.2)) = true) (his : ∀ i ∈ is, i ∈ own.map (·.2)) (his1 : ∀ i ∈ is1, i ∈ vs1) (hvs : ∀ i ∈ vs1, i ∈ own.map (·.2)) (hm : mdK (.own k) = m)
    (hg : ∀ (s : Shared) (H : Hp) (C : Addr) (cl : List (Str × Addr)) (fp : List Addr), GX (X.blk s H scope (compEnvC scope cl C X.env) fp) c tg is g)
    (ht : ∀ (s : Shared) (H : Hp) (C : Addr) (cl : List (Str × Addr)) (fp : List Addr), TXs (X.blk s H scope (compEnvC scope cl C X.env) fp) c q ifs ft)
    (hi1 : ∀ (s : Shared) (H : Hp) (C : Addr) (cl : List (Str × Addr)) (fp : List Addr), IX (X.blk s H scope (compEnvC scope cl C X.env) fp) W0 c p1 tg1 iter1 fi1)
    (hg1 : ∀ (s : Shared) (H : Hp) (C : Addr) (cl : List (Str × Addr)) (fp : List Addr), GX (X.blk s H scope (compEnvC scope cl C X.env) fp) c tg1 is1 g1)
    (ht1 : ∀ (s : Shared) (H : Hp) (C : Addr) (cl : List (Str × Addr)) (fp : List Addr), TXs (X.blk s H scope (compEnvC scope cl C X.env) fp) c q1 ifs1 ft1)
    (he : ∀ (s : Shared) (H : Hp) (C : Addr) (cl : List (Str × Addr)) (fp : List Addr), EX (X.blk s H scope (compEnvC scope cl C X.env) fp) W0 c r m elt fe)
    (hs : ∀ x, foldedSetIterable iter X.env x = pure x := by intro _; rfl) (hs1 : ∀ env x, foldedSetIterable iter1 env x = pure x := by intro _ _; rfl) : LX X W c false (k + 1) (.ListComp elt [⟨tg, iter, ifs, 0⟩, ⟨tg1, iter1, ifs1, 0⟩] scope pos) (eLc2 (own.map (·.2)) vs1 fi g ft fi1 g1 ft1 fe) := by
  obtain ⟨wi, i1, i2⟩ := hi
  have gw : ∀ (d : D) (ρ ρ' : PV.Env), g d ρ = some ρ' → ∀ vs : List Nat, (∀ i ∈ is, i ∈ vs) → wipeG ρ' vs = wipeG ρ vs := (hg X.s_0 (fun _ => none) 0 [] []).1
  have hg' : ∀ (s : Shared) (H : Hp) (C : Addr) (cl : List (Str × Addr)) (fp : List Addr), PG (X.blk s H scope (compEnvC scope cl C X.env) fp) tg (canG X.K X.mg c is g) := fun s H C cl fp => (hg s H C cl fp).can
  have ht' : ∀ (s : Shared) (H : Hp) (C : Addr) (cl : List (Str × Addr)) (fp : List Addr), PTs (X.blk s H scope (compEnvC scope cl C X.env) fp) ifs (canT X.K X.mg c q ft) := ht
  have hi1' : ∀ (s : Shared) (H : Hp) (C : Addr) (cl : List (Str × Addr)) (fp : List Addr), PI (X.blk s H scope (compEnvC scope cl C X.env) fp) tg1 iter1 (canI X.K X.mg c p1 fi1) := fun s H C cl fp => (hi1 s H C cl fp).can
  have hg1' : ∀ (s : Shared) (H : Hp) (C : Addr) (cl : List (Str × Addr)) (fp : List Addr), PG (X.blk s H scope (compEnvC scope cl C X.env) fp) tg1 (canG X.K X.mg c is1 g1) := fun s H C cl fp => (hg1 s H C cl fp).can
  have ht1' : ∀ (s : Shared) (H : Hp) (C : Addr) (cl : List (Str × Addr)) (fp : List Addr), PTs (X.blk s H scope (compEnvC scope cl C X.env) fp) ifs1 (canT X.K X.mg c q1 ft1) := ht1
  have he' : ∀ (s : Shared) (H : Hp) (C : Addr) (cl : List (Str × Addr)) (fp : List Addr), PE (X.blk s H scope (compEnvC scope cl C X.env) fp) elt (canE X.K X.mg c r m fe) := fun s H C cl fp => (he s H C cl fp).can
  refine ⟨_, pe_lc2 ok.calm hN i1 bo hvs hg' ht' hi1' hg1' ht1' he' hs hs1, fun {i y py spos} hy hyl hsw => ps_setLc2 ok.calm hN hy hyl hsw i1 bo hvs hg' ht' hi1' hg1' ht1' he' hs hs1, fun σ ρ G F H Q o w => ?_⟩
  clear hg' ht' he' hg1' ht1' hi1' hg ht he hg1 ht1 hi1
  generalize own.map (·.2) = vs at *
  have hv1 : ownVs c vs1 = true := List.all_eq_true.mpr fun i hi => List.all_eq_true.mp hv i (hvs i hi)
  refine i2 σ ρ G F H _ o ((Wp.ofBindM w).imp (fun rr hr => ?_) fun _ z => z)
  intro J G1 F1 H1 x1 o1 it hp1 D0 hD
  obtain ⟨ds, ρ1⟩ := rr
  dsimp only at hr
  have hr' : ∃ ys ρ2, lc2N vs vs1 g ft fi1 g1 ft1 fe ds ρ1 = .ok (ys, ρ2) ∧ ys.length ≤ 100000 ∧ EPost X c false (.own (k + 1)) σ ρ G F H Q (.lst ys, restE ρ1 vs ρ2) := by
    split at hr
    · rename_i ys ρ2 e
      split at hr
      · rename_i hl
        exact ⟨ys, ρ2, e, hl, hr⟩
      · exact hr.elim
    · exact hr.elim
  obtain ⟨ys, ρ2, eN, hlen, fin⟩ := hr'
  have szl1 : 100000 ≤ sizeLine := by decide
  refine ⟨fun i n H' => i + n = ds.length ∧ ∃ ρ' acc zs, LcS X.K X.mg c false k D0 G1 F1 H1 G1 (wipe σ vs) (wipeG ρ' vs) acc H' ∧ lc2N vs vs1 g ft fi1 g1 ft1 fe (ds.drop i) ρ' = .ok (zs, ρ2) ∧ acc ++ zs = ys,
    ⟨ds.length, Nat.zero_add _, ρ1, [], ys, LcS.start o1 hD hv, eN, rfl⟩, fun i n H2 hw => ?_⟩
  obtain ⟨en, ρ', acc, zs, st, eN2, ez⟩ := hw
  by_cases hi : i < ds.length
  · obtain ⟨G2, F2, xsg, _, o2, back⟩ := st.pin
    have sg := xsg.g
    rw [List.drop_eq_getElem_cons hi] at eN2
    refine .inr ⟨it.go i H2 (sg.trans o2.gh) hi, fun H3 => i + 1 + (n - 1) = ds.length ∧ ∃ ρ' acc zs, LcS X.K X.mg c false k D0 G1 F1 H1 G1 (wipe σ vs) (wipeG ρ' vs) acc H3 ∧ lc2N vs vs1 g ft fi1 g1 ft1 fe (ds.drop (i + 1)) ρ' = .ok (zs, ρ2) ∧ acc ++ zs = ys,
      fun H3 hq => ⟨n - 1, by omega, hq⟩, fun x H3 y => ?_⟩
    obtain ⟨G3, F3, gr, rp⟩ := it.yld i H2 x H3 G2 F2 _ y sg o2.gf o2.fh (List.getElem?_eq_getElem hi)
    have o3 := o2.grown gr
    simp only [lc2N_cons] at eN2
    split at eN2
    · cases eN2
    · rename_i ρa ea
      refine ⟨wipeG ρ' vs, ρa, G3, F3, _, o3, rp, ea, fun σ4 o4 hl4 w4 => ?_⟩
      have w5 : wipe σ4 vs = wipe σ vs := (w4 vs his).trans (by rw [wipe_eq, wipe_eq]; exact wipeG_sub fun i hi => hi)
      refine ⟨w5, ρa, G3, F3, o4, ?_⟩
      split at eN2
      · rename_i ρb eb
        rw [eb]
        intro G5 F5 H5 x5 o5 hp5
        show if true = true then _ else _
        rw [if_pos rfl]
        refine ⟨ρb, G5, F5, o5, ?_⟩
        split at eN2
        · rename_i ds1 ρc ec
          rw [ec]
          intro J1 G6 F6 H6 x6 o6 it1 hp6
          split at eN2
          · rename_i ys4 ρ4 e4
            split at eN2
            · rename_i zs5 ρ5 e5
              cases eN2
              have st' := (back G6 (.refl _) (gr.x.trans (x5.trans x6)) o6 (fun hP => nomatch hP)).1
              refine ⟨fun j n1 H' => j + n1 = ds1.length ∧ ∃ ρ' acc' us, LcS X.K X.mg c false k D0 G1 F1 H1 G6 (wipe σ4 vs1) (wipeG ρ' vs1) acc' H' ∧ lcN vs1 g1 ft1 fe (ds1.drop j) ρ' = .ok (us, ρ4) ∧ acc' ++ us = acc ++ ys4,
                ⟨ds1.length, Nat.zero_add _, ρc, acc, ys4, st'.wiped hv1, e4, rfl⟩, fun j n1 H7 hw1 => ?_⟩
              obtain ⟨en1, ρ'', acc', us, st1, eM, ez1⟩ := hw1
              by_cases hj : j < ds1.length
              · obtain ⟨G8, F8, xsg8, sb8, o8, back8⟩ := st1.pin
                have sg8 := xsg8.g
                rw [List.drop_eq_getElem_cons hj] at eM
                refine .inr ⟨it1.go j H7 (sb8.trans o8.gh) hj, fun H' => j + 1 + (n1 - 1) = ds1.length ∧ ∃ ρ' acc' us, LcS X.K X.mg c false k D0 G1 F1 H1 G6 (wipe σ4 vs1) (wipeG ρ' vs1) acc' H' ∧ lcN vs1 g1 ft1 fe (ds1.drop (j + 1)) ρ' = .ok (us, ρ4) ∧ acc' ++ us = acc ++ ys4,
                  fun H' hq => ⟨n1 - 1, by omega, hq⟩, fun x9 H9 y9 => ?_⟩
                obtain ⟨G9, F9, gr9, rp9⟩ := it1.yld j H7 x9 H9 G8 F8 _ y9 sb8 o8.gf o8.fh (List.getElem?_eq_getElem hj)
                have o9 := o8.grown gr9
                simp only [lcN_cons] at eM
                split at eM
                · cases eM
                · rename_i ρd ed
                  refine ⟨wipeG ρ'' vs1, ρd, G9, F9, _, o9, rp9, ed, fun σ10 o10 hl10 w10 => ?_⟩
                  have w11 : wipe σ10 vs1 = wipe σ4 vs1 := (w10 vs1 his1).trans (by rw [wipe_eq, wipe_eq]; exact wipeG_sub fun i hi => hi)
                  refine ⟨w11, ρd, G9, F9, o10, ?_⟩
                  split at eM
                  · rename_i ρe ee
                    rw [ee]
                    intro G11 F11 H11 x11 o11 hp11
                    show if true = true then _ else _
                    rw [if_pos rfl]
                    refine ⟨ρe, G11, F11, o11, ?_⟩
                    split at eM
                    · rename_i y ρf ef
                      rw [ef]
                      intro v G12 F12 H12 fp x12 o12 q12 hp12
                      split at eM
                      · rename_i ys6 ρ6 e6
                        cases eM
                        obtain ⟨vs', hD', hl', st2⟩ := (back8 G6 (sb8.trans (gr9.x.trans (x11.trans x12)).g) (gr9.x.trans (x11.trans x12)) o12 fun hP => nomatch hP).2 (mdK_own (by rw [hm]; exact q12)) hD
                        have hlt : acc'.length < 100000 := by
                          have h1 := congrArg List.length ez
                          have h2 := congrArg List.length ez1
                          simp only [List.length_append, List.length_cons] at h1 h2
                          omega
                        refine ⟨vs', hD', by omega, by omega, ρf, acc' ++ [y], ys6, ?_, e6, by rw [List.append_assoc]; exact ez1⟩
                        rw [← w11]
                        exact st2.wiped hv1
                      · cases eM
                    · cases eM
                  · rename_i ρe ee
                    rw [ee]
                    intro G11 F11 H11 x11 o11 hp11
                    show if false = true then _ else _
                    rw [if_neg (by simp : ¬ false = true)]
                    have st2 := (back8 G6 (sb8.trans (gr9.x.trans x11).g) (gr9.x.trans x11) o11 fun hP => nomatch hP).1
                    refine ⟨by omega, ρe, acc', us, ?_, eM, ez1⟩
                    rw [← w11]
                    exact st2.wiped hv1
                  · cases eM
              · have hn : ds1.length ≤ j := Nat.le_of_not_lt hj
                rw [List.drop_eq_nil_of_le hn] at eM
                cases eM
                rw [List.append_nil] at ez1
                obtain ⟨G8, F8, xsg8, sb8, o8, back8⟩ := st1.pin
                have sg8 := xsg8.g
                refine .inl ⟨it1.stop j H7 (sb8.trans o8.gh) hn, by omega, ρ4, acc', zs5, ?_, e5, by rw [ez1, List.append_assoc]; exact ez⟩
                have st3 := st1.base.wiped (vs := vs) hv
                rw [wipeG_sub hvs] at st3
                have ew : wipe (wipe σ4 vs1) vs = wipe σ vs := by rw [← w5, wipe_eq, wipe_eq, wipe_eq]; exact wipeG_sub hvs
                rw [ew] at st3
                exact st3
            · cases eN2
          · cases eN2
        · cases eN2
      · rename_i ρb eb
        rw [eb]
        intro G5 F5 H5 x5 o5 hp5
        show if false = true then _ else _
        rw [if_neg (by simp : ¬ false = true)]
        have st' := (back G1 (sg.trans (gr.x.trans x5).g) (gr.x.trans x5) o5 fun hP => nomatch hP).1
        refine ⟨by omega, ρb, acc, zs, ?_, eN2, ez⟩
        rw [← w5]; exact st'.wiped hv
      · cases eN2
  · have hn : ds.length ≤ i := Nat.le_of_not_lt hi
    rw [List.drop_eq_nil_of_le hn] at eN2
    cases eN2
    rw [List.append_nil] at ez
    subst ez
    obtain ⟨G2, F2, rest, x2, _, o2, ow2, h2⟩ := st.ex
    refine .inl ⟨it.stop i H2 (x2.g.trans o2.gh) hn, ?_⟩
    exact fin (.ref D0) G2 F2 H2 (D0 :: rest) (x1.trans x2) (o1.rest x2 o2 hv) ow2 fun hP => nomatch hP
end
end
end PV

set_option Elab.async false
set_option linter.all false
set_option maxRecDepth 100000
set_option maxHeartbeats 0
namespace PV
noncomputable section
open PySem PySem.Spec
open PyProof.Rows L2

/-! ## 18. the object of a slot is changed -/
section
variable {K : PySem.W.Frag} {mg : Str → Option Value} {c : Fc} {T fp fq : List Addr} {G F H G' F' H' : Hp} {σ : L2.St} {ρ : PV.Env}
theorem Ok.mut (o : Ok K mg c fq G F H σ ρ) {i n : Nat} {x : D} (e : look ρ i = some x) (hk : c.kd i = .own n) : ∃ u fp, σ[i]? = some (some u) ∧ Own K mg G H n x u fp ∧ fp.Nodup ∧ (∀ a ∈ fp, F a = none) ∧ (∀ a ∈ fp, a ∉ fq) ∧ fq.Nodup ∧
    ∀ (H' : Hp) (y : D) (fo T' : List Addr), Own K mg G H' n y u fo → (∀ a, a ∉ fp → H' a = H a) → (fo ++ T').Nodup → (∀ a ∈ fo ++ T', a ∈ fp ∨ a ∈ fq) → Ok K mg c T' G F H' σ (ρ.set i (some y)) := by
  obtain ⟨fps, h1, h0, h2, h3, h4, h5, h6, h7⟩ := o.slt
  obtain ⟨u, e1, s⟩ := h1 i x (look_eq.mp e)
  rw [hk] at s
  refine ⟨u, fps i, e1, s, h3 i, h2 i, h7 i, h5, fun H' y fo T' ow hh nd sub => ?_⟩
  have ndd := List.nodup_append.mp nd
  have hil : i < ρ.length := (List.getElem?_eq_some_iff.mp (look_eq.mp e)).1
  have inF : ∀ a ∈ fo ++ T', F a = none := fun a ha => (sub a ha).elim (h2 i a) (h6 a)
  have far : ∀ j a, j ≠ i → a ∈ fps j → a ∉ fo ++ T' := fun j a hj ha hb => (sub a hb).elim (fun z => h4 j i a hj ha z) fun z => h7 j a ha z
  refine ⟨o.gf, fun a u e => ?_, o.bf, by rw [List.length_set]; exact o.len, o.io, fun j => if j = i then fo else fps j, fun j d he => ?_, fun j hj => ?_, fun j a ha => ?_, fun j => ?_, fun j l a hjl ha hb => ?_, ndd.2.1, fun a ha => inF a (List.mem_append_right _ ha), fun j a ha hb => ?_⟩
  · rw [hh a fun z => by rw [h2 i a z] at e; cases e]
    exact o.fh a u e
  · by_cases z : j = i
    · subst z
      rw [List.getElem?_set_self hil] at he
      cases he
      refine ⟨u, e1, ?_⟩
      dsimp only
      rw [if_pos rfl, hk]
      exact ow
    · rw [List.getElem?_set_ne (Ne.symm z)] at he
      obtain ⟨w, e2, s2⟩ := h1 j d he
      refine ⟨w, e2, ?_⟩
      dsimp only
      rw [if_neg z]
      exact Slt.frame (.refl G F) (fun a ha t q => by rw [hh a (h4 j i a z ha)]; exact q) s2
  · dsimp only
    by_cases z : j = i
    · exfalso
      apply hj
      exact ⟨y, by rw [z, List.getElem?_set_self hil]⟩
    · rw [if_neg z]
      refine h0 j fun ⟨d, he⟩ => hj ⟨d, ?_⟩
      rw [List.getElem?_set_ne (Ne.symm z)]
      exact he
  · dsimp only at ha
    split at ha
    · exact inF a (List.mem_append_left _ ha)
    · exact h2 j a ha
  · dsimp only
    split
    · exact ndd.1
    · exact h3 j
  · dsimp only at ha hb
    split at ha
    · rename_i z
      split at hb
      · rename_i z2
        exact hjl (z.trans z2.symm)
      · rename_i z2
        exact far l a z2 hb (List.mem_append_left _ ha)
    · rename_i z
      split at hb
      · exact far j a z ha (List.mem_append_left _ hb)
      · exact h4 j l a hjl ha hb
  · dsimp only at ha
    split at ha
    · exact ndd.2.2 a ha a hb rfl
    · rename_i z
      exact far j a z ha (List.mem_append_right _ hb)
/-! own items, taken and put -/
theorem OwnL.pick {Q : D → V → List Addr → Prop} : ∀ {ds : List D} {vs : List V} {fp : List Addr} {j : Nat} {d : D}, OwnL Q ds vs fp → ds[j]? = some d → ∃ v fj rest, vs[j]? = some v ∧ Q d v fj ∧ OwnL Q (ds.eraseIdx j) (vs.eraseIdx j) rest ∧ (fj ++ rest).Perm fp ∧ ∀ d' v' f', Q d' v' f' → ∃ fp', OwnL Q (ds.set j d') (vs.set j v') fp' ∧ (f' ++ rest).Perm fp'
  | _, _, _, _, _, .nil, e => by rw [List.getElem?_nil] at e; exact nomatch e
  | _, _, _, 0, d, .cons h r, e => by
    simp at e
    subst e
    exact ⟨_, _, _, rfl, h, r, .refl _, fun d' v' f' q => ⟨_, .cons q r, .refl _⟩⟩
  | _, _, _, j + 1, d, .cons (fp := fp) (fps := fps) h r, e => by
    obtain ⟨v, fj, rest, h1, h2, h3, h4, h5⟩ := OwnL.pick (j := j) (d := d) r (by simpa using e)
    refine ⟨v, fj, fp ++ rest, by simpa using h1, h2, .cons h h3, ?_, fun d' v' f' q => ?_⟩
    · refine List.Perm.trans ?_ (List.Perm.append_left fp h4)
      simp only [← List.append_assoc]
      exact .append_right _ List.perm_append_comm
    · obtain ⟨fp', k1, k2⟩ := h5 d' v' f' q
      refine ⟨fp ++ fp', .cons h k1, ?_⟩
      refine List.Perm.trans ?_ (List.Perm.append_left fp k2)
      simp only [← List.append_assoc]
      exact .append_right _ List.perm_append_comm
/-- items of an own list stay own while the list's object changes -/
theorem OwnL.off {k : Nat} {a : Addr} {ho : HO} {ds : List D} {vs : List V} {rest : List Addr} (h : OwnL (Own K mg G H k) ds vs rest) (na : a ∉ rest) : OwnL (Own K mg G (upd H a ho) k) ds vs rest :=
  h.imp fun _ _ _ hf q => q.frame (.refl _) fun b hb o e => by rw [upd_ne (fun z => na (by rw [← z]; exact hf b hb))]; exact e
theorem Own.lst {n : Nat} {ds : List D} {vs : List V} {a : Addr} {rest : List Addr} (ha : H a = some (.lst vs)) (hl : OwnL (Own K mg G H n) ds vs rest) : Own K mg G H (n + 1) (.lst ds) (.ref a) (a :: rest) := Own.mkL ha hl
theorem Val.ofOwn {k : Nat} {d : D} {v : V} (q : Own K mg G H k d v fp) : Val K mg (mdK (.own k)) G H d v fp := by
  cases k with
  | zero => exact ⟨q.1, q.2⟩
  | succ k => exact q
end
def isOL : D → Bool
  | .lst _ => true
  | _ => false
def isOD : D → Bool
  | .dct _ => true
  | _ => false
/-- what a method does to the object of a slot, with its arguments: the result, the object then -/
def MS (K : PySem.W.Frag) (mg : Str → Option Value) (n : Nat) (m mo : Md) (r : V → List V → Hp → VK → Prop) (op : D → D → Option (D × D)) : Prop :=
  ∀ (G F H : Hp) (x d : D) (u v : V) (fp fq : List Addr) (z y : D) (Q : VK), Same G F → Same F H → Own K mg G H n x u fp → Val K mg m G H d v fq → (fp ++ fq).Nodup → op x d = some (z, y) →
    (∀ w H' fo fw, Val K mg mo G H' z w fw → Own K mg G H' n y u fo → (∀ a, a ∉ fp → H' a = H a) → (fo ++ fw).Nodup → (∀ a ∈ fo ++ fw, a ∈ fp ∨ a ∈ fq) → Q w H') → r u [v] H Q
def MS0 (K : PySem.W.Frag) (mg : Str → Option Value) (n : Nat) (mo : Md) (r : V → List V → Hp → VK → Prop) (op : D → Option (D × D)) : Prop :=
  ∀ (G F H : Hp) (x : D) (u : V) (fp : List Addr) (z y : D) (Q : VK), Same G F → Same F H → Own K mg G H n x u fp → fp.Nodup → op x = some (z, y) →
    (∀ w H' fo fw, Val K mg mo G H' z w fw → Own K mg G H' n y u fo → (∀ a, a ∉ fp → H' a = H a) → (fo ++ fw).Nodup → (∀ a ∈ fo ++ fw, a ∈ fp) → Q w H') → r u [] H Q
def eMeth1 (i : Nat) (isT : D → Bool) (op : D → D → Option (D × D)) (f : M D) : M D := fun ρ => match look ρ i with
  | some x0 => if isT x0 = true then match f ρ with
      | .ok (d, ρ') => match look ρ' i with
        | some x => match op x d with
          | some (z, y) => .ok (z, put ρ' i (some y))
          | none => .fail
        | none => .fail
      | .exc x => .exc x
      | .fail => .fail
    else .fail
  | none => .fail
theorem eMeth1_def (i : Nat) (isT : D → Bool) (op : D → D → Option (D × D)) (f : M D) : eMeth1 i isT op f = fun ρ => match look ρ i with
  | some x0 => if isT x0 = true then match f ρ with
      | .ok (d, ρ') => match look ρ' i with
        | some x => match op x d with
          | some (z, y) => .ok (z, ρ'.set i (some y))
          | none => .fail
        | none => .fail
      | .exc x => .exc x
      | .fail => .fail
    else .fail
  | none => .fail := by
  unfold eMeth1
  simp only [put_eq]
def eMeth0 (i : Nat) (isT : D → Bool) (op : D → Option (D × D)) : M D := fun ρ => match look ρ i with
  | some x => if isT x = true then match op x with
      | some (z, y) => .ok (z, put ρ i (some y))
      | none => .fail
    else .fail
  | none => .fail
theorem eMeth0_def (i : Nat) (isT : D → Bool) (op : D → Option (D × D)) : eMeth0 i isT op = fun ρ => match look ρ i with
  | some x => if isT x = true then match op x with
      | some (z, y) => .ok (z, ρ.set i (some y))
      | none => .fail
    else .fail
  | none => .fail := by
  unfold eMeth0
  simp only [put_eq]
/-- what a call x.name(e) is by its text -/
structure MCall1 (X : Cx) (x name : Str) (e : Expr) (px apos cpos : Pos) : Prop where
  base : attributeBase (.Name x px) name X.env (eval (.Name x px) X.env) = eval (.Name x px) X.env
  few : ((backTo cpos (starEach [e] X.env)).all (fun x => !x.1) && (backToKw cpos (keywordEach [] X.env)).all (fun x => x.1.isSome) && decide (([e] : List Expr).length + ([] : List Keyword).length + (if ([] : List Keyword).isEmpty then 0 else 1) < 30)) = true
  oneLine : (apos.endLine == cpos.line) = true
  star : starEach [e] X.env = (false, eval e X.env) :: starEach [] X.env
  plain : (backTo cpos (starEach [] X.env)).any (·.1) = false
structure MCall0 (X : Cx) (x name : Str) (px apos cpos : Pos) : Prop where
  base : attributeBase (.Name x px) name X.env (eval (.Name x px) X.env) = eval (.Name x px) X.env
  oneLine : (apos.endLine == cpos.line) = true
section
variable {X : Cx} {W : WX} {c : Fc} {p : Bool} {m mo : Md} {n : Nat}
theorem ex_meth1 (i : Nat) {T id : String} {name x : Str} {e : Expr} {f : M D} {r : V → List V → Hp → VK → Prop} {isT : D → Bool} {op : D → D → Option (D × D)} {px apos cpos : Pos} (pa : PlainAttrs T) (slot : Slot T name id) (hty : typeOf (.builtin id) = pure (.type "method_descriptor")) (hm : MtR X id r)
    (hT : ∀ (G H : Hp) (d : D) (u : V) (fp : List Addr), isT d = true → Own X.K X.mg G H n d u fp → tyV X.K T u H) (hS : MS X.K X.mg n m mo r op) (he : EX X W c p m e f) (hk : c.kd i = .own n := by rfl) (hN : X.N[i]? = some x := by rfl)
    (hv : Vis X.env.scope x := by first | exact Or.inl rfl | exact Or.inr (Or.inl rfl) | exact Or.inr (Or.inr rfl)) (hd : (x == ("__debug__" : Str)) = false := by decide) (hcd : (x == ("__classdict__" : Str)) = false := by decide)
    (mc : MCall1 X x name e px apos cpos := by exact ⟨rfl, rfl, rfl, rfl, rfl⟩) :
    EX X W c false mo (.Call (.Attribute (.Name x px) name apos) [e] [] cpos) (eMeth1 i isT op f) := by
  rw [eMeth1_def]
  obtain ⟨te, e1, e2⟩ := he
  refine ⟨_, pe_bm pa slot hty hm (pe_var hN hv hd hcd) (pa_cons e1 pa_nil mc.star) mc.base mc.few mc.oneLine mc.star mc.plain, fun σ ρ G F H Q o w => ?_⟩
  dsimp only at w
  split at w
  · rename_i x0 h0
    split at w
    · rename_i ht0
      obtain ⟨u, fp0, es, ow0, _⟩ := o.mut h0 hk
      refine ⟨u, es, hT G H x0 u fp0 ht0 ow0, ?_⟩
      have w' : Wp (f ρ) (fun r => Wp (match look r.2 i with
        | some x => match op x r.1 with
          | some (z, y) => R.ok (z, r.2.set i (some y))
          | none => .fail
        | none => .fail) (EPost X c false mo σ ρ G F H Q) (Nx X.K X.mg W σ G F)) (Nx X.K X.mg W σ G F) := by
        cases ef : f ρ with
        | ok r => rw [ef] at w; exact w
        | exc x => rw [ef] at w; exact w
        | fail => rw [ef] at w; exact w
      refine EX.use te e2 o w' (fun r hr v G1 F1 H1 fq x1 o1 q1 hp => ?_) fun _ z => z
      split at hr
      · rename_i x1' h1
        split at hr
        · rename_i z y hop
          obtain ⟨u', fp1, es', ow1, nd1, hF1, dj, nq, go⟩ := o1.mut h1 hk
          rw [es] at es'
          cases es'
          refine hS G1 F1 H1 x1' r.1 u v fp1 fq z y _ o1.gf o1.fh ow1 q1 (List.nodup_append.mpr ⟨nd1, nq, fun a ha b hb hab => dj a ha (by rw [hab]; exact hb)⟩) hop fun wv H' fo fw hv ow' hh nd sub => ?_
          exact hr wv G1 F1 H' fw x1 (go H' y fo fw ow' hh nd sub) hv fun z => nomatch z
        · exact hr.elim
      · exact hr.elim
    · exact w.elim
  · exact w.elim
theorem ex_meth0 (i : Nat) {T id : String} {name x : Str} {r : V → List V → Hp → VK → Prop} {isT : D → Bool} {op : D → Option (D × D)} {px apos cpos : Pos} (pa : PlainAttrs T) (slot : Slot T name id) (hty : typeOf (.builtin id) = pure (.type "method_descriptor")) (hm : MtR X id r)
    (hT : ∀ (G H : Hp) (d : D) (u : V) (fp : List Addr), isT d = true → Own X.K X.mg G H n d u fp → tyV X.K T u H) (hS : MS0 X.K X.mg n mo r op) (hk : c.kd i = .own n := by rfl) (hN : X.N[i]? = some x := by rfl)
    (hv : Vis X.env.scope x := by first | exact Or.inl rfl | exact Or.inr (Or.inl rfl) | exact Or.inr (Or.inr rfl)) (hd : (x == ("__debug__" : Str)) = false := by decide) (hcd : (x == ("__classdict__" : Str)) = false := by decide)
    (mc : MCall0 X x name px apos cpos := by exact ⟨rfl, rfl⟩) :
    EX X W c false mo (.Call (.Attribute (.Name x px) name apos) [] [] cpos) (eMeth0 i isT op) := by
  rw [eMeth0_def]
  refine ⟨_, pe_bm0 pa slot hty hm (pe_var hN hv hd hcd) mc.base mc.oneLine, fun σ ρ G F H Q o w => ?_⟩
  dsimp only at w
  split at w
  · rename_i x0 h0
    split at w
    · rename_i ht0
      split at w
      · rename_i z y hop
        obtain ⟨u, fp0, es, ow0, nd, hF, dj, nq, go⟩ := o.mut h0 hk
        refine ⟨u, es, hT G H x0 u fp0 ht0 ow0, ?_⟩
        refine hS G F H x0 u fp0 z y _ o.gf o.fh ow0 nd hop fun wv H' fo fw hv ow' hh nd sub => ?_
        exact w wv G F H' fw (.refl _ _) (go H' y fo fw ow' hh nd fun a ha => .inl (sub a ha)) hv fun z => nomatch z
      · exact w.elim
    · exact w.elim
  · exact w.elim
theorem tyL {K : PySem.W.Frag} {mg : Str → Option Value} {k : Nat} (G H : Hp) (d : D) (u : V) (fp : List Addr) (h : isOL d = true) (o : Own K mg G H (k + 1) d u fp) : tyV K "list" u H := by
  cases d <;> first | (cases h; done) | skip
  obtain ⟨a, rest, vs, rfl, rfl, ha, _⟩ := o.lst_inv
  exact .inl ⟨rfl, vs, .of ha⟩
/-! append -/
def opApp : D → D → Option (D × D)
  | .lst ds, d => if ds.length < 100000 then some (.non, .lst (ds ++ [d])) else none
  | _, _ => none
theorem szl' {n : Nat} (h : n < 100000) : n < sizeLine := Nat.lt_of_lt_of_le h (by decide)
theorem ms_app {K : PySem.W.Frag} {mg : Str → Option Value} {k : Nat} : MS K mg (k + 1) (mdK (.own k)) (.rd 0) rAppend opApp := by
  intro G F H x d u v fp fq z y Q gf fh ow q nd hop fin
  cases x <;> first | (cases hop; done) | skip
  rename_i ds
  have hop : (if ds.length < 100000 then some (D.non, D.lst (ds ++ [d])) else none) = some (z, y) := hop
  split at hop
  · rename_i hl
    cases hop
    obtain ⟨a, rest, vs, rfl, rfl, ha, hl2⟩ := ow.lst_inv
    refine ⟨a, vs, v, rfl, rfl, ha, by rw [hl2.length]; exact szl' hl, ?_⟩
    refine fin .non _ (a :: rest ++ fq) [] ⟨.non, rfl⟩ (Own.push ha (Own.lst ha hl2) (mdK_own q) nd) (fun b hb => upd_ne fun z => hb (by rw [z]; exact List.mem_cons_self)) (by rw [List.append_nil]; exact nd) fun b hb => ?_
    rw [List.append_nil] at hb
    exact List.mem_append.mp hb
  · cases hop
theorem mtr_append : MtR X "list.append" rAppend := mt_append
theorem ex_append (i k : Nat) {x : Str} {e : Expr} {f : M D} {px apos cpos : Pos} (he : EX X W c p m e f) (hm : mdK (.own k) = m := by rfl) (hk : c.kd i = .own (k + 1) := by rfl) (hN : X.N[i]? = some x := by rfl)
    (hv : Vis X.env.scope x := by first | exact Or.inl rfl | exact Or.inr (Or.inl rfl) | exact Or.inr (Or.inr rfl)) (hd : (x == ("__debug__" : Str)) = false := by decide) (hcd : (x == ("__classdict__" : Str)) = false := by decide)
    (mc : MCall1 X x "append" e px apos cpos := by exact ⟨rfl, rfl, rfl, rfl, rfl⟩) :
    EX X W c false (.rd 0) (.Call (.Attribute (.Name x px) "append" apos) [e] [] cpos) (eMeth1 i isOL opApp f) :=
  ex_meth1 i F.plainAttrs_list F.slot_list_append F.type_list_append mt_append tyL (by rw [← hm]; exact ms_app) he hk hN hv hd hcd mc
/-! pop -/
def opPop : D → Option (D × D)
  | .lst ds => match ds[ds.length - 1]? with
    | some d => some (d, .lst (ds.eraseIdx (ds.length - 1)))
    | none => none
  | _ => none
theorem nodup_perm {a b : List Addr} (h : a.Perm b) (n : b.Nodup) : a.Nodup := h.nodup_iff.mpr n
theorem ms_pop {K : PySem.W.Frag} {mg : Str → Option Value} {k : Nat} : MS0 K mg (k + 1) (mdK (.own k)) rPop opPop := by
  intro G F H x u fp z y Q gf fh ow nd hop fin
  cases x <;> first | (cases hop; done) | skip
  rename_i ds
  unfold opPop at hop
  simp only at hop
  split at hop
  · rename_i d hd
    cases hop
    obtain ⟨a, rest, vs, rfl, rfl, ha, hl2⟩ := ow.lst_inv
    obtain ⟨v, fj, rest', e1, q, hl3, pm, _⟩ := hl2.pick hd
    have na := (List.nodup_cons.mp nd).1
    have nr := (List.nodup_cons.mp nd).2
    have hlen : vs.length = ds.length := hl2.length
    refine ⟨a, vs, v, rfl, rfl, ha, by rw [hlen]; exact e1, ?_⟩
    have ev : vs.dropLast = vs.eraseIdx (ds.length - 1) := by
      rw [← hlen]
      exact (PyProof.Rows.Copied.eraseIdx_last vs).symm
    have ns : ∀ b, b ∈ rest' → b ∈ rest := fun b hb => pm.subset (List.mem_append_right _ hb)
    have nf : ∀ b, b ∈ fj → b ∈ rest := fun b hb => pm.subset (List.mem_append_left _ hb)
    have qf : Own K mg G (upd H a (.lst vs.dropLast)) k z v fj := q.frame (.refl _) fun b hb o e => by rw [upd_ne fun t => na (by rw [← t]; exact nf b hb)]; exact e
    refine fin v _ (a :: rest') fj (Val.ofOwn qf) (Own.lst upd_same (by rw [ev]; exact hl3.off fun t => na (ns a t))) (fun b hb => upd_ne fun t => hb (by rw [t]; exact List.mem_cons_self)) ?_ fun b hb => ?_
    · rw [List.cons_append]
      have np : (rest' ++ fj).Nodup := nodup_perm (List.perm_append_comm.trans pm) nr
      refine List.nodup_cons.mpr ⟨fun t => ?_, np⟩
      rcases List.mem_append.1 t with t | t
      · exact na (ns a t)
      · exact na (nf a t)
    · rcases List.mem_append.1 hb with t | t
      · rcases List.mem_cons.1 t with rfl | t
        · exact List.mem_cons_self
        · exact List.mem_cons_of_mem _ (ns b t)
      · exact List.mem_cons_of_mem _ (nf b t)
  · cases hop
end
end
end PV

set_option Elab.async false
set_option linter.all false
set_option maxRecDepth 100000
set_option maxHeartbeats 0
namespace PV
noncomputable section
open PySem PySem.Spec
open PyProof.Rows L2

/-! ## 19. several values at once, stored at once -/
inductive VL (K : PySem.W.Frag) (mg : Str → Option Value) (G H : Hp) : List Nat → List D → List V → List Addr → Prop
  | nil : VL K mg G H [] [] [] []
  | cons {k : Nat} {ks : List Nat} {d : D} {v : V} {f : List Addr} {ds : List D} {vs : List V} {fp : List Addr} : Own K mg G H k d v f → VL K mg G H ks ds vs fp → VL K mg G H (k :: ks) (d :: ds) (v :: vs) (f ++ fp)
section
variable {K : PySem.W.Frag} {mg : Str → Option Value} {c : Fc} {T fp fq : List Addr} {G F H G' F' H' : Hp} {σ : L2.St} {ρ : PV.Env}
theorem VL.frame (s : Same G G') : ∀ {ks : List Nat} {ds : List D} {vs : List V} {fp : List Addr}, (∀ a ∈ fp, ∀ o, H a = some o → H' a = some o) → VL K mg G H ks ds vs fp → VL K mg G' H' ks ds vs fp
  | _, _, _, _, _, .nil => .nil
  | _, _, _, _, k, .cons h r => .cons (h.frame s fun a ha => k a (List.mem_append_left _ ha)) (VL.frame s (fun a ha => k a (List.mem_append_right _ ha)) r)
theorem VL.len : ∀ {ks : List Nat} {ds : List D} {vs : List V} {fp : List Addr}, VL K mg G H ks ds vs fp → vs.length = ks.length ∧ ds.length = ks.length
  | _, _, _, _, .nil => ⟨rfl, rfl⟩
  | _, _, _, _, .cons _ r => by rw [List.length_cons, List.length_cons, List.length_cons, r.len.1, r.len.2]; exact ⟨rfl, rfl⟩
theorem VL.dom : ∀ {ks : List Nat} {ds : List D} {vs : List V} {fp : List Addr}, VL K mg G H ks ds vs fp → ∀ a ∈ fp, H a ≠ none
  | _, _, _, _, .nil, _, h => nomatch h
  | _, _, _, _, .cons h r, a, ha => (List.mem_append.mp ha).elim (h.dom a) (r.dom a)
/-- own objects wait while a part runs -/
theorem Ok.waits (o : Ok K mg c fq G F H σ ρ) (hd : ∀ a ∈ fq, H a ≠ none) : ∃ F1, Ok K mg c [] G F1 H σ ρ ∧ Ext G F G F1 ∧ ∀ {G' F' H' : Hp} {σ' : L2.St} {ρ' : PV.Env} {fp : List Addr}, Ext G F1 G' F' → Ok K mg c fp G' F' H' σ' ρ' → ∃ F2, Ext G F G' F2 ∧ Ok K mg c (fq ++ fp) G' F2 H' σ' ρ' ∧ ∀ a ∈ fq, ∀ u, H a = some u → H' a = some u := by
  have o0 : Ok K mg c (fq ++ []) G F H σ ρ := by rw [List.append_nil]; exact o
  obtain ⟨o1, xp⟩ := o0.pin
  obtain ⟨fps, _, _, _, _, _, nd, hT, _⟩ := o.slt
  refine ⟨join F H fq, o1, xp, fun {G' F' H' σ' ρ' fp} x2 o2 => ?_⟩
  have stay : ∀ a ∈ fq, ∀ u, H a = some u → F' a = some u := fun a ha u e => x2.f a u (by unfold join; rw [if_pos ha]; exact e)
  have gn : ∀ a ∈ fq, G' a = none := fun a ha => x2.n a (o.gf.free (hT a ha)) (by unfold join; rw [if_pos ha]; exact hd a ha)
  have bn : ∀ a ∈ fq, c.B a = none := fun a ha => o.bf.free (hT a ha)
  have fn : ∀ a ∈ fq, F' a ≠ none := fun a ha => by
    cases e : H a with
    | none => exact absurd e (hd a ha)
    | some u => rw [stay a ha u e]; intro z; cases z
  exact ⟨less F' fq, Ext.unpin hT xp.f x2, o2.unpin (fp := fq) gn bn fn nd, fun a ha u e => o2.fh a u (stay a ha u e)⟩
end
section
variable {X : Cx} {W : WX} {c : Fc} {rk : Nat} {p : Bool}
def AP (X : Cx) (W : WX) (c : Fc) (ks : List Nat) (es : List Expr) (f : M (List D)) : Prop :=
  ∃ ta, PA X es ta ∧ ∀ (σ : L2.St) (ρ : PV.Env) (G F H : Hp) (Q : List V → Hp → Prop), Ok X.K X.mg c [] G F H σ ρ →
    Wp (f ρ) (fun r => ∀ vs G' F' H' fp, Ext G F G' F' → Ok X.K X.mg c fp G' F' H' σ r.2 → VL X.K X.mg G' H' ks r.1 vs fp → Q vs H') (Nx X.K X.mg W σ G F) → ta σ H Q
theorem ap_nil : AP X W c [] [] aNil := ⟨_, pa_nil, fun σ ρ G F H Q o w => w [] G F H [] (.refl _ _) o .nil⟩
theorem ap_cons {k : Nat} {m : Md} {ks : List Nat} {e : Expr} {es : List Expr} {f : M D} {g : M (List D)} (h : EX X W c p m e f) (r : AP X W c ks es g) (hm : mdK (.own k) = m := by rfl) (hs : starEach (e :: es) X.env = (false, eval e X.env) :: starEach es X.env := by rfl) : AP X W c (k :: ks) (e :: es) (aCons f g) := by
  obtain ⟨te, h1, h2⟩ := h
  obtain ⟨ta, r1, r2⟩ := r
  refine ⟨_, pa_cons h1 r1 hs, fun σ ρ G F H Q o w => ?_⟩
  refine EX.use te h2 o (Wp.ofBindM w) (fun r hr v G1 F1 H1 fq x1 o1 q hp => ?_) fun _ z => z
  have ow : Own X.K X.mg G1 H1 k r.1 v fq := mdK_own (by rw [hm]; exact q)
  obtain ⟨F2, o2, x2, back⟩ := o1.waits ow.dom
  refine r2 σ r.2 G1 F2 H1 _ o2 ((Wp.nxExt (x1.trans x2) (Wp.ofBindM hr)).imp (fun r3 hr3 => ?_) fun _ z => z)
  intro vs G3 F3 H3 fp x3 o3 vl
  obtain ⟨F4, x4, o4, st⟩ := back x3 o3
  exact hr3 (v :: vs) G3 F4 H3 (fq ++ fp) (x1.trans x4) o4 (.cons (ow.frame x3.g st) vl)
def setAll : List Nat → List D → PV.Env → PV.Env
  | i :: is, d :: ds, ρ => setAll is ds (put ρ i (some d))
  | _, _, ρ => ρ
theorem setAll_cons (i : Nat) (is : List Nat) (d : D) (ds : List D) (ρ : PV.Env) : setAll (i :: is) (d :: ds) ρ = setAll is ds (ρ.set i (some d)) := by
  show setAll is ds (put ρ i (some d)) = _
  rw [put_eq]
theorem setAll_nil (ds : List D) (ρ : PV.Env) : setAll [] ds ρ = ρ := by cases ds <;> rfl
def sPar (is : List Nat) (f : M (List D)) : SM := sDo f fun ds ρ => .nx (setAll is ds ρ)
theorem sx_par2 (ok : Cok X W) (i j : Nat) {ki kj : Nat} {x y : Str} {a b : Expr} {f : M (List D)} {px py pt : Pos} {kt k2 pt2} {pos : Pos} (h : AP X W c [ki, kj] [a, b] f) (hN : X.N.Nodup) (hij : i ≠ j) (hki : c.kd i = .own ki := by rfl) (hkj : c.kd j = .own kj := by rfl)
    (hioi : noIo c i = true := by rfl) (hioj : noIo c j = true := by rfl) (hi : X.N[i]? = some x := by rfl) (hj : X.N[j]? = some y := by rfl) (hx : X.env.scope.names.lookup x = some .local := by rfl) (hy : X.env.scope.names.lookup y = some .local := by rfl)
    (hw : swappedStores [.Tuple [.Name x px, .Name y py] kt pt] (.Tuple [a, b] k2 pt2) X.env = pure (some [x, y]) := by rfl) (hs : swapsWithSole [.Tuple [.Name x px, .Name y py] kt pt] (.Tuple [a, b] k2 pt2) pos.line X.env = pure false := by rfl) :
    SX X W c rk (.Assign [.Tuple [.Name x px, .Name y py] kt pt] (.Tuple [a, b] k2 pt2) pos) (sPar [i, j] f) := by
  obtain ⟨ta, h1, h2⟩ := h
  refine ⟨_, ps_par ok.calm hN hi hj hij hx hy h1 hw hs, fun D σ ρ G F H o w => ?_⟩
  refine h2 σ ρ G F H _ o ((WpS.ofDo w).imp (fun r hr => ?_) fun _ z => Nx.toS z)
  intro vs G1 F1 H1 fp x1 o1 vl
  obtain ⟨ds, ρ1⟩ := r
  cases vl with
  | cons q1 vl =>
    cases vl with
    | cons q2 vl =>
      cases vl
      rename_i f1 d2 v2 f2
      refine ⟨_, _, rfl, ?_⟩
      rw [List.append_nil] at o1
      have o2 := Ok.set (T := f2) o1 (i := i) (by rw [hki]; exact q1) hioi
      have o3 := Ok.set (T := []) o2.tnil (i := j) (by rw [hkj]; exact q2) hioj
      exact hr _ G1 F1 H1 x1 (by rw [setAll_cons, setAll_cons, setAll_nil]; exact o3) (by rw [List.length_set, List.length_set])
/-! names, stored from the left out of a tuple -/
theorem ok_grownT {K : PySem.W.Frag} {mg : Str → Option Value} {T : List Addr} {G F H : Hp} {σ : L2.St} {ρ : PV.Env} {pa : Addr} {u : HO} (o : Ok K mg c T G F H σ ρ) (hT : ∀ a ∈ T, H a ≠ none) (h : H pa = none) : Ok K mg c T (upd G pa u) (upd F pa u) (upd H pa u) σ ρ := by
  have g := Grow.sh (o := u) o.gf o.fh h
  exact o.grow g.x g.gf g.fh g.hh g.n hT
/-- the names' slots, each with its depth -/
def slotsOk (X : Cx) (c : Fc) : List Nat → List Nat → List Expr → Prop
  | [], [], [] => True
  | i :: is, k :: ks, .Name x _ :: ts => c.kd i = .own k ∧ noIo c i = true ∧ X.N[i]? = some x ∧ Loc X.env.scope x ∧ (X.fn x = true ∨ X.env.scope.names.lookup x = some .local) ∧
      (assignEach (.Name x default :: ts) X.env).map (·.2) = assign (.Name x default) X.env :: (assignEach ts X.env).map (·.2) ∧ slotsOk X c is ks ts
  | _, _, _ => False
def GN (X : Cx) (c : Fc) (is ks : List Nat) (ts : List Expr) : Prop := ∃ t, PGs X ts t ∧ ∀ (σ : L2.St) (ρ : PV.Env) (G F H : Hp) (ds : List D) (vs : List V) (fp : List Addr) (Q : L2.St → Hp → Prop), Ok X.K X.mg c fp G F H σ ρ → VL X.K X.mg G H ks ds vs fp →
  (∀ σ', Ok X.K X.mg c [] G F H σ' (setAll is ds ρ) → σ'.length = σ.length → Q σ' H) → t vs σ H Q
theorem gn_nil : GN X c [] [] [] := ⟨_, pgs_nil, fun σ ρ G F H ds vs fp Q o vl q => by
  cases vl
  exact ⟨rfl, q σ o rfl⟩⟩
theorem gn_cons (i : Nat) {is ks : List Nat} {k : Nat} {x : Str} {pos : Pos} {ts : List Expr} (r : GN X c is ks ts) (hN : X.N.Nodup) (hk : c.kd i = .own k := by rfl) (hio : noIo c i = true := by rfl) (hi : X.N[i]? = some x := by rfl) (hx : Loc X.env.scope x := by first | exact Or.inl rfl | exact Or.inr rfl)
    (hf : X.fn x = true ∨ X.env.scope.names.lookup x = some .local := by first | exact .inl rfl | exact .inr rfl) (hs : (assignEach (.Name x pos :: ts) X.env).map (·.2) = assign (.Name x pos) X.env :: (assignEach ts X.env).map (·.2) := by rfl) : GN X c (i :: is) (k :: ks) (.Name x pos :: ts) := by
  obtain ⟨t, r1, r2⟩ := r
  refine ⟨_, pgs_cons (pg_name hN hi hx hf) r1 hs, fun σ ρ G F H ds vs fp Q o vl q => ?_⟩
  cases vl with
  | cons q1 vl =>
    refine ⟨_, _, rfl, ?_⟩
    exact r2 _ _ G F H _ _ _ Q (Ok.set o (by rw [hk]; exact q1) hio) vl fun σ' o' hl => q σ' (by rw [setAll_cons]; exact o') (by rw [hl, List.length_set])
theorem sx_parN (ok : Cok X W) {is ks : List Nat} {ts es : List Expr} {f : M (List D)} {n : Nat} {pt : Pos} {kt k2 pt2} {pos : Pos} (h : AP X W c ks es f) (g : GN X c is ks ts) (hn : (assignEach ts X.env).length = n := by rfl) (hkn : ks.length = n := by rfl) (hsz : n ≤ 100000 := by decide) (hst : (assignEach ts X.env).findIdx? (·.1) = none := by rfl)
    (hs : swapsWithSole [.Tuple ts kt pt] (.Tuple es k2 pt2) pos.line X.env = pure false := by rfl) (hw : swappedStores [.Tuple ts kt pt] (.Tuple es k2 pt2) X.env = pure none := by rfl)
    (h1' : (assignEach [.Tuple ts kt pt] X.env).map (·.2) = [assign (.Tuple ts kt pt) X.env] := by rfl) : SX X W c rk (.Assign [.Tuple ts kt pt] (.Tuple es k2 pt2) pos) (sPar is f) := by
  obtain ⟨ta, h1, h2⟩ := h
  obtain ⟨tg, g1, g2⟩ := g
  refine ⟨_, ps_asg (pe_tup h1) (pg_tup ok.calm g1 hn hst) hs hw h1', fun D σ ρ G F H o w => ?_⟩
  refine h2 σ ρ G F H _ o ((WpS.ofDo w).imp (fun r hr => ?_) fun _ z => Nx.toS z)
  intro vs G1 F1 H1 fp x1 o1 vl
  refine ⟨by rw [vl.len.1, hkn]; exact szl hsz, fun a ha => ?_⟩
  have gw := Grow.sh (o := .tup vs) o1.gf o1.fh ha
  have o2 := ok_grownT (u := .tup vs) o1 vl.dom ha
  refine ⟨a, vs, rfl, .of upd_same, vl.len.1.trans hkn, ?_⟩
  refine g2 σ r.2 _ _ _ r.1 vs fp _ o2 (vl.frame gw.x.g fun b hb u e => gw.hh b u e) fun σ' o' hl => ?_
  exact hr σ' _ _ _ (x1.trans gw.x) o' hl
/-! x[i] = v -/
def PS3 (K : PySem.W.Frag) (mg : Str → Option Value) (n k : Nat) (t : TSet) (op : D → D → D → Option D) : Prop :=
  ∀ (G F H : Hp) (x j d y : D) (u w v : V) (fp fq : List Addr) (Q : Hp → Prop), Same G F → Same F H → Own K mg G H n x u fp → Rp K mg G w j → Own K mg G H k d v fq → (fp ++ fq).Nodup → op x j d = some y →
    (∀ H' fo, Own K mg G H' n y u fo → (∀ a, a ∉ fp → H' a = H a) → fo.Nodup → (∀ a ∈ fo, a ∈ fp ∨ a ∈ fq) → Q H') → t u w v H Q
def sPut (i : Nat) (op : D → D → D → Option D) (fv fi : M D) : SM := sDo fv fun d ρ => match look ρ i with
  | none => .fail
  | some _ => sDo fi (fun j ρ' => match look ρ' i with
    | some x => match op x j d with
      | some y => .nx (put ρ' i (some y))
      | none => .fail
    | none => .fail) ρ
theorem sPut_def (i : Nat) (op : D → D → D → Option D) (fv fi : M D) : sPut i op fv fi = sDo fv fun d ρ => match look ρ i with
  | none => .fail
  | some _ => sDo fi (fun j ρ' => match look ρ' i with
    | some x => match op x j d with
      | some y => .nx (ρ'.set i (some y))
      | none => .fail
    | none => .fail) ρ := by
  unfold sPut
  simp only [put_eq]
theorem sx_put (i : Nat) {n k : Nat} {q : Bool} {m : Md} {t : TSet} {op : D → D → D → Option D} {x : Str} {ei e : Expr} {fi fv : M D} {px pos pos' : Pos} (ht : PSet X t) (hS : PS3 X.K X.mg n k t op) (hv : EX X W c p m e fv) (hi : EX X W c q (.rd 0) ei fi) (hm : mdK (.own k) = m := by rfl) (hk : c.kd i = .own n := by rfl)
    (hN : X.N[i]? = some x := by rfl) (hvis : Vis X.env.scope x := by first | exact Or.inl rfl | exact Or.inr (Or.inl rfl) | exact Or.inr (Or.inr rfl)) (hd : (x == ("__debug__" : Str)) = false := by decide) (hcd : (x == ("__classdict__" : Str)) = false := by decide)
    (hs : swapsWithSole [.Subscript (.Name x px) ei pos'] e pos.line X.env = pure false := by rfl) (hw : swappedStores [.Subscript (.Name x px) ei pos'] e X.env = pure none := by rfl)
    (h1 : (assignEach [.Subscript (.Name x px) ei pos'] X.env).map (·.2) = [assign (.Subscript (.Name x px) ei pos') X.env] := by rfl)
    (ha : ∀ v, assign (.Subscript (.Name x px) ei pos') X.env v = (do
      let ov ← holding [v] (eval (.Name x px) X.env)
      let iv ← holding [v, ov] (eval ei X.env)
      standAt pos'; holding [v, ov, iv] (setItem ov iv v)
      release [v, ov, iv] []) := by intro _; rfl) : SX X W c rk (.Assign [.Subscript (.Name x px) ei pos'] e pos) (sPut i op fv fi) := by
  rw [sPut_def]
  obtain ⟨tv, v1, v2⟩ := hv
  obtain ⟨ti, i1, i2⟩ := hi
  refine ⟨_, ps_asg v1 (pg_sub (pe_var hN hvis hd hcd) i1 ht ha) hs hw h1, fun D σ ρ G F H o w => ?_⟩
  refine EX.use tv v2 o (WpS.ofDo w) (fun r hr v G1 F1 H1 fq x1 o1 qv hp => ?_) fun _ z => Nx.toS z
  have ow : Own X.K X.mg G1 H1 k r.1 v fq := mdK_own (by rw [hm]; exact qv)
  split at hr
  · exact hr.elim
  · rename_i x0 e0
    obtain ⟨u0, fp0, es0, _⟩ := o1.mut e0 hk
    refine ⟨u0, es0, ?_⟩
    obtain ⟨F2, o2, x2, back⟩ := o1.waits ow.dom
    refine EX.use ti i2 o2 (Wp.nxExt (x1.trans x2) ((WpS.ofDo hr).imp (fun _ z => z) fun _ z => Nx.toS z)) (fun r3 hr3 wv G3 F3 H3 fi x3 o3 qi hp3 => ?_) fun _ z => z
    obtain ⟨F4, x4, o4, st⟩ := back x3 o3.drop
    rw [List.append_nil] at o4
    split at hr3
    · rename_i x3' e3
      split at hr3
      · rename_i y hop
        obtain ⟨u, fp, es, owx, nd, hF, dj, nq, go⟩ := o4.mut e3 hk
        rw [es0] at es
        cases es
        refine hS G3 F4 H3 x3' r3.1 r.1 y u0 wv v fp fq _ o4.gf o4.fh owx qi.1 (ow.frame x3.g st) (List.nodup_append.mpr ⟨nd, nq, fun a ha b hb hab => dj a ha (by rw [hab]; exact hb)⟩) hop fun H' fo ow' off nf sub => ?_
        exact hr3 σ G3 F4 H' (x1.trans x4) (go H' y fo [] ow' off (by rw [List.append_nil]; exact nf) fun a ha => sub a (by rw [List.append_nil] at ha; exact ha)) rfl
      · exact hr3.elim
    · exact hr3.elim
def opSetL : D → D → D → Option D
  | .lst ds, .int i, d => (ixN ds.length i).map fun j => .lst (ds.set j d)
  | _, _, _ => none
theorem ixN_lt {n : Nat} {i : Int} {j : Nat} (h : ixN n i = some j) : j < n := (ixN_seq h).2.1
theorem ps3_lst {K : PySem.W.Frag} {mg : Str → Option Value} {k : Nat} : PS3 K mg (k + 1) k rSetL opSetL := by
  intro G F H x j d y u w v fp fq Q gf fh ow rj od nd hop fin
  cases x <;> first | (cases hop; done) | skip
  cases j <;> first | (cases hop; done) | skip
  rename_i ds i
  cases rj
  unfold opSetL at hop
  simp only [Option.map_eq_some_iff] at hop
  obtain ⟨jj, hj, rfl⟩ := hop
  obtain ⟨a, rest, vs, rfl, rfl, ha, hl⟩ := ow.lst_inv
  have hlt := ixN_lt hj
  obtain ⟨v0, fj, rest', e1, q0, _, pm, pt⟩ := hl.pick (List.getElem?_eq_getElem hlt)
  refine ⟨a, vs, i, jj, rfl, rfl, ha, by rw [hl.length]; exact hj, ?_⟩
  have na := (List.nodup_cons.mp (List.nodup_append.mp nd).1)
  have nd2 := List.nodup_append.mp nd
  obtain ⟨fp', hl', pm'⟩ := pt d v fq od
  have sub : ∀ b ∈ fp', b ∈ rest ∨ b ∈ fq := fun b hb => by
    rcases List.mem_append.mp (pm'.symm.subset hb) with h | h
    · exact .inr h
    · exact .inl (pm.subset (List.mem_append_right _ h))
  have nafp : a ∉ fp' := fun h => (sub a h).elim na.1 fun h => nd2.2.2 a List.mem_cons_self a h rfl
  refine fin _ (a :: fp') (Own.lst upd_same (hl'.off nafp)) (fun b hb => upd_ne fun t => hb (by rw [t]; exact List.mem_cons_self)) (List.nodup_cons.mpr ⟨nafp, nodup_perm pm'.symm (List.nodup_append.mpr ⟨nd2.2.1, (List.nodup_append.mp (nodup_perm pm na.2)).2.1, fun b hb b' hb' z => nd2.2.2 b' (List.mem_cons_of_mem _ (pm.subset (List.mem_append_right _ hb'))) b hb z.symm⟩)⟩) fun b hb => ?_
  rcases List.mem_cons.1 hb with rfl | hb
  · exact .inl List.mem_cons_self
  · exact (sub b hb).imp (List.mem_cons_of_mem _) id
end
end
end PV

set_option Elab.async false
set_option linter.all false
set_option maxRecDepth 100000
set_option maxHeartbeats 0
namespace PV
noncomputable section
open PySem PySem.Spec
open PyProof.Rows L2

/-! ## 20. a try: its clauses are heard one by one, with a name or without
`Hears X hds W`: the clauses hds treat every caught exception, of which W is known, as a statement of X may end. -/
abbrev mdl (X : Cx) := model X.prog X.w
/-- the exception a stands caught before the clauses; sI is the state that does not hold it yet -/
structure Stands (X : Cx) (pins : List (Addr × Obj)) (σ : L2.St) (H : Hp) (B : Heap) (a : Addr) (cls : Value) (d : Option Addr) (sI s : Shared) : Prop where
  inv : Inv X pins σ H sI
  grd : ∀ b o, sI.heap.get? b = some o → b ∉ frs X.stack → B.get? b = some o
  ups : sI.heap.UpToSlots s.heap
  fly : HandSPX.FlyingZ B X.stack a (Zc cls d) s.heap
  new : H a = none
  sys : s.os = sI.os
  gen : AllBare s.gens
abbrev Asks := Ends → WX
def Hears (X : Cx) (hds : List ExceptHandler) (W : Asks) : Prop :=
  ∀ (pins : List (Addr × Obj)) (D : Ends) (σ : L2.St) (H : Hp) (B : Heap) (a : Addr) (cls : Value) (d : Option Addr) (sI s : Shared),
    Stands X pins σ H B a cls d sI s → W D cls d σ H → wpAny (mdl X) X.A (handleBy (.ref a) X.env hds) (SP X pins D) X.xe s
/-- the wish at a clause that names the class c -/
def wCl (K : PySem.W.Frag) (c : Value) (yes no : Asks) : Asks := fun D cls d σ H => ∃ b, PySem.W.exmOne K cls c = some b ∧ (match b with | true => yes D cls d σ H | false => no D cls d σ H)
def wOwn (ts : Addr → Value → Option Addr → TS) : Asks := fun D cls d σ H => ∀ a, H a = none → ts a cls d D σ H
/-- slot i goes behind the suite -/
def Ends.less (D : Ends) (i : Nat) : Ends := ⟨fun σ => D.nx (σ.set i none), D.rt, fun σ => D.bk (σ.set i none), fun σ => D.ct (σ.set i none)⟩
def wOwnAs (i : Nat) (ts : Addr → Value → Option Addr → TS) : Asks := fun D cls d σ H => ∀ a, H a = none → ts a cls d (Ends.less D i) (σ.set i (some (.ref a))) H
section
variable {X Y : Cx} {pins pins' : List (Addr × Obj)} {σ : L2.St} {H : Hp} {B : Heap} {a : Addr} {cls : Value} {d : Option Addr} {sI s : Shared} {D : Ends}
/-- an ending under another context of the same state -/
theorem sp_turn {f : Flow} (k : ∀ σ' H', Inv Y pins' σ' H' s → Inv X pins σ' H' s) : SP Y pins' D f s → SP X pins D f s :=
  match f with
  | .next => fun ⟨σ', H', i, q⟩ => ⟨σ', H', k _ _ i, q⟩
  | .brk => fun ⟨σ', H', i, q⟩ => ⟨σ', H', k _ _ i, q⟩
  | .cont => fun ⟨σ', H', i, q⟩ => ⟨σ', H', k _ _ i, q⟩
  | .ret _ => fun ⟨v, σ', H', i, r, q⟩ => ⟨v, σ', H', k _ _ i, r, q⟩
theorem Stands.on {h : Heap} (c : Stands X pins σ H B a cls d sI s) (f : HandSPX.FlyingZ B X.stack a (Zc cls d) h) (u : s.heap.UpToSlots h) : Stands X pins σ H B a cls d sI { s with heap := h } :=
  { inv := c.inv, grd := c.grd, ups := c.ups.trans u, fly := f, new := c.new, sys := c.sys, gen := c.gen }
theorem Stands.at (c : Stands X pins σ H B a cls d sI s) : Inv X pins σ H s := c.inv.landed c.grd c.fly.1 c.ups c.sys c.gen
/-- an exception is no frame's object -/
theorem Stands.notFrame (c : Stands X pins σ H B a cls d sI s) : a ∉ frs X.stack := by
  intro m
  obtain ⟨oe, vs, h1, _, h2⟩ := c.fly.there
  obtain ⟨_, o, h3, h4⟩ := c.fly.2.2.1.mem m
  exact h4 vs ((Option.some.inj (h1.symm.trans h3)) ▸ h2)
theorem Stands.suite (c : Stands X pins σ H B a cls d sI s) (hs : X.stack = X.env :: X.outer) (hf : X.env.frame = some X.env.locals) :
    ∃ oe, Zc cls d oe ∧ (∃ vs, oe.data = .fields vs) ∧ s.heap.get? a = some oe ∧ Inv (X.suite a ((a, oe) :: (X.pn ++ pins))) [] σ H s := by
  obtain ⟨oe, vs, at1, z, dt⟩ := c.fly.there
  have nf := c.notFrame
  rw [hs] at nf
  have two : a ≠ X.env.locals ∧ a ∉ X.fs := by
    constructor
    · rintro rfl
      exact nf (by simp [frs, hf])
    · intro m
      exact nf (by simp only [frs, List.filterMap_cons, hf]; exact .tail _ m)
  exact ⟨oe, z, ⟨vs, dt⟩, at1, c.at.suite at1 dt c.new two.1 two.2⟩
/-- no clause is left: the exception goes on -/
theorem hears_none {W : WX} (hs : X.stack = X.env :: X.outer) (hf : X.env.frame = some X.env.locals) (tk : Takes X W) : Hears X [] (fun _ => W) := by
  intro pins D σ H B a cls d sI s c w
  apply wpAny_handleBy_nil
  have up : wpAny (mdl X) X.A (setFlight (.ref a) X.env.frame) (fun _ t => wpAny (mdl X) X.A (throw (.ref a) : Sem Flow) (SP X pins D) X.xe t) X.xe s := by
    rw [hf]
    apply HandSPX.setFlight_upZ c.fly
    intro h' held u
    exact wpAny_throw (tk _ _ ⟨a, B, sI, pins, σ, H, cls, d, rfl, c.inv, c.grd, c.ups.trans u, .inr (.inr held), c.new, c.sys, c.gen, w⟩)
  obtain ⟨_, _, _, oe, vs, tb, _, _, at1, _, dt, slot, _⟩ := id c.fly
  show wpAny _ _ (PySem.passOn _ _ _) _ _ _
  unfold PySem.passOn
  apply wpAny_bind
  apply wpAny_field at1 dt slot
  have ne : (Value.ref tb == Value.none) = false := by simp
  rw [ne]
  first
    | exact wpAny_bind (wpAny_pure (wpAny_bind up))
    | exact wpAny_bind up
/-- the class of a clause, asked for the exception -/
theorem Stands.fits {x : Str} {k : Value} {np : Pos} {b : Bool} {E : Value → Shared → Prop} {Q : Bool → Shared → Prop} (c : Stands X pins σ H B a cls d sI s) (hs : X.stack = X.env :: X.outer) (hf : X.env.frame = some X.env.locals)
    (nm : Names X x k) (e : PySem.W.exmOne X.K cls k = some b) (q : Q b s) :
    wpAny (mdl X) (X.A.mark (some (.ref a))) (eval (.Name x np) X.env) (fun v t => wpAny (mdl X) (X.A.mark (some (.ref a))) (excMatches (.ref a) v) Q E t) E s := by
  obtain ⟨oe, z, _, at1, I⟩ := c.suite hs hf
  have ty : PySem.W.Looks (mdl X) s.heap (typeOf (.ref a)) cls := fun _ _ _ _ same r => wpAny_typeOf_ref (same _ _ at1) (z.1.symm ▸ r)
  have fit := (PySem.W.exm_one (M := mdl X) c.at.kIn ty e).here (A := X.A.mark (some (.ref a))) (Q := Q) (E := E) q
  rcases nm with ⟨gl, nd, here | ⟨nowhere, bt, nn⟩⟩
  · exact ld_glob (X := X.suite a ((a, oe) :: (X.pn ++ pins))) I gl here fit nd
  · exact ld_blt (X := X.suite a ((a, oe) :: (X.pn ++ pins))) I gl nowhere bt fit nn nd
/-- a clause with its class, whatever its suite is -/
theorem hears_clause {x : Str} {k : Value} {np pos : Pos} {nm : Option Str} {b₀ : Stmt} {suite : List Stmt} {hds : List ExceptHandler} {yes no : Asks} (hs : X.stack = X.env :: X.outer) (hf : X.env.frame = some X.env.locals) (hc : Names X x k)
    (hy : ∀ (pins : List (Addr × Obj)) (D : Ends) (σ : L2.St) (H : Hp) (B : Heap) (a : Addr) (cls : Value) (d : Option Addr) (sI s : Shared), Stands X pins σ H B a cls d sI s → yes D cls d σ H →
      codeAny (mdl X) (X.A.mark (some (.ref a))) (.handlers (.ref a) [.ExceptHandler none nm (b₀ :: suite) pos] X.env) (fun r s₂ => match r with
          | .ok f => (match nm with
            | none => SP X pins D f s₂
            | some n => wpAny (mdl X) X.A (do bindName X.env n .none; unbindBehindTheSuite X.env n pos) (fun _ s₃ => SP X pins D f s₃) X.xe s₂)
          | .error x => cameBackBy (mdl X) X.A X.env X.xe x s₂) s)
    (hn : Hears X hds no) : Hears X (.ExceptHandler (some (.Name x np)) nm (b₀ :: suite) pos :: hds) (wCl X.K k yes no) := by
  intro pins D σ H B a cls d sI s c w
  rcases w with ⟨b, e, w⟩
  apply wpAny_handleBy_cons
  · apply codeAny_handlers_test
    apply c.fits hs hf hc e
    cases b
    · exact hn _ _ _ _ _ _ _ _ _ _ c w
    · exact hy _ _ _ _ _ _ _ _ _ _ c w
  · exact fun z => nomatch z
/-- except x: suite -/
theorem hears_own {x : Str} {k : Value} {np pos : Pos} {b₀ : Stmt} {suite : List Stmt} {hds : List ExceptHandler} {no : Asks} {ts : Addr → Value → Option Addr → TS} (hs : X.stack = X.env :: X.outer) (hf : X.env.frame = some X.env.locals) (hc : Names X x k)
    (su : ∀ (a : Addr) (oe : Obj) (cls : Value) (d : Option Addr) (pn : List (Addr × Obj)), Zc cls d oe → (∃ vs, oe.data = .fields vs) → PSs (X.suite a ((a, oe) :: pn)) (b₀ :: suite) (ts a cls d))
    (hn : Hears X hds no) : Hears X (.ExceptHandler (some (.Name x np)) none (b₀ :: suite) pos :: hds) (wCl X.K k (wOwn ts) no) := by
  refine hears_clause hs hf hc ?_ hn
  intro pins D σ H B a cls d sI s c w
  apply codeAny_handlers_suite
  apply HandSPX.lands_againZ c.fly
  intro h' fl u
  obtain ⟨oe, z, fd, _, I⟩ := (c.on fl u).suite hs hf
  exact wpAny_mono ((su a oe cls d _ z fd).run [] _ σ H D I (w a c.new)) (fun f t q => sp_turn (fun _ _ J => J.unsuite c.inv.ok) q) (fun _ _ ff => ff.elim)
/-- behind a suite with a name: the name goes -/
theorem sp_less {i : Nat} {n : Str} {pos : Pos} {f : Flow} (hN : X.N.Nodup) (hi : X.N[i]? = some n) (hl : X.env.kindOf n = some .local) (k : ∀ σ' H', Inv Y pins' σ' H' s → Inv X pins σ' H' s) (q : SP Y pins' (Ends.less D i) f s) :
    wpAny (mdl X) X.A (do bindName X.env n .none; unbindBehindTheSuite X.env n pos) (fun _ t => SP X pins D f t) X.xe s :=
  match f, q with
  | .next, ⟨_, H', J, r⟩ => gone_ok (k _ _ J) hN hi hl fun _ J' => ⟨_, H', J', r⟩
  | .brk, ⟨_, H', J, r⟩ => gone_ok (k _ _ J) hN hi hl fun _ J' => ⟨_, H', J', r⟩
  | .cont, ⟨_, H', J, r⟩ => gone_ok (k _ _ J) hN hi hl fun _ J' => ⟨_, H', J', r⟩
  | .ret _, ⟨v, _, H', J, rv, r⟩ => gone_ok (k _ _ J) hN hi hl fun _ J' => ⟨v, _, H', J', rv, r⟩
/-- except x as n: suite -/
theorem hears_as {i : Nat} {x n : Str} {k : Value} {np pos : Pos} {b₀ : Stmt} {suite : List Stmt} {hds : List ExceptHandler} {no : Asks} {ts : Addr → Value → Option Addr → TS} (hs : X.stack = X.env :: X.outer) (hf : X.env.frame = some X.env.locals) (hc : Names X x k)
    (hN : X.N.Nodup) (hi : X.N[i]? = some n) (hl : X.env.kindOf n = some .local)
    (su : ∀ (a : Addr) (oe : Obj) (cls : Value) (d : Option Addr) (pn : List (Addr × Obj)), Zc cls d oe → (∃ vs, oe.data = .fields vs) → PSs (X.suite a ((a, oe) :: pn)) (b₀ :: suite) (ts a cls d))
    (hn : Hears X hds no) : Hears X (.ExceptHandler (some (.Name x np)) (some n) (b₀ :: suite) pos :: hds) (wCl X.K k (wOwnAs i ts) no) := by
  refine hears_clause hs hf hc ?_ hn
  intro pins D σ H B a cls d sI s c w
  apply codeAny_handlers_suite_as
  apply HandSPX.lands_againZ c.fly
  intro h' fl u
  obtain ⟨oe, z, fd, _, I⟩ := (c.on fl u).suite hs hf
  apply store_ok (X := X.suite a ((a, oe) :: (X.pn ++ pins))) (v := .ref a) I hN hi (.inl hl) rfl (hf := .inr hl)
  intro t I'
  exact wpAny_mono ((su a oe cls d _ z fd).run [] t _ H _ I' (w a c.new)) (fun f t' q => sp_less hN hi hl (fun _ _ J => J.unsuite c.inv.ok) q) (fun _ _ ff => ff.elim)
/-- the clauses as they are come to: the frame is noted, the flight set off -/
def toClauses (X : Cx) (pins : List (Addr × Obj)) (D : Ends) (hds : List ExceptHandler) : Value → Shared → Prop := fun u t =>
  wpAny (mdl X) X.A (noteFrame u X.env) (fun _ t => wpAny (mdl X) X.A (setFlight u none) (fun _ t => wpAny (mdl X) X.A (handleBy u X.env hds) (SP X pins D) X.xe t) X.xe t) X.xe t
/-- a body read for any wish on its exceptions -/
def Reads (X : Cx) (body : List Stmt) (tb : WX → TS) : Prop := ∀ (W : WX) (pn : List (Addr × Obj)) (xe : Value → Shared → Prop),
  Takes (X.tr pn xe) W → PassesOwn (mdl X) X.A X.env xe → PSs (X.tr pn xe) body (tb W)
/-- the whole -/
theorem ps_tryH {body : List Stmt} {h₀ : ExceptHandler} {hds : List ExceptHandler} {pos : Pos} {W : Asks} {tb : WX → TS} (hs : X.stack = X.env :: X.outer) (hf : X.env.frame = some X.env.locals) (hb : Reads X body tb)
    (hh : Hears X (h₀ :: hds) W) : PS X (.Try body (h₀ :: hds) [] [] pos) (fun D σ H => tb (W D) D σ H) := by
  constructor
  intro pins s σ H D I t
  have ok := I.ok
  apply wpAny_Try_except
  have run := hb (W D) (X.pn ++ pins) (toClauses X pins D (h₀ :: hds)) (fun u s' x => by
    obtain ⟨a, B, sI, _, σ', H', cls, d, rfl, J, grd, ups, sky, new, sys, gen, w⟩ := x
    have sky' : Sky B (X.env :: X.outer) a (Zc cls d) X.env.locals s'.heap := hs ▸ sky
    have c : ∀ h, HandSPX.FlyingZ B (X.env :: X.outer) a (Zc cls d) h → s'.heap.UpToSlots h → Stands X pins σ' H' B a cls d sI { s' with heap := h } :=
      fun h fl u => ⟨J.ofTry ok, grd, ups.trans u, hs.symm ▸ fl, new, sys, gen⟩
    exact Sky.land Zc.steady (ok.frames.trans (congrArg some hs)) hf sky' fun h fl u => hh pins D σ' H' B a cls d sI _ (c h fl u) w) PassesOwn.looking
  refine wpAny_mono (run.run [] s σ H D (I.toTry _) t) ?_ (fun _ _ q => q)
  intro f s' q
  have q' : SP X pins D f s' := sp_turn (fun _ _ J => J.ofTry ok) q
  cases f
  case next => exact wpAny_execs_nil q'
  all_goals exact q'
end
end
end PV

set_option Elab.async false
set_option linter.all false
set_option maxRecDepth 100000
set_option maxHeartbeats 0
namespace PV
noncomputable section
open PySem PySem.Spec
open PyProof.Rows L2

/-! ## 21. the try that tells how a call ended -/
/-- what a body says, with no context -/
def canS (K : PySem.W.Frag) (mg : Str → Option Value) (c : Fc) (rk : Nat) (f : SM) (W : WX) : TS := fun D σ H => ∃ ρ G F, Ok K mg c [] G F H σ ρ ∧
  WpS (f ρ) (fun ρ' => ∀ σ' G' F' H', Ext G F G' F' → Ok K mg c [] G' F' H' σ' ρ' → σ'.length = σ.length → D.nx σ' H')
      (fun d ρ' => ∀ σ' v G' F' H' fp, Ext G F G' F' → Ok K mg c fp G' F' H' σ' ρ' → Own K mg G' H' rk d v fp → D.rt v H') (NxS K mg W σ.length G F)
theorem SXs.can {X : Cx} {W : WX} {c : Fc} {rk : Nat} {b : List Stmt} {f : SM} (h : SXs X W c rk b f) : PSs X b (canS X.K X.mg c rk f W) := by
  obtain ⟨t, h1, h2⟩ := h
  refine ⟨fun pins s σ H D I q => h1.run pins s σ H D I ?_⟩
  obtain ⟨ρ, G, F, o, w⟩ := q
  exact h2 D σ ρ G F H o w
def blank (ρ : PV.Env) : PV.Env := List.replicate ρ.length none
/-- what the clauses make of an exception -/
def sTryR (i : Nat) (fb : SM) : SM := fun ρ => match fb ρ with
  | .exc .mal => .rt (.tup [.str "malformed", .non]) (blank ρ)
  | .exc (.refu d) => if i < ρ.length then .rt (.tup [.str "refused", d]) (blank ρ) else .fail
  | r => r
/-- what the classes' texts say -/
structure XcR (K : PySem.W.Frag) (mg : Str → Option Value) (CM CR : Addr) : Prop where
  gM : mg "Malformed" = some (.ref CM)
  gR : mg "Refused" = some (.ref CR)
  mm : PySem.W.exmOne K (.ref CM) (.ref CM) = some true
  rm : PySem.W.exmOne K (.ref CR) (.ref CM) = some false
  rr : PySem.W.exmOne K (.ref CR) (.ref CR) = some true
  xf : XfC K CR
  hno : PySem.W.findIn K (.ref CR) "reason" = some none
/-- neither: it goes on -/
structure XcN (K : PySem.W.Frag) (mg : Str → Option Value) (CM CR CN : Addr) : Prop where
  gN : mg "NoText" = some (.ref CN)
  nm : PySem.W.exmOne K (.ref CN) (.ref CM) = some false
  nr : PySem.W.exmOne K (.ref CN) (.ref CR) = some false
section
variable {K : PySem.W.Frag} {mg : Str → Option Value} {c : Fc} {T : List Addr} {G F H G' F' H' : Hp} {σ σ' : L2.St} {ρ : PV.Env}
theorem blank_none {i : Nat} : ¬ ∃ d, (blank ρ)[i]? = some (some d) := fun ⟨d, e⟩ => by
  unfold blank at e
  rw [List.getElem?_replicate] at e
  split at e <;> cases e
theorem Ok.blank (gf : Same G F) (fh : Same F H) (bf : Same c.B F) (hl : ρ.length = σ.length) (io : c.io = []) : Ok K mg c [] G F H σ (PV.blank ρ) :=
  ⟨gf, fh, bf, by unfold PV.blank; rw [List.length_replicate]; exact hl, fun p hp => (by rw [io] at hp; cases hp), fun _ => [], fun i d e => absurd ⟨d, e⟩ blank_none, fun _ _ => rfl, fun _ _ h => (nomatch h), fun _ => List.nodup_nil, fun _ _ _ _ h => (nomatch h), List.nodup_nil, fun _ h => (nomatch h), fun _ _ h => (nomatch h)⟩
end
section
variable {X : Cx} {W : WX} {c : Fc} {p : Bool} {rk : Nat}
theorem sx_tryR (ok : Cok X W) (hs : X.stack = X.env :: X.outer) (hf : X.env.frame = some X.env.locals) (hN : X.N.Nodup) {CM CR : Addr} (xc : XcR X.K X.mg CM CR) (i : Nat) {n : Str} {body : List Stmt} {fb : SM} {np nq pos p1 p2 p3 p4 p5 p6 p7 p8 p9 p10 : Pos} {kt kt2 j1 j2 j3}
    (hb : ∀ (W' : WX) (pn : List (Addr × Obj)) (xe : Value → Shared → Prop), Cok (X.tr pn xe) W' → Pso (X.tr pn xe) → SXs (X.tr pn xe) W' c 0 body fb) (hnn : X.mg "NoText" = none ∨ ∃ CN, XcN X.K X.mg CM CR CN) (hio : c.io = [] := by rfl)
    (hi : X.N[i]? = some n := by rfl) (hln : X.env.kindOf n = some .local := by rfl) (hgM : Gl X "Malformed" := by rfl) (hgR : Gl X "Refused" := by rfl) (hv : Vis X.env.scope n := by first | exact Or.inl rfl | exact Or.inr (Or.inl rfl) | exact Or.inr (Or.inr rfl)) (hd : (n == ("__debug__" : Str)) = false := by decide) (hcd : (n == ("__classdict__" : Str)) = false := by decide) :
    SX X W c 0 (.Try body [.ExceptHandler (some (.Name "Malformed" np)) none [.Return (some (.Tuple [.Constant (.str "malformed") j1 p1, .Constant .none j2 p2] kt p3)) p4] p5,
      .ExceptHandler (some (.Name "Refused" nq)) (some n) [.Return (some (.Tuple [.Constant (.str "refused") j3 p6, .Attribute (.Name n p7) "reason" p8] kt2 p9)) p10] pos] [] [] pos2) (sTryR i fb) := by
  have hb' : Reads X body (canS X.K X.mg c 0 fb) := fun W' pn xe tk po => (hb W' pn xe ⟨tk, ok.calm⟩ po).can
  refine ⟨_, ps_tryH hs hf hb' (hears_own (k := .ref CM) hs hf ⟨hgM, by decide, .inl xc.gM⟩ (fun a oe cls d pn _ _ => pss_one (ps_ret (pe_tup (pa_cons pe_str (pa_cons pe_non pa_nil)))))
    (hears_as (i := i) (k := .ref CR) hs hf ⟨hgR, by decide, .inl xc.gR⟩ hN hi hln (fun a oe cls d pn z fields => pss_one (ps_ret (pe_tup (pa_cons pe_str (pa_cons (pe_xf xc.xf xc.hno z fields (pe_var (X := X.suite a ((a, oe) :: pn)) hi hv hd hcd)) pa_nil)))))
      (hears_none hs hf ok.tk))), fun D σ ρ G F H o w => ?_⟩
  refine ⟨ρ, G, F, o, ?_⟩
  unfold sTryR at w
  -- the tuple that a clause makes
  have tup : ∀ {G' F' H' : Hp} {σ' : L2.St} {vs : List V} {ds : List PV.D} {a : Addr}, σ'.length = σ.length → Ext G F G' F' → Same G' F' → Same F' H' → RpL X.K X.mg G' vs ds → H' a = none → PRt X c 0 D G F (.tup ds) (blank ρ) → D.rt (.ref a) (upd H' a (.tup vs)) := fun {G' F' H' σ' vs ds a} hl x gf fh rp ha q => by
    have ob : Ok X.K X.mg c [] G' F' H' σ' (blank ρ) := Ok.blank gf fh (o.bf.trans x.f) (by rw [hl]; exact o.len) hio
    have g := Grow.sh (o := .tup vs) gf fh ha
    exact q σ' (.ref a) _ _ _ [] (x.trans g.x) (ob.grown g) ⟨.tup upd_same (rp.mono g.x.g), rfl⟩
  cases e : fb ρ with
  | nx ρ' => rw [e] at w; exact w
  | rt d ρ' => rw [e] at w; exact w
  | fail => rw [e] at w; exact w.elim
  | exc x =>
    rw [e] at w
    intro σ' hl cls dd G' F' H' x1 gf fh xr
    cases x with
    | mal =>
      obtain ⟨C, hC, rfl, rfl⟩ := xr
      rw [xc.gM] at hC
      cases hC
      refine ⟨true, xc.mm, fun a ha => ?_⟩
      exact ⟨by show 2 ≤ sizeLine; decide, fun b hb => tup (ds := [.str "malformed", .non]) hl x1 gf fh (.cons (.str _) (.cons .non .nil)) hb w⟩
    | refu d =>
      obtain ⟨C, a1, v, hC, rfl, rfl, hx, rv⟩ := xr
      rw [xc.gR] at hC
      cases hC
      refine ⟨false, xc.rm, true, xc.rr, fun a ha => ?_⟩
      have w : WpS (if i < ρ.length then SR.rt (.tup [.str "refused", d]) (blank ρ) else .fail) _ _ _ := w
      split at w
      · rename_i hil
        rw [o.len, ← hl] at hil
        refine ⟨.ref a, by rw [List.getElem?_set_self hil], rfl, rfl, a1, _, v, rfl, hx, by simp, ?_⟩
        exact ⟨by show 2 ≤ sizeLine; decide, fun b hb => tup (σ' := σ') (ds := [.str "refused", d]) hl x1 gf fh (.cons (.str _) (.cons rv .nil)) hb w⟩
      · exact w.elim
    | note d =>
      have xr0 := xr
      obtain ⟨C, a1, v, hC, rfl, rfl, hx, rv⟩ := xr
      rcases hnn with hnn | ⟨CN, hnn⟩
      · rw [hnn] at hC
        cases hC
      · rw [hnn.gN] at hC
        cases hC
        exact ⟨false, hnn.nm, false, hnn.nr, w σ' hl _ _ G' F' H' x1 gf fh xr0⟩
end
end
end PV

set_option Elab.async false
set_option linter.all false
set_option maxRecDepth 100000
set_option maxHeartbeats 0
namespace PV
noncomputable section
open PySem PySem.Spec
open PyProof.Rows L2

/-! ## 22. the call of a def that a name holds -/
def allShP : List Pm → Bool
  | [] => true
  | .sh :: r => allShP r
  | _ => false
/-- the result's own objects join the shared ones -/
theorem spM_sh {K : PySem.W.Frag} {mg : Str → Option Value} {ps : List Pm} {rk : Nat} {m : List D → R D} {vs : List V} {H : Hp} {Q : VK} {E : XK} (hn : noIoP ps = true) (h : spM K mg ps 0 (m0 m) vs H Q E) : spM K mg ps rk (m0 m) vs H Q E := by
  obtain ⟨G, F, ds, fp, gf, fh, a, nd, hf, hw⟩ := h
  refine ⟨G, F, ds, fp, gf, fh, a, nd, hf, ?_⟩
  unfold m0 at hw ⊢
  cases e : m ds with
  | exc x => rw [e] at hw; exact hw
  | fail => rw [e] at hw; exact hw
  | ok d =>
    rw [e] at hw
    intro v G1 F1 H1 fr fo x gf1 fh1 ow out nd1 hf1
    have e2 := outs_nil out
    subst e2
    rw [List.append_nil] at nd1 hf1
    have gn : ∀ a ∈ fr, G1 a = none := fun a ha => gf1.free (hf1 a ha)
    have sg : Same G1 (join G1 H1 fr) := join_same gn
    have rp : Rp K mg (join G1 H1 fr) v d := Own.frozen (G' := join G1 H1 fr) sg (fun a ha u e => by unfold join; rw [if_pos ha]; exact e) ow
    have fsame : Same F1 (join F1 H1 fr) := join_same hf1
    have gj : Same (join G1 H1 fr) (join F1 H1 fr) := fun a u e => by
      unfold join at e ⊢
      by_cases z : a ∈ fr
      · rw [if_pos z] at e ⊢; exact e
      · rw [if_neg z] at e ⊢; exact gf1 a u e
    have xj : Ext G1 F1 (join G1 H1 fr) (join F1 H1 fr) := ⟨sg, fsame, fun a e1 e2 => by
      unfold join
      rw [if_neg fun z => e2 (hf1 a z)]
      exact e1⟩
    have out' : OutL K mg (join G1 H1 fr) H1 ps vs [] [] := by
      clear hw
      have : ∀ {ps : List Pm} {vs : List V}, OutL K mg G1 H1 ps vs [] [] → OutL K mg (join G1 H1 fr) H1 ps vs [] [] := by
        intro ps
        induction ps with
        | nil => intro vs h; cases h; exact .nil
        | cons q ps ih =>
          intro vs h
          cases h with
          | sh r => exact .sh (ih r)
          | rd r => exact .rd (ih r)
      exact this out
    exact hw v _ _ H1 [] [] (x.trans xj) gj (join_sub fh1) ⟨rp, rfl⟩ out' List.nodup_nil fun _ h => nomatch h
/-- a def that may be handed over, by its name -/
structure HeldM (P : Program) (w : World) (K : PySem.W.Frag) (mg : Str → Option Value) (base : Heap) (k : Nat) (x : Str) (n : Nat) (m : List D → R D) : Prop where
  ex : ∃ (f : Addr) (fd : FuncData) (pn : List Str) (ps : List Pm) (rk : Nat), FnOk P w K mg base (L2.CX P w) k f fd pn (spM K mg ps rk (m0 m)) ∧ mg x = some (.ref f) ∧ PySem.W.keepIn K (.ref f) = true ∧ Binds K fd pn [] ∧ allShP ps = true ∧ ps.length = n
theorem HeldM.mono {P : Program} {w : World} {K : PySem.W.Frag} {mg : Str → Option Value} {base : Heap} {j k : Nat} {x : Str} {n : Nat} {m : List D → R D} (h : HeldM P w K mg base j x n m) (l : j ≤ k) : HeldM P w K mg base k x n m := by
  obtain ⟨f, fd, pn, ps, rk, F, r⟩ := h.ex
  exact ⟨f, fd, pn, ps, rk, F.mono l, r⟩
abbrev FTab := Str → Option (Nat × (List D → R D))
def eCallL (i : Nat) (T : FTab) (fa : M (List D)) : M D := fun ρ => match look ρ i with
  | some (.fn x) => match T x with
    | some (n, m) => (fa.bind fun ds ρ' => if ds.length = n then match m ds with
        | .ok d => .ok (d, ρ')
        | .exc x => .exc x
        | .fail => .fail
      else .fail) ρ
    | none => .fail
  | _ => .fail
theorem allShP_no : ∀ {ps : List Pm}, allShP ps = true → noIoP ps = true
  | [], _ => rfl
  | .sh :: r, h => allShP_no (ps := r) h
theorem args_sh {K : PySem.W.Frag} {mg : Str → Option Value} {G H : Hp} : ∀ {ps : List Pm} {ds : List D} {vs : List V}, allShP ps = true → ds.length = ps.length → RpL K mg G vs ds → ArgL K mg G H H ps ds vs []
  | [], [], _, _, _, .nil => .nil
  | .sh :: ps, _ :: _, _, h, l, .cons r rs => .sh r (args_sh (ps := ps) h (Nat.succ.inj l) rs)
section
variable {X : Cx} {W : WX} {c : Fc} {p : Bool}
theorem ex_callL (i : Nat) {k : Nat} {T : FTab} {ms : List Am} {x : Str} {pp pos : Pos} {e : Expr} {es : List Expr} {fa : M (List D)} (ok : Cok X W) (hT : ∀ y n m, T y = some (n, m) → HeldM X.prog X.w X.K X.mg X.base k y n m) (hr : Room k X.A) (ha : AX X W c p ms (e :: es) fa) (hsh : allSh ms = true := by rfl)
    (hN : X.N[i]? = some x := by rfl) (hv : Vis X.env.scope x := by first | exact Or.inl rfl | exact Or.inr (Or.inl rfl) | exact Or.inr (Or.inr rfl)) (hdb : (x == ("__debug__" : Str)) = false := by decide) (hcd : (x == ("__classdict__" : Str)) = false := by decide)
    (he : starEach (e :: es) X.env = (false, eval e X.env) :: starEach es X.env := by rfl) (hpl : (backTo pos (starEach es X.env)).any (·.1) = false := by rfl) : EX X W c p (.rd 0) (.Call (.Name x pp) (e :: es) [] pos) (eCallL i T fa) := by
  obtain ⟨ta, a1, a2⟩ := ha
  refine ⟨fun σ H Q => ∃ (f : Addr) (fd : FuncData) (pn : List Str) (sp : Sp), FnOk X.prog X.w X.K X.mg X.base (L2.CX X.prog X.w) k f fd pn sp ∧ PySem.W.keepIn X.K (.ref f) = true ∧ Binds X.K fd pn [] ∧ σ[i]? = some (some (.ref f)) ∧ ta σ H fun vs H1 => sp vs H1 Q (WE W σ), ⟨fun pins s σ H Q I h => ?_⟩, fun σ ρ G F0 H Q o w => ?_⟩
  · obtain ⟨f, fd, pn, sp, F, hk, hb, hs, ht⟩ := h
    refine wpAny_Call_Name_kw (thn ((pe_var (pos := pp) hN hv hdb hcd).run pins s σ H (fun v H1 => v = .ref f ∧ H1 = H) I ⟨.ref f, hs, rfl, rfl⟩) fun u s1 ⟨v, H1, I1, r1, q1⟩ => ?_)
    obtain ⟨rfl, rfl⟩ := q1
    cases r1
    refine PySem.W.callWith_K (h₀ := X.base) I.ok.mod.kin hk (thn (a1.run pos pins s1 σ _ _ I1 ht) fun us s2 ⟨vs, H2, I2, r, q⟩ => ⟨I2.kIn, ?_⟩) he hpl
    exact run_fnS (E := WE W) F hr hb (passAt ok.tk σ) I2 r q
  · unfold eCallL at w
    split at w
    · rename_i y e0
      split at w
      · rename_i n m eT
        obtain ⟨f, fd, pn, ps, rk, F, hm, hk, hb, hps, hl⟩ := (hT y n m eT).ex
        obtain ⟨u, e1, rp⟩ := o.dom (look_eq.mp e0)
        have eu : u = .ref f := by
          cases rp with
          | fn h =>
            rw [hm] at h
            cases h
            rfl
        subst eu
        refine ⟨f, fd, pn, _, F, hk, hb, e1, ?_⟩
        refine a2 σ ρ G F0 H _ o ((Wp.ofBindM w).imp (fun r hr => ?_) fun _ z => z)
        intro vs G1 F1 H1 x1 o1 q1 hp1
        split at hr
        · rename_i hlen
          refine spM_sh (allShP_no hps) ?_
          refine ⟨G1, H1, r.1, [], o1.gh, .refl _, args_sh hps (hlen.trans hl.symm) (ValL.sh (allSh_mem hsh) q1), List.nodup_nil, fun _ h => (nomatch h), ?_⟩
          unfold m0
          cases em : m r.1 with
          | ok d =>
            rw [em] at hr
            intro v G2 F2 H2 fr fo x2 gf2 fh2 ow out nd hf
            have e2 := outs_nil out
            subst e2
            rw [List.append_nil] at nd hf
            obtain ⟨x3, o3, hh⟩ := o1.called x2 gf2 fh2 ow nd hf
            exact hr v G2 _ H2 fr (x1.trans x3) o3 ⟨ow.1, ow.2⟩ fun hp => ⟨(hp1 hp).1, (hp1 hp).2.trans hh⟩
          | exc x =>
            rw [em] at hr
            intro cls dd G2 F2 H2 x2 gf2 fh2 xr
            have hr : Nx X.K X.mg W σ G F0 x := hr
            have gs : Same G2 (glue F1 G2) := fun a u e => by
              unfold glue
              cases q : F1 a with
              | none => exact e
              | some u' =>
                have e1 := (x2.f.trans fh2) a u' (o1.fh a u' q)
                have e2 := fh2 a u (gf2 a u e)
                rw [e1] at e2
                exact e2
            refine hr cls dd G2 (glue F1 G2) H2 (x1.trans ⟨x2.g, glue_l, fun a e1 e2 => x2.n a e1 (o1.fh.nn e2)⟩) gs (fun a u e => ?_) xr
            rcases glue_cases e with q | ⟨_, q⟩
            · exact (x2.f.trans fh2) a u (o1.fh a u q)
            · exact fh2 a u (gf2 a u q)
          | fail => rw [em] at hr; exact hr.elim
        · exact hr.elim
      · exact w.elim
    · exact w.elim
/-! ## 23. isinstance of a built-in type -/
inductive Ty where
  | non | bl | int | str | tup | lst | dct
  deriving DecidableEq
def tyS : Ty → String
  | .non => "NoneType" | .bl => "bool" | .int => "int" | .str => "str" | .tup => "tuple" | .lst => "list" | .dct => "dict"
def isTy : Ty → Ty → Bool
  | .bl, .int => true
  | a, b => decide (a = b)
def tyD : D → Option Ty
  | .non => some .non | .bl _ => some .bl | .int _ => some .int | .str _ => some .str | .tup _ => some .tup | .lst _ => some .lst | .dct _ => some .dct | .dcT _ => some .dct | .scr _ => some .lst
  | _ => none
theorem kit_tab : ∀ a b : Ty, kitB (tyS a) (tyS b) = some (isTy a b) := by
  intro a b
  cases a <;> cases b <;> decide +kernel
def gIsT (b : Ty) : D → Option D := fun d => (tyD d).map fun a => .bl (isTy a b)
theorem tyx_of {K : PySem.W.Frag} {mg : Str → Option Value} {H : Hp} {d : D} {v : V} {a : Ty} (r : Rp K mg H v d) (e : tyD d = some a) : TyX K H v (.type (tyS a)) := by
  cases r <;> first | (cases e; done) | skip
  · cases e; exact .base .non
  · cases e; exact .base (.bl _)
  · cases e; exact .base (.int _)
  · cases e; exact .base (.str _)
  · rename_i h _; cases e; exact .base (.tup h)
  · rename_i h _; cases e; exact .base (.lst h)
  · rename_i h; cases e
    rcases h with (h | ⟨o, h⟩) | ⟨o, its, n, e, c, _⟩
    · exact .base (.lst h)
    · exact .base (.frz h)
    · exact .kList e c
  · rename_i h _ _; cases e; exact .base (.dK h)
  · rename_i h _ _; cases e; exact .base (.dT h)
theorem isT_S {K : PySem.W.Frag} {mg : Str → Option Value} {n : Nat} (b : Ty) {G F H : Hp} {d : D} {v : V} {z : D} {Q : VK} (gf : Same G F) (fh : Same F H) (q : RdV K mg G H n d v) (hz : gIsT b d = some z) (k : ∀ w G' F' H' fr, Grow G F H G' F' H' fr → Val K mg (.rd 0) G' H' z w fr → Q w H') : rIsi K [v, .ty (tyS b)] H Q := by
  have q := q.rp (gf.trans fh)
  unfold gIsT at hz
  obtain ⟨a, e, rfl⟩ := Option.map_eq_some_iff.mp hz
  exact ⟨v, .ty (tyS b), .type (tyS a), .type (tyS b), isTy a b, rfl, .ty _, tyx_of q e, kit_ty (kit_tab a b), k _ G F H [] (.refl gf fh) ⟨.bl _, rfl⟩⟩
variable {n : Nat}
theorem ex_isT (b : Ty) {x : Str} {a : Expr} {fa : M D} {pp pq pos : Pos} (hm : X.mg "isinstance" = none) (hm2 : X.mg x = none) (ha : EX X W c p (.rd n) a fa) (hb : b ≠ .non := by decide) (hx : x = Str.ofString (tyS b) := by rfl) (hg : Gl X "isinstance" := by rfl) (hg2 : Gl X x := by rfl)
    (h1 : starEach [a, .Name x pq] X.env = (false, eval a X.env) :: starEach [.Name x pq] X.env := by rfl) (h2 : starEach [.Name x pq] X.env = (false, eval (.Name x pq) X.env) :: starEach [] X.env := by rfl) (hpl : (backTo pos (starEach [.Name x pq] X.env)).any (·.1) = false := by rfl) :
    EX X W c p (.rd 0) (.Call (.Name "isinstance" pp) [a, .Name x pq] [] pos) (e1 (gIsT b) fa) := by
  obtain ⟨te, e1, e2⟩ := ha
  have hv : bootBuiltins x = some (.type (tyS b)) := by
    subst hx
    cases b <;> first | exact absurd rfl hb | decide +kernel
  have hn : x ≠ "__name__" := by
    subst hx
    cases b <;> decide
  have hd : (x == ("__debug__" : Str)) = false := by
    subst hx
    cases b <;> decide
  refine ⟨_, pe_callB call_isi hg hm (by decide +kernel) (pa_cons e1 (pa_cons (pe_bltn (v := .ty (tyS b)) hg2 hm2 hv rfl hn hd) pa_nil h2) h1) (by decide) (by decide) h1 hpl, fun σ ρ G F H Q o w => ?_⟩
  refine EX.use te e2 o (Wp.ofBindM w) (fun r1 h1 v1 G1 F1 H1 fp1 x1 o1 q1 hp1 => ?_) fun _ z => z
  unfold M.ofO at h1
  split at h1
  · rename_i z hz
    exact isT_S b o1.gf o1.fh q1.1 hz fun wv G3 F3 H3 fr g3 q3 => h1 wv G3 F3 H3 fr (x1.trans g3.x) (o1.drop.grown g3) q3 fun hp => ⟨(hp1 hp).1, (hp1 hp).2.trans g3.hh⟩
  · exact h1.elim
end
end
end PV

set_option Elab.async false
set_option linter.all false
set_option maxRecDepth 100000
set_option maxHeartbeats 0
namespace PV
noncomputable section
open PySem PySem.Spec
open PyProof.Rows L2

/-! ## 24. extend, pop(i) -/
/-- a list is made longer by a tuple's items: the tuple's object in any form -/
theorem longer_by_tup (dst src : Addr) (have_ more : Array Value) (c k : Nat) (od : Option Addr) (slots : Array (Option Value)) (small1 : have_.size ≤ sizeLine) (small2 : have_.size + more.size ≤ sizeLine) :
    Meets (Builtin.«list.extend» ⟨[.ref dst, .ref src], []⟩) fun _ R s => s.heap.get? dst = some { cls := .type "list", data := .seq have_ c } ∧ s.heap.get? src = some ⟨.type "tuple", od, .seq more k, slots⟩ ∧ R (.ok (.ret .none)) { s with heap := s.heap.update dst (Obj.mapSeq (· ++ more)) } := by
  have room : ¬ (!have_.isEmpty && Builtin.List.listTooLong (have_.size + more.size)) = true := by rw [notLongL small2]; simp
  have fits : (have_ ++ more).size ≤ sizeLine + 1 := by rw [Array.size_append]; omega
  apply Meets.of_wp
  rintro prog w A R ⟨heap, gens, drawn, toks, os⟩ ⟨hd, hs, hR⟩
  have tt := AutoSeq1.sub_tuple_tuple
  have tl := AutoSeq1.sub_tuple_list
  have lt := AutoSeq1.sub_list_tuple
  have ll := AutoSeq1.sub_list_list
  wp_walk using (wpAny_updateSeq hd rfl (hz := small1) (_hz' := fits)), AutoSeq1.wpAny_loadPart' hd, AutoSeq1.wpAny_loadPart' hs
  exact ⟨_, rfl, hR⟩
section
variable {X : Cx}
/-- l.extend(t), t a tuple that stands on the abstract heap -/
def rLonger : V → List V → Hp → VK → Prop := fun x args H Q => ∃ (dst src : Addr) (old new : List V), x = .ref dst ∧ args = [.ref src] ∧ H dst = some (.lst old) ∧ H src = some (.tup new) ∧ old.length + new.length ≤ sizeLine ∧ Q .non (upd H dst (.lst (old ++ new)))
theorem longer_rule : MtR X "list.extend" rLonger := by
  intro pins s σ H x args self us Q inv rself rargs want
  obtain ⟨dst, src, old, new, rfl, rfl, atDst, atSrc, room, done⟩ := want
  cases rself
  obtain ⟨u, rfl, ru⟩ := rargs.one
  cases ru
  -- the two objects as they stand
  obtain ⟨_, olds, c, relOld, lenOld, objDst⟩ := inv.lstM atDst
  obtain ⟨_, news, relNew, ⟨cls, od, dat, slots⟩, objSrc, hcls, k, hdat⟩ := inv.hok src _ atSrc
  dsimp only at hcls hdat
  subst hcls hdat
  have lenNew := relNew.length
  have m := longer_by_tup dst src olds.toArray news.toArray c k od slots (by simp only [List.size_toArray]; omega) (by simp only [List.size_toArray]; omega)
  have inv' := inv.lset (t' := s.toks) (its' := olds ++ news) (ys := old ++ new) atDst objDst (f := (· ++ news.toArray)) (by simp) (relOld.append relNew) (by rw [List.length_append]; exact room)
  exact call_meets F.slot_list_extend ⟨_, objDst, rfl⟩ F.entry_list_extend (F.args_list_extend_2 _ _) m ⟨objDst, objSrc, .non, _, inv', rfl, done⟩
def rExtendA : V → List V → Hp → VK → Prop := fun x vs H Q => rExtend x vs H Q ∨ rLonger x vs H Q
theorem mt_extendA : MtR X "list.extend" rExtendA := fun pins s σ H x vs v us Q I rx rv h => h.elim (mt_extend pins s σ H x vs v us Q I rx rv) (longer_rule pins s σ H x vs v us Q I rx rv)
def opExt : D → D → Option (D × D)
  | .lst ds, .lst es => if ds.length + es.length ≤ 100000 then some (.non, .lst (ds ++ es)) else none
  | .lst ds, .tup es => if ds.length + es.length ≤ 100000 then some (.non, .lst (ds ++ es)) else none
  | _, _ => none
theorem ownL_shared {K : PySem.W.Frag} {mg : Str → Option Value} {G H : Hp} {ds : List D} {vs : List V} (r : RpL K mg G vs ds) : OwnL (Own K mg G H 0) ds vs [] := ownL_sh r
theorem rdv1 {K : PySem.W.Frag} {mg : Str → Option Value} {G H : Hp} {es : List D} {v : V} (gh : Same G H) (q : RdV K mg G H 1 (.lst es) v) : ∃ a vs, v = .ref a ∧ H a = some (.lst vs) ∧ RpL K mg G vs es := by
  obtain ⟨a, vs, rfl, ha, hl⟩ := q.lst_inv gh
  exact ⟨a, vs, rfl, ha, hl.rpl _ _ fun _ _ q => q⟩
theorem rdv1t {K : PySem.W.Frag} {mg : Str → Option Value} {G H : Hp} {n : Nat} {es : List D} {v : V} (q : RdV K mg G H n (.tup es) v) : ∃ a vs, v = .ref a ∧ G a = some (.tup vs) ∧ RpL K mg G vs es := by
  exact (RdV.plain rfl q).tup_inv
theorem ms_ext {K : PySem.W.Frag} {mg : Str → Option Value} : MS K mg 1 (.rd 1) (.rd 0) rExtendA opExt := by
  intro G F H x d u v fp fq z y Q gf fh ow q nd hop fin
  obtain ⟨q, rfl⟩ := q
  cases x <;> first | (cases hop; done) | skip
  rename_i ds
  obtain ⟨a, rest, vs, rfl, rfl, ha, hl⟩ := ow.lst_inv
  obtain ⟨r1, rfl⟩ := hl.sh
  have fin' : ∀ {es : List D} {us : List V}, RpL K mg G us es → y = .lst (ds ++ es) → z = .non → Q .non (upd H a (.lst (vs ++ us))) := fun {es us} r ey ez => by
    subst ey
    subst ez
    exact fin .non _ [a] [] ⟨.non, rfl⟩ (Own.lst upd_same (ownL_sh (r1.append r))) (fun b hb => upd_ne fun t => hb (by rw [t]; exact List.mem_cons_self)) (by simp) fun b hb => .inl (by simpa using hb)
  cases d <;> first | (cases hop; done) | skip
  · rename_i es
    have hop : (if ds.length + es.length ≤ 100000 then some (D.non, D.lst (ds ++ es)) else none) = some (z, y) := hop
    split at hop
    · rename_i hlen
      cases hop
      obtain ⟨b, us, rfl, hb, r⟩ := rdv1t q
      exact .inr ⟨a, b, vs, us, rfl, rfl, ha, (gf.trans fh) _ _ hb, by rw [r1.length, r.length]; exact szl hlen, fin' r rfl rfl⟩
    · cases hop
  · rename_i es
    have hop : (if ds.length + es.length ≤ 100000 then some (D.non, D.lst (ds ++ es)) else none) = some (z, y) := hop
    split at hop
    · rename_i hlen
      cases hop
      obtain ⟨b, us, rfl, hb, r⟩ := rdv1 (gf.trans fh) q
      exact .inl ⟨a, b, vs, us, rfl, rfl, ha, hb, by rw [r1.length, r.length]; exact szl hlen, fin' r rfl rfl⟩
    · cases hop
end
section
variable {X : Cx} {W : WX} {c : Fc} {p : Bool}
theorem ex_extend (i : Nat) {x : Str} {e : Expr} {f : M D} {px apos cpos : Pos} (he : EX X W c p (.rd 1) e f) (hk : c.kd i = .own 1 := by rfl) (hN : X.N[i]? = some x := by rfl)
    (hv : Vis X.env.scope x := by first | exact Or.inl rfl | exact Or.inr (Or.inl rfl) | exact Or.inr (Or.inr rfl)) (hd : (x == ("__debug__" : Str)) = false := by decide) (hcd : (x == ("__classdict__" : Str)) = false := by decide)
    (mc : MCall1 X x "extend" e px apos cpos := by exact ⟨rfl, rfl, rfl, rfl, rfl⟩) :
    EX X W c false (.rd 0) (.Call (.Attribute (.Name x px) "extend" apos) [e] [] cpos) (eMeth1 i isOL opExt f) :=
  ex_meth1 i F.plainAttrs_list F.slot_list_extend F.type_list_extend mt_extendA tyL ms_ext he hk hN hv hd hcd mc
theorem ex_pop (i k : Nat) {x : Str} {px apos cpos : Pos} (hk : c.kd i = .own (k + 1) := by rfl) (hN : X.N[i]? = some x := by rfl)
    (hv : Vis X.env.scope x := by first | exact Or.inl rfl | exact Or.inr (Or.inl rfl) | exact Or.inr (Or.inr rfl)) (hd : (x == ("__debug__" : Str)) = false := by decide) (hcd : (x == ("__classdict__" : Str)) = false := by decide)
    (mc : MCall0 X x "pop" px apos cpos := by exact ⟨rfl, rfl⟩) :
    EX X W c false (mdK (.own k)) (.Call (.Attribute (.Name x px) "pop" apos) [] [] cpos) (eMeth0 i isOL opPop) :=
  ex_meth0 i F.plainAttrs_list F.slot_list_pop F.type_list_pop mt_pop tyL ms_pop hk hN hv hd hcd mc
/-! pop(i), items shared -/
def opPopAt : D → D → Option (D × D)
  | .lst ds, .int i => match ixN ds.length i with
    | some j => match ds[j]? with
      | some d => if ds.length ≤ 100000 then some (d, .lst (ds.eraseIdx j)) else none
      | none => none
    | none => none
  | _, _ => none
theorem ms_popAt {K : PySem.W.Frag} {mg : Str → Option Value} {k : Nat} : MS K mg (k + 1) (.rd 0) (mdK (.own k)) rPopAt opPopAt := by
  intro G F H x d u v fp fq z y Q gf fh ow q nd hop fin
  obtain ⟨q, rfl⟩ := q
  replace q : Rp K mg G v d := q
  cases x <;> first | (cases hop; done) | skip
  cases d <;> first | (cases hop; done) | skip
  rename_i ds i
  cases q
  unfold opPopAt at hop
  simp only at hop
  split at hop
  · rename_i j hj
    split at hop
    · rename_i d0 hd
      split at hop
      · rename_i hlen
        cases hop
        rw [List.append_nil] at nd
        obtain ⟨a, rest, vs, rfl, rfl, ha, hl2⟩ := ow.lst_inv
        obtain ⟨v, fj, rest', e1, q, hl3, pm, _⟩ := hl2.pick hd
        have na := (List.nodup_cons.mp nd).1
        have nr := (List.nodup_cons.mp nd).2
        have hvl : vs.length = ds.length := hl2.length
        obtain ⟨s1, s2, s3, s4⟩ := ixN_seq hj
        refine ⟨a, vs, i, j, v, rfl, rfl, ha, by omega, by omega, by rw [hvl]; exact s1, e1, ?_⟩
        have ns : ∀ b, b ∈ rest' → b ∈ rest := fun b hb => pm.subset (List.mem_append_right _ hb)
        have nf : ∀ b, b ∈ fj → b ∈ rest := fun b hb => pm.subset (List.mem_append_left _ hb)
        have qf : Own K mg G (upd H a (.lst (vs.eraseIdx j))) k z v fj := q.frame (.refl _) fun b hb o e => by rw [upd_ne fun t => na (by rw [← t]; exact nf b hb)]; exact e
        refine fin v _ (a :: rest') fj (Val.ofOwn qf) (Own.lst upd_same (hl3.off fun t => na (ns a t))) (fun b hb => upd_ne fun t => hb (by rw [t]; exact List.mem_cons_self)) ?_ fun b hb => .inl ?_
        · rw [List.cons_append]
          have np : (rest' ++ fj).Nodup := nodup_perm (List.perm_append_comm.trans pm) nr
          refine List.nodup_cons.mpr ⟨fun t => ?_, np⟩
          rcases List.mem_append.1 t with t | t
          · exact na (ns a t)
          · exact na (nf a t)
        · rcases List.mem_append.1 hb with t | t
          · rcases List.mem_cons.1 t with rfl | t
            · exact List.mem_cons_self
            · exact List.mem_cons_of_mem _ (ns b t)
          · exact List.mem_cons_of_mem _ (nf b t)
      · cases hop
    · cases hop
  · cases hop
theorem ex_popAt (i k : Nat) {x : Str} {e : Expr} {f : M D} {px apos cpos : Pos} (he : EX X W c p (.rd 0) e f) (hk : c.kd i = .own (k + 1) := by rfl) (hN : X.N[i]? = some x := by rfl)
    (hv : Vis X.env.scope x := by first | exact Or.inl rfl | exact Or.inr (Or.inl rfl) | exact Or.inr (Or.inr rfl)) (hd : (x == ("__debug__" : Str)) = false := by decide) (hcd : (x == ("__classdict__" : Str)) = false := by decide)
    (mc : MCall1 X x "pop" e px apos cpos := by exact ⟨rfl, rfl, rfl, rfl, rfl⟩) :
    EX X W c false (mdK (.own k)) (.Call (.Attribute (.Name x px) "pop" apos) [e] [] cpos) (eMeth1 i isOL opPopAt f) :=
  ex_meth1 i F.plainAttrs_list F.slot_list_pop F.type_list_pop mt_popAt tyL ms_popAt he hk hN hv hd hcd mc
end
end
end PV

set_option Elab.async false
set_option linter.all false
set_option maxRecDepth 100000
set_option maxHeartbeats 0
namespace PV
noncomputable section
open PySem PySem.Spec
open PyProof.Rows L2

/-! ## 25. a slot's object handed on: the slot is empty then -/
def eTake (i : Nat) : M D := fun ρ => match look ρ i with
  | some d => .ok (d, put ρ i none)
  | none => .fail
theorem eTake_def (i : Nat) : eTake i = fun ρ => match look ρ i with
  | some d => .ok (d, ρ.set i none)
  | none => .fail := by
  unfold eTake
  simp only [put_eq]
section
variable {K : PySem.W.Frag} {mg : Str → Option Value} {c : Fc} {G F H : Hp} {σ : L2.St} {ρ : PV.Env}
theorem Ok.take (o : Ok K mg c [] G F H σ ρ) {i n : Nat} {x : D} (e : look ρ i = some x) (hk : c.kd i = .own n) : ∃ u fp, σ[i]? = some (some u) ∧ Own K mg G H n x u fp ∧ Ok K mg c fp G F H σ (ρ.set i none) := by
  obtain ⟨fps, h1, h0, h2, h3, h4, h5, h6, h7⟩ := o.slt
  obtain ⟨u, e1, s⟩ := h1 i x (look_eq.mp e)
  rw [hk] at s
  refine ⟨u, fps i, e1, s, o.gf, o.fh, o.bf, by rw [List.length_set]; exact o.len, o.io, fun j => if j = i then [] else fps j, fun j d he => ?_, fun j hj => ?_, fun j a ha => ?_, fun j => ?_, fun j l a hjl ha hb => ?_, h3 i, h2 i, fun j a ha hb => ?_⟩
  · by_cases z : j = i
    · subst z
      by_cases hl : j < ρ.length
      · rw [List.getElem?_set_self hl] at he
        cases he
      · rw [List.getElem?_eq_none (by rw [List.length_set]; omega)] at he
        cases he
    · rw [List.getElem?_set_ne (Ne.symm z)] at he
      obtain ⟨w, e2, s2⟩ := h1 j d he
      refine ⟨w, e2, ?_⟩
      dsimp only
      rw [if_neg z]
      exact s2
  · by_cases z : j = i
    · dsimp only
      rw [if_pos z]
    · dsimp only
      rw [if_neg z]
      refine h0 j fun ⟨d, he⟩ => hj ⟨d, ?_⟩
      rw [List.getElem?_set_ne (Ne.symm z)]
      exact he
  · dsimp only at ha
    split at ha
    · cases ha
    · exact h2 j a ha
  · dsimp only
    split
    · exact List.nodup_nil
    · exact h3 j
  · dsimp only at ha hb
    split at ha
    · cases ha
    · split at hb
      · cases hb
      · exact h4 j l a hjl ha hb
  · dsimp only at ha
    split at ha
    · cases ha
    · rename_i z
      exact h4 j i a z ha hb
end
section
variable {X : Cx} {W : WX} {c : Fc}
theorem ex_take (i : Nat) {n : Nat} {x : Str} {pos : Pos} (hk : c.kd i = .own n := by rfl) (hN : X.N[i]? = some x := by rfl) (hv : Vis X.env.scope x := by first | exact Or.inl rfl | exact Or.inr (Or.inl rfl) | exact Or.inr (Or.inr rfl))
    (hd : (x == ("__debug__" : Str)) = false := by decide) (hcd : (x == ("__classdict__" : Str)) = false := by decide) : EX X W c false (.own n) (.Name x pos) (eTake i) := by
  rw [eTake_def]
  refine ⟨_, pe_var hN hv hd hcd, fun σ ρ G F H Q o w => ?_⟩
  dsimp only at w
  split at w
  · rename_i d e
    obtain ⟨u, fp, e1, ow, o'⟩ := o.take e hk
    exact ⟨u, e1, w u G F H fp (.refl _ _) o' ow fun z => nomatch z⟩
  · exact w.elim
/-- of a literal list of own lists, of depth 2: each item is own -/
theorem ex_lstO {k : Nat} {es : List Expr} {f : M (List D)} {ks : List Nat} {pos} (h : AP X W c ks es f) (hk : ∀ j ∈ ks, j = k := by decide) : EX X W c false (.own (k + 1)) (.List es pos) (eLst f) := by
  obtain ⟨t, h1, h2⟩ := h
  refine ⟨_, pe_lst h1, fun σ ρ G F H Q o w => ?_⟩
  refine h2 σ ρ G F H _ o ((Wp.ofBindM w).imp (fun r hr => ?_) fun _ z => z)
  intro vs G1 F1 H1 fp x1 o1 vl
  unfold M.ofO at hr
  split at hr
  · rename_i z hz
    have hz : (if _ then _ else _) = _ := hz
    split at hz
    · rename_i hl
      cases hz
      refine ⟨by rw [vl.len.1, ← vl.len.2]; exact szl hl, fun a ha => ?_⟩
      have g := Grow.own (o := .lst vs) o1.gf o1.fh ha
      have toL : ∀ {ks : List Nat} {ds : List D} {vs : List V} {fp : List Addr}, (∀ j ∈ ks, j = k) → VL X.K X.mg G1 H1 ks ds vs fp → OwnL (Own X.K X.mg G1 H1 k) ds vs fp := by
        intro ks ds vs fp hk vl
        induction vl with
        | nil => exact .nil
        | cons q _ ih =>
          rename_i k0 ks0 d0 v0 f0 ds0 vs0 fp0 _
          have e : k0 = k := hk k0 List.mem_cons_self
          subst e
          exact .cons q (ih fun j hj => hk j (List.mem_cons_of_mem _ hj))
      have hfp : a ∉ fp := fun z => vl.dom a z ha
      obtain ⟨fps, q1, q0, q2, q3, q4, q5, q6, q7⟩ := o1.slt
      have hFa : F1 a = none := o1.fh.free ha
      refine hr (.ref a) G1 F1 (upd H1 a (.lst vs)) (a :: fp) x1 ⟨o1.gf, o1.fh.trans (same_upd ha), o1.bf, o1.len, o1.io, fps, fun i d e => ?_, q0, q2, q3, q4, List.nodup_cons.mpr ⟨hfp, q5⟩, fun b hb => ?_, fun i b hb hc => ?_⟩ (Own.lst upd_same ((toL hk vl).off hfp)) fun z => nomatch z
      · obtain ⟨v, e1, s⟩ := q1 i d e
        exact ⟨v, e1, Slt.frame (.refl G1 F1) (fun b hb u e => same_upd ha _ _ e) s⟩
      · rcases List.mem_cons.1 hb with rfl | hb
        · exact hFa
        · exact q6 b hb
      · rcases List.mem_cons.1 hc with rfl | hc
        · by_cases z : ∃ d, r.2[i]? = some (some d)
          · obtain ⟨d, e⟩ := z
            obtain ⟨v, e1, s⟩ := q1 i d e
            exact s.dom b hb ha
          · rw [q0 i z] at hb; cases hb
        · exact q7 i b hb hc
    · cases hz
  · exact hr.elim
end

/-! ## 26. what a text of the program says, for the generated part -/
structure DefAt (K : PySem.W.Frag) (mg : Str → Option Value) (x : Str) (st : Stmt) (pn : List Str) (f : Addr) (fd : FuncData) : Prop where
  F : Fun K x x st f fd
  g : mg x = some (.ref f)
  b : Binds K fd pn []
theorem rmOf {X : Cx} {k : Nat} (h : Room k X.A) : Rm X := ⟨⟨k, h⟩⟩
theorem fn_fail {P : Program} {w : World} {K : PySem.W.Frag} {mg : Str → Option Value} {base : Heap} {f : Addr} {fd : FuncData} {k rk : Nat} {pn : List Str} {ps : List Pm} : FnOk P w K mg base (L2.CX P w) k f fd pn (spM K mg ps rk (m0 fun _ => R.fail)) :=
  ⟨fun _ _ _ _ h => by obtain ⟨_, _, _, _, _, _, _, _, _, hw⟩ := h; exact hw.elim, fun _ _ _ _ _ _ _ _ _ _ _ _ _ h => by obtain ⟨_, _, _, _, _, _, _, _, _, hw⟩ := h; exact hw.elim⟩
/-- the conditions on a comprehension's names, checked -/
def blkB (N : List Str) (sc scope : Scope) (own : List (Str × Nat)) : Bool :=
  (match scope.kind with | .function => true | _ => false) && (scope.names.all (fun y => scope.names.lookup y.1 == some y.2) && (own.all (fun p => N[p.2]? == some p.1) &&
    (scope.names.all (fun y => !(y.2 == .free) || (sc.names.lookup y.1 == some .cell || sc.names.lookup y.1 == some .free)) &&
      scope.names.all (fun y => !(y.2 == .local || y.2 == .cell) || ((own.map (·.1)).contains y.1 || !N.contains y.1)))))
theorem blkB_ok {N : List Str} {sc scope : Scope} {own : List (Str × Nat)} (h : blkB N sc scope own = true) : BlkOk N sc scope own := by
  unfold blkB at h
  rw [Bool.and_eq_true, Bool.and_eq_true, Bool.and_eq_true, Bool.and_eq_true] at h
  obtain ⟨h1, h2, h3, h4, h5⟩ := h
  refine ⟨?_, fun y hy => by simpa using List.all_eq_true.mp h2 y hy, fun p hp => by simpa using List.all_eq_true.mp h3 p hp, fun y hy e => ?_, fun y hy e => ?_⟩
  · split at h1
    · assumption
    · cases h1
  · have := List.all_eq_true.mp h4 y hy
    rw [e] at this
    simpa using this
  · have := List.all_eq_true.mp h5 y hy
    rcases e with e | e <;> (rw [e] at this; simpa using this)
section
variable {X : Cx} {W : WX} {c : Fc}
theorem ex_vo (i n : Nat) {x : Str} {pos : Pos} (hk : c.kd i = .own n := by rfl) (hN : X.N[i]? = some x := by rfl) (hv : Vis X.env.scope x := by first | exact Or.inl rfl | exact Or.inr (Or.inl rfl) | exact Or.inr (Or.inr rfl))
    (hd : (x == ("__debug__" : Str)) = false := by decide) (hcd : (x == ("__classdict__" : Str)) = false := by decide) : EX X W c true (.rd n) (.Name x pos) (eVar i) := ex_var i hk hN hv hd hcd
theorem ex_vr (i n : Nat) {x : Str} {pos : Pos} (hk : c.kd i = .rd n := by rfl) (hN : X.N[i]? = some x := by rfl) (hv : Vis X.env.scope x := by first | exact Or.inl rfl | exact Or.inr (Or.inl rfl) | exact Or.inr (Or.inr rfl))
    (hd : (x == ("__debug__" : Str)) = false := by decide) (hcd : (x == ("__classdict__" : Str)) = false := by decide) : EX X W c true (.rd n) (.Name x pos) (eVar i) := ex_var i hk hN hv hd hcd
end
section
variable {P : Program} {w : World} {K : PySem.W.Frag} {mg : Str → Option Value} {base : Heap} {x qual : Str} {st : Stmt} {f : Addr} {fd : FuncData} {N pn : List Str} {k rk : Nat} {ps : List Pm} {ls : List Kd} {s : SM}
abbrev BodyOk (P : Program) (w : World) (K : PySem.W.Frag) (mg : Str → Option Value) (base : Heap) (qual : Str) (st : Stmt) (f : Addr) (N : List Str) (k rk : Nat) (ps : List Pm) (ls : List Kd) (s : SM) : Prop :=
  ∀ (cdv : Value) (A : Around) (outer : List PySem.Env) (s0 : Shared) (H : Hp) (E : XK) (vs : List V) (B : Hp), Room k (A.deeper (envOfC qual (defScope st) s0.heap.objs.size f cdv)) →
      Cok (cxOf (L2.CX P w) P w K mg base N qual (defScope st) f cdv A outer s0 H E) (fun cls d _ H => E cls d H) → Pso (cxOf (L2.CX P w) P w K mg base N qual (defScope st) f cdv A outer s0 H E) → SXs (cxOf (L2.CX P w) P w K mg base N qual (defScope st) f cdv A outer s0 H E) (fun cls d _ H => E cls d H) (fcOf ps ls vs B) rk (defBody st) s
theorem fn_okP (F : Fun K x qual st f fd) (S : FnScope N pn (defScope st)) (hl : pn.length = ps.length) (hb : BodyOk P w K mg base qual st f N k rk ps ls s) {n : Nat} (hn : N.length = n) {m : List D → R D} (hm : m = runF n rk s) (hp : noIoP ps = true) : FnOk P w K mg base (L2.CX P w) (k + 1) f fd pn (spM K mg ps rk (m0 m)) := by
  subst hm hn
  exact PV.FnOk.plain (fn_body F S hl hb) hp
theorem fn_okI (F : Fun K x qual st f fd) (S : FnScope N pn (defScope st)) (hl : pn.length = ps.length) (hb : BodyOk P w K mg base qual st f N k rk ps ls s) {n : Nat} (hn : N.length = n) {m : List D → R (D × List D)} (hm : m = runB n ps rk s) : FnOk P w K mg base (L2.CX P w) (k + 1) f fd pn (spM K mg ps rk m) := by
  subst hm hn
  exact fn_body F S hl hb
end
end
end PV

set_option Elab.async false
set_option linter.all false
set_option maxRecDepth 100000
set_option maxHeartbeats 0
namespace PV
noncomputable section
open PySem PySem.Spec
open PyProof.Rows L2

/-! ## 27. a law's end -/
def spEnd (K : PySem.W.Frag) : Sp := fun vs H Q _ => ∃ (a : Addr) (ns : List Int), vs = [.ref a] ∧ SqL K H a (ns.map V.int) ∧ ns.length ≤ 63 ∧ (∀ z ∈ ns, Builtin.Int.intBits z ≤ 1048576) ∧ ∀ H', Q (.bl true) H'
theorem fn_end {P : Program} {w : World} {K : PySem.W.Frag} {mg : Str → Option Value} {base : Heap} {k : Nat} {f : Addr} {fd : FuncData} {pn : List Str} {m : List D → R D} (F : FnOk P w K mg base (L2.CX P w) k f fd pn (spM K mg [.sh] 0 (m0 m)))
    (h : ∀ ns : List Int, ns.length ≤ 63 → (∀ z ∈ ns, Builtin.Int.intBits z ≤ 1048576) → m [.scr ns] = .ok (.bl true)) : FnOk P w K mg base (L2.CX P w) k f fd pn (spEnd K) := by
  refine F.imp fun vs H Q E q => ?_
  obtain ⟨a, ns, rfl, hS, hl, hb, q⟩ := q
  refine ⟨H, H, [.scr ns], [], .refl _, .refl _, .sh (.scr hS) .nil, List.nodup_nil, fun _ h => (nomatch h), ?_⟩
  unfold m0
  rw [h ns hl hb]
  intro v G F' H' fr fo x gf fh ow out nd hf
  obtain ⟨rp, _⟩ := ow
  cases rp
  exact q H'
theorem cx_end (P : Program) (w : World) (H : Hp) (s : Shared) (e : Value) (s' : Shared) (h : L2.CX P w [] H s (fun _ _ _ => False) e s') : False := by
  obtain ⟨_, _, _, _, _, _, _, _, _, _, _, _, h⟩ := h
  exact h
section
variable {K : PySem.W.Frag} {mg : Str → Option Value} {h : Heap}
theorem fa_at {l : List He.Fa} (c : l.all (He.Fa.ok K) = true) (i : Nat) {f : He.Fa} (e : l[i]? = some f) : f.ok K = true := List.all_eq_true.mp c f (List.mem_of_getElem? e)
theorem fn_at {l : List He.FnD} (c : l.map (fun d => He.fnObs K d.at_) = l.map He.FnD.val) (i : Nat) {d : He.FnD} (e : l[i]? = some d) : He.fnObs K d.at_ = d.val := by
  have h1 : (l.map (fun d => He.fnObs K d.at_))[i]? = some (He.fnObs K d.at_) := by rw [List.getElem?_map, e]; rfl
  rw [c, List.getElem?_map, e] at h1
  exact Eq.symm (Option.some.inj h1)
/-- one def, out of the facts -/
theorem def_at (X : K.In h) (G : h.Ns mainGlobals mg) {x : Str} {st : Stmt} {ps : List Str} (e : He.fnObs K (x, none) = He.FnD.val ⟨(x, none), x, x, defArgs st, defBody st, defScope st⟩) (cc : (He.Fa.code (x, none) x).ok K = true) (cg : (He.Fa.glo x).ok K = true) (ck : (He.Fa.keep x).ok K = true)
    (hb : ∀ (kV doc pm : Value) (an : Option Addr) (cdv ct : Value) (us : List Value), us.length = ps.length → bindArgs (PySem.W.fnOf x x (defArgs st) (defBody st) (defScope st) .none kV doc pm an cdv ct) ⟨us, []⟩ = pure (ps.zip us)) : ∃ fd, DefAt K mg x st ps (He.ga K x) fd := by
  obtain ⟨oc, od, osl, kV, doc, pm, an, cdv, ct, l, c⟩ := He.fn_ok (d := ⟨(x, none), x, x, defArgs st, defBody st, defScope st⟩) e cc
  have F := fun_mk (st := st) (x := x) (qual := x) l c (He.keep_ok ck)
  exact ⟨_, F, He.glo_ok X G cg, F.binds hb⟩
theorem mal_at (X : K.In h) (G : h.Ns mainGlobals mg) (cg : (He.Fa.glo "Malformed").ok K = true) (ce : (He.Fa.exc "Malformed").ok K = true) : ∃ C, MalC K mg "Malformed" C := by
  obtain ⟨h1, h2, h3, h4⟩ := He.exc_ok ce
  exact ⟨_, He.glo_ok X G cg, h1, h2, h3, h4⟩
theorem xc_at (X : K.In h) (G : h.Ns mainGlobals mg) (c1 : (He.Fa.glo "Malformed").ok K = true) (c2 : (He.Fa.glo "Refused").ok K = true) (c3 : (He.Fa.exm "Malformed" "Malformed" true).ok K = true) (c4 : (He.Fa.exm "Refused" "Malformed" false).ok K = true) (c5 : (He.Fa.exm "Refused" "Refused" true).ok K = true)
    (c6 : (He.Fa.noat "Refused" "reason").ok K = true) (c7 : xfB K (He.ga K "Refused") = true) : ∃ CM CR, XcR K mg CM CR :=
  ⟨_, _, He.glo_ok X G c1, He.glo_ok X G c2, He.exm_ok c3, He.exm_ok c4, He.exm_ok c5, xfB_ok c7, He.noat_ok c6⟩
end
end
end PV

set_option Elab.async false
set_option linter.all false
set_option maxRecDepth 100000
set_option maxHeartbeats 0
namespace PV
noncomputable section
open PySem PySem.Spec
open PyProof.Rows L2

/-! ## 28. mirrors: more slots known change nothing; a slot that is not stored stays -/
def Le (ρ ρ' : PV.Env) : Prop := ρ'.length = ρ.length ∧ ∀ i d, look ρ i = some d → look ρ' i = some d
theorem Le.refl (ρ : PV.Env) : Le ρ ρ := ⟨rfl, fun _ _ h => h⟩
theorem look_set {ρ : PV.Env} {i j : Nat} {x : Option D} : look (ρ.set i x) j = if j = i then (if i < ρ.length then x else none) else look ρ j := by
  induction ρ generalizing i j with
  | nil => simp [look_nil]
  | cons y r ih =>
    cases i with
    | zero =>
      cases j with
      | zero => simp [look_zero]
      | succ j => simp [look_succ]
    | succ i =>
      cases j with
      | zero => simp [look_zero]
      | succ j => simp [look_succ, ih]
theorem Le.set {ρ ρ' : PV.Env} (h : Le ρ ρ') (i : Nat) (x : Option D) : Le (ρ.set i x) (ρ'.set i x) := by
  refine ⟨by rw [List.length_set, List.length_set]; exact h.1, fun j d e => ?_⟩
  rw [look_set] at e ⊢
  rw [h.1]
  split
  · rename_i z
    rw [if_pos z] at e
    exact e
  · rename_i z
    rw [if_neg z] at e
    exact h.2 j d e
/-- i: a slot that f does not store -/
structure Fr {α : Type} (i : Nat) (f : M α) : Prop where
  mo : ∀ (ρ ρ' : PV.Env) (a : α) (ρ1 : PV.Env), Le ρ ρ' → f ρ = .ok (a, ρ1) → ∃ ρ1', f ρ' = .ok (a, ρ1') ∧ Le ρ1 ρ1'
  kp : ∀ (ρ : PV.Env) (a : α) (ρ1 : PV.Env), f ρ = .ok (a, ρ1) → look ρ1 i = look ρ i
structure FrS (i : Nat) (s : SM) : Prop where
  mo : ∀ (ρ ρ' ρ1 : PV.Env), Le ρ ρ' → s ρ = .nx ρ1 → ∃ ρ1', s ρ' = .nx ρ1' ∧ Le ρ1 ρ1'
  mr : ∀ (ρ ρ' : PV.Env) (d : D) (ρ1 : PV.Env), Le ρ ρ' → s ρ = .rt d ρ1 → ∃ ρ1', s ρ' = .rt d ρ1'
  kp : ∀ (ρ ρ1 : PV.Env), s ρ = .nx ρ1 → look ρ1 i = look ρ i
structure FrG {α : Type} (i : Nat) (g : α → PV.Env → Option PV.Env) : Prop where
  mo : ∀ (d : α) (ρ ρ' ρ1 : PV.Env), Le ρ ρ' → g d ρ = some ρ1 → ∃ ρ1', g d ρ' = some ρ1' ∧ Le ρ1 ρ1'
  kp : ∀ (d : α) (ρ ρ1 : PV.Env), g d ρ = some ρ1 → look ρ1 i = look ρ i
section
variable {i : Nat}
theorem M.bind_ok {α β : Type} {m : M α} {f : α → M β} {ρ ρ2 : PV.Env} {b : β} (h : M.bind m f ρ = .ok (b, ρ2)) : ∃ a ρ1, m ρ = .ok (a, ρ1) ∧ f a ρ1 = .ok (b, ρ2) := by
  unfold M.bind at h
  split at h
  · rename_i a ρ1 e; exact ⟨a, ρ1, e, h⟩
  · cases h
  · cases h
theorem M.bind_of {α β : Type} {m : M α} {f : α → M β} {ρ ρ1 : PV.Env} {a : α} (h : m ρ = .ok (a, ρ1)) : M.bind m f ρ = f a ρ1 := by
  unfold M.bind
  rw [h]
theorem fr_bind {α β : Type} {m : M α} {f : α → M β} (h : Fr i m) (k : ∀ a, Fr i (f a)) : Fr i (M.bind m f) := by
  refine ⟨fun ρ ρ' b ρ2 l e => ?_, fun ρ b ρ2 e => ?_⟩
  · obtain ⟨a, ρ1, e1, e2⟩ := M.bind_ok e
    obtain ⟨ρ1', e3, l1⟩ := h.mo ρ ρ' a ρ1 l e1
    obtain ⟨ρ2', e4, l2⟩ := (k a).mo ρ1 ρ1' b ρ2 l1 e2
    exact ⟨ρ2', by rw [M.bind_of e3]; exact e4, l2⟩
  · obtain ⟨a, ρ1, e1, e2⟩ := M.bind_ok e
    exact ((k a).kp _ _ _ e2).trans (h.kp _ _ _ e1)
theorem fr_pure {α : Type} {a : α} : Fr i (M.pure a) := ⟨fun ρ ρ' b ρ1 l e => by cases e; exact ⟨ρ', rfl, l⟩, fun ρ b ρ1 e => by cases e; rfl⟩
theorem fr_fail {α : Type} : Fr (α := α) i (fun _ => .fail) := ⟨fun ρ ρ' b ρ1 l e => (by cases e), fun ρ b ρ1 e => (by cases e)⟩
theorem fr_ofO {α : Type} {o : Option α} : Fr i (M.ofO o) := by
  unfold M.ofO
  cases o with
  | none => exact fr_fail
  | some a => exact fr_pure
theorem fr_var {j : Nat} : Fr i (eVar j) := by
  refine ⟨fun ρ ρ' b ρ1 l e => ?_, fun ρ b ρ1 e => ?_⟩
  · unfold eVar at e ⊢
    split at e
    · rename_i d e0
      cases e
      rw [l.2 j b e0]
      exact ⟨ρ', rfl, l⟩
    · cases e
  · unfold eVar at e
    split at e
    · cases e; rfl
    · cases e
theorem fr_c {d : D} : Fr i (eC d) := fr_pure
theorem fr_take {j : Nat} (hj : j ≠ i) : Fr i (eTake j) := by
  rw [eTake_def]
  refine ⟨fun ρ ρ' b ρ1 l e => ?_, fun ρ b ρ1 e => ?_⟩
  · split at e
    · rename_i d e0
      cases e
      rw [l.2 j b e0]
      exact ⟨_, rfl, l.set j none⟩
    · cases e
  · split at e
    · cases e
      rw [look_set, if_neg (Ne.symm hj)]
    · cases e
theorem fr_e1 {g : D → Option D} {a : M D} (h : Fr i a) : Fr i (e1 g a) := fr_bind h fun _ => fr_ofO
theorem fr_e2 {g : D → D → Option D} {a b : M D} (h : Fr i a) (k : Fr i b) : Fr i (e2 g a b) := fr_bind h fun _ => fr_bind k fun _ => fr_ofO
theorem fr_aNil : Fr i aNil := fr_pure
theorem fr_aCons {a : M D} {b : M (List D)} (h : Fr i a) (k : Fr i b) : Fr i (aCons a b) := fr_bind h fun _ => fr_bind k fun _ => fr_pure
theorem fr_eL {g : List D → Option D} {a : M (List D)} (h : Fr i a) : Fr i (eL g a) := fr_bind h fun _ => fr_ofO
theorem fr_e1L {g : D → Option D} {a : M D} (h : Fr i a) : Fr i (e1L g a) := fr_eL (fr_aCons h fr_aNil)
theorem fr_e2L {g : D → D → Option D} {a b : M D} (h : Fr i a) (k : Fr i b) : Fr i (e2L g a b) := fr_eL (fr_aCons h (fr_aCons k fr_aNil))
theorem fr_eTup {a : M (List D)} (h : Fr i a) : Fr i (eTup a) := fr_eL h
theorem fr_eLst {a : M (List D)} (h : Fr i a) : Fr i (eLst a) := fr_eL h
theorem fr_tB {a : M D} (h : Fr i a) : Fr i (tB a) := fr_bind h fun _ => fr_ofO
theorem fr_ite {α : Type} {c : Prop} [Decidable c] {a b : M α} (h : Fr i a) (k : Fr i b) : Fr i (if c then a else b) := by split <;> assumption
theorem fr_tAnd {a b : M Bool} (h : Fr i a) (k : Fr i b) : Fr i (tAnd a b) := fr_bind h fun _ => fr_ite k fr_pure
theorem fr_tOr {a b : M Bool} (h : Fr i a) (k : Fr i b) : Fr i (tOr a b) := fr_bind h fun _ => fr_ite fr_pure k
theorem fr_tNot {a : M Bool} (h : Fr i a) : Fr i (tNot a) := fr_bind h fun _ => fr_pure
theorem fr_tTrue : Fr i tTrue := fr_pure
theorem fr_eIf {t : M Bool} {a b : M D} (ht : Fr i t) (h : Fr i a) (k : Fr i b) : Fr i (eIf t a b) := fr_bind ht fun _ => fr_ite h k
theorem fr_eAnd {a b : M D} (h : Fr i a) (k : Fr i b) : Fr i (eAnd a b) := fr_bind h fun x => by
  cases x <;> first | exact fr_fail | skip
  rename_i x
  cases x
  · exact fr_pure
  · exact k
theorem fr_eOr {a b : M D} (h : Fr i a) (k : Fr i b) : Fr i (eOr a b) := fr_bind h fun x => by
  cases x <;> first | exact fr_fail | skip
  rename_i x
  cases x
  · exact k
  · exact fr_pure
theorem fr_eNot {a : M D} (h : Fr i a) : Fr i (eNot a) := fr_e1 h
theorem fr_e3c {g h : D → D → Option D} {a b c : M D} (ha : Fr i a) (hb : Fr i b) (hc : Fr i c) : Fr i (e3c g h a b c) := fr_bind ha fun _ => fr_bind hb fun y => fr_bind fr_ofO fun x => by
  cases x <;> first | exact fr_fail | skip
  rename_i x
  cases x
  · exact fr_pure
  · exact fr_bind hc fun _ => fr_ofO
theorem fr_pNone : Fr i pNone := fr_pure
theorem fr_pSome {a : M D} (h : Fr i a) : Fr i (pSome a) := fr_bind h fun _ => fr_ofO
theorem fr_eSl {a : M D} {l h : M (Option Int)} (ha : Fr i a) (hl : Fr i l) (hh : Fr i h) : Fr i (eSl a l h) := fr_bind ha fun _ => fr_bind hl fun _ => fr_bind hh fun _ => fr_ofO
theorem fr_eSlL {a : M D} {l h : M (Option Int)} (ha : Fr i a) (hl : Fr i l) (hh : Fr i h) : Fr i (eSlL a l h) := fr_eSl (fr_bind ha fun _ => fr_ite fr_pure fr_fail) hl hh
theorem fr_eM1 {g : D → D → Option D} {a b : M D} (h : Fr i a) (k : Fr i b) : Fr i (eM1 g a b) := fr_bind h fun _ => fr_ite (fr_bind k fun _ => fr_ofO) fr_fail
theorem fr_lift {α : Type} {m : α → R D} {a : M α} (h : Fr i a) : Fr i (M.lift m a) := fr_bind h fun x => by
  cases e : m x with
  | ok d => exact fr_pure
  | exc x => exact ⟨fun _ _ _ _ _ e => (by cases e), fun _ _ _ e => (by cases e)⟩
  | fail => exact fr_fail
theorem fr_eCall {m : List D → R D} {a : M (List D)} (h : Fr i a) : Fr i (eCall m a) := fr_lift h
theorem fr_iSeqM {a : M D} (h : Fr i a) : Fr i (iSeqM a) := fr_bind h fun _ => fr_ofO
theorem fr_iRg {g : List D → Option (List D)} {a : M (List D)} (h : Fr i a) : Fr i (iRg g a) := fr_bind h fun _ => fr_ofO
/-! targets -/
theorem frg_name {j : Nat} (hj : j ≠ i) : FrG i (tgName j) := by
  rw [tgName_def]
  exact ⟨fun d ρ ρ' ρ1 l e => by cases e; exact ⟨_, rfl, l.set j _⟩, fun d ρ ρ1 e => by cases e; rw [look_set, if_neg (Ne.symm hj)]⟩
theorem frg_nil : FrG i tgNil := by
  refine ⟨fun d ρ ρ' ρ1 l e => ?_, fun d ρ ρ1 e => ?_⟩
  · cases d with
    | nil => cases e; exact ⟨_, rfl, l⟩
    | cons _ _ => cases e
  · cases d with
    | nil => cases e; rfl
    | cons _ _ => cases e
theorem frg_cons {g : D → PV.Env → Option PV.Env} {h : List D → PV.Env → Option PV.Env} (hg : FrG i g) (hh : FrG i h) : FrG i (tgCons g h) := by
  refine ⟨fun d ρ ρ' ρ1 l e => ?_, fun d ρ ρ1 e => ?_⟩
  · cases d with
    | nil => cases e
    | cons x r =>
      simp only [tgCons] at e ⊢
      split at e
      · rename_i ρa ea
        obtain ⟨ρb, eb, lb⟩ := hg.mo _ _ _ _ l ea
        rw [eb]
        exact hh.mo _ _ _ _ lb e
      · cases e
  · cases d with
    | nil => cases e
    | cons x r =>
      simp only [tgCons] at e
      split at e
      · rename_i ρa ea
        exact (hh.kp _ _ _ e).trans (hg.kp _ _ _ ea)
      · cases e
theorem frg_tup {g : List D → PV.Env → Option PV.Env} {n : Nat} (hg : FrG i g) : FrG i (tgTup g n) := by
  refine ⟨fun d ρ ρ' ρ1 l e => ?_, fun d ρ ρ1 e => ?_⟩
  · unfold tgTup at e ⊢
    split at e
    · split at e
      · rename_i h
        simp only [h, if_true]
        exact hg.mo _ _ _ _ l e
      · cases e
    · cases e
  · unfold tgTup at e
    split at e
    · split at e
      · exact hg.kp _ _ _ e
      · cases e
    · cases e
/-! comprehensions -/
theorem look_wipe {ρ : PV.Env} {vs : List Nat} {j : Nat} : look (wipeG ρ vs) j = if j ∈ vs then none else look ρ j := by
  induction vs with
  | nil => simp [wipeG]
  | cons v vs ih =>
    rw [wipeG_cons, look_set, ih]
    by_cases h : j = v
    · subst h
      simp
    · rw [if_neg h]
      simp [h]
theorem Le.wipe {ρ ρ' : PV.Env} (h : Le ρ ρ') (vs : List Nat) : Le (wipeG ρ vs) (wipeG ρ' vs) := ⟨by rw [wipeG_len, wipeG_len]; exact h.1, fun j d e => by
  rw [look_wipe] at e ⊢
  split
  · rename_i z; rw [if_pos z] at e; exact e
  · rename_i z; rw [if_neg z] at e; exact h.2 j d e⟩
theorem look_rest {ρ1 ρ : PV.Env} {vs : List Nat} {j : Nat} (hj : j ∉ vs) : look (restE ρ1 vs ρ) j = look ρ j := by
  induction vs with
  | nil => rfl
  | cons v vs ih =>
    rw [restE_cons, look_set, if_neg (fun z => hj (by rw [z]; exact List.mem_cons_self))]
    exact ih fun z => hj (List.mem_cons_of_mem _ z)
theorem Le.rest {ρ1 ρ1' ρ ρ' : PV.Env} (h1 : Le ρ1 ρ1') (h : Le ρ ρ') : ∀ vs : List Nat, Le (restE ρ1 vs ρ) (restE ρ1' vs ρ')
  | [] => h
  | v :: vs => by
    have ih := Le.rest h1 h vs
    refine ⟨by rw [restE_cons, restE_cons, List.length_set, List.length_set]; exact ih.1, fun j d e => ?_⟩
    rw [restE_cons] at e ⊢
    rw [look_set] at e ⊢
    rw [ih.1]
    split
    · rename_i z
      rw [if_pos z] at e
      split
      · rename_i z2
        rw [if_pos z2] at e
        exact h1.2 v d e
      · rename_i z2
        rw [if_neg z2] at e
        exact e
    · rename_i z
      rw [if_neg z] at e
      exact ih.2 j d e
theorem fr_lcN {vs : List Nat} {g : D → PV.Env → Option PV.Env} {t : M Bool} {f : M D} (hv : i ∉ vs) (hg : FrG i g) (ht : Fr i t) (hf : Fr i f) : ∀ ds, Fr i (lcN vs g t f ds) := by
  intro ds
  induction ds with
  | nil => exact ⟨fun ρ ρ' a ρ1 l e => by cases e; exact ⟨ρ', rfl, l⟩, fun ρ a ρ1 e => by cases e; rfl⟩
  | cons d r ih =>
    refine ⟨fun ρ ρ' a ρ1 l e => ?_, fun ρ a ρ1 e => ?_⟩
    · simp only [lcN_cons] at e ⊢
      split at e
      · cases e
      · rename_i ρa ea
        obtain ⟨ρa', ea', la⟩ := hg.mo _ _ _ _ (l.wipe vs) ea
        rw [ea']
        dsimp only
        split at e
        · rename_i ρb eb
          obtain ⟨ρb', eb', lb⟩ := ht.mo _ _ _ _ la eb
          rw [eb']
          dsimp only
          split at e
          · rename_i y ρc ec
            obtain ⟨ρc', ec', lc⟩ := hf.mo _ _ _ _ lb ec
            rw [ec']
            dsimp only
            split at e
            · rename_i ys ρd ed
              cases e
              obtain ⟨ρd', ed', ld⟩ := ih.mo _ _ _ _ lc ed
              rw [ed']
              exact ⟨_, rfl, ld⟩
            · cases e
          · cases e
        · rename_i ρb eb
          obtain ⟨ρb', eb', lb⟩ := ht.mo _ _ _ _ la eb
          rw [eb']
          exact ih.mo _ _ _ _ lb e
        · cases e
    · simp only [lcN_cons] at e
      have hw : look (wipeG ρ vs) i = look ρ i := by rw [look_wipe, if_neg hv]
      split at e
      · cases e
      · rename_i ρa ea
        have ka := (hg.kp _ _ _ ea).trans hw
        split at e
        · rename_i ρb eb
          have kb := (ht.kp _ _ _ eb).trans ka
          split at e
          · rename_i y ρc ec
            have kc := (hf.kp _ _ _ ec).trans kb
            split at e
            · rename_i ys ρd ed
              cases e
              exact (ih.kp _ _ _ ed).trans kc
            · cases e
          · cases e
        · rename_i ρb eb
          exact (ih.kp _ _ _ e).trans ((ht.kp _ _ _ eb).trans ka)
        · cases e
theorem fr_eLc {vs : List Nat} {fi : M (List D)} {g : D → PV.Env → Option PV.Env} {t : M Bool} {f : M D} (hi : Fr i fi) (hg : FrG i g) (ht : Fr i t) (hf : Fr i f) (hv : i ∉ vs := by decide) : Fr i (eLc vs fi g t f) := by
  refine fr_bind hi fun ds => ?_
  have hn := fr_lcN hv hg ht hf ds
  refine ⟨fun ρ ρ' a ρ1 l e => ?_, fun ρ a ρ1 e => ?_⟩
  · split at e
    · rename_i hl
      simp only [hl, if_true]
      split at e
      · rename_i ys ρ2 e2
        cases e
        obtain ⟨ρ2', e2', l2⟩ := hn.mo _ _ _ _ l e2
        rw [e2']
        exact ⟨_, rfl, Le.rest l l2 vs⟩
      · cases e
    · cases e
  · split at e
    · split at e
      · rename_i ys ρ2 e2
        cases e
        rw [look_rest hv]
        exact hn.kp _ _ _ e2
      · cases e
    · cases e
theorem fr_lc2N {vs vs1 : List Nat} {g : D → PV.Env → Option PV.Env} {t : M Bool} {fi1 : M (List D)} {g1 : D → PV.Env → Option PV.Env} {t1 : M Bool} {f : M D} (hv : i ∉ vs) (hv1 : i ∉ vs1) (hg : FrG i g) (ht : Fr i t) (hi1 : Fr i fi1) (hg1 : FrG i g1) (ht1 : Fr i t1) (hf : Fr i f) : ∀ ds, Fr i (lc2N vs vs1 g t fi1 g1 t1 f ds) := by
  intro ds
  induction ds with
  | nil => exact ⟨fun ρ ρ' a ρ1 l e => by cases e; exact ⟨ρ', rfl, l⟩, fun ρ a ρ1 e => by cases e; rfl⟩
  | cons d r ih =>
    refine ⟨fun ρ ρ' a ρ1 l e => ?_, fun ρ a ρ1 e => ?_⟩
    · simp only [lc2N_cons] at e ⊢
      split at e
      · cases e
      · rename_i ρa ea
        obtain ⟨ρa', ea', la⟩ := hg.mo _ _ _ _ (l.wipe vs) ea
        rw [ea']
        dsimp only
        split at e
        · rename_i ρb eb
          obtain ⟨ρb', eb', lb⟩ := ht.mo _ _ _ _ la eb
          rw [eb']
          dsimp only
          split at e
          · rename_i ds1 ρc ec
            obtain ⟨ρc', ec', lc⟩ := hi1.mo _ _ _ _ lb ec
            rw [ec']
            dsimp only
            split at e
            · rename_i ys ρd ed
              obtain ⟨ρd', ed', ld⟩ := (fr_lcN hv1 hg1 ht1 hf ds1).mo _ _ _ _ lc ed
              rw [ed']
              dsimp only
              split at e
              · rename_i zs ρe ee
                cases e
                obtain ⟨ρe', ee', le⟩ := ih.mo _ _ _ _ ld ee
                rw [ee']
                exact ⟨_, rfl, le⟩
              · cases e
            · cases e
          · cases e
        · rename_i ρb eb
          obtain ⟨ρb', eb', lb⟩ := ht.mo _ _ _ _ la eb
          rw [eb']
          exact ih.mo _ _ _ _ lb e
        · cases e
    · simp only [lc2N_cons] at e
      have hw : look (wipeG ρ vs) i = look ρ i := by rw [look_wipe, if_neg hv]
      split at e
      · cases e
      · rename_i ρa ea
        have ka := (hg.kp _ _ _ ea).trans hw
        split at e
        · rename_i ρb eb
          have kb := (ht.kp _ _ _ eb).trans ka
          split at e
          · rename_i ds1 ρc ec
            have kc := (hi1.kp _ _ _ ec).trans kb
            split at e
            · rename_i ys ρd ed
              have kd := ((fr_lcN hv1 hg1 ht1 hf ds1).kp _ _ _ ed).trans kc
              split at e
              · rename_i zs ρe ee
                cases e
                exact (ih.kp _ _ _ ee).trans kd
              · cases e
            · cases e
          · cases e
        · rename_i ρb eb
          exact (ih.kp _ _ _ e).trans ((ht.kp _ _ _ eb).trans ka)
        · cases e
theorem fr_eLc2 {vs vs1 : List Nat} {fi : M (List D)} {g : D → PV.Env → Option PV.Env} {t : M Bool} {fi1 : M (List D)} {g1 : D → PV.Env → Option PV.Env} {t1 : M Bool} {f : M D} (hi : Fr i fi) (hg : FrG i g) (ht : Fr i t) (hi1 : Fr i fi1) (hg1 : FrG i g1) (ht1 : Fr i t1) (hf : Fr i f) (hv : i ∉ vs := by decide) (hv1 : i ∉ vs1 := by decide) :
    Fr i (eLc2 vs vs1 fi g t fi1 g1 t1 f) := by
  refine fr_bind hi fun ds => ?_
  have hn := fr_lc2N hv hv1 hg ht hi1 hg1 ht1 hf ds
  refine ⟨fun ρ ρ' a ρ1 l e => ?_, fun ρ a ρ1 e => ?_⟩
  · split at e
    · rename_i ys ρ2 e2
      split at e
      · rename_i hl
        cases e
        obtain ⟨ρ2', e2', l2⟩ := hn.mo _ _ _ _ l e2
        rw [e2']
        simp only [hl, if_true]
        exact ⟨_, rfl, Le.rest l l2 vs⟩
      · cases e
    · cases e
  · split at e
    · rename_i ys ρ2 e2
      split at e
      · cases e
        rw [look_rest hv]
        exact hn.kp _ _ _ e2
      · cases e
    · cases e
/-! statements -/
theorem sDo_of {α : Type} {f : M α} {k : α → PV.Env → SR} {ρ ρ1 : PV.Env} {a : α} (h : f ρ = .ok (a, ρ1)) : sDo f k ρ = k a ρ1 := by
  unfold sDo
  rw [h]
theorem sDo_nx {α : Type} {f : M α} {k : α → PV.Env → SR} {ρ ρ2 : PV.Env} (h : sDo f k ρ = .nx ρ2) : ∃ a ρ1, f ρ = .ok (a, ρ1) ∧ k a ρ1 = .nx ρ2 := by
  unfold sDo at h
  split at h
  · rename_i a ρ1 e; exact ⟨a, ρ1, e, h⟩
  · cases h
  · cases h
theorem sDo_rt {α : Type} {f : M α} {k : α → PV.Env → SR} {ρ ρ2 : PV.Env} {d : D} (h : sDo f k ρ = .rt d ρ2) : ∃ a ρ1, f ρ = .ok (a, ρ1) ∧ k a ρ1 = .rt d ρ2 := by
  unfold sDo at h
  split at h
  · rename_i a ρ1 e; exact ⟨a, ρ1, e, h⟩
  · cases h
  · cases h
theorem frs_do {α : Type} {f : M α} {k : α → PV.Env → SR} (h : Fr i f) (hk : ∀ a, FrS i (k a)) : FrS i (sDo f k) := by
  refine ⟨fun ρ ρ' ρ2 l e => ?_, fun ρ ρ' d ρ2 l e => ?_, fun ρ ρ2 e => ?_⟩
  · obtain ⟨a, ρ1, e1, e2⟩ := sDo_nx e
    obtain ⟨ρ1', e3, l1⟩ := h.mo _ _ _ _ l e1
    rw [sDo_of e3]
    exact (hk a).mo _ _ _ l1 e2
  · obtain ⟨a, ρ1, e1, e2⟩ := sDo_rt e
    obtain ⟨ρ1', e3, l1⟩ := h.mo _ _ _ _ l e1
    rw [sDo_of e3]
    exact (hk a).mr _ _ _ _ l1 e2
  · obtain ⟨a, ρ1, e1, e2⟩ := sDo_nx e
    exact ((hk a).kp _ _ e2).trans (h.kp _ _ _ e1)
theorem frs_nx : FrS i sNx := ⟨fun ρ ρ' ρ1 l e => by cases e; exact ⟨ρ', rfl, l⟩, fun ρ ρ' d ρ1 l e => (by cases e), fun ρ ρ1 e => by cases e; rfl⟩
theorem frs_rt {d : D} : FrS i (fun ρ => .rt d ρ) := ⟨fun ρ ρ' ρ1 l e => (by cases e), fun ρ ρ' d ρ1 l e => by cases e; exact ⟨ρ', rfl⟩, fun ρ ρ1 e => (by cases e)⟩
theorem frs_fail : FrS i (fun _ => .fail) := ⟨fun ρ ρ' ρ1 l e => (by cases e), fun ρ ρ' d ρ1 l e => (by cases e), fun ρ ρ1 e => (by cases e)⟩
theorem frs_raise {x : Exn} : FrS i (sRaise x) := ⟨fun ρ ρ' ρ1 l e => (by cases e), fun ρ ρ' d ρ1 l e => (by cases e), fun ρ ρ1 e => (by cases e)⟩
theorem frs_set {j : Nat} {x : Option D} (hj : j ≠ i) : FrS i (fun ρ => .nx (ρ.set j x)) := ⟨fun ρ ρ' ρ1 l e => by cases e; exact ⟨_, rfl, l.set j x⟩, fun ρ ρ' d ρ1 l e => (by cases e), fun ρ ρ1 e => by cases e; rw [look_set, if_neg (Ne.symm hj)]⟩
theorem frs_asg {j : Nat} {f : M D} (h : Fr i f) (hj : j ≠ i := by decide) : FrS i (sAsg j f) := by
  rw [sAsg_def]
  exact frs_do h fun _ => frs_set hj
theorem frs_ret {f : M D} (h : Fr i f) : FrS i (sRet f) := frs_do h fun _ => frs_rt
theorem frs_retN : FrS i sRetN := frs_rt
theorem frs_drop {f : M D} (h : Fr i f) : FrS i (sDrop f) := frs_do h fun _ => frs_nx
theorem frs_if {t : M Bool} {a b : SM} (ht : Fr i t) (ha : FrS i a) (hb : FrS i b) : FrS i (sIf t a b) := frs_do ht fun x => by
  cases x
  · exact ⟨fun ρ ρ' ρ1 l e => hb.mo ρ ρ' ρ1 l e, fun ρ ρ' d ρ1 l e => hb.mr ρ ρ' d ρ1 l e, fun ρ ρ1 e => hb.kp ρ ρ1 e⟩
  · exact ⟨fun ρ ρ' ρ1 l e => ha.mo ρ ρ' ρ1 l e, fun ρ ρ' d ρ1 l e => ha.mr ρ ρ' d ρ1 l e, fun ρ ρ1 e => ha.kp ρ ρ1 e⟩
theorem sSeq_of {a b : SM} {ρ ρ1 : PV.Env} (h : a ρ = .nx ρ1) : sSeq a b ρ = b ρ1 := by
  unfold sSeq
  rw [h]
theorem frs_seq {a b : SM} (ha : FrS i a) (hb : FrS i b) : FrS i (sSeq a b) := by
  refine ⟨fun ρ ρ' ρ2 l e => ?_, fun ρ ρ' d ρ2 l e => ?_, fun ρ ρ2 e => ?_⟩
  · unfold sSeq at e
    split at e
    · rename_i ρ1 e1
      obtain ⟨ρ1', e3, l1⟩ := ha.mo _ _ _ l e1
      rw [sSeq_of e3]
      exact hb.mo _ _ _ l1 e
    · rename_i hne
      exact absurd e (fun z => hne _ z)
  · unfold sSeq at e
    split at e
    · rename_i ρ1 e1
      obtain ⟨ρ1', e3, l1⟩ := ha.mo _ _ _ l e1
      rw [sSeq_of e3]
      exact hb.mr _ _ _ _ l1 e
    · obtain ⟨ρ1', e3⟩ := ha.mr _ _ _ _ l e
      unfold sSeq
      rw [e3]
      exact ⟨_, rfl⟩
  · unfold sSeq at e
    split at e
    · rename_i ρ1 e1
      exact (hb.kp _ _ e).trans (ha.kp _ _ e1)
    · rename_i hne
      exact absurd e (fun z => hne _ z)
theorem frs_whileN {t : M Bool} {b : SM} (ht : Fr i t) (hb : FrS i b) : ∀ n, FrS i (whileN t b n)
  | 0 => frs_fail
  | n + 1 => frs_do ht fun x => by
    have h := frs_seq hb (frs_whileN ht hb n)
    cases x
    · exact ⟨fun ρ ρ' ρ1 l e => by cases e; exact ⟨ρ', rfl, l⟩, fun ρ ρ' d ρ1 l e => (by cases e), fun ρ ρ1 e => by cases e; rfl⟩
    · exact ⟨fun ρ ρ' ρ1 l e => h.mo ρ ρ' ρ1 l e, fun ρ ρ' d ρ1 l e => h.mr ρ ρ' d ρ1 l e, fun ρ ρ1 e => h.kp ρ ρ1 e⟩
theorem frs_while {t : M Bool} {b : SM} (ht : Fr i t) (hb : FrS i b) : FrS i (sWhile t b) := frs_whileN ht hb fuelW
theorem frs_forN {g : D → PV.Env → Option PV.Env} {b : SM} (hg : FrG i g) (hb : FrS i b) : ∀ ds, FrS i (forN g b ds)
  | [] => frs_nx
  | d :: r => by
    have h := frs_seq hb (frs_forN hg hb r)
    refine ⟨fun ρ ρ' ρ2 l e => ?_, fun ρ ρ' x ρ2 l e => ?_, fun ρ ρ2 e => ?_⟩
    · simp only [forN_cons] at e ⊢
      split at e
      · rename_i ρ1 e1
        obtain ⟨ρ1', e3, l1⟩ := hg.mo _ _ _ _ l e1
        rw [e3]
        exact h.mo _ _ _ l1 e
      · cases e
    · simp only [forN_cons] at e ⊢
      split at e
      · rename_i ρ1 e1
        obtain ⟨ρ1', e3, l1⟩ := hg.mo _ _ _ _ l e1
        rw [e3]
        exact h.mr _ _ _ _ l1 e
      · cases e
    · simp only [forN_cons] at e
      split at e
      · rename_i ρ1 e1
        exact (h.kp _ _ e).trans (hg.kp _ _ _ e1)
      · cases e
theorem frs_for {f : M (List D)} {g : D → PV.Env → Option PV.Env} {b : SM} (h : Fr i f) (hg : FrG i g) (hb : FrS i b) : FrS i (sFor f g b) := frs_do h fun ds => frs_forN hg hb ds
theorem Le.setAll : ∀ (is : List Nat) (ds : List D) {ρ ρ' : PV.Env}, Le ρ ρ' → Le (setAll is ds ρ) (setAll is ds ρ')
  | [], ds, _, _, h => by rw [setAll_nil, setAll_nil]; exact h
  | _ :: _, [], _, _, h => h
  | i :: is, d :: ds, _, _, h => by
    rw [setAll_cons, setAll_cons]
    exact Le.setAll is ds (h.set i (some d))
theorem look_setAll : ∀ (is : List Nat) (ds : List D) {ρ : PV.Env} {i : Nat}, i ∉ is → look (setAll is ds ρ) i = look ρ i
  | [], ds, _, _, _ => by rw [setAll_nil]
  | _ :: _, [], _, _, _ => rfl
  | j :: is, d :: ds, ρ, i, h => by
    rw [setAll_cons, look_setAll is ds (fun z => h (List.mem_cons_of_mem _ z)), look_set, if_neg (fun z => h (by rw [z]; exact List.mem_cons_self))]
theorem frs_par {is : List Nat} {f : M (List D)} (h : Fr i f) (hi : i ∉ is := by decide) : FrS i (sPar is f) := frs_do h fun ds => ⟨fun ρ ρ' ρ1 l e => by cases e; exact ⟨_, rfl, Le.setAll is ds l⟩, fun ρ ρ' d ρ1 l e => (by cases e), fun ρ ρ1 e => by cases e; exact look_setAll is ds hi⟩
theorem frs_look {j : Nat} {k : D → SM} (hk : ∀ x, FrS i (k x)) : FrS i (fun ρ => match look ρ j with
    | some x => k x ρ
    | none => .fail) := by
  refine ⟨fun ρ ρ' ρ2 l e => ?_, fun ρ ρ' d ρ2 l e => ?_, fun ρ ρ2 e => ?_⟩
  · split at e
    · rename_i x ex
      rw [l.2 j x ex]
      exact (hk x).mo _ _ _ l e
    · cases e
  · split at e
    · rename_i x ex
      rw [l.2 j x ex]
      exact (hk x).mr _ _ _ _ l e
    · cases e
  · split at e
    · exact (hk _).kp _ _ e
    · cases e
theorem frs_put {j : Nat} {op : D → D → D → Option D} {fv fi : M D} (hv : Fr i fv) (hi : Fr i fi) (hj : j ≠ i := by decide) : FrS i (sPut j op fv fi) := by
  rw [sPut_def]
  refine frs_do hv fun d => ?_
  have h := frs_look (i := i) (j := j) (k := fun _ => sDo fi (fun jx ρ' => match look ρ' j with
    | some x => match op x jx d with
      | some y => .nx (ρ'.set j (some y))
      | none => .fail
    | none => .fail)) fun _ => frs_do hi fun jx => frs_look (k := fun x ρ' => match op x jx d with
      | some y => .nx (ρ'.set j (some y))
      | none => .fail) fun x => by
        cases op x jx d with
        | none => exact frs_fail
        | some y => exact frs_set hj
  refine ⟨fun ρ ρ' ρ2 l e => ?_, fun ρ ρ' x ρ2 l e => ?_, fun ρ ρ2 e => ?_⟩
  · have e' := h.mo ρ ρ' ρ2 l (by cases q : look ρ j with
      | none => rw [q] at e; exact nomatch e
      | some x => rw [q] at e; exact e)
    obtain ⟨ρ3, e3, l3⟩ := e'
    refine ⟨ρ3, ?_, l3⟩
    cases q : look ρ' j with
    | none => simp only [q] at e3; cases e3
    | some x => simp only [q] at e3; exact e3
  · have e' := h.mr ρ ρ' x ρ2 l (by cases q : look ρ j with
      | none => rw [q] at e; exact nomatch e
      | some x => rw [q] at e; exact e)
    obtain ⟨ρ3, e3⟩ := e'
    refine ⟨ρ3, ?_⟩
    cases q : look ρ' j with
    | none => simp only [q] at e3; cases e3
    | some x => simp only [q] at e3; exact e3
  · refine h.kp ρ ρ2 ?_
    cases q : look ρ j with
    | none => rw [q] at e; exact nomatch e
    | some x => rw [q] at e; exact e
theorem fr_look {α : Type} {j : Nat} {k : D → M α} (hk : ∀ x, Fr i (k x)) : Fr i (fun ρ => match look ρ j with
    | some x => k x ρ
    | none => .fail) := by
  refine ⟨fun ρ ρ' a ρ2 l e => ?_, fun ρ a ρ2 e => ?_⟩
  · split at e
    · rename_i x ex
      rw [l.2 j x ex]
      exact (hk x).mo _ _ _ _ l e
    · cases e
  · split at e
    · exact (hk _).kp _ _ _ e
    · cases e
theorem fr_set {α : Type} {j : Nat} {x : Option D} {a : α} (hj : j ≠ i) : Fr i (fun ρ => .ok (a, ρ.set j x)) := ⟨fun ρ ρ' b ρ1 l e => by cases e; exact ⟨_, rfl, l.set j x⟩, fun ρ b ρ1 e => by cases e; rw [look_set, if_neg (Ne.symm hj)]⟩
theorem fr_eMeth0 {j : Nat} {isT : D → Bool} {op : D → Option (D × D)} (hj : j ≠ i := by decide) : Fr i (eMeth0 j isT op) := by
  rw [eMeth0_def]
  refine fr_look (k := fun x ρ => if isT x = true then match op x with
      | some (z, y) => .ok (z, ρ.set j (some y))
      | none => .fail
    else .fail) fun x => ?_
  by_cases h : isT x = true
  · simp only [h, if_true]
    cases op x with
    | none => exact fr_fail
    | some p => exact fr_set hj
  · simp only [h]
    exact fr_fail
theorem fr_eMeth1 {j : Nat} {isT : D → Bool} {op : D → D → Option (D × D)} {f : M D} (hf : Fr i f) (hj : j ≠ i := by decide) : Fr i (eMeth1 j isT op f) := by
  have h := fr_look (i := i) (j := j) (k := fun x0 => if isT x0 = true then f.bind fun d ρ' => match look ρ' j with
        | some x => match op x d with
          | some (z, y) => R.ok (z, ρ'.set j (some y))
          | none => .fail
        | none => .fail
      else fun _ => .fail) fun x0 => fr_ite (fr_bind hf fun d => fr_look (k := fun x ρ' => match op x d with
          | some (z, y) => R.ok (z, ρ'.set j (some y))
          | none => .fail) fun x => by
            cases op x d with
            | none => exact fr_fail
            | some p => exact fr_set hj) fr_fail
  rw [eMeth1_def]
  refine Eq.mp (congrArg (Fr i) ?_) h
  funext ρ
  cases look ρ j with
  | none => rfl
  | some x =>
    dsimp only
    split
    · show M.bind _ _ ρ = _
      unfold M.bind
      cases ef : f ρ with
      | ok p => rfl
      | exc x => rfl
      | fail => rfl
    · rfl
theorem fr_eCallIO {j : Nat} {ms : List Am} {m : List D → R (D × List D)} {fa : M (List D)} (h : Fr i fa) (hj : j ≠ i := by decide) : Fr i (eCallIO j ms m fa) := by
  rw [eCallIO_def]
  refine fr_bind h fun ds => fr_look (k := fun x ρ => match m (fill1 x ms ds) with
    | .ok (d, [y]) => .ok (d, ρ.set j (some y))
    | .ok _ => .fail
    | .exc e => .exc e
    | .fail => .fail) fun x => ?_
  generalize m (fill1 x ms ds) = r
  cases r with
  | ok p =>
    obtain ⟨d, os⟩ := p
    match os with
    | [] => exact fr_fail
    | [y] => exact fr_set hj
    | _ :: _ :: _ => exact fr_fail
  | exc x => exact ⟨fun ρ ρ' b ρ1 l q => (by cases q), fun ρ b ρ1 q => (by cases q)⟩
  | fail => exact fr_fail
theorem fr_aIo {j : Nat} {g : M (List D)} (h : Fr i g) : Fr i (aIo j g) := fr_look (k := fun _ => aCons (eC .non) g) fun _ => fr_aCons fr_c h
end
end
end PV

set_option Elab.async false
set_option linter.all false
set_option maxRecDepth 100000
set_option maxHeartbeats 0
namespace PV
noncomputable section
open PySem PySem.Spec
open PyProof.Rows L2

/-! ## 29. the drawn numbers, the same in every law -/
def sTake : SM := sSeq (sIf (tB (e2 gGt (e2 gIx (eVar 0) (eC (.int 0))) (eC (.int 0)))) (sSeq (sAsg 2 (e2 gMod (e1L gInt (e2 gIx (eVar 0) (eC (.int 0)))) (eVar 1)))
  (sSeq (sPut 0 opSetL (e2 gDiv (e2 gIx (eVar 0) (eC (.int 0))) (eVar 1)) (eC (.int 0)))
  (sRet (eVar 2)))) (sNx))
  (sSeq (sPut 0 opSetL (e2 gMod (e1L gInt (e2 gAdd (e2 gMul (e2 gIx (eVar 0) (eC (.int 1))) (eC (.int 48271))) (eC (.int 11)))) (eC (.int 2147483647))) (eC (.int 1)))
  (sRet (e2 gMod (e1L gInt (e2 gDiv (e2 gIx (eVar 0) (eC (.int 1))) (eC (.int 7)))) (eVar 1))))
def mTake : List D → R (D × List D) := runB 3 [.io 1, .sh] 0 sTake
def sState : SM := sSeq (sAsg 1 (eC (.int 0)))
  (sSeq (sAsg 2 (eC (.int 1)))
  (sSeq (sFor (iSeqM (eSlL (eVar 0) (pNone) (pSome (eC (.int 63))))) (tgName 3) (sSeq (sAsg 1 (e2 gAdd (e2 gMul (eVar 1) (eC (.int 1000003))) (e1L gAbs (eVar 3))))
  (sAsg 2 (e2 gMod (e1L gInt (e2 gAdd (e2 gMul (eVar 2) (eC (.int 48271))) (eVar 3))) (eC (.int 2147483647))))))
  (sRet (eLst (aCons (eVar 1) (aCons (eIf (tB (e2 gNe (eVar 2) (eC (.int 1973665155)))) (eVar 2) (eC (.int 7))) (aNil)))))))
def mState : List D → R D := runF 4 1 sState
theorem fmod_nn {a m : Int} (h : 0 < m) : 0 ≤ a.fmod m ∧ a.fmod m < m := ⟨Int.fmod_nonneg_of_pos a h, Int.fmod_lt_of_pos a h⟩
theorem mulOk_r {a b : Int} (h : b.natAbs < 2 ^ 64) : mulOk a b = true := by
  unfold mulOk
  rw [decide_eq_true h, Bool.true_or, Bool.or_true]
theorem take_ok (a b m : Int) (h0 : 0 < m) (h1 : m.natAbs < 1073741824) : ∃ v a' b', 0 ≤ v ∧ v < m ∧ mTake [.lst [.int a, .int b], .int m] = .ok (.int v, [.lst [.int a', .int b']]) := by
  have hm0 : ¬ m = 0 := by omega
  by_cases ha : 0 < a
  · refine ⟨a.fmod m, a.fdiv m, b, (fmod_nn h0).1, (fmod_nn h0).2, ?_⟩
    unfold mTake runB
    have t : decide (0 < a) = true := decide_eq_true ha
    have ix : gIx (.lst [.int a, .int b]) (.int 0) = some (.int a) := rfl
    have e2' : sTake (envOf 3 [.lst [.int a, .int b], .int m]) = .rt (.int (a.fmod m)) [some (.lst [.int (a.fdiv m), .int b]), some (.int m), some (.int (a.fmod m))] := by
      simp [sTake, sIf, sDo, tB, e2, e1L, eL, aCons, aNil, g1, gInt, M.bind, M.ofO, M.pure, eVar, eC, look_zero, look_succ, look_nil, put_eq, envOf, ix, gGt, asBl, t, sSeq, sAsg, sRet, gMod, gDiv, hm0, h1, sPut, opSetL, ixN, ha]
    rw [e2']
    rfl
  · refine ⟨(((b * 48271 + 11).fmod 2147483647).fdiv 7).fmod m, a, (b * 48271 + 11).fmod 2147483647, (fmod_nn h0).1, (fmod_nn h0).2, ?_⟩
    unfold mTake runB
    have t : decide (0 < a) = false := decide_eq_false ha
    have ix : gIx (.lst [.int a, .int b]) (.int 0) = some (.int a) := rfl
    have ix1 : gIx (.lst [.int a, .int b]) (.int 1) = some (.int b) := rfl
    have ix2 : ∀ c, gIx (.lst [.int a, .int c]) (.int 1) = some (.int c) := fun c => rfl
    have mo : mulOk b 48271 = true := mulOk_r (by decide)
    have q : ∀ x, gMod (.int x) (.int 2147483647) = some (.int (x.fmod 2147483647)) := fun x => by simp [gMod]
    have q1 : ∀ x, gMod (.int x) (.int m) = some (.int (x.fmod m)) := fun x => by simp [gMod, hm0]
    have q2 : ∀ x, gDiv (.int x) (.int 7) = some (.int (x.fdiv 7)) := fun x => by simp [gDiv]
    have e2' : sTake (envOf 3 [.lst [.int a, .int b], .int m]) = .rt (.int ((((b * 48271 + 11).fmod 2147483647).fdiv 7).fmod m)) [some (.lst [.int a, .int ((b * 48271 + 11).fmod 2147483647)]), some (.int m), none] := by
      simp [sTake, sIf, sDo, tB, e2, e1L, eL, aCons, aNil, g1, gInt, M.bind, M.ofO, M.pure, eVar, eC, look_zero, look_succ, look_nil, put_eq, envOf, ix, ix1, ix2, gGt, asBl, t, sSeq, sAsg, sRet, q, q1, q2, sPut, opSetL, ixN, ha, sNx, gMul, mo, gAdd]
    rw [e2']
    rfl
def bState : SM := sSeq (sAsg 1 (e2 gAdd (e2 gMul (eVar 1) (eC (.int 1000003))) (e1L gAbs (eVar 3))))
  (sAsg 2 (e2 gMod (e1L gInt (e2 gAdd (e2 gMul (eVar 2) (eC (.int 48271))) (eVar 3))) (eC (.int 2147483647))))
theorem state_step (x : D) (a b i : Int) (c : Option D) : ∃ a' b', bState [some x, some (.int a), some (.int b), some (.int i)] = .nx [some x, some (.int a'), some (.int b'), some (.int i)] := by
  have m1 : mulOk a 1000003 = true := mulOk_r (by decide)
  have m2 : mulOk b 48271 = true := mulOk_r (by decide)
  refine ⟨a * 1000003 + (if i < 0 then -i else i), (b * 48271 + i).fmod 2147483647, ?_⟩
  simp [bState, sSeq, sAsg, sDo, e2, e1L, eL, aCons, aNil, g1, gInt, gAbs, gMul, m1, m2, gAdd, gMod, M.bind, M.ofO, M.pure, eVar, eC, look_zero, look_succ, look_nil, put_eq]
theorem state_loop (x : D) : ∀ (is : List Int) (a b : Int) (c : Option D), ∃ a' b' c', forN (tgName 3) bState (is.map .int) [some x, some (.int a), some (.int b), c] = .nx [some x, some (.int a'), some (.int b'), c']
  | [], a, b, c => ⟨a, b, c, rfl⟩
  | i :: r, a, b, c => by
    obtain ⟨a1, b1, e⟩ := state_step x a b i c
    obtain ⟨a2, b2, c2, e2⟩ := state_loop x r a1 b1 (some (.int i))
    refine ⟨a2, b2, c2, ?_⟩
    rw [List.map_cons]
    show sSeq bState (forN (tgName 3) bState (r.map .int)) [some x, some (.int a), some (.int b), some (.int i)] = _
    unfold sSeq
    rw [e]
    exact e2
theorem cut_map (ns : List Int) (l h : Option Int) : ∃ is : List Int, cutD (ns.map .int) l h = is.map .int := by
  unfold cutD
  rw [← List.map_drop, ← List.map_take]
  exact ⟨_, rfl⟩
theorem eqD_int (i j : Int) : eqD (.int i) (.int j) = some (decide (i = j)) := rfl
theorem state_pre (ns is : List Int) (a b : Int) (c : Option D) (ei : cutD (ns.map D.int) none (some 63) = is.map D.int) (e : forN (tgName 3) bState (is.map .int) [some (.scr ns), some (.int 0), some (.int 1), none] = .nx [some (.scr ns), some (.int a), some (.int b), c]) (k : SM) :
    sSeq (sAsg 1 (eC (.int 0))) (sSeq (sAsg 2 (eC (.int 1))) (sSeq (sFor (iSeqM (eSlL (eVar 0) (pNone) (pSome (eC (.int 63))))) (tgName 3) bState) k)) (envOf 4 [.scr ns]) = k [some (.scr ns), some (.int a), some (.int b), c] := by
  refine (sSeq_of (ρ1 := [some (.scr ns), some (.int 0), none, none]) rfl).trans ?_
  refine (sSeq_of (ρ1 := [some (.scr ns), some (.int 0), some (.int 1), none]) rfl).trans ?_
  refine sSeq_of ?_
  unfold sFor
  refine (sDo_of (a := is.map .int) (ρ1 := [some (.scr ns), some (.int 0), some (.int 1), none]) ?_).trans e
  have gs : gSl none (some 63) (.scr ns) = some (.lst (is.map .int)) := by unfold gSl; rw [← ei]
  simp [iSeqM, eSlL, eSl, pNone, pSome, M.bind, M.ofO, M.pure, eVar, eC, look_zero, look_succ, look_nil, put_eq, isLst, asInt, gs, itemsOf]
theorem state_ok (ns : List Int) : ∃ a b : Int, mState [.scr ns] = .ok (.lst [.int a, .int b]) := by
  obtain ⟨is, ei⟩ := cut_map ns none (some 63)
  obtain ⟨a, b, c, e⟩ := state_loop (.scr ns) is 0 1 none
  have hp := state_pre ns is a b c ei e (sRet (eLst (aCons (eVar 1) (aCons (eIf (tB (e2 gNe (eVar 2) (eC (.int 1973665155)))) (eVar 2) (eC (.int 7))) (aNil)))))
  by_cases hb : b = 1973665155
  · refine ⟨a, 7, ?_⟩
    have e3 : sState (envOf 4 [.scr ns]) = .rt (.lst [.int a, .int 7]) [some (.scr ns), some (.int a), some (.int b), c] := by
      refine hp.trans ?_
      simp [sRet, sDo, eLst, eL, aCons, aNil, eIf, tB, e2, gNe, eqD_int, hb, M.bind, M.ofO, M.pure, eVar, eC, look_zero, look_succ, look_nil, put_eq, asBl]
    unfold mState runF
    rw [e3]
  · refine ⟨a, b, ?_⟩
    have e3 : sState (envOf 4 [.scr ns]) = .rt (.lst [.int a, .int b]) [some (.scr ns), some (.int a), some (.int b), c] := by
      refine hp.trans ?_
      simp [sRet, sDo, eLst, eL, aCons, aNil, eIf, tB, e2, gNe, eqD_int, hb, M.bind, M.ofO, M.pure, eVar, eC, look_zero, look_succ, look_nil, put_eq, asBl]
    unfold mState runF
    rw [e3]
end
end PV

set_option Elab.async false
set_option linter.all false
set_option maxRecDepth 100000
set_option maxHeartbeats 0
namespace PV
noncomputable section
open PySem PySem.Spec
open PyProof.Rows L2

/-! ## 30. a law's body, part by part -/
/-- what is known of the slots: j holds the drawing state, the ones of L their values -/
structure Ag (j n : Nat) (L : List (Nat × D)) (ρ : PV.Env) : Prop where
  len : ρ.length = n
  st : ∃ a b : Int, look ρ j = some (.lst [.int a, .int b])
  at_ : ∀ i d, L.lookup i = some d → look ρ i = some d
def mkE (n : Nat) (L : List (Nat × D)) : PV.Env := (List.range n).map fun i => L.lookup i
theorem look_map {f : Nat → Option D} : ∀ (n k i : Nat), look ((List.range' k n).map f) i = if i < n then f (k + i) else none
  | 0, k, i => by simp [look_nil]
  | n + 1, k, 0 => by simp [List.range'_succ, look_zero]
  | n + 1, k, i + 1 => by
    rw [List.range'_succ, List.map_cons, look_succ, look_map n (k + 1) i]
    simp [Nat.add_assoc, Nat.add_comm 1 i]
theorem look_mkE {n i : Nat} {L : List (Nat × D)} : look (mkE n L) i = if i < n then L.lookup i else none := by
  unfold mkE
  rw [List.range_eq_range', look_map]
  simp
theorem look_lt {ρ : PV.Env} {i : Nat} {d : D} (h : look ρ i = some d) : i < ρ.length := (List.getElem?_eq_some_iff.mp (look_eq.mp h)).1
theorem Ag.le {j n : Nat} {L : List (Nat × D)} {ρ : PV.Env} (a : Ag j n L ρ) : Le (mkE n L) ρ := by
  refine ⟨by rw [a.len]; unfold mkE; simp, fun i d e => ?_⟩
  rw [look_mkE] at e
  split at e
  · exact a.at_ i d e
  · cases e
/-- plain equality, as far as it is needed -/
def sameR (f : D → D → Bool) (ds : List D) : List D → Bool := List.rec (motive := fun _ => List D → Bool) (fun es => List.rec (motive := fun _ => Bool) true (fun _ _ _ => false) es)
  (fun d _ ih es => List.rec (motive := fun _ => Bool) false (fun e r _ => Bool.rec (motive := fun _ => Bool) false (ih r) (f d e)) es) ds
def same1 (f : D → D → Bool) : D → D → Bool
  | .non, .non => true
  | .bl a, .bl b => a == b
  | .int i, .int j => decide (i = j)
  | .str x, .str y => decide (x = y)
  | .lst xs, .lst ys => sameR f xs ys
  | .tup xs, .tup ys => sameR f xs ys
  | _, _ => false
def sameF (n : Nat) : D → D → Bool := Nat.rec (motive := fun _ => D → D → Bool) (same1 fun _ _ => false) (fun _ f => same1 f) n
theorem sameR_ok {f : D → D → Bool} (h : ∀ d e, f d e = true → d = e) : ∀ ds es : List D, sameR f ds es = true → ds = es
  | [], [], _ => rfl
  | [], _ :: _, q => by cases q
  | _ :: _, [], q => by cases q
  | d :: ds, e :: es, q => by
    have q : Bool.rec (motive := fun _ => Bool) false (sameR f ds es) (f d e) = true := q
    cases t : f d e with
    | false => rw [t] at q; cases q
    | true =>
      rw [t] at q
      rw [h d e t, sameR_ok h ds es q]
theorem same1_ok {f : D → D → Bool} (h : ∀ ds es : List D, sameR f ds es = true → ds = es) (d e : D) (q : same1 f d e = true) : d = e := by
  cases d <;> cases e <;> first | (cases q; done) | rfl | skip
  · have := eq_of_beq (show (_ == _) = true from q); subst this; rfl
  · have := of_decide_eq_true (show decide _ = true from q); subst this; rfl
  · have := of_decide_eq_true (show decide _ = true from q); subst this; rfl
  · rw [h _ _ q]
  · rw [h _ _ q]
theorem sameF_ok : ∀ (n : Nat) (d e : D), sameF n d e = true → d = e
  | 0, d, e, q => same1_ok (sameR_ok fun _ _ z => by cases z) d e q
  | n + 1, d, e, q => same1_ok (sameR_ok (sameF_ok n)) d e q
/-- several statements in a row -/
def seqL (l : List SM) (k : SM) : SM := l.foldr sSeq k
theorem seqL_app (a b : List SM) (k : SM) : seqL (a ++ b) k = seqL a (seqL b k) := List.foldr_append
theorem seqL_nx : ∀ (l : List SM) (k : SM) {ρ ρ' : PV.Env}, seqL l sNx ρ = .nx ρ' → seqL l k ρ = k ρ'
  | [], k, ρ, ρ', h => by cases h; rfl
  | s :: l, k, ρ, ρ', h => by
    have h : sSeq s (seqL l sNx) ρ = .nx ρ' := h
    show sSeq s (seqL l k) ρ = k ρ'
    unfold sSeq at h ⊢
    split at h
    · rename_i ρ1 e
      exact seqL_nx l k h
    · rename_i hne
      exact absurd h (hne _)
/-- run on the known slots alone, a part goes through and leaves these slots as they were -/
def chk (n : Nat) (g : List SM) (L : List (Nat × D)) (keep : List Nat) : Bool := match seqL g sNx (mkE n L) with
  | .nx ρ => decide (ρ.length = n) && keep.all fun i => match look ρ i, L.lookup i with
    | some d, some e => sameF 6 d e
    | _, _ => false
  | _ => false
/-- .. and, the last of all, returns True -/
def chkR (n : Nat) (g : SM) (L : List (Nat × D)) : Bool := match g (mkE n L) with
  | .rt (.bl true) _ => true
  | _ => false
theorem lookup_filter {keep : List Nat} : ∀ {L : List (Nat × D)} {i : Nat} {d : D}, (L.filter fun p => keep.contains p.1).lookup i = some d → i ∈ keep ∧ L.lookup i = some d
  | [], _, _, h => by cases h
  | (k, x) :: L, i, d, h => by
    rw [List.filter_cons] at h
    by_cases hk : keep.contains k = true
    · rw [if_pos hk] at h
      rw [List.lookup_cons] at h ⊢
      cases e : i == k with
      | true =>
        rw [e] at h
        have e : i = k := eq_of_beq e
        subst e
        exact ⟨by simpa using hk, h⟩
      | false =>
        rw [e] at h
        exact lookup_filter h
    · rw [if_neg hk] at h
      obtain ⟨h1, h2⟩ := lookup_filter h
      refine ⟨h1, ?_⟩
      rw [List.lookup_cons]
      have : (i == k) = false := by
        cases e : i == k with
        | false => rfl
        | true =>
          have e : i = k := eq_of_beq e
          subst e
          exact absurd (by simpa using h1) hk
      rw [this]
      exact h2
theorem seg {j n : Nat} {g : List SM} {L : List (Nat × D)} (keep : List Nat) (fr : FrS j (seqL g sNx)) (c : chk n g L keep = true) {ρ : PV.Env} (a : Ag j n L ρ) : ∃ ρ', Ag j n (L.filter fun p => keep.contains p.1) ρ' ∧ ∀ k, seqL g k ρ = k ρ' := by
  unfold chk at c
  split at c
  · rename_i ρ0 e
    rw [Bool.and_eq_true] at c
    obtain ⟨ρ', e', l⟩ := fr.mo _ _ _ a.le e
    refine ⟨ρ', ⟨by rw [l.1]; exact of_decide_eq_true c.1, ?_, fun i d h => ?_⟩, fun k => seqL_nx g k e'⟩
    · obtain ⟨x, y, h⟩ := a.st
      exact ⟨x, y, by rw [fr.kp _ _ e']; exact h⟩
    · obtain ⟨hi, hL⟩ := lookup_filter h
      have := List.all_eq_true.mp c.2 i hi
      rw [hL] at this
      split at this
      · rename_i d1 d2 h1 h2
        cases h2
        have := sameF_ok 6 _ _ this
        subst this
        exact l.2 i _ h1
      · cases this
  · cases c
theorem segR {j n : Nat} {g : SM} {L : List (Nat × D)} (fr : FrS j g) (c : chkR n g L = true) {ρ : PV.Env} (a : Ag j n L ρ) : ∃ ρ', g ρ = .rt (.bl true) ρ' := by
  unfold chkR at c
  split at c
  · rename_i ρ0 e
    exact fr.mr _ _ _ _ a.le e
  · cases c
/-! ### drawing -/
/-- f gives a value with Q; only the state may change -/
def Dw (j n : Nat) (L : List (Nat × D)) (f : M D) (Q : D → Prop) : Prop := ∀ ρ, Ag j n L ρ → ∃ d ρ', f ρ = .ok (d, ρ') ∧ Q d ∧ Ag j n L ρ'
section
variable {j n : Nat} {L : List (Nat × D)} {Q : D → Prop}
theorem dw_c {d : D} (h : Q d) : Dw j n L (eC d) Q := fun ρ a => ⟨d, ρ, rfl, h, a⟩
theorem dw_var {i : Nat} {d : D} (hi : L.lookup i = some d) (h : Q d) : Dw j n L (eVar i) Q := fun ρ a => ⟨d, ρ, by unfold eVar; rw [a.at_ i d hi], h, a⟩
theorem dw_e2 {g : D → D → Option D} {fa fb : M D} (h : Dw j n L fa fun x => Dw j n L fb fun y => ∃ z, g x y = some z ∧ Q z) : Dw j n L (e2 g fa fb) Q := fun ρ a => by
  obtain ⟨x, ρ1, e1, h1, a1⟩ := h ρ a
  obtain ⟨y, ρ2, e2', ⟨z, hz, hq⟩, a2⟩ := h1 ρ1 a1
  refine ⟨z, ρ2, ?_, hq, a2⟩
  unfold e2
  rw [M.bind_of e1, M.bind_of e2']
  unfold M.ofO
  rw [hz]
theorem dw_take {fm : M D} {m : Int} (hm : Dw j n L fm fun d => d = .int m) (h0 : 0 < m) (h1 : m.natAbs < 1073741824) (hj : L.lookup j = none) (q : ∀ v, 0 ≤ v → v < m → Q (.int v)) :
    Dw j n L (eCallIO j [.io j, .val (.rd 0)] mTake (aIo j (aCons fm aNil))) Q := fun ρ a => by
  obtain ⟨x, y, hs⟩ := a.st
  obtain ⟨d, ρ1, e1, rfl, a1⟩ := hm ρ a
  obtain ⟨x1, y1, hs1⟩ := a1.st
  obtain ⟨v, a', b', v0, v1, et⟩ := take_ok x1 y1 m h0 h1
  refine ⟨.int v, ρ1.set j (some (.lst [.int a', .int b'])), ?_, q v v0 v1, ⟨by rw [List.length_set]; exact a1.len, ⟨a', b', by rw [look_set, if_pos rfl, if_pos (look_lt hs1)]⟩, fun i d hi => ?_⟩⟩
  · rw [eCallIO_def]
    have ea : aIo j (aCons fm aNil) ρ = .ok ([.non, .int m], ρ1) := by
      unfold aIo
      rw [hs]
      show M.bind (eC D.non) _ ρ = _
      rw [M.bind_of (a := D.non) (ρ1 := ρ) rfl]
      have : aCons fm aNil ρ = .ok ([.int m], ρ1) := by
        unfold aCons
        rw [M.bind_of e1, M.bind_of (a := ([] : List D)) (ρ1 := ρ1) rfl]
        rfl
      rw [M.bind_of this]
      rfl
    rw [M.bind_of ea, hs1]
    show (match mTake (fill1 (.lst [.int x1, .int y1]) [.io j, .val (.rd 0)] [.non, .int m]) with
      | .ok (d, [y]) => R.ok (d, ρ1.set j (some y))
      | .ok _ => .fail
      | .exc e => .exc e
      | .fail => .fail) = _
    have ef : fill1 (.lst [.int x1, .int y1]) [.io j, .val (.rd 0)] [.non, .int m] = [.lst [.int x1, .int y1], .int m] := rfl
    rw [ef, et]
  · by_cases z : i = j
    · subst z
      rw [hj] at hi
      cases hi
    · rw [look_set, if_neg z]
      exact a1.at_ i d hi
theorem Dw.imp {f : M D} {Q' : D → Prop} (h : Dw j n L f Q) (k : ∀ d, Q d → Q' d) : Dw j n L f Q' := fun ρ a => by
  obtain ⟨d, ρ', e, q, a'⟩ := h ρ a
  exact ⟨d, ρ', e, k d q, a'⟩
theorem Ag.cons {ρ : PV.Env} (a : Ag j n L ρ) {i : Nat} {d : D} (hi : i < n) (hj : i ≠ j) : Ag j n ((i, d) :: L) (ρ.set i (some d)) := by
  refine ⟨by rw [List.length_set]; exact a.len, ?_, fun k e h => ?_⟩
  · obtain ⟨x, y, h⟩ := a.st
    exact ⟨x, y, by rw [look_set, if_neg (Ne.symm hj)]; exact h⟩
  · rw [look_set]
    rw [List.lookup_cons] at h
    by_cases z : k = i
    · subst z
      rw [if_pos rfl, if_pos (by rw [a.len]; exact hi)]
      simp at h
      rw [h]
    · rw [if_neg z]
      have : (k == i) = false := by simp [z]
      rw [this] at h
      exact a.at_ k e h
/-- x = f, f drawing -/
theorem dw_asg {i : Nat} {f : M D} (h : Dw j n L f Q) (hi : i < n) (hj : i ≠ j) {ρ : PV.Env} (a : Ag j n L ρ) : ∃ d ρ', Q d ∧ Ag j n ((i, d) :: L) ρ' ∧ ∀ k, sSeq (sAsg i f) k ρ = k ρ' := by
  obtain ⟨d, ρ1, e, q, a1⟩ := h ρ a
  refine ⟨d, ρ1.set i (some d), q, a1.cons hi hj, fun k => sSeq_of ?_⟩
  rw [sAsg_def, sDo_of e]
/-- several, stored at once -/
def DwL (j n : Nat) (L : List (Nat × D)) (f : M (List D)) (Q : List D → Prop) : Prop := ∀ ρ, Ag j n L ρ → ∃ ds ρ', f ρ = .ok (ds, ρ') ∧ Q ds ∧ Ag j n L ρ'
theorem dwl_nil {Q : List D → Prop} (h : Q []) : DwL j n L aNil Q := fun ρ a => ⟨[], ρ, rfl, h, a⟩
theorem dwl_cons {f : M D} {g : M (List D)} {Q : List D → Prop} (h : Dw j n L f fun x => DwL j n L g fun xs => Q (x :: xs)) : DwL j n L (aCons f g) Q := fun ρ a => by
  obtain ⟨x, ρ1, e1, h1, a1⟩ := h ρ a
  obtain ⟨xs, ρ2, e2', hq, a2⟩ := h1 ρ1 a1
  refine ⟨x :: xs, ρ2, ?_, hq, a2⟩
  unfold aCons
  rw [M.bind_of e1, M.bind_of e2']
  rfl
theorem Ag.all : ∀ (is : List Nat) (ds : List D) {L : List (Nat × D)} {ρ : PV.Env}, Ag j n L ρ → (∀ i ∈ is, i < n ∧ i ≠ j) → is.length = ds.length → Ag j n ((is.zip ds).reverse ++ L) (setAll is ds ρ)
  | [], [], _, _, a, _, _ => a
  | i :: is, d :: ds, L, ρ, a, h, hl => by
    rw [setAll_cons]
    have := Ag.all is ds (a.cons (d := d) (h i List.mem_cons_self).1 (h i List.mem_cons_self).2) (fun k hk => h k (List.mem_cons_of_mem _ hk)) (Nat.succ.inj hl)
    simpa using this
theorem dw_par {is : List Nat} {f : M (List D)} {Q : List D → Prop} (h : DwL j n L f Q) (hi : ∀ i ∈ is, i < n ∧ i ≠ j) (hl : ∀ ds, Q ds → is.length = ds.length) {ρ : PV.Env} (a : Ag j n L ρ) : ∃ ds ρ', Q ds ∧ Ag j n ((is.zip ds).reverse ++ L) ρ' ∧ ∀ k, sSeq (sPar is f) k ρ = k ρ' := by
  obtain ⟨ds, ρ1, e, q, a1⟩ := h ρ a
  refine ⟨ds, setAll is ds ρ1, q, Ag.all is ds a1 hi (hl ds q), fun k => sSeq_of ?_⟩
  unfold sPar
  rw [sDo_of e]
/-! [f for v in range(m)], f drawing -/
theorem Ag.sub {L' : List (Nat × D)} {ρ : PV.Env} (a : Ag j n L ρ) (h : ∀ i d, L'.lookup i = some d → L.lookup i = some d) : Ag j n L' ρ := ⟨a.len, a.st, fun i d e => a.at_ i d (h i d e)⟩
theorem dw_lcN {v : Nat} {f : M D} (hv : v < n) (hvj : v ≠ j) (hvL : L.lookup v = none) (hf : Dw j n L f Q) : ∀ (ds : List D) (ρ : PV.Env), Ag j n L ρ → ∃ ys ρ', lcN [v] (tgName v) tTrue f ds ρ = .ok (ys, ρ') ∧ ys.length = ds.length ∧ (∀ y ∈ ys, Q y) ∧ Ag j n L ρ'
  | [], ρ, a => ⟨[], ρ, rfl, rfl, (fun _ h => nomatch h), a⟩
  | d :: r, ρ, a => by
    have a1 : Ag j n L ((wipeG ρ [v]).set v (some d)) := by
      refine ⟨by rw [List.length_set, wipeG_len]; exact a.len, ?_, fun k e h => ?_⟩
      · obtain ⟨x, y, h⟩ := a.st
        exact ⟨x, y, by rw [look_set, if_neg (Ne.symm hvj), look_wipe, if_neg (by simp; exact Ne.symm hvj)]; exact h⟩
      · have kv : k ≠ v := fun z => by rw [z, hvL] at h; cases h
        rw [look_set, if_neg kv, look_wipe, if_neg (by simp; exact kv)]
        exact a.at_ k e h
    obtain ⟨y, ρ2, e2', q, a2⟩ := hf _ a1
    obtain ⟨ys, ρ3, e3, hl, hq, a3⟩ := dw_lcN hv hvj hvL hf r ρ2 a2
    refine ⟨y :: ys, ρ3, ?_, by rw [List.length_cons, List.length_cons, hl], fun z hz => (List.mem_cons.mp hz).elim (fun e => by rw [e]; exact q) (hq z), a3⟩
    rw [lcN_cons, tgName_def]
    dsimp only
    have et : tTrue ((wipeG ρ [v]).set v (some d)) = .ok (true, (wipeG ρ [v]).set v (some d)) := rfl
    rw [et]
    dsimp only
    rw [e2']
    dsimp only
    rw [← tgName_def, e3]
theorem dw_lc {v : Nat} {f : M D} {fi : M (List D)} {Q' : D → Prop} (hv : v < n) (hvj : v ≠ j) (hvL : L.lookup v = none) (hf : Dw j n L f Q) (hi : DwL j n L fi fun ds => ds.length ≤ 100000 ∧ ∀ ys : List D, ys.length = ds.length → (∀ y ∈ ys, Q y) → Q' (.lst ys)) : Dw j n L (eLc [v] fi (tgName v) tTrue f) Q' := fun ρ a => by
  obtain ⟨ds, ρ1, e1, ⟨hl, hq⟩, a1⟩ := hi ρ a
  obtain ⟨ys, ρ2, e2', hl2, hq2, a2⟩ := dw_lcN hv hvj hvL hf ds ρ1 a1
  refine ⟨.lst ys, restE ρ1 [v] ρ2, ?_, hq ys hl2 hq2, ⟨by rw [restE_len]; exact a2.len, ?_, fun k e h => ?_⟩⟩
  · unfold eLc
    rw [M.bind_of e1]
    rw [if_pos hl, e2']
  · obtain ⟨x, y, h⟩ := a2.st
    exact ⟨x, y, by rw [look_rest (by simp; exact Ne.symm hvj)]; exact h⟩
  · have kv : k ≠ v := fun z => by rw [z, hvL] at h; cases h
    rw [look_rest (by simp; exact kv)]
    exact a2.at_ k e h
theorem dwl_rg1 {fm : M D} {Q : List D → Prop} (h : Dw j n L fm fun d => ∃ m : Int, d = .int m ∧ 0 ≤ m ∧ m ≤ 1000000 ∧ Q (rgD 0 m)) : DwL j n L (iRg rg1 (aCons fm aNil)) Q := fun ρ a => by
  obtain ⟨d, ρ1, e1, ⟨m, rfl, h0, h1, q⟩, a1⟩ := h ρ a
  refine ⟨rgD 0 m, ρ1, ?_, q, a1⟩
  unfold iRg
  have : aCons fm aNil ρ = .ok ([.int m], ρ1) := by
    unfold aCons
    rw [M.bind_of e1, M.bind_of (a := ([] : List D)) (ρ1 := ρ1) rfl]
    rfl
  rw [M.bind_of this]
  have hr : rgOk 0 m = true := by unfold rgOk; exact decide_eq_true ⟨by decide, by decide, by omega, h1⟩
  show M.ofO (if rgOk 0 m = true then some (rgD 0 m) else none) ρ1 = _
  rw [if_pos hr]
  rfl
end
/-! ranges of drawn numbers -/
theorem all_range {n : Nat} {p : Int → Bool} (h : ((List.range n).all fun (k : Nat) => p k) = true) {v : Int} (h0 : 0 ≤ v) (h1 : v < n) : p v = true := by
  have := List.all_eq_true.mp h v.toNat (List.mem_range.mpr (by omega))
  rwa [Int.toNat_of_nonneg h0] at this
/-- run on some known slots, a part gives known values; slots that it does not store stay -/
def chkV (n : Nat) (g : List SM) (L0 L1 : List (Nat × D)) : Bool := match seqL g sNx (mkE n L0) with
  | .nx ρ => decide (ρ.length = n) && L1.all fun p => match look ρ p.1 with
    | some d => sameF 6 d p.2
    | none => false
  | _ => false
theorem lookup_mem {i : Nat} {d : D} : ∀ {L : List (Nat × D)}, L.lookup i = some d → (i, d) ∈ L
  | [], h => by cases h
  | (k, x) :: L, h => by
    rw [List.lookup_cons] at h
    cases e : i == k with
    | true =>
      rw [e] at h
      cases h
      rw [eq_of_beq e]
      exact List.mem_cons_self
    | false =>
      rw [e] at h
      exact List.mem_cons_of_mem _ (lookup_mem h)
theorem lookup_app {i : Nat} {d : D} : ∀ {A B : List (Nat × D)}, (A ++ B).lookup i = some d → A.lookup i = some d ∨ B.lookup i = some d
  | [], _, h => .inr h
  | (k, x) :: A, B, h => by
    rw [List.cons_append, List.lookup_cons] at h
    rw [List.lookup_cons]
    cases e : i == k with
    | true => rw [e] at h; exact .inl h
    | false => rw [e] at h; exact lookup_app h
theorem segX {j n : Nat} {g : List SM} {L L0 L1 Lx : List (Nat × D)} (fr : FrS j (seqL g sNx)) (frx : ∀ p ∈ Lx, FrS p.1 (seqL g sNx)) (c : chkV n g L0 L1 = true) (h0 : ∀ p ∈ L0, L.lookup p.1 = some p.2) (hx : ∀ p ∈ Lx, L.lookup p.1 = some p.2) {ρ : PV.Env} (a : Ag j n L ρ) :
    ∃ ρ', Ag j n (L1 ++ Lx) ρ' ∧ ∀ k, seqL g k ρ = k ρ' := by
  have a0 : Ag j n L0 ρ := ⟨a.len, a.st, fun i d h => a.at_ i d (h0 (i, d) (lookup_mem h))⟩
  unfold chkV at c
  split at c
  · rename_i ρ0 e
    rw [Bool.and_eq_true] at c
    obtain ⟨ρ', e', l⟩ := fr.mo _ _ _ a0.le e
    refine ⟨ρ', ⟨by rw [l.1]; exact of_decide_eq_true c.1, ?_, fun i d h => ?_⟩, fun k => seqL_nx g k e'⟩
    · obtain ⟨x, y, h⟩ := a.st
      exact ⟨x, y, by rw [fr.kp _ _ e']; exact h⟩
    · rcases lookup_app h with h | h
      · have := List.all_eq_true.mp c.2 (i, d) (lookup_mem h)
        dsimp only at this
        split at this
        · rename_i d1 h1
          have := sameF_ok 6 _ _ this
          subst this
          exact l.2 i _ h1
        · cases this
      · have hm := lookup_mem h
        rw [(frx (i, d) hm).kp _ _ e']
        exact a.at_ i d (hx (i, d) hm)
  · cases c
theorem frsL_nil {i : Nat} : FrS i (seqL [] sNx) := frs_nx
theorem frsL_cons {i : Nat} {s : SM} {l : List SM} (h : FrS i s) (k : FrS i (seqL l sNx)) : FrS i (seqL (s :: l) sNx) := frs_seq h k
theorem seqL_cons (s : SM) (l : List SM) (k : SM) (ρ : PV.Env) : seqL (s :: l) k ρ = sSeq s (seqL l k) ρ := rfl
theorem whileN_t {t : M Bool} {b : SM} {n : Nat} {ρ ρ1 ρ2 : PV.Env} (ht : t ρ = .ok (true, ρ1)) (hb : b ρ1 = .nx ρ2) : whileN t b (n + 1) ρ = whileN t b n ρ2 := by
  show sDo t _ ρ = _
  rw [sDo_of ht]
  show sSeq b (whileN t b n) ρ1 = _
  exact sSeq_of hb
theorem whileN_f {t : M Bool} {b : SM} {n : Nat} {ρ ρ1 : PV.Env} (ht : t ρ = .ok (false, ρ1)) : whileN t b (n + 1) ρ = .nx ρ1 := by
  show sDo t _ ρ = _
  rw [sDo_of ht]
  rfl
/-! a comprehension whose parts only read -/
theorem lcN_map {v : Nat} {f : M D} {h : D → D} {ρ : PV.Env} : ∀ (ds : List D) (ρ' : PV.Env), wipeG ρ' [v] = wipeG ρ [v] → (∀ d ∈ ds, f (ρ.set v (some d)) = .ok (h d, ρ.set v (some d))) → ∃ ρ2, lcN [v] (tgName v) tTrue f ds ρ' = .ok (ds.map h, ρ2) ∧ wipeG ρ2 [v] = wipeG ρ [v]
  | [], ρ', e, _ => ⟨ρ', rfl, e⟩
  | d :: r, ρ', e, hf => by
    have es : (wipeG ρ' [v]).set v (some d) = ρ.set v (some d) := by
      rw [e, wipeG_cons]
      show (ρ.set v none).set v (some d) = _
      rw [List.set_set]
    have ew : wipeG (ρ.set v (some d)) [v] = wipeG ρ [v] := wipeG_set (by simp)
    obtain ⟨ρ2, e2', ew2⟩ := lcN_map r (ρ.set v (some d)) ew fun x hx => hf x (List.mem_cons_of_mem _ hx)
    refine ⟨ρ2, ?_, ew2⟩
    rw [lcN_cons, tgName_def]
    dsimp only
    rw [es]
    have et : tTrue (ρ.set v (some d)) = .ok (true, ρ.set v (some d)) := rfl
    rw [et]
    dsimp only
    rw [hf d List.mem_cons_self]
    dsimp only
    rw [← tgName_def, e2']
    rfl
theorem eLc_map {v : Nat} {f : M D} {h : D → D} {fi : M (List D)} {ds : List D} {ρ : PV.Env} (hfi : fi ρ = .ok (ds, ρ)) (hl : ds.length ≤ 100000) (hf : ∀ d ∈ ds, f (ρ.set v (some d)) = .ok (h d, ρ.set v (some d))) : eLc [v] fi (tgName v) tTrue f ρ = .ok (.lst (ds.map h), ρ) := by
  unfold eLc
  rw [M.bind_of hfi]
  obtain ⟨ρ2, e, ew⟩ := lcN_map ds ρ rfl hf
  rw [if_pos hl, e]
  dsimp only
  rw [restE_wipe ew]
end
end PV

set_option Elab.async false
set_option linter.all false
set_option maxRecDepth 100000
set_option maxHeartbeats 0
namespace PV
noncomputable section
open PySem PySem.Spec
open PyProof.Rows L2

/-! ## 28. k in x -/
def flatD : D → Option V
  | .non => some .non
  | .bl b => some (.bl b)
  | .int i => some (.int i)
  | .str x => some (.str x)
  | _ => none
def flatsD : List D → Option (List V)
  | [] => some []
  | d :: r => match flatD d, flatsD r with
    | some v, some vs => some (v :: vs)
    | _, _ => none
/-- k among the items of a list or a tuple, all flat -/
def inFlat (k : D) (ds : List D) : Option Bool := match flatD k, flatsD ds with
  | some v, some vs => some (inV v vs)
  | _, _ => none
/-- k among a list's items, all of them data -/
def inDeep (k : D) : List D → Option Bool
  | [] => some false
  | d :: r => match eqS d k, inDeep k r with
    | some a, some b => some (a || b)
    | _, _ => none
def inAny (k : D) (ds : List D) : Option Bool := match inFlat k ds with
  | some b => some b
  | none => inDeep k ds
def inB : D → D → Option Bool
  | k, .tup ds => inFlat k ds
  | k, .lst ds => inFlat k ds
  | k, x => (dOpt x k).map Option.isSome
def gIn (k x : D) : Option D := (inB k x).map D.bl
def gNotIn (k x : D) : Option D := (inB k x).map fun b => D.bl (!b)
section
variable {K : PySem.W.Frag} {mg : Str → Option Value} {G H : Hp}
theorem flat_rp {d : D} {v u : V} (h : Rp K mg H v d) (e : flatD d = some u) : v = u ∧ flatV v = true := by
  cases h <;> first | (cases e; exact ⟨rfl, rfl⟩) | (cases e; done)
theorem flat_rd {d : D} {v u : V} {n : Nat} (gh : Same G H) (h : RdV K mg G H n d v) (e : flatD d = some u) : v = u ∧ flatV v = true := flat_rp (h.rp gh) e
theorem flats_all {n : Nat} (gh : Same G H) : ∀ {ds : List D} {vs us : List V}, All2 (RdV K mg G H n) ds vs → flatsD ds = some us → vs = us ∧ vs.all flatV = true
  | _, _, _, .nil, e => by cases e; exact ⟨rfl, rfl⟩
  | _, _, _, .cons h r, e => by
    simp only [flatsD] at e
    split at e
    · rename_i v vs e1 e2
      cases e
      obtain ⟨rfl, f1⟩ := flat_rd gh h e1
      obtain ⟨rfl, f2⟩ := flats_all gh r e2
      exact ⟨rfl, by rw [List.all_cons, f1, f2]; rfl⟩
    · cases e
/-- a dict, asked by a key -/
def rDIn (neg : Bool) : R2 := fun x y H Q => ∃ a o, y = .ref a ∧ DGet H a x o ∧ Q (.bl (if neg then !o.isSome else o.isSome)) H
variable {X : Cx}
theorem op_din (hu : X.A.units + 1 < cLine) : OpR X (compareOp .In) (rDIn false) := by
  rintro pins s σ H x _ v u Q I rx ry ⟨a, o, rfl, g, q⟩
  cases (show u = .ref a from ry)
  exact d_in hu I g rx fun s' I' => ⟨.bl o.isSome, H, I', rfl, q⟩
theorem op_dnot (hu : X.A.units + 1 < cLine) : OpR X (compareOp .NotIn) (rDIn true) := by
  rintro pins s σ H x _ v u Q I rx ry ⟨a, o, rfl, g, q⟩
  cases (show u = .ref a from ry)
  exact d_notIn hu I g rx fun s' I' => ⟨.bl (!o.isSome), H, I', rfl, q⟩
def rInA (K : PySem.W.Frag) (neg : Bool) : R2 := fun x y H Q => rIn K neg x y H Q ∨ rDIn neg x y H Q
theorem op_inA (hr : Rm X) : OpR X (compareOp .In) (rInA X.K false) := OpR.or op_in_seq (op_din hr.u1)
theorem op_notA (hr : Rm X) : OpR X (compareOp .NotIn) (rInA X.K true) := OpR.or op_notIn_seq (op_dnot hr.u1)
theorem inA_S {n m : Nat} (neg : Bool) {g : D → D → Option D} (hg : ∀ k x z, g k x = some z → ∃ b, inB k x = some b ∧ z = .bl (if neg then !b else b)) : Op2S K mg (.rd n) (.rd (m + 1)) (.rd 0) (rInA K neg) g := by
  intro G F H k x v u z Q gf fh q1 q2 hz fin
  have gh := gf.trans fh
  obtain ⟨b, hb, rfl⟩ := hg _ _ _ hz
  have fin : Q (.bl (if neg then !b else b)) H := fin _ G F H [] (.refl gf fh) ⟨.bl _, rfl⟩
  have q1 := q1.1
  have q2 := q2.1
  have seq : ∀ {ds : List D} {vs : List V} {p : Addr}, inFlat k ds = some b → All2 (RdV K mg G H m) ds vs → u = .ref p → (SqL K H p vs ∨ SqT K H p vs) → rIn K neg v u H Q := fun {ds vs p} e r eu sq => by
    unfold inFlat at e
    split at e
    · rename_i w ws e1 e2
      cases e
      obtain ⟨rfl, f1⟩ := flat_rd gh q1 e1
      obtain ⟨rfl, f2⟩ := flats_all gh r e2
      exact ⟨p, vs, eu, sq, f1, f2, fin⟩
    · cases e
  unfold inB at hb
  split at hb
  · rename_i ds
    obtain ⟨a, vs, eu, ha, r⟩ := (RdV.plain rfl q2).tup_inv
    exact .inl (seq hb (All2.ofRpl K mg r fun _ _ q => RdV.ofRp q) eu (.inr (.of (gh _ _ ha))))
  · rename_i ds
    obtain ⟨a, vs, eu, ha, r⟩ := q2.lst_inv gh
    exact .inl (seq hb r eu (.inl (.of ha)))
  · obtain ⟨o, ho, rfl⟩ := Option.map_eq_some_iff.mp hb
    obtain ⟨a, ov, eu, g, t⟩ := dopt_of gh q2 (q1.rp gh) ho
    refine .inr ⟨a, ov, eu, g, ?_⟩
    have same : ov.isSome = o.isSome := by
      rcases t with ⟨rfl, rfl⟩ | ⟨d, w, rfl, rfl, _⟩ <;> rfl
    rw [same]
    exact fin
end
section
variable {X : Cx} {W : WX} {c : Fc} {p1 p2 : Bool} {n m : Nat} {a b : Expr} {fa fb : M D} {pos : Pos}
theorem in_S {K : PySem.W.Frag} {mg : Str → Option Value} : Op2S K mg (.rd n) (.rd (m + 1)) (.rd 0) (rInA K false) gIn := inA_S false fun k x z h => by
  obtain ⟨b, e, rfl⟩ := Option.map_eq_some_iff.mp h
  exact ⟨b, e, rfl⟩
theorem notIn_S {K : PySem.W.Frag} {mg : Str → Option Value} : Op2S K mg (.rd n) (.rd (m + 1)) (.rd 0) (rInA K true) gNotIn := inA_S true fun k x z h => by
  obtain ⟨b, e, rfl⟩ := Option.map_eq_some_iff.mp h
  exact ⟨b, e, rfl⟩
theorem tx_in (hr : Rm X) (ha : EX X W c p1 (.rd n) a fa) (hb : EX X W c p2 (.rd (m + 1)) b fb) (w1 : Waits (.rd n) p2) (hm : behindInMarks .In b = false := by rfl) : TX X W c (p1 && p2) (.Compare a [.In] [b] pos) (tB (e2 gIn fa fb)) := tx_cmp (op_inA hr) in_S ha hb w1 wrd hm
theorem tx_notin (hr : Rm X) (ha : EX X W c p1 (.rd n) a fa) (hb : EX X W c p2 (.rd (m + 1)) b fb) (w1 : Waits (.rd n) p2) (hm : behindInMarks .NotIn b = false := by rfl) : TX X W c (p1 && p2) (.Compare a [.NotIn] [b] pos) (tB (e2 gNotIn fa fb)) := tx_cmp (op_notA hr) notIn_S ha hb w1 wrd hm
theorem ex_in (hr : Rm X) (ha : EX X W c p1 (.rd n) a fa) (hb : EX X W c p2 (.rd (m + 1)) b fb) (w1 : Waits (.rd n) p2) (hm : behindInMarks .In b = false := by rfl) : EX X W c (p1 && p2) (.rd 0) (.Compare a [.In] [b] pos) (e2 gIn fa fb) := ex_2 (fun h1 h2 => pe_cmpR (op_inA hr) h1 h2 hm) in_S ha hb w1 wrd
theorem ex_notin (hr : Rm X) (ha : EX X W c p1 (.rd n) a fa) (hb : EX X W c p2 (.rd (m + 1)) b fb) (w1 : Waits (.rd n) p2) (hm : behindInMarks .NotIn b = false := by rfl) : EX X W c (p1 && p2) (.rd 0) (.Compare a [.NotIn] [b] pos) (e2 gNotIn fa fb) := ex_2 (fun h1 h2 => pe_cmpR (op_notA hr) h1 h2 hm) notIn_S ha hb w1 wrd

/-! ## 29. isinstance of a row of types; whole numbers of the module -/
def gIsTs (bs : List Ty) : D → Option D := fun d => (tyD d).map fun a => .bl (bs.any (isTy a))
theorem kitAny_tab {K : PySem.W.Frag} (a : Ty) : ∀ bs : List Ty, PySem.W.kitAny K (.type (tyS a)) (bs.map fun b => .type (tyS b)) = some (bs.any (isTy a))
  | [] => rfl
  | b :: r => by
    rw [List.map_cons, List.any_cons]
    refine kitAny_cons (kit_ty (kit_tab a b)) (fun e => ?_) fun e => ?_
    · rw [e, Bool.false_or]; exact kitAny_tab a r
    · rw [e, Bool.true_or]
theorem cls_row : ∀ bs : List Ty, Paired ClsV (bs.map fun b => V.ty (tyS b)) (bs.map fun b => Value.type (tyS b))
  | [] => .nil
  | b :: r => .cons (.ty _) (cls_row r)
/-- the names of built-in types, as a row of values -/
structure TyName (X : Cx) (x : Str) (b : Ty) : Prop where
  free : X.mg x = none
  glob : Gl X x
  name : x = Str.ofString (tyS b)
  some : b ≠ .non
theorem pe_tyName {x : Str} {b : Ty} {pos : Pos} (t : TyName X x b) : PE X (.Name x pos) (tC (.ty (tyS b))) := by
  obtain ⟨hm, hg, rfl, hb⟩ := t
  have hv : bootBuiltins (Str.ofString (tyS b)) = .some (.type (tyS b)) := by cases b <;> first | exact absurd rfl hb | decide +kernel
  exact pe_bltn (v := .ty (tyS b)) hg hm hv rfl (by cases b <;> decide) (by cases b <;> decide)
theorem ex_isTs2 (b1 b2 : Ty) {x1 x2 : Str} {pp q1 q2 tp : Pos} {kt : Nat} (t1 : TyName X x1 b1) (t2 : TyName X x2 b2) (hm : X.mg "isinstance" = none) (ha : EX X W c p1 (.rd n) a fa) (hg : Gl X "isinstance" := by rfl)
    (h0 : starEach [.Name x1 q1, .Name x2 q2] X.env = (false, eval (.Name x1 q1) X.env) :: starEach [.Name x2 q2] X.env := by rfl) (h00 : starEach [.Name x2 q2] X.env = (false, eval (.Name x2 q2) X.env) :: starEach [] X.env := by rfl)
    (h1 : starEach [a, .Tuple [.Name x1 q1, .Name x2 q2] kt tp] X.env = (false, eval a X.env) :: starEach [.Tuple [.Name x1 q1, .Name x2 q2] kt tp] X.env := by rfl) (h2 : starEach [.Tuple [.Name x1 q1, .Name x2 q2] kt tp] X.env = (false, eval (.Tuple [.Name x1 q1, .Name x2 q2] kt tp) X.env) :: starEach [] X.env := by rfl)
    (hpl : (backTo pos (starEach [.Tuple [.Name x1 q1, .Name x2 q2] kt tp] X.env)).any (·.1) = false := by rfl) :
    EX X W c p1 (.rd 0) (.Call (.Name "isinstance" pp) [a, .Tuple [.Name x1 q1, .Name x2 q2] kt tp] [] pos) (e1 (gIsTs [b1, b2]) fa) := by
  obtain ⟨te, e1, e2⟩ := ha
  refine ⟨_, pe_callB call_isiT hg hm (by decide +kernel) (pa_cons e1 (pa_cons (pe_tup (pa_cons (pe_tyName t1) (pa_cons (pe_tyName t2) pa_nil h00) h0)) pa_nil h2) h1) (by decide) (by decide) h1 hpl, fun σ ρ G F H Q o w => ?_⟩
  refine EX.use te e2 o (Wp.ofBindM w) (fun r1 hr v1 G1 F1 H1 fp1 x1 o1 q1 hp1 => ?_) fun _ z => z
  unfold M.ofO at hr
  split at hr
  · rename_i z hz
    obtain ⟨t, et, rfl⟩ := Option.map_eq_some_iff.mp hz
    refine ⟨by show 2 ≤ sizeLine; decide, fun tp htp => ?_⟩
    have gw := Grow.sh (o := .tup [V.ty (tyS b1), V.ty (tyS b2)]) o1.gf o1.fh htp
    have rd := ((q1.1.mono gw.x.g gw.hh).rp (gw.gf.trans gw.fh))
    refine ⟨v1, tp, [.ty (tyS b1), .ty (tyS b2)], .type (tyS t), [.type (tyS b1), .type (tyS b2)], _, rfl, upd_same, cls_row [b1, b2], tyx_of rd et, kitAny_tab t [b1, b2], ?_⟩
    exact hr (.bl _) _ _ _ [] (x1.trans gw.x) (o1.drop.grown gw) ⟨.bl _, rfl⟩ fun hp => ⟨(hp1 hp).1, (hp1 hp).2.trans gw.hh⟩
  · exact hr.elim
end
end
end PV

set_option Elab.async false
set_option linter.all false
set_option maxRecDepth 100000
set_option maxHeartbeats 0
namespace PV
noncomputable section
open PySem PySem.Spec
open PyProof.Rows L2

/-! ## 30. whole numbers of the module; count -/
section
variable {X : Cx} {W : WX} {c : Fc} {p p1 p2 : Bool} {n m : Nat} {a b : Expr} {fa fb : M D} {pos : Pos}
theorem ex_gint {x : Str} {i : Int} (hm : ∃ t, X.mg x = some (.int i t)) (hg : Gl X x := by rfl) (hd : (x == ("__debug__" : Str)) = false := by decide) : EX X W c true (.rd 0) (.Name x pos) (eC (.int i)) := by
  obtain ⟨t, hm⟩ := hm
  exact ex_c (pe_glob (v := .int i) hg hm ⟨t, rfl⟩ hd) fun _ => .int i
/-- what is told of an object by a method that changes nothing, with one argument -/
def eRm1 (isT : D → Bool) (g : D → D → Option D) (fo fa : M D) : M D := fo.bind fun x => if isT x = true then fa.bind fun y => M.ofO (g x y) else fun _ => .fail
theorem ex_rm1 {T id : String} {name : Str} {o e : Expr} {r : V → List V → Hp → VK → Prop} {isT : D → Bool} {g : D → D → Option D} {apos cpos : Pos} (pa : PlainAttrs T) (slot : Slot T name id) (hty : typeOf (.builtin id) = pure (.type "method_descriptor")) (hm : MtR X id r)
    (hT : ∀ (G H : Hp) (x : D) (u : V), Same G H → isT x = true → RdV X.K X.mg G H n x u → tyV X.K T u H)
    (hS : ∀ (G F H : Hp) (x y z : D) (u w : V) (Q : VK), Same G F → Same F H → RdV X.K X.mg G H n x u → RdV X.K X.mg G H m y w → g x y = some z → (∀ v, Rp X.K X.mg G v z → Q v H) → r u [w] H Q)
    (hz : ∀ x y z, g x y = some z → ∃ k : Int, z = .int k)
    (ho : EX X W c true (.rd n) o fb) (ha : EX X W c true (.rd m) e fa)
    (base : attributeBase o name X.env (eval o X.env) = eval o X.env := by rfl)
    (few : ((backTo cpos (starEach [e] X.env)).all (fun x => !x.1) && (backToKw cpos (keywordEach [] X.env)).all (fun x => x.1.isSome) && decide (([e] : List Expr).length + ([] : List Keyword).length + (if ([] : List Keyword).isEmpty then 0 else 1) < 30)) = true := by rfl) (line : (apos.endLine == cpos.line) = true := by rfl)
    (star : starEach [e] X.env = (false, eval e X.env) :: starEach [] X.env := by rfl) (plain : (backTo cpos (starEach [] X.env)).any (·.1) = false := by rfl) :
    EX X W c true (.rd 0) (.Call (.Attribute o name apos) [e] [] cpos) (eRm1 isT g fb fa) := by
  obtain ⟨to, o1, o2⟩ := ho
  obtain ⟨te, e1, e2⟩ := ha
  refine ⟨_, pe_bm pa slot hty hm o1 (pa_cons e1 pa_nil star) base few line star plain, fun σ ρ G F H Q o w => ?_⟩
  refine EX.use to o2 o (Wp.ofBindM w) (fun r1 h1 u G1 F1 H1 fp1 x1 k1 q1 hp1 => ?_) fun _ z => z
  split at h1
  · rename_i ht
    refine ⟨hT G1 H1 r1.1 u k1.gh ht q1.1, ?_⟩
    refine EX.use te e2 k1.drop (Wp.nxExt x1 (Wp.ofBindM h1)) (fun r2 h2 v G2 F2 H2 fp2 x2 k2 q2 hp2 => ?_) fun _ z => z
    unfold M.ofO at h2
    split at h2
    · rename_i z hz'
      refine hS G2 F2 H2 r1.1 r2.1 z u v _ k2.gf k2.fh (q1.1.mono x2.g (hp2 rfl).2) q2.1 hz' fun y ry => ?_
      exact h2 y G2 F2 H2 [] (x1.trans x2) k2.drop ⟨ry, rfl⟩ fun _ => ⟨(hp2 rfl).1.trans (hp1 rfl).1, (hp1 rfl).2.trans (hp2 rfl).2⟩
    · exact h2.elim
  · exact h1.elim
def isL : D → Bool
  | .lst _ => true
  | _ => false
def gCnt : D → D → Option D
  | .lst ds, .int k => (intsOf ds).map fun is => .int ((is.count k : Nat) : Int)
  | _, _ => none
theorem lst_rd {K : PySem.W.Frag} {mg : Str → Option Value} {G H : Hp} {n : Nat} {ds : List D} {u : V} (gh : Same G H) (q : RdV K mg G H n (.lst ds) u) : ∃ a vs, u = .ref a ∧ H a = some (.lst vs) ∧ RpL K mg H vs ds := (q.rp gh).lst_inv
theorem ex_count {o e : Expr} {apos cpos : Pos} (ho : EX X W c true (.rd n) o fb) (ha : EX X W c true (.rd m) e fa)
    (base : attributeBase o "count" X.env (eval o X.env) = eval o X.env := by rfl)
    (few : ((backTo cpos (starEach [e] X.env)).all (fun x => !x.1) && (backToKw cpos (keywordEach [] X.env)).all (fun x => x.1.isSome) && decide (([e] : List Expr).length + ([] : List Keyword).length + (if ([] : List Keyword).isEmpty then 0 else 1) < 30)) = true := by rfl) (line : (apos.endLine == cpos.line) = true := by rfl)
    (star : starEach [e] X.env = (false, eval e X.env) :: starEach [] X.env := by rfl) (plain : (backTo cpos (starEach [] X.env)).any (·.1) = false := by rfl) :
    EX X W c true (.rd 0) (.Call (.Attribute o "count" apos) [e] [] cpos) (eRm1 isL gCnt fb fa) :=
  ex_rm1 F.plainAttrs_list F.slot_list_count F.type_list_count mt_lcount (fun G H x u gh ht q => by
    cases x <;> first | (cases ht; done) | skip
    obtain ⟨a, vs, rfl, ha, _⟩ := lst_rd gh q
    exact .inl ⟨rfl, vs, .of ha⟩)
    (fun G F H x y z u w Q gf fh q1 q2 hz fin => by
      have gh := gf.trans fh
      cases x <;> first | (cases hz; done) | skip
      cases y <;> first | (cases hz; done) | skip
      obtain ⟨is, e, rfl⟩ := Option.map_eq_some_iff.mp hz
      obtain ⟨a, vs, rfl, ha, r⟩ := lst_rd gh q1
      rw [intsOf_eq e] at r
      rw [r.ints] at ha
      have q2 := q2.rp gh
      cases q2
      exact ⟨a, is, _, rfl, rfl, .of ha, fin _ (.int _)⟩)
    (fun x y z h => by
      cases x <;> first | (cases h; done) | skip
      cases y <;> first | (cases h; done) | skip
      obtain ⟨is, _, rfl⟩ := Option.map_eq_some_iff.mp h
      exact ⟨_, rfl⟩) ho ha base few line star plain

/-! ## 31. dicts that are made -/
theorem ex_dnewK : EX X W c false (.own 1) (.Dict [] [] pos) (eC (.dct [])) :=
  ⟨_, pe_dnewK, fun σ ρ G F H Q o w a ha => w (.ref a) G F _ [a] (.refl _ _) (o.grown (Grow.own (o := .dK []) o.gf o.fh ha)) (Own.mkK (es := []) (kvs := []) upd_same rfl .nil) fun z => nomatch z⟩
theorem ex_dnewT : EX X W c false (.own 1) (.Dict [] [] pos) (eC (.dcT [])) :=
  ⟨_, pe_dnewT, fun σ ρ G F H Q o w a ha => w (.ref a) G F _ [a] (.refl _ _) (o.grown (Grow.own (o := .dT []) o.gf o.fh ha)) (Own.mkT (es := []) (kvs := []) upd_same rfl .nil) fun z => nomatch z⟩
/-- a key gets its value: in place, or behind the others -/
def dPut (kvs : List (D × D)) (k d : D) : List (D × D) := if (kvs.any fun p => keyEq p.1 k) = true then kvs.map (fun p => if keyEq p.1 k = true then (p.1, d) else p) else kvs ++ [(k, d)]
theorem put_rel {κ : Type} [DecidableEq κ] {kd : κ → D} (hk : ∀ a b, keyEq (kd a) (kd b) = decide (a = b)) {K : PySem.W.Frag} {mg : Str → Option Value} {G : Hp} (k : κ) {v : V} {d : D} (rv : Rp K mg G v d) {kvs : List (κ × V)} {ds : List (D × D)}
    (h : kvs.map (fun p => kd p.1) = ds.map (fun p => p.1)) (r : RpL K mg G (kvs.map fun p => p.2) (ds.map fun p => p.2)) :
    (putK kvs k v).map (fun p => kd p.1) = (dPut ds (kd k) d).map (fun p => p.1) ∧ RpL K mg G ((putK kvs k v).map fun p => p.2) ((dPut ds (kd k) d).map fun p => p.2) := by
  have both : ∀ {kvs : List (κ × V)} {ds : List (D × D)}, kvs.map (fun p => kd p.1) = ds.map (fun p => p.1) → RpL K mg G (kvs.map fun p => p.2) (ds.map fun p => p.2) →
      (kvs.any fun kv => decide (kv.1 = k)) = (ds.any fun p => keyEq p.1 (kd k)) ∧ (kvs.map fun kv => if kv.1 = k then (kv.1, v) else kv).map (fun p => kd p.1) = (ds.map fun p => if keyEq p.1 (kd k) = true then (p.1, d) else p).map (fun p => p.1) ∧
        RpL K mg G ((kvs.map fun kv => if kv.1 = k then (kv.1, v) else kv).map fun p => p.2) ((ds.map fun p => if keyEq p.1 (kd k) = true then (p.1, d) else p).map fun p => p.2) := by
    intro kvs
    induction kvs with
    | nil =>
      intro ds h r
      cases ds with
      | nil => exact ⟨rfl, rfl, .nil⟩
      | cons _ _ => exact nomatch h
    | cons p kvs ih =>
      intro ds h r
      cases ds with
      | nil => exact nomatch h
      | cons q ds =>
        simp only [List.cons.injEq, List.map_cons] at h
        rw [List.map_cons, List.map_cons] at r
        cases r with
        | cons r1 r2 =>
          obtain ⟨i1, i2, i3⟩ := ih h.2 r2
          have eq : keyEq q.1 (kd k) = decide (p.1 = k) := by rw [← h.1, hk]
          simp only [List.any_cons, List.map_cons, i1, i2, eq]
          by_cases z : p.1 = k
          · simp only [z, decide_true, if_true]
            exact ⟨trivial, by rw [← h.1, z], .cons rv i3⟩
          · simp only [z, decide_false, if_false, Bool.false_eq_true]
            exact ⟨trivial, by rw [h.1], .cons r1 i3⟩
  obtain ⟨i1, i2, i3⟩ := both h r
  unfold putK dPut
  rw [i1]
  split
  · exact ⟨i2, i3⟩
  · simp only [List.map_append, List.map_cons, List.map_nil]
    exact ⟨by rw [h], r.append (.cons rv .nil)⟩
def opSetD : D → D → D → Option D
  | .dct kvs, k, d => if isKeyK k = true then if kvs.length ≤ 100000 then some (.dct (dPut kvs k d)) else none else none
  | .dcT kvs, k, d => if isKeyT k = true then if kvs.length ≤ 100000 then some (.dcT (dPut kvs k d)) else none else none
  | _, _, _ => none
def rSetD : TSet := fun o k v H Q => ∃ (a : Addr) (H2 : Hp), o = .ref a ∧ DPut H a k v H2 ∧ Q H2
theorem set_dict (hr : Rm X) : PSet X rSetD := by
  rintro pins s σ H o i v ov iv u Q I ro ri rv ⟨a, H', rfl, g, q⟩
  cases (show ov = .ref a from ro)
  exact d_setItem hr.u1 I g ri rv fun s' I' => ⟨H', I', q⟩
/-- owned values without own objects -/
theorem own0L {K : PySem.W.Frag} {mg : Str → Option Value} {G H : Hp} : ∀ {ds : List D} {vs : List V} {fp : List Addr}, OwnL (Own K mg G H 0) ds vs fp → RpL K mg G vs ds ∧ fp = []
  | _, _, _, .nil => ⟨.nil, rfl⟩
  | _, _, _, .cons h r => by
    obtain ⟨r1, rfl⟩ := own0L r
    obtain ⟨h1, rfl⟩ := h
    exact ⟨.cons h1 r1, rfl⟩
theorem rpl_own0 {K : PySem.W.Frag} {mg : Str → Option Value} {G H : Hp} : ∀ {ds : List D} {vs : List V}, RpL K mg G vs ds → OwnL (Own K mg G H 0) ds vs []
  | _, _, .nil => .nil
  | _, _, .cons h r => .cons (fp := []) (fps := []) ⟨h, rfl⟩ (rpl_own0 r)
theorem small_lt {n : Nat} (h : n ≤ 100000) : n < sizeLine := by
  have : 100000 < sizeLine := by decide
  omega
theorem ps3_dct {K : PySem.W.Frag} {mg : Str → Option Value} : PS3 K mg 1 0 rSetD opSetD := by
  intro G F H x j d y u w v fp fq Q gf fh ow rj od nd hop fin
  obtain ⟨rv, rfl⟩ := od
  obtain ⟨a, rest, ps, us, rfl, rfl, ow, l⟩ := ow
  have done : ∀ {o : HO}, Own K mg G (upd H a o) 1 y (.ref a) [a] → Q (upd H a o) := fun {o} h => fin _ [a] h (fun b hb => upd_ne fun z => hb (by rw [z]; exact List.mem_cons_self)) (by simp) fun b hb => .inl (by rw [List.mem_singleton.mp hb]; exact List.mem_cons_self)
  unfold opSetD at hop
  split at hop
  · split at hop
    · split at hop
      · rename_i hk hl
        cases hop
        obtain ⟨kvs, ha, e, rfl, rfl⟩ := ow.dct
        obtain ⟨key, rfl⟩ := isKeyK_eq hk
        obtain ⟨r, rfl⟩ := own0L l
        obtain ⟨e', r'⟩ := put_rel (kd := keyD) keyK key rv e r
        have el := congrArg List.length e
        simp only [List.length_map] at el
        refine ⟨a, _, rfl, .inl ⟨kvs, key, ha, rp_key rj, small_lt (by rw [el]; exact hl), rfl⟩, done (Own.mkK upd_same e' (rpl_own0 r'))⟩
      · cases hop
    · cases hop
  · split at hop
    · split at hop
      · rename_i hk hl
        cases hop
        obtain ⟨kvs, ha, e, rfl, rfl⟩ := ow.dcT
        obtain ⟨key, rfl⟩ := isKeyT_eq hk
        obtain ⟨t, us, rfl, h3, r3⟩ := rj.tup_inv
        rw [rpl_keys r3] at h3
        obtain ⟨r, rfl⟩ := own0L l
        obtain ⟨e', r'⟩ := put_rel (kd := fun k => D.tup (k.map keyD)) keyT key rv e r
        have el := congrArg List.length e
        simp only [List.length_map] at el
        refine ⟨a, _, rfl, .inr ⟨kvs, key, t, ha, rfl, (gf.trans fh) _ _ h3, small_lt (by rw [el]; exact hl), rfl⟩, done (Own.mkT upd_same e' (rpl_own0 r'))⟩
      · cases hop
    · cases hop
  · cases hop
end
end
end PV

set_option Elab.async false
set_option linter.all false
set_option maxRecDepth 100000
set_option maxHeartbeats 0
namespace PV
noncomputable section
open PySem PySem.Spec
open PyProof.Rows L2

/-! ## 32. enumerate: of lists, and of tuples -/
/-- a tuple's items, each in a new pair with its place -/
def Itet (K : PySem.W.Frag) (a : Addr) (n : Nat) : It where
  go := fun i H => ∃ (xs : List V) (x : V), SqT K H a xs ∧ xs.length = n ∧ xs[i]? = some x
  yld := fun i H v H' => ∃ T x, v = .ref T ∧ H T = none ∧ H' = upd H T (.tup [.int (i : Nat), x]) ∧ ∀ xs, SqT K H a xs → xs[i]? = some x
  stop := fun i H => ∃ xs : List V, SqT K H a xs ∧ xs.length = n ∧ n ≤ i
theorem tup_ne_iter {h : Heap} {a it : Addr} {its : Array Value} {i : Nat} (t : h.IsTuple a its) (q : h.IsTupleIter it a i) : a ≠ it := by
  intro z
  obtain ⟨o1, e1, c1, _⟩ := t
  obtain ⟨o2, e2, c2, _⟩ := q
  rw [← z, e1] at e2
  cases e2
  rw [c1] at c2
  injection c2 with c2
  revert c2
  decide
theorem tup_ne_enum {h : Heap} {a e it : Addr} {its : Array Value} {k : Int} {old : Value} (t : h.IsTuple a its) (q : IsEnum h e it k old) : e ≠ a := by
  intro z
  obtain ⟨o1, e1, c1, _⟩ := t
  have q : h.get? e = some _ := q
  rw [z, e1] at q
  cases q
  injection c1 with c1
  revert c1
  decide
theorem turn_enumT {P : Program} {w : World} {K : PySem.W.Frag} {elts : List Expr} {kk : Nat} {tpos : Pos} (a e it : Addr) (n : Nat) :
    Turn P w K (.Tuple elts kk tpos) (Itet K a n) [e, it] e (fun i h => (∃ old, IsEnum h e it ((i : Nat) : Int) old) ∧ h.IsTupleIter it a i ∧ e ≠ it ∧ i ≤ n) where
  mem := List.mem_cons_self
  obj := by
    rintro i h ⟨⟨old, en⟩, ⟨o, at1, _, dt⟩, _, _⟩ b hb
    rw [List.mem_cons, List.mem_singleton] at hb
    rcases hb with rfl | rfl
    · exact ⟨_, en, fun v q => nomatch q⟩
    · exact ⟨o, at1, fun v q => by rw [dt] at q; exact nomatch q⟩
  keep := by
    rintro i h h' ⟨⟨old, en⟩, hit, ne, le⟩ k
    exact ⟨⟨old, k e (by simp) _ en⟩, hit.at fun o q => k it (by simp) o q, ne, le⟩
  self := fun A i s Q E st q => wpAny_pyIter_enum st.1.choose_spec q
  item := by
    rintro X rfl rfl rfl calm i pins s σ H E I own ⟨⟨old, en⟩, hit, ne, _⟩ ⟨xs, x, sq, len, at_⟩
    obtain ⟨its, rv, tp, _⟩ := I.tuple sq
    have tp : s.heap.IsTuple a its.toArray := tp
    obtain ⟨u, hu, ru⟩ := rv.get at_
    have less : i < its.toArray.size := by
      have := (List.getElem?_eq_some_iff.mp hu).1
      rw [List.size_toArray]; exact this
    have D := Draws.tuple (prog := X.prog) (w := X.w) (A := X.A.in1) (I.ok.hd calm) it a (tup_ne_iter tp hit) its.toArray
    have live_e : e < s.heap.objs.size := Heap.lt_size en
    have live_it : it < s.heap.objs.size := by obtain ⟨_, q, _⟩ := hit; exact Heap.lt_size q
    refine PySem.wpAny_pyNext_enum_itemC D en ⟨hit, tp⟩ less ne (by simp [ne, tup_ne_enum tp en]) fun y h1 tk hy out st1 made size kept => ?_
    have ey : y = u := by
      rw [List.getElem?_toArray, hu] at hy
      exact (Option.some.inj hy).symm
    subst ey
    refine ⟨_, rfl, wpAny_letOwnedTupleGo_enum (s := { s with heap := h1, toks := tk + 1 }) out fun h2 en2 but => ?_⟩
    have there : h2.get? s.heap.objs.size = some { cls := .type "tuple", data := .seq #[.int i tk, y] } := (but.2 _ (Nat.ne_of_gt live_e)).trans made
    have I2 : Inv X pins σ (upd H s.heap.objs.size (.tup [.int (i : Nat), x])) { s with heap := h2, toks := tk + 1 } := by
      refine I.turnedNew (ch := [e, it]) (fun b ob nb q => ?_) own (Nat.le_refl _) ⟨by show 2 ≤ sizeLine; decide, [.int i tk, y], .cons ⟨_, rfl⟩ (.cons ru .nil), ⟨_, there, rfl, _, rfl⟩⟩
      rw [List.mem_cons, List.mem_singleton, not_or] at nb
      exact (but.2 b nb.1).trans (kept b ob nb.1 nb.2 q)
    refine ⟨.ref s.heap.objs.size, _, I2, rfl, ⟨_, x, rfl, I.hok.fresh (Nat.le_refl _), rfl, fun ys hys => by rw [I.tuple_inj hys sq]; exact at_⟩, ⟨⟨y, ?_⟩, st1.1.at fun o q => (but.2 it (Ne.symm ne)).trans q, ne, by rw [← len]; exact (List.getElem?_eq_some_iff.mp at_).1⟩, fun b hb => ?_⟩
    · rw [show ((i + 1 : Nat) : Int) = (i : Int) + 1 by omega]
      exact en2
    · have lt : b < s.heap.objs.size := by
        rw [List.mem_cons, List.mem_singleton] at hb
        rcases hb with rfl | rfl <;> assumption
      rw [upd_ne (Nat.ne_of_lt lt)]
      exact (own b hb).1
  done := by
    rintro X rfl rfl rfl calm i pins s σ H E I own ⟨⟨old, en⟩, hit, ne, le⟩ ⟨xs, sq, len, ge⟩
    obtain ⟨its, rv, tp, _⟩ := I.tuple sq
    have tp : s.heap.IsTuple a its.toArray := tp
    have D := Draws.tuple (prog := X.prog) (w := X.w) (A := X.A.in1) (I.ok.hd calm) it a (tup_ne_iter tp hit) its.toArray
    have ei : its.toArray.size = i := by
      have same := rv.length
      rw [List.size_toArray]; omega
    obtain ⟨f0, f1, f2, f3, f4, f5⟩ := own it (by simp)
    refine wpAny_pyNext_enum_endD D en ⟨by rw [ei]; exact hit, tp⟩ fun h1 but => ⟨rfl, I.turned (t' := s.toks) (fun b o nb q => but b o nb q) f0 f1 f3 f4 f5⟩
/-- enumerate(v), v told by how its iterator begins -/
theorem meets_enum1 {v : Value} {o : Obj} {Hv : Heap → Prop} (B : Begins v o Hv) : Meets (Builtin.«enumerate.__new__» ⟨[.type "enumerate", v], []⟩) fun _ R s =>
    Hv s.heap ∧ R (.ok (.ret (.ref (s.heap.push o).objs.size))) { s with heap := (s.heap.push o).push { cls := .type "enumerate", data := .fields #[.none, .bool false, .ref s.heap.objs.size, rawInt 0, .none, .none] } } := by
  apply Meets.of_wp
  rintro prog w A R ⟨heap, gens, drawn, toks, os⟩ ⟨hv, q⟩
  have sub := sub_enumerate
  have go : ∀ {A' : Around} {E : Value → Shared → Prop} {Q : Value → Shared → Prop}, Q (.ref heap.objs.size) ⟨heap.push o, gens, drawn, toks, os⟩ → wpAny (model prog w) A' (pyIter v) Q E ⟨heap, gens, drawn, toks, os⟩ := fun k => B.iter prog w _ _ ⟨heap, gens, drawn, toks, os⟩ _ hv k
  wp_walk using go
  apply wpAny_stack_any
  intro st
  apply wpAny_pure
  split
  case' h_1 c _ _ _ _ _ => cases c == Value.type "enumerate"
  all_goals
    wp_walk using go
    exact ⟨_, rfl, q⟩
section
variable {prog : Program} {w : World} {A : Around} {s : Shared} {E : Value → Shared → Prop}
theorem call_enum1 {v : Value} {o : Obj} {Hv : Heap → Prop} {Q : Value → Shared → Prop} (B : Begins v o Hv) (hv : Hv s.heap)
    (q : ∀ h', IsEnum h' (s.heap.objs.size + 1) s.heap.objs.size 0 .none → h'.get? s.heap.objs.size = some o → (∀ b ob, s.heap.get? b = some ob → h'.get? b = some ob) → Q (.ref (s.heap.objs.size + 1)) { s with heap := h' }) :
    wpAny (model prog w) A (call (.type "enumerate") [v]) Q E s := by
  refine callType_new F.called_enumerate (by decide) (F.typeCall_enumerate_1 _) (F.newCall_enumerate_1 _) (fun obj => F.args_object_init_2 obj _) F.entry_enumerate_new (meets_enum1 B) ⟨hv, ?_⟩
  have one : (s.heap.push o).objs.size = s.heap.objs.size + 1 := Heap.size_push ..
  have en := Heap.get?_push_size (s.heap.push o) (o := { cls := .type "enumerate", data := .fields #[.none, .bool false, .ref s.heap.objs.size, rawInt 0, .none, .none] }) rfl
  rw [one] at en
  show _ ∧ _
  rw [one]
  exact ⟨⟨_, en, rfl⟩, q _ en (Heap.get?_push_of_some _ (Heap.get?_push_size _ B.free)) fun b ob z => Heap.get?_push_of_some _ (Heap.get?_push_of_some _ z)⟩
end
def iEnumT (K : PySem.W.Frag) (ta : TA) : TI := fun σ H R => ta σ H fun vs H1 => ∃ a xs, vs = [.ref a] ∧ SqT K H1 a xs ∧ R (Itet K a xs.length) H1
theorem pi_enumT {X : Cx} {e : Expr} {ta : TA} {p pos tpos : Pos} {elts : List Expr} {kk : Nat} (hg : Gl X "enumerate") (hm : X.mg "enumerate" = none) (ha : PA X [e] ta) (hs : starEach [e] X.env = [(false, eval e X.env)] := by rfl) :
    PI X (.Tuple elts kk tpos) (.Call (.Name "enumerate" p) [e] [] pos) (iEnumT X.K ta) := by
  constructor
  intro pins s σ H R I h
  refine Call_ (ld_blt I hg hm boot_enumerate (PyProof.Rows.callWith_type1 (thn (ha.run pos pins s σ H _ I h) ?_) hs rfl))
  rintro us s1 ⟨_, H1, I1, r1, a, xs, rfl, sq, q⟩
  obtain ⟨u, rfl, same⟩ := vals1 r1
  cases (show u = .ref a from same)
  obtain ⟨its, rv, tp, _⟩ := I1.tuple sq
  have tp : s1.heap.IsTuple a its.toArray := tp
  refine call_enum1 (begins_tuple a its.toArray) tp fun h' en itr kept => wpAny_pyIter_enum en ?_
  have I2 : Inv X pins σ H1 { s1 with heap := h' } := I1.kept (t' := s1.toks) kept
  refine ⟨s1.heap.objs.size + 1, [s1.heap.objs.size + 1, s1.heap.objs.size], _, _, H1, rfl, I2, turn_enumT a (s1.heap.objs.size + 1) s1.heap.objs.size xs.length, ⟨⟨.none, en⟩, ⟨_, itr, rfl, rfl⟩, Nat.succ_ne_self _, Nat.zero_le _⟩, fun b hb => ?_, q⟩
  have high : s1.heap.objs.size ≤ b := by
    rw [List.mem_cons, List.mem_singleton] at hb
    rcases hb with rfl | rfl
    · exact Nat.le_succ _
    · exact Nat.le_refl _
  exact I1.fpOk high (I1.hok.fresh high)
/-- the pairs of places and items -/
def enD : Nat → List D → List D
  | _, [] => []
  | i, d :: r => .tup [.int (i : Nat), d] :: enD (i + 1) r
theorem enD_len : ∀ (i : Nat) (ds : List D), (enD i ds).length = ds.length
  | _, [] => rfl
  | i, _ :: r => congrArg (· + 1) (enD_len (i + 1) r)
theorem enD_at : ∀ (i : Nat) (ds : List D) (j : Nat) (d : D), (enD i ds)[j]? = some d → ∃ x, ds[j]? = some x ∧ d = .tup [.int ((i + j : Nat) : Int), x]
  | _, [], _, _, h => nomatch h
  | i, x :: r, 0, d, h => ⟨x, rfl, (Option.some.inj h).symm⟩
  | i, _ :: r, j + 1, d, h => by
    obtain ⟨x, h1, h2⟩ := enD_at (i + 1) r j d h
    exact ⟨x, h1, by rw [h2, show i + 1 + j = i + (j + 1) from by omega]⟩
section
variable {K : PySem.W.Frag} {mg : Str → Option Value}
/-- a turn's pair is new and shared -/
theorem pair_grow {G0 G F H : Hp} {i : Nat} {T : Addr} {x : V} {dx : D} (gf : Same G F) (fh : Same F H) (new : H T = none) (r : Rp K mg G x dx) :
    ∃ G' F', Grow G F H G' F' (upd H T (.tup [.int (i : Nat), x])) [] ∧ Rp K mg G' (.ref T) (.tup [.int ((i : Nat) : Int), dx]) := by
  have g := Grow.sh (o := .tup [.int (i : Nat), x]) gf fh new
  exact ⟨_, _, g, .tup upd_same (.cons (.int _) (.cons (r.mono g.x.g) .nil))⟩
theorem itok_el {G0 : Hp} {a : Addr} {vs : List V} {ds : List D} (h : G0 a = some (.lst vs)) (r : RpL K mg G0 vs ds) : ItOk K mg (Ite K a) (enD 0 ds) G0 where
  stop := fun i H s hl => ⟨vs, .of (s _ _ h), by rw [r.length, ← enD_len 0 ds]; exact hl⟩
  go := fun i H s hl => by
    have hl' : i < vs.length := by rw [r.length, ← enD_len 0 ds]; exact hl
    exact ⟨vs, vs[i], .of (s _ _ h), List.getElem?_eq_getElem hl'⟩
  yld := by
    rintro i H v H' G F d ⟨T, x, rfl, new, rfl, at_⟩ s gf fh e
    obtain ⟨dx, e1, rfl⟩ := enD_at 0 ds i d e
    obtain ⟨w, e2, q⟩ := r.getD e1
    rw [at_ vs (.of (fh _ _ (gf _ _ (s _ _ h))))] at e2
    cases e2
    rw [Nat.zero_add]
    exact pair_grow (G0 := G0) gf fh new (q.mono s)
theorem itok_et {G0 : Hp} {a : Addr} {vs : List V} {ds : List D} (h : G0 a = some (.tup vs)) (r : RpL K mg G0 vs ds) : ItOk K mg (Itet K a vs.length) (enD 0 ds) G0 where
  stop := fun i H s hl => ⟨vs, .of (s _ _ h), rfl, by rw [r.length, ← enD_len 0 ds]; exact hl⟩
  go := fun i H s hl => by
    have hl' : i < vs.length := by rw [r.length, ← enD_len 0 ds]; exact hl
    exact ⟨vs, vs[i], .of (s _ _ h), rfl, List.getElem?_eq_getElem hl'⟩
  yld := by
    rintro i H v H' G F d ⟨T, x, rfl, new, rfl, at_⟩ s gf fh e
    obtain ⟨dx, e1, rfl⟩ := enD_at 0 ds i d e
    obtain ⟨w, e2, q⟩ := r.getD e1
    rw [at_ vs (.of (fh _ _ (gf _ _ (s _ _ h))))] at e2
    cases e2
    rw [Nat.zero_add]
    exact pair_grow (G0 := G0) gf fh new (q.mono s)
end
def rgEn : List D → Option (List D)
  | [x] => (itemsOf x).map (enD 0)
  | _ => none
theorem ix_enum {X : Cx} {W : WX} {c : Fc} {p : Bool} {elts : List Expr} {kk : Nat} {e : Expr} {fa : M (List D)} {pp pos tpos : Pos} (hm : X.mg "enumerate" = none) (h : AX X W c p [.val (.rd 0)] [e] fa) (hg : Gl X "enumerate" := by rfl) (hs : starEach [e] X.env = [(false, eval e X.env)] := by rfl) :
    IX X W c p (.Tuple elts kk tpos) (.Call (.Name "enumerate" pp) [e] [] pos) (iRg rgEn fa) := by
  obtain ⟨ta, h1, h2⟩ := h
  refine ⟨_, walk_or (pi_enum hg hm h1 hs) (pi_enumT hg hm h1 hs), fun σ ρ G F H Rr o w => ?_⟩
  have w := Wp.ofBindM w
  cases ef : fa ρ with
  | fail => rw [ef] at w; exact w.elim
  | exc x =>
    rw [ef] at w
    exact .inl (h2 σ ρ G F H _ o (by rw [ef]; exact w))
  | ok r =>
    rw [ef] at w
    obtain ⟨ds, ρ1⟩ := r
    have w : Wp (M.ofO (rgEn ds) ρ1) _ _ := w
    cases ds with
    | nil => exact w.elim
    | cons d r =>
      cases r with
      | cons _ _ => exact w.elim
      | nil =>
        cases d with
        | tup ds =>
          refine .inr (h2 σ ρ G F H _ o ?_)
          rw [ef]
          intro vs G1 F1 H1 x1 o1 q1 hp
          obtain ⟨d', v, fp, e1, rfl, q⟩ := valL1 q1
          cases e1
          have q : Rp X.K X.mg G1 v (.tup ds) := q.1
          obtain ⟨a, vs, rfl, ha, rr⟩ := q.tup_inv
          exact ⟨a, vs, rfl, .of (o1.gh _ _ ha), w _ G1 F1 H1 x1 o1 (itok_et ha rr) hp⟩
        | lst ds =>
          refine .inl (h2 σ ρ G F H _ o ?_)
          rw [ef]
          intro vs G1 F1 H1 x1 o1 q1 hp
          obtain ⟨d', v, fp, e1, rfl, q⟩ := valL1 q1
          cases e1
          have q : Rp X.K X.mg G1 v (.lst ds) := q.1
          obtain ⟨a, vs, rfl, ha, rr⟩ := q.lst_inv
          exact ⟨a, vs, rfl, .of (o1.gh _ _ ha), w _ G1 F1 H1 x1 o1 (itok_el ha rr) hp⟩
        | _ => exact w.elim
end
end PV

set_option Elab.async false
set_option linter.all false
set_option maxRecDepth 100000
set_option maxHeartbeats 0
namespace PV
noncomputable section
open PySem PySem.Spec
open PyProof.Rows L2

/-! ## 33. dict comprehensions: keys flat, values shared -/
def dcN (vs : List Nat) (g : D → PV.Env → Option PV.Env) (t : M Bool) (fk fv : M D) (ds : List D) : List (D × D) → PV.Env → R (List (D × D) × PV.Env) :=
  List.rec (motive := fun _ => List (D × D) → PV.Env → R (List (D × D) × PV.Env)) (fun acc ρ => .ok (acc, ρ)) (fun d _ ih acc ρ => match g d (wipeG ρ vs) with
    | none => .fail
    | some ρ1 => match t ρ1 with
      | .ok (true, ρ2) => match fk ρ2 with
        | .ok (k, ρ3) => match fv ρ3 with
          | .ok (v, ρ4) => if isKeyK k = true then ih (dPut acc k v) ρ4 else .fail
          | _ => .fail
        | _ => .fail
      | .ok (false, ρ2) => ih acc ρ2
      | _ => .fail) ds
theorem dcN_cons (vs : List Nat) (g : D → PV.Env → Option PV.Env) (t : M Bool) (fk fv : M D) (d : D) (r : List D) (acc : List (D × D)) (ρ : PV.Env) : dcN vs g t fk fv (d :: r) acc ρ = match g d (wipeG ρ vs) with
    | none => .fail
    | some ρ1 => match t ρ1 with
      | .ok (true, ρ2) => match fk ρ2 with
        | .ok (k, ρ3) => match fv ρ3 with
          | .ok (v, ρ4) => if isKeyK k = true then dcN vs g t fk fv r (dPut acc k v) ρ4 else .fail
          | _ => .fail
        | _ => .fail
      | .ok (false, ρ2) => dcN vs g t fk fv r acc ρ2
      | _ => .fail := rfl
def eDc (vs : List Nat) (fi : M (List D)) (g : D → PV.Env → Option PV.Env) (t : M Bool) (fk fv : M D) : M D := fi.bind fun ds ρ => if ds.length ≤ 100000 then match dcN vs g t fk fv ds [] ρ with
    | .ok (kvs, ρ2) => .ok (.dct kvs, restE ρ vs ρ2)
    | _ => .fail
  else .fail
theorem dPut_len (kvs : List (D × D)) (k d : D) : (dPut kvs k d).length ≤ kvs.length + 1 := by
  unfold dPut
  split
  · rw [List.length_map]; omega
  · simp only [List.length_append, List.length_singleton, Nat.le_refl]
/-- what stands while the new dict grows -/
structure DcS (K : PySem.W.Frag) (mg : Str → Option Value) (c : Fc) (P : Bool) (D0 : Addr) (G1 F1 H1 : Hp) (σ : L2.St) (ρ : PV.Env) (acc : List (D × D)) (H : Hp) : Prop where
  ex : ∃ G F kvs, Ext G1 F1 G F ∧ Ok K mg c [D0] G F H σ ρ ∧ H D0 = some (.dK kvs) ∧ kvs.map (fun p => keyD p.1) = acc.map (fun p => p.1) ∧ RpL K mg G (kvs.map fun p => p.2) (acc.map fun p => p.2) ∧ (P = true → Same H1 H)
section
variable {K : PySem.W.Frag} {mg : Str → Option Value} {c : Fc} {P : Bool} {D0 : Addr} {G1 F1 H1 H : Hp} {σ : L2.St} {ρ : PV.Env} {acc : List (D × D)}
theorem DcS.start (o : Ok K mg c [] G1 F1 H1 σ ρ) (h : H1 D0 = none) {vs : List Nat} (hv : ownVs c vs = true) : DcS K mg c P D0 G1 F1 H1 (wipe σ vs) (wipeG ρ vs) [] (upd H1 D0 (.dK [])) :=
  ⟨G1, F1, [], .refl _ _, (o.grown (Grow.own o.gf o.fh h)).wiped hv, upd_same, rfl, .nil, fun _ => same_upd h⟩
theorem DcS.wiped (s : DcS K mg c P D0 G1 F1 H1 σ ρ acc H) {vs : List Nat} (hv : ownVs c vs = true) : DcS K mg c P D0 G1 F1 H1 (wipe σ vs) (wipeG ρ vs) acc H := by
  obtain ⟨G, F, kvs, x1, o, at_, ks, r, hp⟩ := s.ex
  exact ⟨G, F, kvs, x1, o.wiped hv, at_, ks, r, hp⟩
/-- for the part that runs meanwhile: the dict is kept -/
theorem DcS.pin (s : DcS K mg c P D0 G1 F1 H1 σ ρ acc H) : ∃ G F, Same G1 G ∧ Ok K mg c [] G F H σ ρ ∧ ∀ {G' F' H' : Hp} {σ' : L2.St} {ρ' : PV.Env}, Ext G F G' F' → Ok K mg c [] G' F' H' σ' ρ' → (P = true → Same H H') →
    DcS K mg c P D0 G1 F1 H1 σ' ρ' acc H' ∧ ∀ {key : Key} {d : D} {v : V}, Rp K mg G' v d → H1 D0 = none → acc.length ≤ 100000 →
      ∃ kvs, H' D0 = some (.dK kvs) ∧ kvs.length < sizeLine ∧ DcS K mg c P D0 G1 F1 H1 σ' ρ' (dPut acc (keyD key) d) (upd H' D0 (.dK (putK kvs key v))) := by
  obtain ⟨G, F, kvs, x1, o, at_, ks, r, hp⟩ := s.ex
  have o0 : Ok K mg c ([D0] ++ []) G F H σ ρ := o
  obtain ⟨o1, xp⟩ := o0.pin
  obtain ⟨fps, _, _, _, _, _, nd, hT, _⟩ := o.slt
  have hF : ∀ a ∈ [D0], F a = none := hT
  refine ⟨G, join F H [D0], x1.g, o1, fun {G' F' H' σ' ρ'} x2 o2 hs => ?_⟩
  have inF : ∀ a ∈ [D0], F' a = some (.dK kvs) := fun a ha => by
    have e : a = D0 := List.mem_singleton.mp ha
    exact x2.f a _ (by unfold join; rw [if_pos ha, e]; exact at_)
  have live : ∀ a ∈ [D0], F' a ≠ none := fun a ha => by rw [inF a ha]; exact fun z => nomatch z
  have gn : ∀ a ∈ [D0], G' a = none := fun a ha => x2.n a (o.gf.free (hF a ha)) (by unfold join; rw [if_pos ha, List.mem_singleton.mp ha, at_]; exact fun z => nomatch z)
  have o3 := o2.unpin (fp := [D0]) gn (fun a ha => o.bf.free (hF a ha)) live nd
  rw [List.append_nil] at o3
  have x3 : Ext G F G' (less F' [D0]) := Ext.unpin hF xp.f x2
  have at' : H' D0 = some (.dK kvs) := o2.fh D0 _ (inF D0 (by simp))
  have grown : P = true → Same H1 H' := fun hP => (hp hP).trans (hs hP)
  refine ⟨⟨G', less F' [D0], kvs, x1.trans x3, o3, at', ks, r.mono x2.g, grown⟩, fun {key d v} rv fresh le => ?_⟩
  obtain ⟨ks', r'⟩ := put_rel (kd := keyD) keyK key rv ks (r.mono x2.g)
  have len := congrArg List.length ks
  simp only [List.length_map] at len
  exact ⟨kvs, at', small_lt (by rw [len]; exact le), G', less F' [D0], _, x1.trans x3, o3.reheap fun a ha => upd_ne fun z => ha (by rw [z]; simp), upd_same, ks', r', fun hP => same_off (grown hP) fresh⟩
end
section
variable {X : Cx} {W : WX} {c : Fc} {p q r1 r2 : Bool}
theorem ex_dc (ok : Cok X W) (hN : X.N.Nodup) {kx vx tg iter : Expr} {ifs : List Expr} {scope : Scope} {own : List (Str × Nat)} {is : List Nat} {pos : Pos} {fi : M (List D)} {g : D → PV.Env → Option PV.Env} {ft : M Bool} {fk fv : M D}
    (hi : IX X W c p tg iter fi) (bo : BlkOk X.N X.env.scope scope own) (hv : ownVs c (own.map (·.2)) = true) (his : ∀ i ∈ is, i ∈ own.map (·.2))
    (hg : ∀ (s : Shared) (H : Hp) (C : Addr) (cl : List (Str × Addr)) (fp : List Addr), GX (X.blk s H scope (compEnvC scope cl C X.env) fp) c tg is g)
    (ht : ∀ (s : Shared) (H : Hp) (C : Addr) (cl : List (Str × Addr)) (fp : List Addr), TXs (X.blk s H scope (compEnvC scope cl C X.env) fp) c q ifs ft)
    (hk : ∀ (s : Shared) (H : Hp) (C : Addr) (cl : List (Str × Addr)) (fp : List Addr), EX (X.blk s H scope (compEnvC scope cl C X.env) fp) W0 c r1 (.rd 0) kx fk)
    (he : ∀ (s : Shared) (H : Hp) (C : Addr) (cl : List (Str × Addr)) (fp : List Addr), EX (X.blk s H scope (compEnvC scope cl C X.env) fp) W0 c r2 (.rd 0) vx fv)
    (hs : ∀ x, foldedSetIterable iter X.env x = pure x := by intro _; rfl) : EX X W c (p && (q && (r1 && r2))) (.own 1) (.DictComp kx vx [⟨tg, iter, ifs, 0⟩] scope pos) (eDc (own.map (·.2)) fi g ft fk fv) := by
  obtain ⟨wi, i1, i2⟩ := hi
  have gw : ∀ (d : D) (ρ ρ' : PV.Env), g d ρ = some ρ' → ∀ vs : List Nat, (∀ i ∈ is, i ∈ vs) → wipeG ρ' vs = wipeG ρ vs := (hg X.s_0 (fun _ => none) 0 [] []).1
  have ig : ∀ (s : Shared) (H : Hp) (C : Addr) (cl : List (Str × Addr)) (fp : List Addr), PG (X.blk s H scope (compEnvC scope cl C X.env) fp) tg (canG X.K X.mg c is g) := fun s H C cl fp => (hg s H C cl fp).can
  have jt : ∀ (s : Shared) (H : Hp) (C : Addr) (cl : List (Str × Addr)) (fp : List Addr), PTs (X.blk s H scope (compEnvC scope cl C X.env) fp) ifs (canT X.K X.mg c q ft) := ht
  have ik : ∀ (s : Shared) (H : Hp) (C : Addr) (cl : List (Str × Addr)) (fp : List Addr), PE (X.blk s H scope (compEnvC scope cl C X.env) fp) kx (canE X.K X.mg c r1 (.rd 0) fk) := fun s H C cl fp => (hk s H C cl fp).can
  have iv : ∀ (s : Shared) (H : Hp) (C : Addr) (cl : List (Str × Addr)) (fp : List Addr), PE (X.blk s H scope (compEnvC scope cl C X.env) fp) vx (canE X.K X.mg c r2 (.rd 0) fv) := fun s H C cl fp => (he s H C cl fp).can
  refine ⟨_, pe_dc ok.calm hN i1 bo ig jt ik iv hs, fun σ ρ G F H Q o w => ?_⟩
  clear ig jt ik iv hg ht hk he
  generalize own.map (·.2) = vs at *
  refine i2 σ ρ G F H _ o ((Wp.ofBindM w).imp (fun rr hr => ?_) fun _ z => z)
  intro J G1 F1 H1 x1 o1 it hp1 D0 hD
  obtain ⟨ds, ρ1⟩ := rr
  dsimp only at hr
  split at hr
  case isFalse => exact hr.elim
  rename_i hlen
  have hr' : ∃ kvs ρ2, dcN vs g ft fk fv ds [] ρ1 = .ok (kvs, ρ2) ∧ EPost X c (p && (q && (r1 && r2))) (.own 1) σ ρ G F H Q (.dct kvs, restE ρ1 vs ρ2) := by
    split at hr
    · rename_i kvs ρ2 e
      exact ⟨kvs, ρ2, e, hr⟩
    · exact hr.elim
  obtain ⟨kvs, ρ2, eN, fin⟩ := hr'
  -- what holds ahead of turn i
  let Pure : Bool := p && (q && (r1 && r2))
  let Ahead : Nat → Hp → Prop := fun i H' => ∃ ρ' acc, DcS X.K X.mg c Pure D0 G1 F1 H1 (wipe σ vs) (wipeG ρ' vs) acc H' ∧ acc.length ≤ i ∧ (Pure = true → wipeG ρ' vs = wipeG ρ1 vs) ∧ dcN vs g ft fk fv (ds.drop i) acc ρ' = .ok (kvs, ρ2)
  refine ⟨fun i n H' => i + n = ds.length ∧ Ahead i H', ⟨ds.length, Nat.zero_add _, ρ1, [], DcS.start o1 hD hv, Nat.le_refl _, fun _ => rfl, eN⟩, ?_⟩
  rintro i n H2 ⟨en, ρ', acc, st, la, pw, eT⟩
  have parts : Pure = true → p = true ∧ q = true ∧ r1 = true ∧ r2 = true := fun h => by
    have h : (p && (q && (r1 && r2))) = true := h
    rwa [Bool.and_eq_true, Bool.and_eq_true, Bool.and_eq_true] at h
  rcases Nat.lt_or_ge i ds.length with hi | hi
  · obtain ⟨G2, F2, sg, o2, back⟩ := st.pin
    rw [List.drop_eq_getElem_cons hi, dcN_cons] at eT
    refine .inr ⟨it.go i H2 (sg.trans o2.gh) hi, fun H3 => i + 1 + (n - 1) = ds.length ∧ Ahead (i + 1) H3, fun H3 k => ⟨n - 1, by omega, k⟩, fun x H3 y => ?_⟩
    obtain ⟨G3, F3, gr, rp⟩ := it.yld i H2 x H3 G2 F2 _ y sg o2.gf o2.fh (List.getElem?_eq_getElem hi)
    have o3 := o2.grown gr
    split at eT
    · cases eT
    rename_i ρa ea
    refine ⟨wipeG ρ' vs, ρa, G3, F3, _, o3, rp, ea, fun σ4 o4 hl4 w4 => ?_⟩
    have w5 : wipe σ4 vs = wipe σ vs := (w4 vs his).trans (by rw [wipe_eq, wipe_eq]; exact wipeG_sub fun i hi => hi)
    have wa : wipeG ρa vs = wipeG ρ' vs := (gw _ _ _ ea vs his).trans (wipeG_sub fun i hi => hi)
    refine ⟨w5, ρa, G3, F3, o4, ?_⟩
    split at eT
    · rename_i ρb eb
      rw [eb]
      intro G5 F5 H5 x5 o5 hp5
      show if true = true then _ else _
      rw [if_pos rfl]
      refine ⟨ρb, G5, F5, o5, ?_⟩
      split at eT
      · rename_i k ρc ec
        rw [ec]
        intro ku G6 F6 H6 f6 x6 o6 q6 hp6
        refine ⟨ρc, G6, F6, o6.drop, ?_⟩
        split at eT
        · rename_i d ρd ed
          rw [ed]
          intro vu G7 F7 H7 f7 x7 o7 q7 hp7
          split at eT
          · rename_i isK
            obtain ⟨key, rfl⟩ := isKeyK_eq isK
            have x67 := x5.trans (x6.trans x7)
            have quiet : Pure = true → Same H2 H7 := fun hP => ((gr.hh.trans (hp5 (parts hP).2.1).2).trans (hp6 (parts hP).2.2.1).2).trans (hp7 (parts hP).2.2.2).2
            obtain ⟨kvs', at7, few, st'⟩ := (back (gr.x.trans x67) o7.drop quiet).2 (key := key) q7.1 hD (by omega)
            have kq : Rp X.K X.mg G6 ku (keyD key) := q6.1
            refine ⟨kvs', key, rp_key kq, at7, few, by omega, ρd, _, ?_, ?_, fun hP => ?_, eT⟩
            · rw [← w5]; exact st'.wiped hv
            · have := dPut_len acc (keyD key) d
              omega
            · have c7 : ρd = ρc := (hp7 (parts hP).2.2.2).1
              have c6 : ρc = ρb := (hp6 (parts hP).2.2.1).1
              have c5 : ρb = ρa := (hp5 (parts hP).2.1).1
              rw [c7, c6, c5, wa]
              exact pw hP
          · cases eT
        · cases eT
      · cases eT
    · rename_i ρb eb
      rw [eb]
      intro G5 F5 H5 x5 o5 hp5
      show if false = true then _ else _
      rw [if_neg (by simp : ¬ false = true)]
      have st' := (back (gr.x.trans x5) o5 fun hP => gr.hh.trans (hp5 (parts hP).2.1).2).1
      refine ⟨by omega, ρb, acc, ?_, by omega, fun hP => ?_, eT⟩
      · rw [← w5]; exact st'.wiped hv
      · have c5 : ρb = ρa := (hp5 (parts hP).2.1).1
        rw [c5, wa]
        exact pw hP
    · cases eT
  · rw [List.drop_eq_nil_of_le hi] at eT
    cases eT
    obtain ⟨G2, F2, kvs', x2, o2, at2, ks, r, h2⟩ := st.ex
    refine .inl ⟨it.stop i H2 (x2.g.trans o2.gh) hi, fin (.ref D0) G2 F2 H2 [D0] (x1.trans x2) (o1.rest x2 o2 hv) (Own.mkK at2 ks (rpl_own0 r)) fun hP => ?_⟩
    refine ⟨?_, (hp1 (parts hP).1).2.trans (h2 hP)⟩
    rw [restE_wipe (pw hP)]
    exact (hp1 (parts hP).1).1
end
/-! what the new mirrors keep -/
section
variable {i : Nat}
theorem fr_eRm1 {isT : D → Bool} {g : D → D → Option D} {a b : M D} (h : Fr i a) (k : Fr i b) : Fr i (eRm1 isT g a b) := fr_bind h fun _ => fr_ite (fr_bind k fun _ => fr_ofO) fr_fail
theorem fr_dcN {vs : List Nat} {g : D → PV.Env → Option PV.Env} {t : M Bool} {fk fv : M D} (hv : i ∉ vs) (hg : FrG i g) (ht : Fr i t) (hk : Fr i fk) (hf : Fr i fv) : ∀ (ds : List D) (acc : List (D × D)), Fr i (dcN vs g t fk fv ds acc)
  | [], acc => ⟨fun ρ ρ' a ρ1 l e => by cases e; exact ⟨ρ', rfl, l⟩, fun ρ a ρ1 e => by cases e; rfl⟩
  | d :: r, acc => by
    constructor
    · intro ρ ρ' a ρ1 l e
      rw [dcN_cons] at e ⊢
      split at e
      · cases e
      rename_i ρa ea
      obtain ⟨ρa', ea', la⟩ := hg.mo _ _ _ _ (l.wipe vs) ea
      rw [ea']
      dsimp only
      split at e
      · rename_i ρb eb
        obtain ⟨ρb', eb', lb⟩ := ht.mo _ _ _ _ la eb
        rw [eb']
        dsimp only
        split at e
        · rename_i k ρc ec
          obtain ⟨ρc', ec', lc⟩ := hk.mo _ _ _ _ lb ec
          rw [ec']
          dsimp only
          split at e
          · rename_i v ρd ed
            obtain ⟨ρd', ed', ld⟩ := hf.mo _ _ _ _ lc ed
            rw [ed']
            dsimp only
            split at e
            · rename_i isK
              rw [if_pos isK]
              exact (fr_dcN hv hg ht hk hf r _).mo _ _ _ _ ld e
            · cases e
          · cases e
        · cases e
      · rename_i ρb eb
        obtain ⟨ρb', eb', lb⟩ := ht.mo _ _ _ _ la eb
        rw [eb']
        exact (fr_dcN hv hg ht hk hf r _).mo _ _ _ _ lb e
      · cases e
    · intro ρ a ρ1 e
      rw [dcN_cons] at e
      split at e
      · cases e
      rename_i ρa ea
      have k1 := hg.kp _ _ _ ea
      rw [look_wipe, if_neg hv] at k1
      split at e
      · rename_i ρb eb
        have k2 := ht.kp _ _ _ eb
        split at e
        · rename_i k ρc ec
          have k3 := hk.kp _ _ _ ec
          split at e
          · rename_i v ρd ed
            have k4 := hf.kp _ _ _ ed
            split at e
            · exact ((fr_dcN hv hg ht hk hf r _).kp _ _ _ e).trans (k4.trans (k3.trans (k2.trans k1)))
            · cases e
          · cases e
        · cases e
      · rename_i ρb eb
        exact ((fr_dcN hv hg ht hk hf r _).kp _ _ _ e).trans ((ht.kp _ _ _ eb).trans k1)
      · cases e
theorem fr_eDc {vs : List Nat} {fi : M (List D)} {g : D → PV.Env → Option PV.Env} {t : M Bool} {fk fv : M D} (hi : Fr i fi) (hg : FrG i g) (ht : Fr i t) (hk : Fr i fk) (hf : Fr i fv) (hv : i ∉ vs := by decide) : Fr i (eDc vs fi g t fk fv) := by
  refine fr_bind hi fun ds => ?_
  have hn := fr_dcN hv hg ht hk hf ds []
  constructor
  · intro ρ ρ' a ρ1 l e
    split at e
    · rename_i hl
      simp only [hl, if_true]
      split at e
      · rename_i ys ρ2 e2
        cases e
        obtain ⟨ρ2', e2', l2⟩ := hn.mo _ _ _ _ l e2
        rw [e2']
        exact ⟨_, rfl, Le.rest l l2 vs⟩
      · cases e
    · cases e
  · intro ρ a ρ1 e
    split at e
    · split at e
      · rename_i ys ρ2 e2
        cases e
        rw [look_rest hv]
        exact hn.kp _ _ _ e2
      · cases e
    · cases e
end
end
end PV

set_option Elab.async false
set_option linter.all false
set_option maxRecDepth 100000
set_option maxHeartbeats 0
namespace PV
noncomputable section
open PySem PySem.Spec
open PyProof.Rows L2

/-! ## 34. instances: attributes -/
section
variable {K : PySem.W.Frag} {mg : Str → Option Value} {H : Hp}
theorem Rp.obj_inv {v : V} {c : Str} {ds : List (Str × D)} (h : Rp K mg H v (.obj c ds)) : ∃ a C dx us, v = .ref a ∧ H a = some (.ins C dx us) ∧ mg c = some (.ref C) ∧ us.map (fun p => p.1) = ds.map (fun p => p.1) ∧ RpL K mg H (us.map fun p => p.2) (ds.map fun p => p.2) := by
  cases h with
  | obj h1 h2 h3 h4 => exact ⟨_, _, _, _, rfl, h1, h2, h3, h4⟩
/-- attributes by name, both ways -/
theorem attr_rel (f : Str) : ∀ {us : List (Str × V)} {ds : List (Str × D)}, us.map (fun p => p.1) = ds.map (fun p => p.1) → RpL K mg H (us.map fun p => p.2) (ds.map fun p => p.2) →
    (us.lookup f = none ∧ ds.lookup f = none) ∨ ∃ v d, us.lookup f = some v ∧ ds.lookup f = some d ∧ Rp K mg H v d
  | [], [], _, _ => .inl ⟨rfl, rfl⟩
  | [], _ :: _, e, _ => nomatch e
  | _ :: _, [], e, _ => nomatch e
  | (x, v) :: us, (y, d) :: ds, e, r => by
    simp only [List.cons.injEq, List.map_cons] at e
    obtain ⟨rfl, e⟩ := e
    cases r with
    | cons r1 r2 =>
      rw [List.lookup_cons, List.lookup_cons]
      cases f == x with
      | true => exact .inr ⟨v, d, rfl, rfl, r1⟩
      | false => exact attr_rel f e r2
/-- an attribute gets its value: in place, or behind the others -/
def putA (f : Str) (d : D) : List (Str × D) → List (Str × D)
  | [] => [(f, d)]
  | (g, e) :: r => if g = f then (g, d) :: r else (g, e) :: putA f d r
end
def gFld (c f : Str) : D → Option D
  | .obj c' fs => if c' = c then fs.lookup f else none
  | _ => none
/-- what the text says of a class -/
structure ClsF (K : PySem.W.Frag) (mg : Str → Option Value) (c : Str) (C : Addr) : Prop where
  gl : mg c = some (.ref C)
  cls : Cls K C
section
variable {X : Cx} {W : WX} {c : Fc} {p : Bool} {n : Nat} {pos : Pos}
theorem ex_fld {k f : Str} {C : Addr} {e : Expr} {fa : M D} (T : ClsF X.K X.mg k C) (no : NoAttr X.K C f) (ha : EX X W c p (.rd 0) e fa) (hb : attributeBase e f X.env (eval e X.env) = eval e X.env := by rfl) : EX X W c p (.rd 0) (.Attribute e f pos) (e1 (gFld k f) fa) := by
  refine ex_1 (r := fun x H1 Q => ∃ a C dx fs v, x = .ref a ∧ H1 a = some (.ins C dx fs) ∧ Cls X.K C ∧ NoAttr X.K C f ∧ fs.lookup f = some v ∧ Q v H1) (fun h => pe_fld h hb) (fun G F H d v z Q gf fh q hz fin => ?_) ha wrd
  have q : Rp X.K X.mg G v d := q.1
  cases d <;> first | (cases hz; done) | skip
  have hz : (if _ then _ else _) = some z := hz
  split at hz
  · rename_i ec
    obtain ⟨a, C', dx, us, rfl, h1, h2, h3, h4⟩ := q.obj_inv
    rw [ec, T.gl] at h2
    cases h2
    rcases attr_rel f h3 h4 with ⟨_, e⟩ | ⟨v, d, e1, e2, r⟩
    · rw [e] at hz; cases hz
    · rw [e2] at hz
      cases hz
      exact ⟨a, C, dx, us, v, rfl, (gf.trans fh) _ _ h1, T.cls, no, e1, fin v G F H [] (.refl gf fh) ⟨r, rfl⟩⟩
  · cases hz
end
/-! ### an attribute is set: the slot's own instance -/
def sFldS (i : Nat) (k f : Str) (fe : M D) : SM := sDo fe fun d ρ => match look ρ i with
  | some (.obj c fs) => if c = k ∧ fs.length < 900 then .nx (put ρ i (some (.obj c (putA f d fs)))) else .fail
  | _ => .fail
theorem sFldS_def (i : Nat) (k f : Str) (fe : M D) : sFldS i k f fe = sDo fe fun d ρ => match look ρ i with
  | some (.obj c fs) => if c = k ∧ fs.length < 900 then .nx (ρ.set i (some (.obj c (putA f d fs)))) else .fail
  | _ => .fail := by
  unfold sFldS
  simp only [put_eq]
section
variable {K : PySem.W.Frag} {mg : Str → Option Value} {H : Hp}
theorem putA_rel (f : Str) {v : V} {d : D} (rv : Rp K mg H v d) : ∀ {us : List (Str × V)} {ds : List (Str × D)}, us.map (fun p => p.1) = ds.map (fun p => p.1) → RpL K mg H (us.map fun p => p.2) (ds.map fun p => p.2) →
    (putF f v us).map (fun p => p.1) = (putA f d ds).map (fun p => p.1) ∧ RpL K mg H ((putF f v us).map fun p => p.2) ((putA f d ds).map fun p => p.2)
  | [], [], _, _ => ⟨rfl, .cons rv .nil⟩
  | [], _ :: _, e, _ => nomatch e
  | _ :: _, [], e, _ => nomatch e
  | (x, u) :: us, (y, e0) :: ds, e, r => by
    simp only [List.cons.injEq, List.map_cons] at e
    obtain ⟨rfl, e⟩ := e
    cases r with
    | cons r1 r2 =>
      simp only [putF, putA]
      by_cases z : x = f
      · rw [if_pos z, if_pos z]
        exact ⟨by simp only [List.map_cons, e], .cons rv r2⟩
      · rw [if_neg z, if_neg z]
        obtain ⟨i1, i2⟩ := putA_rel f rv e r2
        exact ⟨by simp only [List.map_cons, i1], .cons r1 i2⟩
end
section
variable {X : Cx} {W : WX} {c : Fc} {p : Bool} {n rk : Nat} {pos : Pos}
theorem sx_fld (i : Nat) {k f x : Str} {C : Addr} {e : Expr} {fe : M D} {px pos' : Pos} (T : ClsF X.K X.mg k C) (no : NoAttr X.K C f) (he : EX X W c p (.rd 0) e fe) (hk : c.kd i = .own 1 := by rfl)
    (hN : X.N[i]? = some x := by rfl) (hvis : Vis X.env.scope x := by first | exact Or.inl rfl | exact Or.inr (Or.inl rfl) | exact Or.inr (Or.inr rfl)) (hd : (x == ("__debug__" : Str)) = false := by decide) (hcd : (x == ("__classdict__" : Str)) = false := by decide)
    (hs : swapsWith e (some (.Attribute (.Name x px) f pos')) pos.line X.env = pure false := by rfl) : SX X W c rk (.Assign [.Attribute (.Name x px) f pos'] e pos) (sFldS i k f fe) := by
  rw [sFldS_def]
  obtain ⟨te, e1, e2⟩ := he
  refine ⟨_, ps_fld (pe_var hN hvis hd hcd) e1 hs, fun D σ ρ G F H o w => ?_⟩
  refine EX.use te e2 o (WpS.ofDo w) (fun r hr v G1 F1 H1 fq x1 o1 qv hp => ?_) fun _ z => Nx.toS z
  have qv : Rp X.K X.mg G1 v r.1 := qv.1
  split at hr
  · rename_i k' fs e3
    split at hr
    · rename_i hkl
      obtain ⟨rfl, hlen⟩ := hkl
      obtain ⟨u, fp, es, ow, nd, hF, dj, nq, go⟩ := o1.mut e3 hk
      obtain ⟨a, rest, ds, vs, rfl, rfl, ct, l⟩ := ow
      obtain ⟨C', dx, us, ha, g, ks, rfl, rfl⟩ := ct.obj
      rw [T.gl] at g
      cases g
      obtain ⟨r0, rfl⟩ := own0L l
      obtain ⟨ks', r'⟩ := putA_rel f qv ks r0
      have len := congrArg List.length ks
      simp only [List.length_map] at len
      refine ⟨.ref a, es, a, C, dx, us, rfl, ha, T.cls, no, by omega, ?_⟩
      exact hr σ G1 F1 _ x1 (go _ _ [a] [] (Own.mkO upd_same T.gl ks' (rpl_own0 r')) (fun b hb => upd_ne fun z => hb (by rw [z]; exact List.mem_cons_self)) (by simp) fun b hb => .inl (by simpa using hb)) rfl
    · exact hr.elim
  · exact hr.elim

/-! ### a new instance: its __init__ fills it -/
def eMake (k : Str) (mI : List D → R (D × List D)) (dflt : List D) (fa : M (List D)) : M D := fa.bind fun ds ρ => match mI (.obj k [] :: (ds ++ dflt)) with
  | .ok (.non, [y]) => .ok (y, ρ)
  | .ok _ => .fail
  | .exc x => .exc x
  | .fail => .fail
/-- exceptions that are taken whatever the slots are -/
def Free (W : WX) (E : XK) : Prop := W = fun cls d _ H => E cls d H
theorem passFree {E : XK} (hW : Free W E) (ok : Cok X W) : Passes (L2.CX X.prog X.w) X E := fun pins σ H s e s' I c => passAt ok.tk σ pins H s e s' I (by subst hW; exact c)
theorem fitA_vals {K : PySem.W.Frag} {mg : Str → Option Value} {G H : Hp} {σ : L2.St} : ∀ {ps : List Pm} {ms : List Am} {ds : List D} {vs : List V}, allShP ps = true → fitA ps ms = true → ValL K mg G H σ ms ds vs → RpL K mg G vs ds ∧ ds.length = ps.length
  | [], [], _, _, _, _, .nil => ⟨.nil, rfl⟩
  | .sh :: ps, .val (.rd 0) :: ms, _, _, a, e, .val h r => by
    obtain ⟨r1, r2⟩ := fitA_vals (ps := ps) (ms := ms) a e r
    exact ⟨.cons h.1 r1, congrArg (· + 1) r2⟩
theorem argl_sh {K : PySem.W.Frag} {mg : Str → Option Value} {G F H : Hp} : ∀ {ps : List Pm} {ds : List D} {vs : List V}, allShP ps = true → ds.length = ps.length → RpL K mg G vs ds → ArgL K mg G F H ps ds vs []
  | [], [], _, _, _, .nil => .nil
  | .sh :: ps, _ :: _, _, h, l, .cons r rs => .sh r (argl_sh (ps := ps) h (Nat.succ.inj l) rs)
theorem out1 {K : PySem.W.Frag} {mg : Str → Option Value} {G H : Hp} {ps : List Pm} {vs : List V} {os : List D} {fo : List Addr} (h : allShP ps = true) (q : OutL K mg G H ps vs os fo) : os = [] ∧ fo = [] := by
  induction q with
  | nil => exact ⟨rfl, rfl⟩
  | sh r ih => exact ih h
  | rd r ih => cases h
  | io q r ih => cases h
theorem ex_make {k : Str} {E : XK} {C f : Addr} {fd : FuncData} {pn : List Str} {j : Nat} {ps qs : List Pm} {mI : List D → R (D × List D)} {dflt : List D} {dvs : List V} {dus : List Value} {ms : List Am} {pp : Pos} {e : Expr} {es : List Expr} {fa : M (List D)} (hW : Free W E) (ok : Cok X W) (T : ClsF X.K X.mg k C) (M : Mk X.K C f)
    (F : FnOk X.prog X.w X.K X.mg X.base (L2.CX X.prog X.w) j f fd pn (spM X.K X.mg (.io 1 :: (ps ++ qs)) 0 mI)) (hr : Room (j + 1) X.A) (hb : Binds X.K fd pn dus) (hd : Vals dvs dus) (hdf : ∀ G, RpL X.K X.mg G dvs dflt) (ha : AX X W c p ms (e :: es) fa)
    (hfit : fitA ps ms = true := by rfl) (hsh : allShP ps = true := by rfl) (hsq : allShP qs = true := by rfl) (hq : dflt.length = qs.length := by rfl) (hg : Gl X k := by rfl) (hdb : (k == ("__debug__" : Str)) = false := by decide) (he : starEach (e :: es) X.env = (false, eval e X.env) :: starEach es X.env := by rfl) (hpl : (backTo pos (starEach es X.env)).any (·.1) = false := by rfl) :
    EX X W c p (.own 1) (.Call (.Name k pp) (e :: es) [] pos) (eMake k mI dflt fa) := by
  obtain ⟨ta, a1, a2⟩ := ha
  refine ⟨_, pe_make M F hr hg T.gl hb hd (passFree hW ok) a1 hdb he hpl, fun σ ρ G F0 H Q o w => ?_⟩
  refine a2 σ ρ G F0 H _ o ((Wp.ofBindM w).imp (fun r hr => ?_) fun _ z => z)
  intro vs G1 F1 H1 x1 o1 q1 hp1 x dx nx ndx ne
  obtain ⟨rl, len⟩ := fitA_vals hsh hfit q1
  -- what is kept: all but the new instance
  have gF : Same G1 (upd H1 dx (.own x)) := o1.gh.trans (same_upd ndx)
  have nF : upd H1 dx (.own x) x = none := by rw [upd_ne (Ne.symm ne)]; exact nx
  have fH : Same (upd H1 dx (.own x)) (upd (upd H1 dx (.own x)) x (.ins C dx [])) := same_upd nF
  have allq : allShP (ps ++ qs) = true := by
    clear hfit F q1 len
    induction ps with
    | nil => exact hsq
    | cons p ps ih =>
      cases p with
      | sh => exact ih hsh
      | _ => cases hsh
  refine ⟨G1, upd H1 dx (.own x), .obj k [] :: (r.1 ++ dflt), [x] ++ [], gF, fH, .io (Own.mkO (es := []) (us := []) upd_same T.gl rfl .nil) (argl_sh allq (by rw [List.length_append, List.length_append, len, hq]) (rl.append (hdf G1))), by simp, fun a ha => by rw [List.append_nil] at ha; rw [List.mem_singleton.mp ha]; exact nF, ?_⟩
  have toH1 : ∀ {G2 F2 : Hp}, Ext G1 (upd H1 dx (.own x)) G2 F2 → Ext G1 H1 G2 F2 := fun x2 => ⟨x2.g, (same_upd ndx).trans x2.f, fun a h1 h2 => x2.n a h1 ((same_upd ndx).nn h2)⟩
  cases em : mI (.obj k [] :: (r.1 ++ dflt)) with
  | ok y =>
    rw [em] at hr
    intro v G2 F2 H2 fr fo x2 gf2 fh2 ow out nd hf
    obtain ⟨d, os⟩ := y
    cases out with
    | io q out' =>
      obtain ⟨rfl, rfl⟩ := out1 allq out'
      cases d <;> first | exact hr.elim | skip
      obtain ⟨rv, rfl⟩ := ow
      cases rv
      refine ⟨rfl, ?_⟩
      rw [List.append_nil] at nd hf
      obtain ⟨x3, o3, hh⟩ := o1.called (toH1 x2) gf2 fh2 q nd hf
      exact hr _ G2 _ H2 _ (x1.trans x3) o3 q fun hp => ⟨(hp1 hp).1, (hp1 hp).2.trans hh⟩
  | exc z =>
    rw [em] at hr
    intro cls dd G2 F2 H2 x2 gf2 fh2 xr
    have hr : Nx X.K X.mg W σ G F0 z := hr
    obtain ⟨x3, o3, _⟩ := o1.called (rk := 0) (d := .non) (v := .non) (fr := []) (toH1 x2) gf2 fh2 ⟨.non, rfl⟩ List.nodup_nil fun _ h => nomatch h
    subst hW
    exact hr cls dd G2 _ H2 (x1.trans x3) o3.gf o3.fh xr
  | fail => rw [em] at hr; exact hr.elim

/-! ### methods -/
def eMethC (k m : Str) (mm : List D → R D) (fo : M D) (fa : M (List D)) : M D := fo.bind fun x => match x with
  | .obj c fs => if c = k ∧ fs.lookup m = none then M.lift (fun ds => mm (x :: ds)) fa else fun _ => .fail
  | _ => fun _ => .fail
theorem spm_use {σ : L2.St} {ρ ρ1 : PV.Env} {G F0 H G1 F1 H1 : Hp} {m : List D → R D} {ps : List Pm} {ds : List D} {vs : List V} {Q : VK} (x1 : Ext G F0 G1 F1) (o1 : Ok X.K X.mg c [] G1 F1 H1 σ ρ1) (al : ArgL X.K X.mg G1 H1 H1 ps ds vs []) (hp1 : p = true → ρ1 = ρ ∧ Same H H1)
    (hr : Wp (M.lift m (M.pure ds) ρ1) (EPost X c p (.rd 0) σ ρ G F0 H Q) (Nx X.K X.mg W σ G F0)) : spM X.K X.mg ps 0 (m0 m) vs H1 Q (WE W σ) := by
  refine ⟨G1, H1, ds, [], o1.gh, .refl _, al, List.nodup_nil, fun _ h => (nomatch h), ?_⟩
  unfold m0
  unfold M.lift at hr
  rw [M.bind_of (a := ds) (ρ1 := ρ1) rfl] at hr
  cases em : m ds with
  | ok d =>
    rw [em] at hr
    intro v G2 F2 H2 fr fo x2 gf2 fh2 ow out nd hf
    have e2 := outs_nil out
    subst e2
    rw [List.append_nil] at nd hf
    obtain ⟨x3, o3, hh⟩ := o1.called x2 gf2 fh2 ow nd hf
    exact hr v G2 _ H2 fr (x1.trans x3) o3 ⟨ow.1, ow.2⟩ fun hp => ⟨(hp1 hp).1, (hp1 hp).2.trans hh⟩
  | exc z =>
    rw [em] at hr
    intro cls dd G2 F2 H2 x2 gf2 fh2 xr
    have hr : Nx X.K X.mg W σ G F0 z := hr
    obtain ⟨x3, o3, _⟩ := o1.called (rk := 0) (d := .non) (v := .non) (fr := []) x2 gf2 fh2 ⟨.non, rfl⟩ List.nodup_nil fun _ h => nomatch h
    exact hr cls dd G2 _ H2 (x1.trans x3) o3.gf o3.fh xr
  | fail => rw [em] at hr; exact hr.elim
theorem meth_sem {k m : Str} {E : XK} {C : Addr} {p2 : Bool} {ps : List Pm} {mm : List D → R D} {ms : List Am} {fo : M D} {fa : M (List D)} {to : TE} {t : TA} (hW : Free W E) (T : ClsF X.K X.mg k C) (a2 : Sound X W c p (.rd 0) to fo)
    (b2 : ∀ (σ : L2.St) (ρ : PV.Env) (G F H : Hp) (Q : List V → Hp → Prop), Ok X.K X.mg c [] G F H σ ρ →
      Wp (fa ρ) (fun r => ∀ vs G' F' H', Ext G F G' F' → Ok X.K X.mg c [] G' F' H' σ r.2 → ValL X.K X.mg G' H' σ ms r.1 vs → (p2 = true → r.2 = ρ ∧ Same H H') → Q vs H') (Nx X.K X.mg W σ G F) → t σ H Q)
    (hfit : fitA ps ms = true) (hsh : allShP ps = true) : Sound X W c (p && p2) (.rd 0) (tMeth C m (spM X.K X.mg (.sh :: ps) 0 (m0 mm)) [] E to t) (eMethC k m mm fo fa) := by
  intro σ ρ G F H Q o w
  refine EX.use to a2 o (Wp.ofBindM w) (fun r hr v G1 F1 H1 fp x1 o1 q1 hp1 => ?_) fun _ z => z
  have q1 : Rp X.K X.mg G1 v r.1 := q1.1
  obtain ⟨d, ρ1⟩ := r
  cases d <;> first | exact hr.elim | skip
  rename_i k' fs _
  have hr3 : Wp ((if k' = k ∧ fs.lookup m = none then M.lift (fun ds => mm (.obj k' fs :: ds)) fa else fun _ => .fail : M D) ρ1) _ _ := hr
  split at hr3
  · rename_i hk
    obtain ⟨rfl, hl⟩ := hk
    obtain ⟨a, C', dx, us, rfl, h1, h2, h3, h4⟩ := q1.obj_inv
    rw [T.gl] at h2
    cases h2
    have no : us.lookup m = none := by
      rcases attr_rel m h3 h4 with ⟨e, _⟩ | ⟨_, _, _, e, _⟩
      · exact e
      · rw [hl] at e; cases e
    refine ⟨a, dx, us, rfl, o1.gh _ _ h1, no, ?_⟩
    refine b2 σ ρ1 G1 F1 H1 _ o1.drop ((Wp.nxExt x1 (Wp.ofBindM hr3)).imp (fun r2 hr2 => ?_) fun _ z => z)
    intro vs G2 F2 H2 x2 o2 q2 hp2
    obtain ⟨rl, len⟩ := fitA_vals hsh hfit q2
    rw [List.append_nil]
    have eE : E = WE W σ := by subst hW; rfl
    rw [eE]
    refine spm_use (m := mm) (ds := .obj k' fs :: r2.1) (p := p && p2) (ρ := ρ) (H := H) (x1.trans x2) o2 (.sh (q1.mono x2.g) (argl_sh hsh len rl)) (fun hp => ?_) hr2
    rw [Bool.and_eq_true] at hp
    exact ⟨(hp2 hp.2).1.trans (hp1 hp.1).1, (hp1 hp.1).2.trans (hp2 hp.2).2⟩
  · exact hr3.elim
variable {p1 p2 : Bool}
/-- what the call of a method comes to -/
abbrev methRun (X : Cx) (o : Expr) (m : Str) (apos pos : Pos) (pl : Sem Bool) (l : List Expr) : Sem Value := eval o X.env >>= fun ov => standAt apos.atName >>= fun _ => holding [ov] (getMethod ov m pl) >>= fun q => callWith pos q.1 q.2 (backTo pos (starEach l X.env)) (backToKw pos (keywordEach [] X.env))
/-- o.m(e, ..) -/
theorem ex_meth {k m : Str} {E : XK} {C f : Addr} {fd : FuncData} {pn : List Str} {j : Nat} {ps : List Pm} {mm : List D → R D} {ms : List Am} {o e : Expr} {es : List Expr} {fo : M D} {fa : M (List D)} {apos : Pos} {pl : Sem Bool} (hW : Free W E) (ok : Cok X W) (T : ClsF X.K X.mg k C) (hm : Meth X.K C m f)
    (F : FnOk X.prog X.w X.K X.mg X.base (L2.CX X.prog X.w) j f fd pn (spM X.K X.mg (.sh :: ps) 0 (m0 mm))) (hr : Room j X.A) (hb : Binds X.K fd pn []) (ho : EX X W c p1 (.rd 0) o fo) (ha : AX X W c p2 ms (e :: es) fa) (hfit : fitA ps ms = true := by rfl) (hsh : allShP ps = true := by rfl)
    (ht : eval (.Call (.Attribute o m apos) (e :: es) [] pos) X.env = methRun X o m apos pos pl (e :: es) := by rfl) (hst : starEach (e :: es) X.env = (false, eval e X.env) :: starEach es X.env := by rfl) (hpl : (backTo pos (starEach es X.env)).any (·.1) = false := by rfl) :
    EX X W c (p1 && p2) (.rd 0) (.Call (.Attribute o m apos) (e :: es) [] pos) (eMethC k m mm fo fa) :=
  let ⟨_, a1, a2⟩ := ho; let ⟨_, b1, b2⟩ := ha
  ⟨_, pe_meth a1 T.cls hm F hr hb .nil (passFree hW ok) b1 hst hpl ht, meth_sem hW T a2 b2 hfit hsh⟩
/-- o.m() -/
theorem ex_meth00 {k m : Str} {E : XK} {C f : Addr} {fd : FuncData} {pn : List Str} {j : Nat} {mm : List D → R D} {o : Expr} {fo : M D} {apos : Pos} {pl : Sem Bool} (hW : Free W E) (ok : Cok X W) (T : ClsF X.K X.mg k C) (hm : Meth X.K C m f)
    (F : FnOk X.prog X.w X.K X.mg X.base (L2.CX X.prog X.w) j f fd pn (spM X.K X.mg [.sh] 0 (m0 mm))) (hr : Room j X.A) (hb : Binds X.K fd pn []) (ho : EX X W c p1 (.rd 0) o fo)
    (ht : eval (.Call (.Attribute o m apos) [] [] pos) X.env = methRun X o m apos pos pl [] := by rfl) :
    EX X W c (p1 && true) (.rd 0) (.Call (.Attribute o m apos) [] [] pos) (eMethC k m mm fo aNil) :=
  let ⟨_, a1, a2⟩ := ho
  ⟨_, pe_meth0 a1 T.cls hm F hr hb .nil (passFree hW ok) ht, meth_sem (ms := []) hW T a2 (fun σ ρ G F H Q o w => w [] G F H (.refl _ _) o .nil fun _ => ⟨rfl, .refl _⟩) rfl rfl⟩
end
end
end PV

set_option Elab.async false
set_option linter.all false
set_option maxRecDepth 100000
set_option maxHeartbeats 0
namespace PV
noncomputable section
open PySem PySem.Spec
open PyProof.Rows L2

/-! ## 35. raise Refused(..): an error that keeps its reason, over a class of errors -/
/-- what the text says of the two classes: cn the error's class, fl what it keeps -/
structure ErrK (K : PySem.W.Frag) (mg : Str → Option Value) (cn fl : Str) (CF CR fI : Addr) : Prop where
  gF : mg "Fault" = some (.ref CF)
  gR : mg cn = some (.ref CR)
  ga : PySem.W.specialIn K (.ref CF) "__getattribute__" = some (some (.builtin "type.__getattribute__"))
  rd : PySem.W.readsIn K CF (.type "type") = true
  fc : PySem.W.findCls K (.ref CF) (.type "type") "__init__" = some (.val (.builtin "ValueError.__init__"))
  ox : OexC K CR
  no : PySem.W.findIn K (.ref CR) fl = some none
  iC : PySem.W.findIn K (.ref CR) "__init__" = some (some (.ref fI))
  tI : PySem.W.typeIn K (.ref fI) = some (.type "function")
abbrev RefK (K : PySem.W.Frag) (mg : Str → Option Value) (CF CR fI : Addr) : Prop := ErrK K mg "Refused" "reason" CF CR fI
section
variable {X : Cx}
/-- Fault.__init__(self, e, ..) -/
theorem pe_faultInit {cn fl : Str} {CF CR fI : Addr} {e : Expr} {es : List Expr} {ta : TA} {p1 p2 pos : Pos} {pl : Sem Bool} (T : ErrK X.K X.mg cn fl CF CR fI) (hg : Gl X "Fault") (ha : PA X (e :: es) ta)
    (hc : eval (.Call (.Attribute (.Name "Fault" p1) "__init__" p2) (e :: es) [] pos) X.env = methRun X (.Name "Fault" p1) "__init__" p2 pos pl (e :: es) := by rfl) (he : starEach (e :: es) X.env = (false, eval e X.env) :: starEach es X.env := by rfl)
    (hpl : (backTo pos (starEach es X.env)).any (·.1) = false := by rfl) :
    PE X (.Call (.Attribute (.Name "Fault" p1) "__init__" p2) (e :: es) [] pos) (tVeI X.K ta) := by
  constructor
  intro pins s σ H Q I h
  refine PySem.W.methodCall_KW (ld_glob I hg T.gF ?_ (by decide)) hc
  apply PySem.W.method_cls I.kIn T.ga
  apply PySem.W.cls_value I.kIn T.rd T.fc (by decide +kernel)
  show wpAny _ _ (callWith pos (.builtin "ValueError.__init__") [] _ (backToKw pos [])) _ _ _
  refine callWith_method1 (thn (ha.run pos pins _ σ H _ (I.tok _) h) ?_) he hpl
  rintro us s1 ⟨_, H1, I1, r1, a, C, ws, rfl, few, ox, at_, q⟩
  cases r1 with
  | cons ra rest =>
    cases (show _ = Value.ref a from ra)
    have n := Paired.length rest
    exact oinit_ok ox I1 at_ (by rw [sizeLine_eq]; omega) fun s' J => ⟨.non, H1, J, rfl, q⟩
end
/-- the promise of such a class's __init__ -/
def spErr (K : PySem.W.Frag) (fl : Str) : Sp := fun vs H Q _ => ∃ (a C : Addr) (v : V), vs = [.ref a, v] ∧ OexC K C ∧ PySem.W.findIn K (.ref C) fl = some none ∧ H a = some (exo a C none) ∧
  ∀ dx, H dx = none → dx ≠ a → Q .non (upd (upd H dx (exd dx [(fl, v)])) a (exo a C (some dx)))
abbrev spRef (K : PySem.W.Frag) : Sp := spErr K "reason"
section
variable {P : Program} {w : World} {K : PySem.W.Frag} {mg : Str → Option Value} {base : Heap} {CF CR fI : Addr} {fd : FuncData} {fl qual : Str} {pn : List Str}
/-- what its body reads: the reason handed to the base class, or a text that stands there -/
def errT (K : PySem.W.Frag) (fl : Str) (t : TE) : TS := tSeq (tDrop (tVeI K (tCons (tVar 0) (tCons t tNil)))) (tOst K fl (tVar 0) (tVar 1))
theorem err_init {st : Stmt} {t : TE} (F : Fun K "__init__" qual st fI fd) (two : pn.length = 2) (S : FnScope pn pn (defScope st)) (ht : ∀ (a : Addr) (v : V) (H : Hp) (Q : VK), (∀ u, Q u H) → t (start pn [.ref a, v]) H Q)
    (hb : ∀ (cdv : Value) (A : Around) (outer : List PySem.Env) (s0 : Shared) (H : Hp) (E : XK), PSs (cxOf (L2.CX P w) P w K mg base pn qual (defScope st) fI cdv A outer s0 H E) (defBody st) (errT K fl t))
    (hv : ∀ (a : Addr) (v : V), (start pn [.ref a, v])[0]? = some (some (.ref a)) ∧ (start pn [.ref a, v])[1]? = some (some v)) : FnOk P w K mg base (L2.CX P w) 1 fI fd pn (spErr K fl) := by
  refine F.okX S (fun vs H Q E h => ?_) fun cdv A outer s0 H vs Q E hr h => ?_
  · obtain ⟨a, C, v, rfl, _⟩ := h
    rw [two]
    rfl
  · obtain ⟨a, C, v, rfl, ox, no, at_, q⟩ := h
    refine ⟨_, hb cdv A outer s0 H E, _, (hv a v).1, ?_⟩
    refine ht a v H _ fun u => ?_
    exact ⟨a, C, [u], rfl, by simp, ox, at_, _, (hv a v).2, _, (hv a v).1, a, C, rfl, ox, no, .inl ⟨at_, fun dx nx ne => q dx nx ne⟩⟩
end
def sRaiseE (xn : D → Exn) (fe : M D) : SM := sDo fe fun d _ => .exc (xn d)
abbrev sRaiseR (fe : M D) : SM := sRaiseE .refu fe
section
variable {X : Cx} {W : WX} {c : Fc} {p : Bool} {rk : Nat}
/-- raise C(e), C such a class -/
theorem sx_raiseE (ok : Cok X W) {k : Nat} {cn fl : Str} {xn : D → Exn} {CF CR fI : Addr} {fd : FuncData} {pn : List Str} {e : Expr} {fe : M D} {px pos pos2 : Pos} (T : ErrK X.K X.mg cn fl CF CR fI) (hx : ∀ (G H : Hp) (dx : Addr) (v : V) (d : D), H dx = some (.xd [(fl, v)]) → Rp X.K X.mg G v d → XRep X.K X.mg G H (xn d) (.ref CR) (some dx))
    (F : FnOk X.prog X.w X.K X.mg X.base (L2.CX X.prog X.w) k fI fd pn (spErr X.K fl)) (hr : Room (k + 1) X.A) (hb : Binds X.K fd pn []) (he : EX X W c p (.rd 0) e fe) (hg : Gl X cn := by rfl) (hd : (cn == ("__debug__" : Str)) = false := by decide) (hst : starEach [e] X.env = (false, eval e X.env) :: starEach [] X.env := by rfl)
    (hpl : (backTo pos (starEach [] X.env)).any (·.1) = false := by rfl) : SX X W c rk (.Raise (some (.Call (.Name cn px) [e] [] pos)) none pos2) (sRaiseE xn fe) := by
  obtain ⟨te, e1, e2⟩ := he
  have no : Passes (L2.CX X.prog X.w) X (fun _ _ _ => False) := fun pins σ H s e s' I q => by
    have q' := passAt (W := fun _ _ _ _ => False) (X := X) (fun u s' ⟨_, _, _, _, _, _, _, _, _, _, _, _, _, _, _, _, z⟩ => z.elim) σ
    exact q' pins H s e s' I q
  refine ⟨_, ps_raise ok.calm ok.tk (pmk_oex T.ox T.iC T.tI F hr hb .nil no hg T.gR (pa_cons e1 pa_nil hst) hd hst hpl), fun D σ ρ G F0 H o w => ?_⟩
  refine EX.use te e2 o (WpS.ofDo w) (fun r hr v G1 F1 H1 fp x1 o1 q1 hp => ?_) fun _ z => Nx.toS z
  have q1 : Rp X.K X.mg G1 v r.1 := q1.1
  refine ⟨by simp, fun a ha => ⟨a, CR, v, rfl, T.ox, T.no, upd_same, fun dx nx ne => ⟨rfl, dx, [(fl, v)], upd_same, by rw [upd_ne ne, upd_same], ?_, ?_⟩⟩⟩
  · by_cases z : dx = a
    · exact absurd z ne
    · rwa [upd_ne z] at nx
  · have nd : H1 dx = none := by rwa [upd_ne ne] at nx
    have hr : NxS X.K X.mg W σ.length G F0 (xn r.1) := hr
    refine hr σ rfl (.ref CR) (some dx) G1 F1 _ x1 o1.gf (fun b u e => ?_) (hx _ _ dx v _ upd_same q1)
    have hb := o1.fh b u e
    have b1 : b ≠ dx := ne_of_none hb nd
    have b2 : b ≠ a := ne_of_none hb ha
    rw [upd_ne b1, del_ne b2, upd_ne b2, upd_ne b1, upd_ne b2]
    exact hb
end
section
variable {K : PySem.W.Frag} {mg : Str → Option Value} {CF CR fI : Addr}
theorem xr_refu (T : ErrK K mg "Refused" "reason" CF CR fI) (G H : Hp) (dx : Addr) (v : V) (d : D) (h : H dx = some (.xd [("reason", v)])) (r : Rp K mg G v d) : XRep K mg G H (.refu d) (.ref CR) (some dx) := ⟨CR, dx, v, T.gR, rfl, rfl, h, r⟩
theorem xr_note (T : ErrK K mg "NoText" "at" CF CR fI) (G H : Hp) (dx : Addr) (v : V) (d : D) (h : H dx = some (.xd [("at", v)])) (r : Rp K mg G v d) : XRep K mg G H (.note d) (.ref CR) (some dx) := ⟨CR, dx, v, T.gR, rfl, rfl, h, r⟩
end
end
end PV

set_option Elab.async false
set_option linter.all false
set_option maxRecDepth 100000
set_option maxHeartbeats 0
namespace PV
noncomputable section
open PySem PySem.Spec
open PyProof.Rows L2

/-! ## 36. operators of one's own classes -/
section
open PySem.W
variable {prog : Program} {w : World} {K : Frag} {A : Around} {s : Shared} {E : Value → Shared → Prop} {f C x : Addr} {od : Option Obj} {ox : Obj}
/-- a op b, both of the class -/
theorem bin_same {op : Operator} {y : Addr} {Q : Value → Shared → Prop} (X : K.In s.heap) (I : InstAt s.heap x ox C od) (Ly : Looks (model prog w) s.heap (typeOf (.ref y)) (.ref C)) (hc : selfFirst K C = true)
    (hs : findIn K (.ref C) (PySem.dunder op.info.2) = some (some (.ref f))) (hf : isFn K (.ref f) = true) (h : wpAny (model prog w) A (call (.ref f) [.ref x, .ref y]) (PySem.W.CmpBack Q) E s) :
    wpAny (model prog w) A (binaryOp op (.ref x) (.ref y)) Q E s := by
  obtain ⟨c0, r0, at0, keep0⟩ := ksp_first hc
  rcases e : op.info with ⟨sign, name⟩
  rw [e] at hs
  have said := ksp_try X I hs hf h
  have fills : Looks (model prog w) s.heap (fillsNumberSlot (.ref C) name) true := fills_K X at0 keep0 hs
  have Lx : Looks (model prog w) s.heap (typeOf (.ref x)) (.ref C) := I.type
  have alike : (Value.ref C == Value.ref C) = true := beq_self_eq_true _
  obtain ⟨z1, z2, z3, z4, z5⟩ := s
  simp only [binaryOp, e]
  apply wpAny_holding
  apply wpAny_bind
  unfold binaryOp1
  refine wpAny_bind (Lx.at (wpAny_bind (Ly.at (wpAny_bind (fills.at ?_)))))
  simp only [alike, if_true]
  ksp_lk
  refine wpAny_mono said (fun r s' q => ?_) fun _ _ z => z
  obtain ⟨v, rfl, q⟩ := q
  ksp_lk
  exact q
/-- what decides that the left operand's own method is asked first, the right one being of the built-in type T -/
structure LeftOwn (K : Frag) (C : Addr) (name T : String) : Prop where
  refl : ∃ rc, findIn K (.ref C) (dunderR name) = some rc ∧ (rc = none ∨ ∃ g : Addr, rc = some (.ref g))
  fwd : ∃ fo, findIn K (.type T) (PySem.dunder name) = some fo
  bwd : ∃ ro, findIn K (.type T) (dunderR name) = some ro
  apart : subIn K (.type T) (.ref C) = some false
/-- a op b, b of a built-in type -/
theorem bin_blt {op : Operator} {b : Value} {T : String} {Q : Value → Shared → Prop} (X : K.In s.heap) (I : InstAt s.heap x ox C od) (Lb : Looks (model prog w) s.heap (typeOf b) (.type T)) (hc : selfFirst K C = true)
    (hs : findIn K (.ref C) (PySem.dunder op.info.2) = some (some (.ref f))) (hf : isFn K (.ref f) = true) (L : LeftOwn K C op.info.2 T) (h : wpAny (model prog w) A (call (.ref f) [.ref x, b]) (PySem.W.CmpBack Q) E s) :
    wpAny (model prog w) A (binaryOp op (.ref x) b) Q E s := by
  obtain ⟨c0, r0, at0, keep0⟩ := ksp_first hc
  rcases e : op.info with ⟨sign, name⟩
  rw [e] at hs L
  obtain ⟨⟨rc, hr, hp⟩, ⟨fo, h1⟩, ⟨ro, h2⟩, hsub⟩ := L
  have said := ksp_try X I hs hf h
  have unlike : (Value.ref C == Value.type T) = false := by
    cases z : (Value.ref C == Value.type T)
    · rfl
    · cases beq_iff_eq.mp z
  have L1 : Looks (model prog w) s.heap (typeOf (.ref x)) (.ref C) := I.type
  have L2 : Looks (model prog w) s.heap (fillsNumberSlot (.ref C) name) true := fills_K X at0 keep0 hs
  have L3 := ksp_fillsT (M := model prog w) X h1 h2
  have L4 : Looks (model prog w) s.heap (isSubtype (.type T) (.ref C)) false := looks_subIn X hsub
  have L5 : Looks (model prog w) s.heap (numberSlotInPython (.ref C) name) true := ksp_inPy X hs hr hp
  have L6 : Looks (model prog w) s.heap (numberSlotInPython (.type T) name) false := Looks.of_pure rfl
  have L7 : Looks (model prog w) s.heap (typeLookup (.type T) (dunderR name)) ro := looks_findIn X h2
  revert L3
  generalize ((fo.isSome && !isSeqSlot fo) || (ro.isSome && !isSeqSlot ro)) = other
  intro L3
  obtain ⟨z1, z2, z3, z4, z5⟩ := s
  simp only [binaryOp, e]
  apply wpAny_holding
  apply wpAny_bind
  unfold binaryOp1
  refine wpAny_bind (L1.at (wpAny_bind (Lb.at (wpAny_bind (L2.at ?_)))))
  simp only [unlike, Bool.false_eq_true, if_false]
  cases other
  all_goals
    ksp_lk
    refine wpAny_mono said (fun r s' q => ?_) fun _ _ z => z
    obtain ⟨v, rfl, q⟩ := q
    ksp_lk
    exact q
end
/-! ### as rules -/
/-- an operator's own method -/
structure OpM (K : PySem.W.Frag) (C : Addr) (name : Str) (f : Addr) : Prop where
  at_ : PySem.W.findIn K (.ref C) name = some (some (.ref f))
  isFn_ : (PySem.W.isFn K (Value.ref f)) = true
section
variable {X : Cx} {C f : Addr} {k : Nat} {fd : FuncData} {pn : List Str} {sp : Sp} {E : XK}
/-- how the right operand looks -/
inductive RightOf (C : Addr) (H : Hp) : V → Prop
  | own {a dx : Addr} {us : List (Str × V)} : H a = some (.ins C dx us) → RightOf C H (.ref a)
  | non : RightOf C H .non
  | bl (b : Bool) : RightOf C H (.bl b)
  | int (i : Int) : RightOf C H (.int i)
  | str (x : Str) : RightOf C H (.str x)
  | tup {a : Addr} {xs : List V} : H a = some (.tup xs) → RightOf C H (.ref a)
  | lst {a : Addr} {xs : List V} : H a = some (.lst xs) → RightOf C H (.ref a)
def rightT : List String := ["NoneType", "bool", "int", "str", "tuple", "list"]
theorem ins_type {pins : List (Addr × Obj)} {s : Shared} {σ : L2.St} {H : Hp} {M : Model} {a dx : Addr} {us : List (Str × V)} (I : Inv X pins σ H s) (e : H a = some (.ins C dx us)) : ∃ ox od, PySem.W.InstAt s.heap a ox C od ∧ PySem.W.Looks M s.heap (typeOf (.ref a)) (.ref C) := by
  obtain ⟨mA, O, _⟩ := ins_get I.hok e
  obtain ⟨od, J, _⟩ := O.look
  exact ⟨_, _, J, J.type⟩
theorem right_type {pins : List (Addr × Obj)} {s : Shared} {σ : L2.St} {H : Hp} {M : Model} {y : V} {u : Value} (I : Inv X pins σ H s) (r : RelV y u) (h : RightOf C H y) :
    ((∃ b, u = .ref b ∧ PySem.W.Looks M s.heap (typeOf (.ref b)) (.ref C)) ∨ ∃ T ∈ rightT, PySem.W.Looks M s.heap (typeOf u) (.type T)) := by
  cases h with
  | own e =>
    cases (show u = .ref _ from r)
    obtain ⟨_, _, _, l⟩ := ins_type (M := M) I e
    exact .inl ⟨_, rfl, l⟩
  | non => cases (show u = .none from r); exact .inr ⟨"NoneType", by decide, PySem.W.Looks.of_pure rfl⟩
  | bl b => cases (show u = .bool b from r); exact .inr ⟨"bool", by decide, PySem.W.Looks.of_pure rfl⟩
  | int i => obtain ⟨t, rfl⟩ := r; exact .inr ⟨"int", by decide, PySem.W.Looks.of_pure rfl⟩
  | str x => obtain ⟨t, rfl⟩ := r; exact .inr ⟨"str", by decide, PySem.W.Looks.of_pure rfl⟩
  | tup e =>
    cases (show u = .ref _ from r)
    obtain ⟨_, its, _, o, h1, h2, _⟩ := (show ObjOk X.prog X.w H s.heap _ (.tup _) from I.hok _ _ e)
    exact .inr ⟨"tuple", by decide, fun _ _ _ _ same q => wpAny_typeOf_ref (same _ _ h1) (h2.symm ▸ q)⟩
  | lst e =>
    cases (show u = .ref _ from r)
    obtain ⟨_, its, n, _, h1⟩ := (show ObjOk X.prog X.w H s.heap _ (.lst _) from I.hok _ _ e)
    exact .inr ⟨"list", by decide, fun _ _ _ _ same q => wpAny_typeOf_ref (same _ _ h1) q⟩
theorem relv_ok {v : V} {u : Value} (r : RelV v u) : u ≠ .notImplemented := by
  intro z
  subst z
  cases v with
  | non => cases r
  | bl b => cases r
  | int i => obtain ⟨t, e⟩ := r; cases e
  | str x => obtain ⟨t, e⟩ := r; cases e
  | byt b => obtain ⟨t, e⟩ := r; cases e
  | flt b => obtain ⟨t, e⟩ := r; cases e
  | ref a => cases r
  | ty n => cases r
theorem back_of {pins : List (Addr × Obj)} {σ : L2.St} {Q : VK} {u : Value} {s : Shared} (h : EP X pins σ Q u s) : PySem.W.CmpBack (EP X pins σ Q) u s := by
  obtain ⟨v, H', I, r, q⟩ := id h
  have ok := relv_ok r
  cases u <;> first | exact h | exact absurd rfl ok
/-- x op y, x an instance whose class tells what op is -/
def rOpOwn (C : Addr) (sp : Sp) (E : XK) : R2 := fun x y H Q => ∃ a dx us, x = .ref a ∧ H a = some (.ins C dx us) ∧ RightOf C H y ∧ sp [x, y] H Q E
theorem op_own {op : Operator} (hc : PySem.W.selfFirst X.K C = true) (Mo : OpM X.K C (PySem.dunder op.info.2) f) (L : ∀ T ∈ rightT, LeftOwn X.K C op.info.2 T) (F : FnOk X.prog X.w X.K X.mg X.base (L2.CX X.prog X.w) k f fd pn sp) (hr : Room k X.A) (hb : Binds X.K fd pn [])
    (hx : Passes (L2.CX X.prog X.w) X E) : OpR X (binaryOp op) (rOpOwn C sp E) := by
  rintro pins s σ H _ y v u Q I rx ry ⟨a, dx, us, rfl, ea, right, q⟩
  cases (show v = .ref a from rx)
  obtain ⟨ox, od, J, _⟩ := ins_type (M := model X.prog X.w) I ea
  have run : wpAny (model X.prog X.w) X.A (call (.ref f) [.ref a, u]) (PySem.W.CmpBack (EP X pins σ Q)) X.xe s :=
    wpAny_mono (run_fn (dvs := []) (ds := []) (vs := [.ref a, y]) F hr hb .nil hx I (.cons rfl (.cons ry .nil)) (by rw [List.append_nil]; exact q)) (fun _ _ z => back_of z) fun _ _ z => z
  rcases right_type (M := model X.prog X.w) I ry right with ⟨b, rfl, l⟩ | ⟨T, hT, l⟩
  · exact bin_same I.kIn J l hc Mo.at_ Mo.isFn_ run
  · exact bin_blt I.kIn J l hc Mo.at_ Mo.isFn_ (L T hT) run
end
def isObj (k : Str) : D → Bool
  | .obj c _ => decide (c = k)
  | _ => false
def rightD (k : Str) : D → Bool
  | .obj c _ => decide (c = k)
  | .non => true
  | .bl _ => true
  | .int _ => true
  | .str _ => true
  | .tup _ => true
  | .lst _ => true
  | _ => false
/-- a op b: by the class of a, or as g says -/
def eOpX (k : Str) (mm : List D → R D) (g : D → D → Option D) (fa fb : M D) : M D := fa.bind fun x => fb.bind fun y => if isObj k x = true then (if rightD k y = true then M.lift mm (M.pure [x, y]) else fun _ => .fail) else M.ofO (g x y)
section
variable {X : Cx} {W : WX} {c : Fc} {p p1 p2 : Bool} {pos : Pos} {a b : Expr} {fa fb : M D}
theorem isObj_eq {k : Str} {d : D} (h : isObj k d = true) : ∃ fs, d = .obj k fs := by
  cases d <;> first | (cases h; done) | skip
  cases of_decide_eq_true (show decide _ = true from h)
  exact ⟨_, rfl⟩
theorem right_of {K : PySem.W.Frag} {mg : Str → Option Value} {H : Hp} {k : Str} {C : Addr} (T : ClsF K mg k C) {v : V} {d : D} (r : Rp K mg H v d) (h : rightD k d = true) : RightOf C H v := by
  cases r <;> first | (cases h; done) | skip
  · exact .non
  · exact .bl _
  · exact .int _
  · exact .str _
  · exact .tup ‹_›
  · exact .lst ‹_›
  · rename_i h1 h2 _ _
    cases of_decide_eq_true (show decide _ = true from h)
    rw [T.gl] at h2
    cases h2
    exact .own h1
/-- an operation of two parts: the class's own, or the built-in one -/
theorem ex_ownX {e : Expr} {k : Str} {E : XK} {C : Addr} {mm : List D → R D} {r : R2} {g : D → D → Option D} (hW : Free W E) (T : ClsF X.K X.mg k C) (hpe : ∀ {ta tb}, PE X a ta → PE X b tb → PE X e (tOp (fun x y H Q => rOpOwn C (spM X.K X.mg [.sh, .sh] 0 (m0 mm)) E x y H Q ∨ r x y H Q) ta tb))
    (hS : Op2S X.K X.mg (.rd 0) (.rd 0) (.rd 0) r g) (ha : EX X W c p1 (.rd 0) a fa) (hb' : EX X W c p2 (.rd 0) b fb) : EX X W c (p1 && p2) (.rd 0) e (eOpX k mm g fa fb) := by
  obtain ⟨ta, a1, a2⟩ := ha
  obtain ⟨tb, b1, b2⟩ := hb'
  refine ⟨_, hpe a1 b1, fun σ ρ G F0 H Q o w => ?_⟩
  refine EX.use ta a2 o (Wp.ofBindM w) (fun r1 h1 v1 G1 F1 H1 fp1 x1 o1 q1 hp1 => ?_) fun _ z => z
  refine EX.use tb b2 o1.drop (Wp.nxExt x1 (Wp.ofBindM h1)) (fun r2 h2 v2 G2 F2 H2 fp2 x2 o2 q2 hp2 => ?_) fun _ z => z
  have q1 : Rp X.K X.mg G2 v1 r1.1 := (show Rp X.K X.mg G1 v1 r1.1 from q1.1).mono x2.g
  have q2 : Rp X.K X.mg G2 v2 r2.1 := q2.1
  have pure_ : (p1 && p2) = true → r2.2 = ρ ∧ Same H H2 := fun hp => by
    rw [Bool.and_eq_true] at hp
    exact ⟨(hp2 hp.2).1.trans (hp1 hp.1).1, (hp1 hp.1).2.trans (hp2 hp.2).2⟩
  split at h2
  · rename_i io
    obtain ⟨fs, eq⟩ := isObj_eq io
    split at h2
    · rename_i ir
      refine .inl ?_
      rw [eq] at q1
      obtain ⟨x, C', dx, us, rfl, e1, e2, _⟩ := q1.obj_inv
      rw [T.gl] at e2
      cases e2
      refine ⟨x, dx, us, rfl, o2.gh _ _ e1, right_of T (q2.mono o2.gh) ir, ?_⟩
      have eE : E = WE W σ := by subst hW; rfl
      rw [eE]
      rw [eq] at h2
      exact spm_use (m := mm) (ds := [.obj k fs, r2.1]) (p := p1 && p2) (ρ := ρ) (H := H) (x1.trans x2) o2.drop (.sh q1 (.sh q2 .nil)) pure_ h2
    · exact h2.elim
  · unfold M.ofO at h2
    split at h2
    · rename_i z hz
      exact .inr (hS G2 F2 H2 r1.1 r2.1 v1 v2 z _ o2.gf o2.fh ⟨q1, rfl⟩ ⟨q2, rfl⟩ hz fun wv G3 F3 H3 fr g3 q3 => h2 wv G3 F3 H3 fr ((x1.trans x2).trans g3.x) (o2.drop.grown g3) q3 fun hp => ⟨(pure_ hp).1, (pure_ hp).2.trans g3.hh⟩)
    · exact h2.elim
theorem ex_opX {op : Operator} {k : Str} {E : XK} {C f : Addr} {fd : FuncData} {pn : List Str} {j : Nat} {mm : List D → R D} {r : R2} {g : D → D → Option D} (hW : Free W E) (ok : Cok X W) (T : ClsF X.K X.mg k C) (hc : PySem.W.selfFirst X.K C = true) (Mo : OpM X.K C (PySem.dunder op.info.2) f)
    (L : ∀ T ∈ rightT, LeftOwn X.K C op.info.2 T) (F : FnOk X.prog X.w X.K X.mg X.base (L2.CX X.prog X.w) j f fd pn (spM X.K X.mg [.sh, .sh] 0 (m0 mm))) (hr : Room j X.A) (hb : Binds X.K fd pn []) (ho : OpR X (binaryOp op) r) (hS : Op2S X.K X.mg (.rd 0) (.rd 0) (.rd 0) r g)
    (ha : EX X W c p1 (.rd 0) a fa) (hb' : EX X W c p2 (.rd 0) b fb) : EX X W c (p1 && p2) (.rd 0) (.BinOp a op b pos) (eOpX k mm g fa fb) := 
  ex_ownX hW T (fun h1 h2 => pe_op (OpR.or (op_own hc Mo L F hr hb (passFree hW ok)) ho) h1 h2) hS ha hb'
end
end
end PV

set_option Elab.async false
set_option linter.all false
set_option maxRecDepth 100000
set_option maxHeartbeats 0
namespace PV
noncomputable section
open PySem PySem.Spec
open PyProof.Rows L2

/-! ## 38. own equality, own minus, own text -/
section
variable {X : Cx} {C f : Addr} {k : Nat} {fd : FuncData} {pn : List Str} {sp : Sp} {E : XK}
/-- the def at f is called deeper than its caller stands -/
theorem run_in {A : Around} {pins : List (Addr × Obj)} {σ : L2.St} {H : Hp} {s : Shared} {Q : VK} {us : List Value} {vs : List V} (F : FnOk X.prog X.w X.K X.mg X.base (L2.CX X.prog X.w) k f fd pn sp) (hr : Room k A) (e0 : Env0 X.prog X.w X.K X.mg X.base A X.stack s H) (hb : Binds X.K fd pn []) (hx : Passes (L2.CX X.prog X.w) X E)
    (I : Inv X pins σ H s) (r : Vals vs us) (q : sp vs H Q E) : wpAny (model X.prog X.w) A (call (.ref f) us) (EP X pins σ Q) X.xe s := by
  have len : (us ++ []).length = pn.length := by rw [List.append_nil, ← r.length]; exact F.len _ _ _ _ q
  have bd := hb s us I.kIn len
  rw [List.append_nil] at bd
  refine wpAny_call (codeAny_mono (F.run A X.stack s H ⟨us, []⟩ us vs Q E hr e0 bd r q) ?_)
  rintro (e | fl) s' z
  · exact hx pins σ H s e s' I z
  · cases fl <;> first | exact I.after z | exact z.elim
theorem cmp_own {op : CmpOp} (hop : ∀ a b, compareOp op a b = richCompare op a b) (Mo : OpM X.K C (cmpInfo op).2.1 f) (L : ∀ T ∈ rightT, PySem.W.notFirst X.K C (.type T) = true) (F : FnOk X.prog X.w X.K X.mg X.base (L2.CX X.prog X.w) k f fd pn sp) (hr : Room k X.A) (hb : Binds X.K fd pn [])
    (hx : Passes (L2.CX X.prog X.w) X E) : OpR X (compareOp op) (rOpOwn C sp E) := by
  rintro pins s σ H _ y v u Q I rx ry ⟨a, dx, us, rfl, ea, right, q⟩
  cases (show v = .ref a from rx)
  obtain ⟨ox, od, J, _⟩ := ins_type (M := model X.prog X.w) I ea
  obtain ⟨m, hF⟩ := I.fr
  have run : wpAny (model X.prog X.w) X.A (call (.ref f) [.ref a, u]) (PySem.W.CmpBack (EP X pins σ Q)) X.xe s :=
    wpAny_mono (run_in (vs := [.ref a, y]) F hr I.env0 hb hx I (.cons rfl (.cons ry .nil)) q) (fun _ _ z => back_of z) fun _ _ z => z
  rw [hop]
  rcases right_type (M := model X.prog X.w) I ry right with ⟨b, rfl, l⟩ | ⟨T, hT, l⟩
  · exact PySem.W.cmp_K (tb := .ref C) hr.units0 hF I.ok.mod.kin J l (by simp [PySem.W.notFirst]) Mo.at_ Mo.isFn_ run
  · exact PySem.W.cmp_K (tb := .type T) hr.units0 hF I.ok.mod.kin J l (L T hT) Mo.at_ Mo.isFn_ run
/-- of one instance -/
def rOne (C : Addr) (sp : Sp) (E : XK) : V → Hp → VK → Prop := fun x H Q => ∃ a dx us, x = .ref a ∧ H a = some (.ins C dx us) ∧ sp [x] H Q E
theorem un_own (Mo : OpM X.K C "__neg__" f) (F : FnOk X.prog X.w X.K X.mg X.base (L2.CX X.prog X.w) k f fd pn sp) (hr : Room k X.A) (hb : Binds X.K fd pn []) (hx : Passes (L2.CX X.prog X.w) X E) : UnR X (unaryOp .USub) (rOne C sp E) := by
  rintro pins s σ H _ v Q I rx ⟨a, dx, us, rfl, ea, q⟩
  cases (show v = .ref a from rx)
  obtain ⟨ox, od, J, _⟩ := ins_type (M := model X.prog X.w) I ea
  obtain ⟨m, hF⟩ := I.fr
  exact PySem.W.ksp_neg hF I.ok.mod.kin J Mo.at_ Mo.isFn_ (run_in (vs := [.ref a]) F hr I.env0 hb hx I (.cons rfl .nil) q)
/-- str(x) -/
theorem str_own (Mo : OpM X.K C "__str__" f) (F : FnOk X.prog X.w X.K X.mg X.base (L2.CX X.prog X.w) k f fd pn sp) (hr : Room (k + 2) X.A) (hb : Binds X.K fd pn []) (hx : Passes (L2.CX X.prog X.w) X E) :
    CallR X (.type "str") (fun xs H Q => ∃ x, xs = [x] ∧ rOne C sp E x H fun z H' => ∃ y, z = .str y ∧ Q z H') := by
  rintro pins s σ H xs us Q I r ⟨_, rfl, a, dx, ws, rfl, ea, q⟩
  obtain ⟨u, rfl, ru⟩ := r.one
  cases (show u = .ref a from ru)
  obtain ⟨ox, od, J, _⟩ := ins_type (M := model X.prog X.w) I ea
  have hr2 : Room k X.A.in1.in1 := (show Room (k + 1) X.A.in1 from Room.in1 hr).in1
  refine PySem.W.kso_call hr2.units0 I.kIn J Mo.at_ Mo.isFn_ (wpAny_mono (run_in (vs := [.ref a]) F hr2 I.env0.in1.in1 hb hx I (.cons rfl .nil) q) (fun v s' z => ?_) fun _ _ z => z)
  obtain ⟨z, H', I', rz, y, rfl, qz⟩ := z
  obtain ⟨t, rfl⟩ := rz
  exact ⟨.str y, H', I', ⟨t, rfl⟩, qz⟩
end
def e1X (k : Str) (mm : List D → R D) (fa : M D) : M D := fa.bind fun x => if isObj k x = true then M.lift mm (M.pure [x]) else fun _ => .fail
def toStr (d : D) : M D := match d with
  | .str _ => M.pure d
  | _ => fun _ => .fail
def eStrX (k : Str) (mm : List D → R D) (fa : M D) : M D := fa.bind fun x => if isObj k x = true then (M.lift mm (M.pure [x])).bind toStr else fun _ => .fail
section
variable {X : Cx} {W : WX} {c : Fc} {p p1 p2 : Bool} {pos : Pos} {a b : Expr} {fa fb : M D} {k : Str} {E : XK} {C f : Addr} {fd : FuncData} {pn : List Str} {j : Nat} {mm : List D → R D}
theorem eE_of {σ : L2.St} (hW : Free W E) : E = WE W σ := by subst hW; rfl
theorem one_sem {to : TE} {fo : M D} (hW : Free W E) (T : ClsF X.K X.mg k C) (a2 : Sound X W c p (.rd 0) to fo) {kk : D → M D} {QQ : VK → VK} {σ : L2.St} {ρ : PV.Env} {G F H : Hp} {Q : VK} (o : Ok X.K X.mg c [] G F H σ ρ)
    (hk : ∀ d ρ1 G1 F1 H1, Ext G F G1 F1 → (p = true → ρ1 = ρ ∧ Same H H1) → Wp (kk d ρ1) (EPost X c p (.rd 0) σ ρ G F H Q) (Nx X.K X.mg W σ G F) → isObj k d = true ∧ Wp (M.lift mm (M.pure [d]) ρ1) (EPost X c p (.rd 0) σ ρ G F H (QQ Q)) (Nx X.K X.mg W σ G F))
    (w : Wp ((fo.bind kk) ρ) (EPost X c p (.rd 0) σ ρ G F H Q) (Nx X.K X.mg W σ G F)) {R : V → Hp → Prop} (fin : ∀ x H1, rOne C (spM X.K X.mg [.sh] 0 (m0 mm)) E x H1 (QQ Q) → R x H1) : to σ H R := by
  refine EX.use to a2 o (Wp.ofBindM w) (fun r hr v G1 F1 H1 fp x1 o1 q1 hp1 => ?_) fun _ z => z
  have q1 : Rp X.K X.mg G1 v r.1 := q1.1
  obtain ⟨io, hr⟩ := hk _ _ _ _ _ x1 hp1 hr
  obtain ⟨fs, eq⟩ := isObj_eq io
  rw [eq] at q1 hr
  obtain ⟨x, C', dx, us, rfl, e1, e2, _⟩ := q1.obj_inv
  rw [T.gl] at e2
  cases e2
  refine fin _ _ ⟨x, dx, us, rfl, o1.gh _ _ e1, ?_⟩
  rw [eE_of (σ := σ) hW]
  exact spm_use (m := mm) (ds := [.obj k fs]) (p := p) (ρ := ρ) (H := H) x1 o1.drop (.sh q1 .nil) hp1 hr
theorem ex_negX (hW : Free W E) (ok : Cok X W) (T : ClsF X.K X.mg k C) (Mo : OpM X.K C "__neg__" f) (F : FnOk X.prog X.w X.K X.mg X.base (L2.CX X.prog X.w) j f fd pn (spM X.K X.mg [.sh] 0 (m0 mm))) (hr : Room j X.A) (hb : Binds X.K fd pn []) (ha : EX X W c p (.rd 0) a fa) :
    EX X W c p (.rd 0) (.UnaryOp .USub a pos) (e1X k mm fa) := by
  obtain ⟨ta, a1, a2⟩ := ha
  refine ⟨_, pe_un (un_own Mo F hr hb (passFree hW ok)) a1, fun σ ρ G F0 H Q o w => ?_⟩
  refine one_sem (QQ := id) hW T a2 o (fun d ρ1 G1 F1 H1 x1 hp1 h => ?_) w fun _ _ z => z
  split at h
  · exact ⟨‹_›, h⟩
  · exact h.elim
theorem ex_strX {pp : Pos} (hW : Free W E) (ok : Cok X W) (T : ClsF X.K X.mg k C) (Mo : OpM X.K C "__str__" f) (F : FnOk X.prog X.w X.K X.mg X.base (L2.CX X.prog X.w) j f fd pn (spM X.K X.mg [.sh] 0 (m0 mm))) (hr : Room (j + 2) X.A) (hb : Binds X.K fd pn []) (hm : X.mg "str" = none) (ha : EX X W c p (.rd 0) a fa) (hg : Gl X "str" := by rfl)
    (h1 : starEach [a] X.env = (false, eval a X.env) :: starEach [] X.env := by rfl) (hpl : (backTo pos (starEach [] X.env)).any (·.1) = false := by rfl) : EX X W c p (.rd 0) (.Call (.Name "str" pp) [a] [] pos) (eStrX k mm fa) := by
  obtain ⟨ta, a1, a2⟩ := ha
  refine ⟨_, pe_callTy (str_own Mo F hr hb (passFree hW ok)) hg hm (by decide +kernel) (pa_cons a1 pa_nil h1) (by decide) (by decide) h1 hpl, fun σ ρ G F0 H Q o w => ?_⟩
  refine one_sem (mm := mm) (QQ := fun Q z H' => ∃ y, z = .str y ∧ Q z H') hW T a2 o (fun d ρ1 G1 F1 H1 x1 hp1 h => ?_) w fun x H1 z => ⟨x, rfl, z⟩
  · split at h
    · refine ⟨‹_›, (Wp.ofBindM h).imp (fun r hr => ?_) fun _ z => z⟩
      intro v G' F' H' fp x2 o2 q2 hp2
      obtain ⟨d', ρ2⟩ := r
      cases d' <;> first | exact hr.elim | skip
      have qv : Rp X.K X.mg G' v (.str _) := q2.1
      cases qv
      exact ⟨_, rfl, hr _ G' F' H' fp x2 o2 q2 hp2⟩
    · exact h.elim
/-- a == b: by the class of a, or as the built-in ones do -/
theorem ex_eqX (hm : Rm X) (hW : Free W E) (ok : Cok X W) (T : ClsF X.K X.mg k C) (Mo : OpM X.K C "__eq__" f) (L : ∀ T ∈ rightT, PySem.W.notFirst X.K C (.type T) = true) (F : FnOk X.prog X.w X.K X.mg X.base (L2.CX X.prog X.w) j f fd pn (spM X.K X.mg [.sh, .sh] 0 (m0 mm))) (hr : Room j X.A) (hb : Binds X.K fd pn [])
    (ha : EX X W c p1 (.rd 0) a fa) (hb' : EX X W c p2 (.rd 0) b fb) : EX X W c (p1 && p2) (.rd 0) (.Compare a [.Eq] [b] pos) (eOpX k mm gEq fa fb) :=
  ex_ownX hW T (fun h1 h2 => pe_cmpR (OpR.or (cmp_own (op := .Eq) (fun _ _ => rfl) Mo L F hr hb (passFree hW ok)) (op_eqD hm.u64)) h1 h2 (nomark b)) eq_S ha hb'
end

/-! ## 39. isinstance of one's own class -/
/-- what the text says for it -/
structure IsK (K : PySem.W.Frag) (C : Addr) : Prop where
  cl : PySem.W.findIn K (.ref C) "__class__" = some (some (.builtin "object.__class__"))
  gt : PySem.W.specialIn K (.builtin "object.__class__") "__get__" = some (some (.builtin "getset_descriptor.__get__"))
  tk : PySem.W.takesIn K (.builtin "object.__class__") = some true
  ob : PySem.W.mroIn K C (.type "object") = some true
  off : ∀ t : Ty, PySem.W.kitOne K (.type (tyS t)) (.ref C) = some false
def gIsK (k : Str) : D → Option D
  | .obj c _ => if c = k then some (.bl true) else none
  | d => (tyD d).map fun _ => .bl false
section
variable {X : Cx} {W : WX} {c : Fc} {p : Bool} {n : Nat} {k : Str} {C : Addr}
theorem isK_S (T : ClsF X.K X.mg k C) (Z : IsK X.K C) {G F H : Hp} {d : D} {v : V} {z : D} {Q : VK} (gf : Same G F) (fh : Same F H) (q : Rp X.K X.mg G v d) (hz : gIsK k d = some z) (fin : ∀ w G' F' H' fr, Grow G F H G' F' H' fr → Val X.K X.mg (.rd 0) G' H' z w fr → Q w H') : rIsi X.K [v, .ref C] H Q := by
  have other : ∀ a, tyD d = some a → z = .bl false → rIsi X.K [v, .ref C] H Q := fun a e ez => by
    subst ez
    exact ⟨v, .ref C, .type (tyS a), .ref C, false, rfl, .own C, tyx_of (q.mono (gf.trans fh)) e, Z.off a, fin _ G F H [] (.refl gf fh) ⟨.bl _, rfl⟩⟩
  cases d <;> first | (cases hz; done) | (cases hz; exact other _ rfl rfl) | skip
  rename_i c' fs
  by_cases ek : c' = k
  · subst ek
    have hz2 : gIsK c' (.obj c' fs) = some (.bl true) := if_pos rfl
    rw [hz2] at hz
    cases hz
    obtain ⟨x, C', dx, us, rfl, e1, e2, _⟩ := q.obj_inv
    rw [T.gl] at e2
    cases e2
    exact ⟨.ref x, .ref C, .ref C, .ref C, true, rfl, .own C, .base (.ins ((gf.trans fh) _ _ e1) T.cls Z.cl Z.gt Z.tk Z.ob), by unfold PySem.W.kitOne; rw [beq_self_eq_true]; rfl, fin _ G F H [] (.refl gf fh) ⟨.bl _, rfl⟩⟩
  · have hz2 : gIsK k (.obj c' fs) = none := if_neg ek
    rw [hz2] at hz
    cases hz
theorem ex_isK {a : Expr} {fa : M D} {pp pq pos : Pos} (T : ClsF X.K X.mg k C) (Z : IsK X.K C) (hm : X.mg "isinstance" = none) (ha : EX X W c p (.rd 0) a fa) (hg : Gl X "isinstance" := by rfl) (hg2 : Gl X k := by rfl) (hd : (k == ("__debug__" : Str)) = false := by decide)
    (h1 : starEach [a, .Name k pq] X.env = (false, eval a X.env) :: starEach [.Name k pq] X.env := by rfl) (h2 : starEach [.Name k pq] X.env = (false, eval (.Name k pq) X.env) :: starEach [] X.env := by rfl) (hpl : (backTo pos (starEach [.Name k pq] X.env)).any (·.1) = false := by rfl) :
    EX X W c p (.rd 0) (.Call (.Name "isinstance" pp) [a, .Name k pq] [] pos) (e1 (gIsK k) fa) := by
  obtain ⟨te, e1, e2⟩ := ha
  refine ⟨_, pe_callB call_isi hg hm (by decide +kernel) (pa_cons e1 (pa_cons (pe_glob (v := .ref C) hg2 T.gl rfl hd) pa_nil h2) h1) (by decide) (by decide) h1 hpl, fun σ ρ G F H Q o w => ?_⟩
  refine EX.use te e2 o (Wp.ofBindM w) (fun r1 h1 v1 G1 F1 H1 fp1 x1 o1 q1 hp1 => ?_) fun _ z => z
  unfold M.ofO at h1
  split at h1
  · rename_i z hz
    exact isK_S T Z o1.gf o1.fh q1.1 hz fun wv G3 F3 H3 fr g3 q3 => h1 wv G3 F3 H3 fr (x1.trans g3.x) (o1.drop.grown g3) q3 fun hp => ⟨(hp1 hp).1, (hp1 hp).2.trans g3.hh⟩
  · exact h1.elim
end

/-! ## 40. f-strings of texts and ints -/
def gFmt : D → Option D
  | .str y => if small y.length = true then some (.str y) else none
  | .int i => if i.natAbs.log2 < 1920 then some (.str (toString i)) else none
  | _ => none
def strOf? : D → Option Str
  | .str y => some y
  | _ => none
theorem strOf_eq {d : D} {y : Str} (h : strOf? d = some y) : d = .str y := by
  cases d <;> first | (cases h; done) | skip
  cases h
  rfl
def eJs : List (M D) → Str → M D
  | [], acc => M.pure (.str acc)
  | g :: r, acc => g.bind fun d => match strOf? d with
    | some y => if small (acc ++ y).length = true then eJs r (acc ++ y) else fun _ => .fail
    | none => fun _ => .fail
section
variable {X : Cx} {W : WX} {c : Fc} {p : Bool} {n : Nat} {pos : Pos}
theorem szl_small {n : Nat} (h : small n = true) : n ≤ sizeLine := szl (of_decide_eq_true h)
theorem ex_fmt {e : Expr} {fe : M D} (h : EX X W c p (.rd n) e fe) : EX X W c p (.rd 0) (.FormattedValue e (-1) none pos) (e1 gFmt fe) := by
  refine ex_1 (r := fun x H1 Q => (∃ y : Str, x = .str y ∧ y.length ≤ sizeLine ∧ Q (.str y) H1) ∨ ∃ i : Int, x = .int i ∧ i.natAbs.log2 < 1920 ∧ Q (.str (toString i)) H1) (fun h => pe_fmt h) (fun G F H d v z Q gf fh q hz fin => ?_) h wrd
  have q := q.1.rp (gf.trans fh)
  cases q <;> first | (cases hz; done) | skip
  · have hz : (if _ then _ else _) = some z := hz
    split at hz
    · rename_i hl
      cases hz
      exact .inr ⟨_, rfl, hl, fin _ G F H [] (.refl gf fh) ⟨.str _, rfl⟩⟩
    · cases hz
  · have hz : (if _ then _ else _) = some z := hz
    split at hz
    · rename_i hl
      cases hz
      exact .inl ⟨_, rfl, szl_small hl, fin _ G F H [] (.refl gf fh) ⟨.str _, rfl⟩⟩
    · cases hz
inductive FJ (X : Cx) (W : WX) (c : Fc) : List Expr → List (M D) → Prop where
  | nil : FJ X W c [] []
  | cons {p : Bool} {e : Expr} {es : List Expr} {g : M D} {gs : List (M D)} (h : EX X W c p (.rd 0) e g) (r : FJ X W c es gs) : FJ X W c (e :: es) (g :: gs)
theorem fj_sem {es : List Expr} {gs : List (M D)} (h : FJ X W c es gs) : ∃ ts, PJ X es ts ∧ ∀ (σ : L2.St) (ρ : PV.Env) (G F H : Hp) (Q : VK) (acc : Str), Ok X.K X.mg c [] G F H σ ρ →
    Wp (eJs gs acc ρ) (EPost X c false (.rd 0) σ ρ G F H Q) (Nx X.K X.mg W σ G F) → tJs ts acc σ H fun out H1 => Q (.str out) H1 := by
  induction h with
  | nil => exact ⟨[], .nil, fun σ ρ G F H Q acc o w => w (.str acc) G F H [] (.refl _ _) o ⟨.str _, rfl⟩ fun z => nomatch z⟩
  | cons h r ih =>
    obtain ⟨ts, j, sem⟩ := ih
    obtain ⟨t, h1, h2⟩ := h
    refine ⟨t :: ts, .cons h1 j, fun σ ρ G F H Q acc o w => ?_⟩
    refine EX.use t h2 o (Wp.ofBindM w) (fun r hr v G1 F1 H1 fp x1 o1 q1 _ => ?_) fun _ z => z
    have q1 : Rp X.K X.mg G1 v r.1 := q1.1
    cases ey : strOf? r.1 with
    | none =>
      rw [ey] at hr
      exact hr.elim
    | some y =>
      have ed := strOf_eq ey
      rw [ey] at hr
      dsimp only at hr
      split at hr
      · rename_i hl
        rw [ed] at q1
        cases q1
        refine ⟨y, rfl, szl_small hl, sem σ _ G1 F1 H1 Q _ o1.drop ?_⟩
        exact (Wp.nxExt x1 hr).imp (fun r q v G' F' H' fp x o vl _ => q v G' F' H' fp (x1.trans x) o vl fun z => nomatch z) fun _ z => z
      · exact hr.elim
theorem ex_fstr {v1 v2 : Expr} {rest : List Expr} {gs : List (M D)} (h : FJ X W c (v1 :: v2 :: rest) gs) : EX X W c false (.rd 0) (.JoinedStr (v1 :: v2 :: rest) pos) (eJs gs Str.empty) := by
  obtain ⟨ts, j, sem⟩ := fj_sem h
  exact ⟨_, pe_joined j, fun σ ρ G F H Q o w => sem σ ρ G F H Q _ o w⟩
end
end
end PV

set_option Elab.async false
set_option linter.all false
set_option maxRecDepth 100000
set_option maxHeartbeats 0
namespace PV
noncomputable section
open PySem PySem.Spec
open PyProof.Rows L2

/-! ## 41. methods: their promises, and what the text says of them -/
structure MetAt (K : PySem.W.Frag) (C : Addr) (m qual : Str) (st : Stmt) (pn : List Str) (dvs : List V) (f : Addr) (fd : FuncData) : Prop where
  F : FunD K m qual (defArgs st) (defBody st) (defScope st) dvs [] f fd
  me : Meth K C m f
  b : Binds K fd pn []
section
variable {P : Program} {w : World} {K : PySem.W.Frag} {mg : Str → Option Value} {base : Heap} {x qual : Str} {st : Stmt} {f C : Addr} {fd : FuncData} {N pn : List Str} {k rk : Nat} {ps : List Pm} {ls : List Kd} {s : SM} {dvs : List V} {kws : List (Str × V)}
theorem fn_metI (F : FunD K x qual (defArgs st) (defBody st) (defScope st) dvs kws f fd) (S : FnScope N pn (defScope st)) (hl : pn.length = ps.length) (hb : BodyOk P w K mg base qual st f N k rk ps ls s) {n : Nat} (hn : N.length = n) {m : List D → R (D × List D)} (hm : m = runB n ps rk s) :
    FnOk P w K mg base (L2.CX P w) (k + 1) f fd pn (spM K mg ps rk m) := by
  rw [hm, ← hn]
  exact fn_bodyG (fun len body => F.ok S len body) hl hb
theorem fn_metP (F : FunD K x qual (defArgs st) (defBody st) (defScope st) dvs kws f fd) (S : FnScope N pn (defScope st)) (hl : pn.length = ps.length) (hb : BodyOk P w K mg base qual st f N k rk ps ls s) {n : Nat} (hn : N.length = n) {m : List D → R D} (hm : m = runF n rk s) (hp : noIoP ps = true) :
    FnOk P w K mg base (L2.CX P w) (k + 1) f fd pn (spM K mg ps rk (m0 m)) := by
  have h := fn_metI (m := runB n ps rk s) F S hl hb hn rfl
  rw [hm]
  exact PV.FnOk.plain h hp
theorem MetAt.op (h : MetAt K C x qual st pn dvs f fd) : OpM K C x f := ⟨h.me.at_, h.me.fn⟩
end
/-- one method, out of the facts -/
def mD (k m qual : Str) (st : Stmt) (dfl : List He.Dv) : He.DefD := ⟨(k, some m), m, qual, defArgs st, defBody st, defScope st, dfl, []⟩
section
variable {K : PySem.W.Frag} {k m qual : Str} {st : Stmt} {pn : List Str}
theorem met_at0 (e : He.fnW K (k, some m) = (mD k m qual st []).val) (c : (mD k m qual st []).ok K = true) (cm : (He.Fa.meth k m).ok K = true)
    (hb : ∀ (kV doc pm : Value) (an : Option Addr) (cdv ct : Value) (us : List Value), us.length = pn.length → bindArgs (PySem.W.fnOf m qual (defArgs st) (defBody st) (defScope st) .none kV doc pm an cdv ct) ⟨us, []⟩ = pure (pn.zip us)) : ∃ fd, MetAt K (He.ga K k) m qual st pn [] (He.ma K (He.ga K k) m) fd := by
  obtain ⟨fd, F⟩ := He.DefD.funD e c
  exact ⟨fd, F, He.meth_ok cm, F.bindsN hb⟩
/-- a method with one default, an int -/
theorem met_at1 (i : Int) (n : Nat) (hn : pn.length = n + 1) (e : He.fnW K (k, some m) = (mD k m qual st [.int i]).val) (c : (mD k m qual st [.int i]).ok K = true) (cm : (He.Fa.meth k m).ok K = true)
    (h0 : ∀ (T : Addr) (kV doc pm : Value) (an : Option Addr) (cdv ct : Value) (us its : List Value), us.length = n → its.length = 1 → ∃ k, bindArgs (PySem.W.fnOf m qual (defArgs st) (defBody st) (defScope st) (.ref T) kV doc pm an cdv ct) ⟨us, []⟩ = seqItems? (.ref T) >>= k ∧ k (some its.toArray) = pure (pn.zip (us ++ its)))
    (h1 : ∀ (T : Addr) (kV doc pm : Value) (an : Option Addr) (cdv ct : Value) (us its : List Value), us.length = n + 1 → its.length = 1 → ∃ k, bindArgs (PySem.W.fnOf m qual (defArgs st) (defBody st) (defScope st) (.ref T) kV doc pm an cdv ct) ⟨us, []⟩ = seqItems? (.ref T) >>= k ∧ k (some its.toArray) = pure (pn.zip us)) :
    ∃ fd, MetAt K (He.ga K k) m qual st pn [.int i] (He.ma K (He.ga K k) m) fd ∧ ∃ ds, Vals [V.int i] ds ∧ Binds K fd pn ds := by
  obtain ⟨fd, F⟩ := He.DefD.funD e c
  have F' : FunD K m qual (defArgs st) (defBody st) (defScope st) [.int i] [] (He.ma K (He.ga K k) m) fd := F
  obtain ⟨ds, r, b⟩ := F'.binds1 (ps := pn) n 0 (by simp) (by rw [hn]; rfl) fun T kV doc pm an cdv ct us its l1 l2 => h0 T kV doc pm an cdv ct us its l1 l2
  obtain ⟨ds', r', b'⟩ := F'.binds1 (ps := pn) (n + 1) 1 (by simp) (by rw [hn]; rfl) fun T kV doc pm an cdv ct us its l1 l2 => by
    obtain ⟨k, e1, e2⟩ := h1 T kV doc pm an cdv ct us its l1 l2
    have l2' : its.length = 1 := l2
    have z : its.drop 1 = [] := List.drop_eq_nil_of_le (by omega)
    exact ⟨k, e1, by rw [z, List.append_nil]; exact e2⟩
  cases r'
  exact ⟨fd, ⟨F', He.meth_ok cm, b'⟩, ds, r, b⟩
end
theorem dk_at {K : PySem.W.Frag} {l : List He.DefD} (c : l.all (He.DefD.ok K) = true) (i : Nat) {d : He.DefD} (h : l[i]? = some d) : d.ok K = true := List.all_eq_true.mp c d (List.mem_of_getElem? h)
theorem dw_at {K : PySem.W.Frag} {l : List He.DefD} (c : l.map (fun d => He.fnW K d.at_) = l.map He.DefD.val) (i : Nat) {d : He.DefD} (h : l[i]? = some d) : He.fnW K d.at_ = d.val := by
  have z := congrArg (fun l => l[i]?) c
  simp only [List.getElem?_map, h, Option.map_some, Option.some.injEq] at z
  exact z
/-! ### what is checked of a class of one's own -/
def leftB (K : PySem.W.Frag) (C : Addr) (nm T : String) : Bool := (match PySem.W.findIn K (.ref C) (dunderR nm) with
    | some none => true
    | some (some (.ref _)) => true
    | _ => false) && ((PySem.W.findIn K (.type T) (PySem.dunder nm)).isSome && ((PySem.W.findIn K (.type T) (dunderR nm)).isSome && decide (PySem.W.subIn K (.type T) (.ref C) = some false)))
theorem leftB_ok {K : PySem.W.Frag} {C : Addr} {nm T : String} (h : leftB K C nm T = true) : LeftOwn K C nm T := by
  unfold leftB at h
  rw [Bool.and_eq_true, Bool.and_eq_true, Bool.and_eq_true] at h
  obtain ⟨h1, h2, h3, h4⟩ := h
  refine ⟨?_, Option.isSome_iff_exists.mp h2, Option.isSome_iff_exists.mp h3, of_decide_eq_true h4⟩
  split at h1
  · exact ⟨_, ‹_›, .inl rfl⟩
  · exact ⟨_, ‹_›, .inr ⟨_, rfl⟩⟩
  · cases h1
def allTy : List Ty := [.non, .bl, .int, .str, .tup, .lst, .dct]
def isKB (K : PySem.W.Frag) (C : Addr) : Bool := He.eqO (PySem.W.findIn K (.ref C) "__class__") (some (some (.builtin "object.__class__"))) && (He.eqO (PySem.W.specialIn K (.builtin "object.__class__") "__get__") (some (some (.builtin "getset_descriptor.__get__"))) &&
  (decide (PySem.W.takesIn K (.builtin "object.__class__") = some true) && (decide (PySem.W.mroIn K C (.type "object") = some true) && allTy.all fun t => decide (PySem.W.kitOne K (.type (tyS t)) (.ref C) = some false))))
theorem isKB_ok {K : PySem.W.Frag} {C : Addr} (h : isKB K C = true) : IsK K C := by
  unfold isKB at h
  rw [Bool.and_eq_true, Bool.and_eq_true, Bool.and_eq_true, Bool.and_eq_true] at h
  obtain ⟨h1, h2, h3, h4, h5⟩ := h
  exact ⟨He.eqO_ok h1, He.eqO_ok h2, of_decide_eq_true h3, of_decide_eq_true h4, fun t => of_decide_eq_true (List.all_eq_true.mp h5 t (by cases t <;> decide))⟩
structure OwnF (K : PySem.W.Frag) (C : Addr) (ops : List String) : Prop where
  first : PySem.W.selfFirst K C = true
  left : ∀ nm ∈ ops, ∀ T ∈ rightT, LeftOwn K C nm T
  eq : ∀ T ∈ rightT, PySem.W.notFirst K C (.type T) = true
  is : IsK K C
def ownB (K : PySem.W.Frag) (C : Addr) (ops : List String) : Bool := PySem.W.selfFirst K C && ((ops.all fun nm => rightT.all fun T => leftB K C nm T) && ((rightT.all fun T => PySem.W.notFirst K C (.type T)) && isKB K C))
theorem ownB_ok {K : PySem.W.Frag} {C : Addr} {ops : List String} (h : ownB K C ops = true) : OwnF K C ops := by
  unfold ownB at h
  rw [Bool.and_eq_true, Bool.and_eq_true, Bool.and_eq_true] at h
  obtain ⟨h1, h2, h3, h4⟩ := h
  exact ⟨h1, fun nm hn T hT => leftB_ok (List.all_eq_true.mp (List.all_eq_true.mp h2 nm hn) T hT), fun T hT => List.all_eq_true.mp h3 T hT, isKB_ok h4⟩
/-! ### what is checked of Refused -/
def sixSlots : List (Option Value) → Bool
  | [_, _, _, _, some (.builtin n), _] => decide (n = "ValueError.__new__")
  | _ => false
theorem sixSlots_eq {l : List (Option Value)} (h : sixSlots l = true) : ∃ a b c d e, l = [a, b, c, d, some (.builtin "ValueError.__new__"), e] := by
  unfold sixSlots at h
  split at h
  · have en := of_decide_eq_true h
    rw [en]
    exact ⟨_, _, _, _, _, rfl⟩
  · cases h
def mroB (C : Addr) : List Value → Bool
  | .ref c :: bm => decide (c = C) && PySem.HandSPX.refsVE bm
  | _ => false
theorem mroB_eq {C : Addr} {l : List Value} (h : mroB C l = true) : ∃ bm, l = .ref C :: bm ∧ PySem.HandSPX.refsVE bm = true := by
  unfold mroB at h
  split at h
  · rw [Bool.and_eq_true] at h
    have ec := of_decide_eq_true h.1
    rw [ec]
    exact ⟨_, rfl, h.2⟩
  · cases h
def kindB (C : Addr) (o : Obj) : Bool := decide (o.cls = .type "type") && (sixSlots o.slots.toList && match o.data with
  | .cls cd => mroB C cd.mro && (cd.hasDict && !cd.hasDel)
  | _ => false)
theorem kindB_eq {C : Addr} {o : Obj} (h : kindB C o = true) : ∃ nm q N bs bm sn sub ab col dd k0 k1 k2 k3 k5, o = excClassObj nm q C N bs bm true sn sub ab col dd k0 k1 k2 k3 k5 "ValueError.__new__" ∧ PySem.HandSPX.refsVE bm = true := by
  obtain ⟨oc, od, dt, ⟨sl⟩⟩ := o
  unfold kindB at h
  rw [Bool.and_eq_true, Bool.and_eq_true] at h
  obtain ⟨h1, h2, h3⟩ := h
  have e1 : oc = .type "type" := of_decide_eq_true h1
  obtain ⟨a, b, c, d, e, e2⟩ := sixSlots_eq h2
  have e2' : sl = [a, b, c, d, some (.builtin "ValueError.__new__"), e] := e2
  clear e2
  cases dt <;> first | (cases h3; done) | skip
  rename_i cd
  obtain ⟨c1, c2, c3, c4, c5, c6, c7, c8, c9, c10, c11⟩ := cd
  dsimp only at h3
  rw [Bool.and_eq_true, Bool.and_eq_true, Bool.not_eq_true'] at h3
  obtain ⟨h4, h5, h6⟩ := h3
  obtain ⟨bm, e3, h7⟩ := mroB_eq h4
  subst e1 e2' e3 h5 h6
  exact ⟨_, _, _, _, bm, _, _, _, _, _, _, _, _, _, _, rfl, h7⟩
def oexB (K : PySem.W.Frag) (C : Addr) : Bool := (match K.lookup C with
  | some o => kindB C o
  | none => false) && (He.eqO (PySem.W.findIn K (.ref C) "__setattr__") (some (some (.builtin "object.__setattr__"))) && (decide (PySem.W.subIn K (.ref C) (.type "BaseException") = some true) &&
    (decide (PySem.W.typeIn K (.ref C) = some (.type "type")) && PySem.W.keepIn K (.ref C))))
theorem oexB_ok {K : PySem.W.Frag} {C : Addr} (h : oexB K C = true) : OexC K C := by
  unfold oexB at h
  rw [Bool.and_eq_true, Bool.and_eq_true, Bool.and_eq_true, Bool.and_eq_true] at h
  obtain ⟨h1, h2, h3, h4, h5⟩ := h
  refine ⟨?_, He.eqO_ok h2, of_decide_eq_true h3, of_decide_eq_true h4, h5⟩
  cases q : K.lookup C with
  | none => rw [q] at h1; cases h1
  | some o =>
    rw [q] at h1
    obtain ⟨nm, q', N, bs, bm, sn, sub, ab, col, dd, k0, k1, k2, k3, k5, e, hb⟩ := kindB_eq h1
    exact ⟨nm, q', N, bs, bm, sn, sub, ab, col, dd, k0, k1, k2, k3, k5, by rw [e], hb⟩
def errB (K : PySem.W.Frag) (cn : Str) : Bool := He.eqO (PySem.W.specialIn K (.ref (He.ga K "Fault")) "__getattribute__") (some (some (.builtin "type.__getattribute__"))) && (PySem.W.readsIn K (He.ga K "Fault") (.type "type") &&
  ((match PySem.W.findCls K (.ref (He.ga K "Fault")) (.type "type") "__init__" with
    | some (.val v) => decide (v = .builtin "ValueError.__init__")
    | _ => false) && (oexB K (He.ga K cn) && decide (PySem.W.typeIn K (.ref (He.ma K (He.ga K cn) "__init__")) = some (.type "function")))))
section
variable {mg : Str → Option Value} {K : PySem.W.Frag} {h : Heap}
theorem errK_at (cn fl : Str) (X : K.In h) (G : h.Ns mainGlobals mg) (c1 : (He.Fa.glo "Fault").ok K = true) (c2 : (He.Fa.glo cn).ok K = true) (c3 : (He.Fa.noat cn fl).ok K = true) (c4 : (He.Fa.meth cn "__init__").ok K = true) (c5 : errB K cn = true) :
    ErrK K mg cn fl (He.ga K "Fault") (He.ga K cn) (He.ma K (He.ga K cn) "__init__") := by
  unfold errB at c5
  rw [Bool.and_eq_true, Bool.and_eq_true, Bool.and_eq_true, Bool.and_eq_true] at c5
  obtain ⟨h1, h2, h3, h4, h5⟩ := c5
  refine ⟨He.glo_ok X G c1, He.glo_ok X G c2, He.eqO_ok h1, h2, ?_, oexB_ok h4, He.noat_ok c3, (He.meth_ok c4).at_, of_decide_eq_true h5⟩
  cases q : PySem.W.findCls K (.ref (He.ga K "Fault")) (.type "type") "__init__" with
  | none => rw [q] at h3; cases h3
  | some r =>
    rw [q] at h3
    cases r <;> first | (cases h3; done) | skip
    have e := of_decide_eq_true h3
    rw [e]
theorem cls_at (X : K.In h) (G : h.Ns mainGlobals mg) {k : Str} (c1 : (He.Fa.glo k).ok K = true) (c2 : (He.Fa.cls k).ok K = true) : ClsF K mg k (He.ga K k) := ⟨He.glo_ok X G c1, He.cls_ok c2⟩
end
/-! the def of Refused.__init__ -/
section
variable {P : Program} {w : World} {K : PySem.W.Frag} {mg : Str → Option Value} {base : Heap} {CF CR fI : Addr} {fd : FuncData} {st : Stmt}
theorem plain_of {x qual : Str} {f : Addr} {kws : List (Str × V)} (F : FunD K x qual (defArgs st) (defBody st) (defScope st) [] kws f fd) : Fun K x qual st f fd := by
  obtain ⟨oc, od, dV, kV, doc, pm, an, cdv, ct, osl, e, l, cc, hd, _⟩ := F.ex
  have ed : dV = .none := by
    rcases hd with ⟨_, z⟩ | ⟨z, _⟩
    · exact z
    · exact (z rfl).elim
  rw [ed] at e
  exact ⟨⟨oc, od, kV, doc, pm, an, cdv, ct, osl, e, l, cc⟩, F.kp⟩
end
end
end PV

set_option Elab.async false
set_option linter.all false
set_option maxRecDepth 100000
set_option maxHeartbeats 0
namespace PV
noncomputable section
open PySem PySem.Spec
open PyProof.Rows L2

/-! ## 42. three names at once -/
section
variable {X : Cx} {W : WX} {c : Fc} {rk : Nat}
theorem sx_par3 (ok : Cok X W) (i j l : Nat) {ki kj kl : Nat} {x y z : Str} {a b e : Expr} {f : M (List D)} {px py pz pt : Pos} {kt k2 pt2} {pos : Pos} (h : AP X W c [ki, kj, kl] [a, b, e] f) (hN : X.N.Nodup) (hij : i ≠ j ∧ i ≠ l ∧ j ≠ l) (hki : c.kd i = .own ki := by rfl) (hkj : c.kd j = .own kj := by rfl) (hkl : c.kd l = .own kl := by rfl)
    (hioi : noIo c i = true := by rfl) (hioj : noIo c j = true := by rfl) (hiol : noIo c l = true := by rfl) (hi : X.N[i]? = some x := by rfl) (hj : X.N[j]? = some y := by rfl) (hl : X.N[l]? = some z := by rfl) (hx : X.env.scope.names.lookup x = some .local := by rfl) (hy : X.env.scope.names.lookup y = some .local := by rfl) (hz : X.env.scope.names.lookup z = some .local := by rfl)
    (hw : swappedStores [.Tuple [.Name x px, .Name y py, .Name z pz] kt pt] (.Tuple [a, b, e] k2 pt2) X.env = pure (some [x, y, z]) := by rfl) (hs : swapsWithSole [.Tuple [.Name x px, .Name y py, .Name z pz] kt pt] (.Tuple [a, b, e] k2 pt2) pos.line X.env = pure false := by rfl) :
    SX X W c rk (.Assign [.Tuple [.Name x px, .Name y py, .Name z pz] kt pt] (.Tuple [a, b, e] k2 pt2) pos) (sPar [i, j, l] f) := by
  obtain ⟨ta, h1, h2⟩ := h
  refine ⟨_, ps_par3 ok.calm hN hi hj hl hij.1 hij.2.1 hij.2.2 hx hy hz h1 hw hs, fun D σ ρ G F H o w => ?_⟩
  refine h2 σ ρ G F H _ o ((WpS.ofDo w).imp (fun r hr => ?_) fun _ z => Nx.toS z)
  obtain ⟨ds, ρ1⟩ := r
  rintro vs G1 F1 H1 fp x1 o1 vl
  have vl : VL X.K X.mg G1 H1 [ki, kj, kl] ds vs fp := vl
  rcases vl with _ | ⟨q1, _ | ⟨q2, _ | ⟨q3, _ | _⟩⟩⟩
  have p1 := Ok.set (T := _) o1 (i := i) (by rw [hki]; exact q1) hioi
  have p2 := Ok.set (T := _) p1 (i := j) (by rw [hkj]; exact q2) hioj
  have p3 := Ok.set (T := _) p2 (i := l) (by rw [hkl]; exact q3) hiol
  refine ⟨_, _, _, rfl, hr _ G1 F1 H1 x1 ?_ (by simp only [List.length_set])⟩
  rw [setAll_cons, setAll_cons, setAll_cons, setAll_nil]
  exact p3
end
/-! the built-in parts of the three operators that a class may have -/
section
variable {K : PySem.W.Frag} {mg : Str → Option Value}
theorem addI_S : Op2S K mg (.rd 0) (.rd 0) (.rd 0) (rAddA K) gAdd := add_S
theorem subI_S : Op2S K mg (.rd 0) (.rd 0) (.rd 0) (rI (fun _ _ => True) fun i j => .int (i - j)) gSub := op2_int (k := fun i j => .int (i - j)) (fun x y z h => by
  obtain ⟨i, j, e1, e2, h⟩ := int_inv (g := fun i j => some (.int (i - j))) h
  exact ⟨i, j, e1, e2, trivial, (Option.some.inj h).symm⟩) fun i j _ => .int _
theorem mulI_S : Op2S K mg (.rd 0) (.rd 0) (.rd 0) (rI (fun i j => mulOk i j = true) fun i j => .int (i * j)) gMul := op2_int (k := fun i j => .int (i * j)) (fun x y z h => by
  obtain ⟨i, j, e1, e2, h⟩ := int_inv (g := fun i j => if mulOk i j = true then some (.int (i * j)) else none) h
  by_cases hc : mulOk i j = true
  · rw [if_pos hc] at h
    exact ⟨i, j, e1, e2, hc, (Option.some.inj h).symm⟩
  · rw [if_neg hc] at h
    cases h) fun i j _ => .int _
theorem addI_op {X : Cx} : OpR X (binaryOp .Add) (rAddA X.K) := op_addA
theorem subI_op {X : Cx} : OpR X (binaryOp .Sub) (rI (fun _ _ => True) fun i j => .int (i - j)) := OpR.imp op_sub rI0_I
theorem mulI_op {X : Cx} : OpR X (binaryOp .Mult) (rI (fun i j => mulOk i j = true) fun i j => .int (i * j)) := mul_wide
end
/-! ## 43. a class's statement, its body -/
def clsS : Stmt → List Stmt
  | .ClassDef _ _ _ b _ _ _ _ _ _ _ => b
  | _ => []
/-! ## 44. what leaves a slot alone -/
section
variable {i : Nat} {k m : Str}
theorem fr_eOpX {mm : List D → R D} {g : D → D → Option D} {fa fb : M D} (h : Fr i fa) (h' : Fr i fb) : Fr i (eOpX k mm g fa fb) := fr_bind h fun _ => fr_bind h' fun _ => fr_ite (fr_ite (fr_lift fr_pure) fr_fail) fr_ofO
theorem fr_e1X {mm : List D → R D} {fa : M D} (h : Fr i fa) : Fr i (e1X k mm fa) := fr_bind h fun _ => fr_ite (fr_lift fr_pure) fr_fail
theorem fr_toStr {d : D} : Fr i (toStr d) := by
  unfold toStr
  split
  · exact fr_pure
  · exact fr_fail
theorem fr_eStrX {mm : List D → R D} {fa : M D} (h : Fr i fa) : Fr i (eStrX k mm fa) := fr_bind h fun _ => fr_ite (fr_bind (fr_lift fr_pure) fun _ => fr_toStr) fr_fail
theorem fr_eMake {mI : List D → R (D × List D)} {dflt : List D} {fa : M (List D)} (h : Fr i fa) : Fr i (eMake k mI dflt fa) := by
  refine fr_bind h fun ds => ?_
  generalize mI (.obj k [] :: (ds ++ dflt)) = r
  rcases r with ⟨d, os⟩ | x | _
  · cases d <;> first | exact fr_fail | skip
    rcases os with _ | ⟨y, _ | ⟨_, _⟩⟩
    · exact fr_fail
    · exact fr_pure
    · exact fr_fail
  · exact ⟨fun _ _ _ _ _ e => (nomatch e), fun _ _ _ e => (nomatch e)⟩
  · exact fr_fail
theorem fr_eMethC {mm : List D → R D} {fo : M D} {fa : M (List D)} (h : Fr i fo) (h' : Fr i fa) : Fr i (eMethC k m mm fo fa) := by
  refine fr_bind h fun x => ?_
  cases x <;> first | exact fr_fail | exact fr_ite (fr_lift h') fr_fail
end
end
end PV

set_option Elab.async false
set_option linter.all false
set_option maxRecDepth 100000
set_option maxHeartbeats 0
namespace PV
noncomputable section
open PySem PySem.Spec
open PyProof.Rows L2

/-! ## 45. mirrors worked out by hand: what each part gives -/
def upM {α : Type} (ρ : PV.Env) : R α → R (α × PV.Env)
  | .ok d => .ok (d, ρ)
  | .exc x => .exc x
  | .fail => .fail
section
variable {ρ ρ1 ρ2 ρ3 : PV.Env} {fa fb : M D} {t u : M Bool} {x y : Int} {v w : D} {b c : Bool}
theorem var_of {i : Nat} (h : look ρ i = some v) : eVar i ρ = .ok (v, ρ) := by
  simp [eVar, h]
theorem e1_of {g : D → Option D} (ha : fa ρ = .ok (v, ρ1)) (hg : g v = some w) : e1 g fa ρ = .ok (w, ρ1) := by
  simp [e1, M.bind, M.ofO, M.pure, ha, hg]
theorem e2_of {g : D → D → Option D} {z : D} (ha : fa ρ = .ok (v, ρ1)) (hb : fb ρ1 = .ok (w, ρ2)) (hg : g v w = some z) : e2 g fa fb ρ = .ok (z, ρ2) := by
  simp [e2, M.bind, M.ofO, M.pure, ha, hb, hg]
theorem e1L_of {g : D → Option D} (ha : fa ρ = .ok (v, ρ1)) (hg : g v = some w) : e1L g fa ρ = .ok (w, ρ1) := by
  simp [e1L, eL, PV.g1, aCons, aNil, M.bind, M.ofO, M.pure, ha, hg]
theorem mul_of (ha : fa ρ = .ok (.int x, ρ1)) (hb : fb ρ1 = .ok (.int y, ρ2)) (h : mulOk x y = true) : e2 gMul fa fb ρ = .ok (.int (x * y), ρ2) := e2_of ha hb (if_pos h)
theorem add_of (ha : fa ρ = .ok (.int x, ρ1)) (hb : fb ρ1 = .ok (.int y, ρ2)) : e2 gAdd fa fb ρ = .ok (.int (x + y), ρ2) := e2_of ha hb rfl
theorem sub_of (ha : fa ρ = .ok (.int x, ρ1)) (hb : fb ρ1 = .ok (.int y, ρ2)) : e2 PV.gSub fa fb ρ = .ok (.int (x - y), ρ2) := e2_of ha hb rfl
theorem neg_of (ha : fa ρ = .ok (.int x, ρ1)) : e1 gNeg fa ρ = .ok (.int (-x), ρ1) := e1_of ha rfl
theorem abs_of (ha : fa ρ = .ok (.int x, ρ1)) : e1L gAbs fa ρ = .ok (.int (if x < 0 then -x else x), ρ1) := e1L_of ha rfl
theorem eqI_of (ha : fa ρ = .ok (.int x, ρ1)) (hb : fb ρ1 = .ok (.int y, ρ2)) : e2 gEq fa fb ρ = .ok (.bl (decide (x = y)), ρ2) := e2_of ha hb rfl
theorem neI_of (ha : fa ρ = .ok (.int x, ρ1)) (hb : fb ρ1 = .ok (.int y, ρ2)) : e2 gNe fa fb ρ = .ok (.bl (!decide (x = y)), ρ2) := e2_of ha hb rfl
theorem ltI_of (ha : fa ρ = .ok (.int x, ρ1)) (hb : fb ρ1 = .ok (.int y, ρ2)) : e2 gLt fa fb ρ = .ok (.bl (decide (x < y)), ρ2) := e2_of ha hb rfl
theorem gtI_of (ha : fa ρ = .ok (.int x, ρ1)) (hb : fb ρ1 = .ok (.int y, ρ2)) : e2 gGt fa fb ρ = .ok (.bl (decide (y < x)), ρ2) := e2_of ha hb rfl
theorem nil_of : aNil ρ = .ok ([], ρ) := rfl
theorem cons_of {fs : M (List D)} {l : List D} (ha : fa ρ = .ok (v, ρ1)) (hb : fs ρ1 = .ok (l, ρ2)) : aCons fa fs ρ = .ok (v :: l, ρ2) := by
  simp [aCons, M.bind, M.pure, ha, hb]
theorem two_of (ha : fa ρ = .ok (v, ρ1)) (hb : fb ρ1 = .ok (w, ρ2)) : aCons fa (aCons fb aNil) ρ = .ok ([v, w], ρ2) := cons_of ha (cons_of hb nil_of)
theorem lift_up {m : List D → R D} {fs : M (List D)} {l : List D} (ha : fs ρ = .ok (l, ρ1)) : M.lift m fs ρ = upM ρ1 (m l) := by
  unfold M.lift
  rw [M.bind_of ha]
  cases m l <;> rfl
theorem call_up {m : List D → R D} {fs : M (List D)} {l : List D} (ha : fs ρ = .ok (l, ρ1)) : eCall m fs ρ = upM ρ1 (m l) := lift_up ha
theorem call_of {m : List D → R D} {fs : M (List D)} {l : List D} (ha : fs ρ = .ok (l, ρ1)) (h : m l = .ok v) : eCall m fs ρ = .ok (v, ρ1) := by
  rw [call_up ha, h]
  rfl
theorem tup_of {fs : M (List D)} {l : List D} (ha : fs ρ = .ok (l, ρ1)) (hl : l.length ≤ 100000) : eTup fs ρ = .ok (.tup l, ρ1) := by
  unfold eTup eL
  rw [M.bind_of ha]
  show M.ofO (if _ then _ else _) ρ1 = _
  rw [if_pos hl]
  rfl
theorem lst_of {fs : M (List D)} {l : List D} (ha : fs ρ = .ok (l, ρ1)) (hl : l.length ≤ 100000) : eLst fs ρ = .ok (.lst l, ρ1) := by
  unfold eLst eL
  rw [M.bind_of ha]
  show M.ofO (if _ then _ else _) ρ1 = _
  rw [if_pos hl]
  rfl
theorem tB_of (h : fa ρ = .ok (.bl b, ρ1)) : PV.tB fa ρ = .ok (b, ρ1) := by
  unfold PV.tB
  rw [M.bind_of h]
  rfl
theorem tNot_of (h : t ρ = .ok (b, ρ1)) : PV.tNot t ρ = .ok (!b, ρ1) := by
  unfold PV.tNot
  rw [M.bind_of h]
  rfl
theorem tOr_f (h : t ρ = .ok (false, ρ1)) (k : u ρ1 = .ok (b, ρ2)) : PV.tOr t u ρ = .ok (b, ρ2) := by
  unfold PV.tOr
  rw [M.bind_of h]
  exact k
theorem tAnd_t (h : t ρ = .ok (true, ρ1)) (k : u ρ1 = .ok (b, ρ2)) : PV.tAnd t u ρ = .ok (b, ρ2) := by
  unfold PV.tAnd
  rw [M.bind_of h]
  exact k
theorem tAnd_f (h : t ρ = .ok (false, ρ1)) : PV.tAnd t u ρ = .ok (false, ρ1) := by
  unfold PV.tAnd
  rw [M.bind_of h]
  rfl
/-- a test that must hold, asked the other way round -/
theorem nope (h : fa ρ = .ok (.bl true, ρ1)) : PV.tNot (PV.tB fa) ρ = .ok (false, ρ1) := tNot_of (tB_of h)
theorem if_no {a : SM} (h : t ρ = .ok (false, ρ1)) : sIf t a sNx ρ = .nx ρ1 := by
  unfold sIf
  rw [sDo_of h]
  rfl
theorem eIf_t (h : t ρ = .ok (true, ρ1)) (k : fa ρ1 = .ok (v, ρ2)) : eIf t fa fb ρ = .ok (v, ρ2) := by
  unfold eIf
  rw [M.bind_of h]
  exact k
theorem eIf_f (h : t ρ = .ok (false, ρ1)) (k : fb ρ1 = .ok (v, ρ2)) : eIf t fa fb ρ = .ok (v, ρ2) := by
  unfold eIf
  rw [M.bind_of h]
  exact k
theorem ret_of {n : Nat} {ds : List D} {yy : R D} {f : M D} (h : f (PV.envOf n ds) = upM (PV.envOf n ds) yy) : runF n 0 (sRet f) ds = yy := by
  unfold runF sRet sDo
  rw [h]
  cases yy <;> rfl
theorem seq_run {s k : SM} {n : Nat} {ds : List D} (h : s (PV.envOf n ds) = .nx (PV.envOf n ds)) : runF n 0 (sSeq s k) ds = runF n 0 k ds := by
  unfold runF
  rw [sSeq_of h]
end
/-! own classes -/
section
variable {ρ ρ1 ρ2 : PV.Env} {fa fb : M D} {v w : D} {k : Str} {fs : List (Str × D)}
theorem opx_of {mm : List D → R D} {g : D → D → Option D} (ha : fa ρ = .ok (.obj k fs, ρ1)) (hb : fb ρ1 = .ok (w, ρ2)) (hr : rightD k w = true) : eOpX k mm g fa fb ρ = upM ρ2 (mm [.obj k fs, w]) := by
  unfold eOpX
  rw [M.bind_of ha, M.bind_of hb, if_pos (show isObj k (.obj k fs) = true from decide_eq_true rfl), if_pos hr]
  unfold M.lift
  rw [M.bind_of (a := [.obj k fs, w]) (ρ1 := ρ2) rfl]
  cases mm [.obj k fs, w] <;> rfl
theorem e1x_of {mm : List D → R D} (ha : fa ρ = .ok (.obj k fs, ρ1)) : e1X k mm fa ρ = upM ρ1 (mm [.obj k fs]) := by
  unfold e1X
  rw [M.bind_of ha, if_pos (show isObj k (.obj k fs) = true from decide_eq_true rfl)]
  unfold M.lift
  rw [M.bind_of (a := [.obj k fs]) (ρ1 := ρ1) rfl]
  cases mm [.obj k fs] <;> rfl
theorem strx_of {mm : List D → R D} {z : Str} (ha : fa ρ = .ok (.obj k fs, ρ1)) (h : mm [.obj k fs] = .ok (.str z)) : eStrX k mm fa ρ = .ok (.str z, ρ1) := by
  unfold eStrX
  rw [M.bind_of ha, if_pos (show isObj k (.obj k fs) = true from decide_eq_true rfl)]
  have e : M.lift mm (M.pure [D.obj k fs]) ρ1 = .ok (.str z, ρ1) := by
    unfold M.lift
    rw [M.bind_of (a := [.obj k fs]) (ρ1 := ρ1) rfl, h]
  rw [M.bind_of e]
  rfl
theorem meth_of {m : Str} {mm : List D → R D} {fl : M (List D)} {l : List D} (ha : fa ρ = .ok (.obj k fs, ρ1)) (hl : fl ρ1 = .ok (l, ρ2)) (no : fs.lookup m = none) : eMethC k m mm fa fl ρ = upM ρ2 (mm (.obj k fs :: l)) := by
  unfold eMethC
  rw [M.bind_of ha]
  show (if k = k ∧ fs.lookup m = none then M.lift (fun ds => mm (.obj k fs :: ds)) fl else fun _ => .fail) ρ1 = _
  rw [if_pos ⟨rfl, no⟩]
  exact lift_up hl
end
/-! comprehensions whose parts only read, any target -/
theorem wipeG_twice (vs : List Nat) : ∀ (us : List Nat) (ρ : PV.Env), (∀ v ∈ us, v ∈ vs) → wipeG (wipeG ρ us) vs = wipeG ρ vs
  | [], ρ, _ => rfl
  | u :: us, ρ, h => by
    rw [wipeG_cons]
    exact (wipeG_set (h u List.mem_cons_self)).trans (wipeG_twice vs us ρ fun v hv => h v (List.mem_cons_of_mem _ hv))
theorem lcN_gen {vs : List Nat} {tg : D → PV.Env → Option PV.Env} {f : M D} {h : D → D} {ρ : PV.Env} : ∀ (ds : List D) (ρ' : PV.Env), wipeG ρ' vs = wipeG ρ vs → (∀ d ∈ ds, ∃ ρd, tg d (wipeG ρ vs) = some ρd ∧ wipeG ρd vs = wipeG ρ vs ∧ f ρd = .ok (h d, ρd)) → ∃ ρ2, lcN vs tg tTrue f ds ρ' = .ok (ds.map h, ρ2) ∧ wipeG ρ2 vs = wipeG ρ vs
  | [], ρ', e, _ => ⟨ρ', rfl, e⟩
  | d :: r, ρ', e, hf => by
    obtain ⟨ρd, e1, e2, e3⟩ := hf d List.mem_cons_self
    obtain ⟨ρ2, q, ew⟩ := lcN_gen r ρd e2 fun x hx => hf x (List.mem_cons_of_mem _ hx)
    refine ⟨ρ2, ?_, ew⟩
    rw [lcN_cons, e, e1]
    have et : tTrue ρd = .ok (true, ρd) := rfl
    simp only [et, e3, q]
    rfl
theorem eLc_gen {vs : List Nat} {tg : D → PV.Env → Option PV.Env} {f : M D} {h : D → D} {fi : M (List D)} {ds : List D} {ρ : PV.Env} (hfi : fi ρ = .ok (ds, ρ)) (hl : ds.length ≤ 100000)
    (hf : ∀ d ∈ ds, ∃ ρd, tg d (wipeG ρ vs) = some ρd ∧ wipeG ρd vs = wipeG ρ vs ∧ f ρd = .ok (h d, ρd)) : eLc vs fi tg tTrue f ρ = .ok (.lst (ds.map h), ρ) := by
  obtain ⟨ρ2, e, ew⟩ := lcN_gen ds ρ rfl hf
  unfold eLc
  rw [M.bind_of hfi, if_pos hl, e]
  show R.ok (D.lst (ds.map h), restE ρ vs ρ2) = _
  rw [restE_wipe ew]
end
end PV

set_option Elab.async false
set_option linter.all false
set_option maxRecDepth 100000
set_option maxHeartbeats 0
namespace PV
noncomputable section
open PySem PySem.Spec
open PyProof.Rows L2

/-! ## 46. methods of a text with one argument -/
def eSM1 (g : Str → D → Option D) (fo fe : M D) : M D := fo.bind fun x => match strOf? x with
  | some a => fe.bind fun y => M.ofO (g a y)
  | none => fun _ => .fail
/-- what such a method's reading must follow from -/
def StrS (K : PySem.W.Frag) (mg : Str → Option Value) (mo : Md) (r : V → List V → Hp → VK → Prop) (g : Str → D → Option D) : Prop :=
  ∀ (G F H : Hp) (a : Str) (d z : D) (u : V) (Q : VK), Same G F → Same F H → Rp K mg H u d → g a d = some z → (∀ w G' F' H' fr, Grow G F H G' F' H' fr → Val K mg mo G' H' z w fr → Q w H') → r (.str a) [u] H Q
theorem rp_strs {K : PySem.W.Frag} {mg : Str → Option Value} {H : Hp} : ∀ ys : List Str, RpL K mg H (ys.map V.str) (ys.map D.str)
  | [] => .nil
  | y :: ys => .cons (.str y) (rp_strs ys)
def gStarts (a : Str) : D → Option D
  | .str b => some (.bl (Txt.startswith a b))
  | _ => none
def gRmPre (a : Str) : D → Option D
  | .str b => if small a.length = true then some (.str (Txt.removeprefix a b)) else none
  | _ => none
def gParts (a : Str) : D → Option D
  | .str b => if (b.length == 0) = false ∧ small a.length = true then some (.tup [.str (Txt.partition a b).1, .str (Txt.partition a b).2.1, .str (Txt.partition a b).2.2]) else none
  | _ => none
def gSplit (a : Str) : D → Option D
  | .str b => if (b.length == 0) = false ∧ small a.length = true then some (.lst ((Txt.split a b).map .str)) else none
  | _ => none
section
variable {K : PySem.W.Frag} {mg : Str → Option Value}
theorem starts_S : StrS K mg (.rd 0) (fun x xs H Q => ∃ a b, x = .str a ∧ xs = [.str b] ∧ Q (.bl (Txt.startswith a b)) H) gStarts := by
  intro G F H a d z u Q gf fh q hz fin
  cases q <;> first | (cases hz; done) | skip
  cases hz
  exact ⟨a, _, rfl, rfl, fin _ G F H [] (.refl gf fh) ⟨.bl _, rfl⟩⟩
theorem rmPre_S : StrS K mg (.rd 0) (fun x xs H Q => ∃ a b, x = .str a ∧ xs = [.str b] ∧ a.length ≤ sizeLine ∧ Q (.str (Txt.removeprefix a b)) H) gRmPre := by
  intro G F H a d z u Q gf fh q hz fin
  cases q <;> first | (cases hz; done) | skip
  have hz : (if _ then _ else _) = some z := hz
  split at hz
  · rename_i hl
    cases hz
    exact ⟨a, _, rfl, rfl, szl_small hl, fin _ G F H [] (.refl gf fh) ⟨.str _, rfl⟩⟩
  · cases hz
theorem parts_S : StrS K mg (.rd 0) (fun x xs H Q => ∃ a b, x = .str a ∧ xs = [.str b] ∧ (b.length == 0) = false ∧ a.length ≤ sizeLine ∧
      ∀ p, H p = none → Q (.ref p) (upd H p (.tup [.str (Txt.partition a b).1, .str (Txt.partition a b).2.1, .str (Txt.partition a b).2.2]))) gParts := by
  intro G F H a d z u Q gf fh q hz fin
  cases q <;> first | (cases hz; done) | skip
  have hz : (if _ then _ else _) = some z := hz
  split at hz
  · rename_i hl
    cases hz
    refine ⟨a, _, rfl, rfl, hl.1, szl_small hl.2, fun p hp => ?_⟩
    exact fin _ _ _ _ _ (Grow.sh gf fh hp) ⟨.tup upd_same (.cons (.str _) (.cons (.str _) (.cons (.str _) .nil))), rfl⟩
  · cases hz
theorem split_S : StrS K mg (.own 1) (fun x xs H Q => ∃ a b, x = .str a ∧ xs = [.str b] ∧ (b.length == 0) = false ∧ a.length + 2 ≤ sizeLine ∧ rNewStrs (Txt.split a b) H Q) gSplit := by
  intro G F H a d z u Q gf fh q hz fin
  cases q <;> first | (cases hz; done) | skip
  have hz : (if _ then _ else _) = some z := hz
  split at hz
  · rename_i hl
    cases hz
    have le : a.length ≤ 100000 := of_decide_eq_true hl.2
    refine ⟨a, _, rfl, rfl, hl.1, by rw [sizeLine_eq]; omega, fun p hp => ?_⟩
    obtain ⟨g, ow⟩ := own_lst gf fh hp (rp_strs (K := K) (mg := mg) (H := G) (Txt.split a _))
    exact fin _ _ _ _ _ g ow
  · cases hz
end
section
variable {X : Cx} {W : WX} {c : Fc} {p1 p2 : Bool} {n : Nat} {o e : Expr} {fo fe : M D}
theorem ex_strM {id : String} {name : Str} {mo : Md} {r : V → List V → Hp → VK → Prop} {g : Str → D → Option D} {apos pos : Pos} (slot : Slot "str" name id) (ty : typeOf (.builtin id) = pure (.type "method_descriptor")) (rule : MtR X id r) (hr : StrS X.K X.mg mo r g)
    (ho : EX X W c p1 (.rd 0) o fo) (he : EX X W c p2 (.rd 0) e fe) (hs : starEach [e] X.env = [(false, eval e X.env)] := by rfl) (hbase : attributeBase o name X.env (eval o X.env) = eval o X.env := by rfl) (hline : (apos.endLine == pos.line) = true := by rfl) :
    EX X W c (p1 && p2) mo (.Call (.Attribute o name apos) [e] [] pos) (eSM1 g fo fe) := by
  obtain ⟨to, a1, a2⟩ := ho
  obtain ⟨te, b1, b2⟩ := he
  refine ⟨_, pe_m1 slot ty rule a1 b1 hs hbase hline, fun σ ρ G F H Q ok w => ?_⟩
  refine EX.use to a2 ok (Wp.ofBindM w) (fun r1 h1 v1 G1 F1 H1 fp1 x1 o1 q1 hp1 => ?_) fun _ z => z
  have q1 : Rp X.K X.mg G1 v1 r1.1 := q1.1
  cases es : strOf? r1.1 with
  | none =>
    rw [es] at h1
    exact h1.elim
  | some a =>
    rw [es] at h1
    rw [strOf_eq es] at q1
    cases q1
    refine ⟨⟨a, rfl⟩, ?_⟩
    refine EX.use te b2 o1.drop (Wp.nxExt x1 (Wp.ofBindM h1)) (fun r2 h2 v2 G2 F2 H2 fp2 x2 o2 q2 hp2 => ?_) fun _ z => z
    unfold M.ofO at h2
    split at h2
    · rename_i z hz
      refine hr G2 F2 H2 a r2.1 z v2 Q o2.gf o2.fh ((show Rp X.K X.mg G2 v2 r2.1 from q2.1).mono o2.gh) hz fun wv G3 F3 H3 fr g3 q3 => ?_
      refine h2 wv G3 F3 H3 fr ((x1.trans x2).trans g3.x) (o2.drop.grown g3) q3 fun hp => ?_
      rw [Bool.and_eq_true] at hp
      exact ⟨(hp2 hp.2).1.trans (hp1 hp.1).1, ((hp1 hp.1).2.trans (hp2 hp.2).2).trans g3.hh⟩
    · exact h2.elim
theorem rmPre_mt : MtR X "str.removeprefix" (fun x xs H Q => ∃ a b, x = .str a ∧ xs = [.str b] ∧ a.length ≤ sizeLine ∧ Q (.str (Txt.removeprefix a b)) H) := by
  rintro pins s σ H _ xs v us Q I rx rs ⟨a, b, rfl, rfl, hl, q⟩
  obtain ⟨t, rfl⟩ := rx
  obtain ⟨w, rfl, rw'⟩ := rs.one
  obtain ⟨u, rfl⟩ := rw'
  exact PySem.W.KXw.removeprefix rfl hl fun t' k => ⟨.str _, H, I.tok k, ⟨t', rfl⟩, q⟩
theorem ex_starts {apos pos : Pos} (ho : EX X W c p1 (.rd 0) o fo) (he : EX X W c p2 (.rd 0) e fe) (hs : starEach [e] X.env = [(false, eval e X.env)] := by rfl) (hbase : attributeBase o "startswith" X.env (eval o X.env) = eval o X.env := by rfl) (hline : (apos.endLine == pos.line) = true := by rfl) :
    EX X W c (p1 && p2) (.rd 0) (.Call (.Attribute o "startswith" apos) [e] [] pos) (eSM1 gStarts fo fe) := ex_strM F.slot_str_startswith F.type_str_startswith mt_startswith starts_S ho he hs hbase hline
theorem ex_rmPre {apos pos : Pos} (ho : EX X W c p1 (.rd 0) o fo) (he : EX X W c p2 (.rd 0) e fe) (hs : starEach [e] X.env = [(false, eval e X.env)] := by rfl) (hbase : attributeBase o "removeprefix" X.env (eval o X.env) = eval o X.env := by rfl) (hline : (apos.endLine == pos.line) = true := by rfl) :
    EX X W c (p1 && p2) (.rd 0) (.Call (.Attribute o "removeprefix" apos) [e] [] pos) (eSM1 gRmPre fo fe) := ex_strM F.slot_str_removeprefix F.type_str_removeprefix rmPre_mt rmPre_S ho he hs hbase hline
theorem ex_parts {apos pos : Pos} (ho : EX X W c p1 (.rd 0) o fo) (he : EX X W c p2 (.rd 0) e fe) (hs : starEach [e] X.env = [(false, eval e X.env)] := by rfl) (hbase : attributeBase o "partition" X.env (eval o X.env) = eval o X.env := by rfl) (hline : (apos.endLine == pos.line) = true := by rfl) :
    EX X W c (p1 && p2) (.rd 0) (.Call (.Attribute o "partition" apos) [e] [] pos) (eSM1 gParts fo fe) := ex_strM F.slot_str_partition F.type_str_partition mt_partition parts_S ho he hs hbase hline
theorem ex_split {apos pos : Pos} (ho : EX X W c p1 (.rd 0) o fo) (he : EX X W c p2 (.rd 0) e fe) (hs : starEach [e] X.env = [(false, eval e X.env)] := by rfl) (hbase : attributeBase o "split" X.env (eval o X.env) = eval o X.env := by rfl) (hline : (apos.endLine == pos.line) = true := by rfl) :
    EX X W c (p1 && p2) (.own 1) (.Call (.Attribute o "split" apos) [e] [] pos) (eSM1 gSplit fo fe) := ex_strM F.slot_str_split F.type_str_split mt_split split_S ho he hs hbase hline
end
/-! ## 47. int(text), a text in a text, chains of texts, a text walked, cut, repeated -/
def gIntT : D → Option D
  | .str a => if a.length ≤ 640 then (PySem.intText? a).map .int else none
  | _ => none
def gInT : D → D → Option D
  | .str a, .str b => some (.bl (!(Builtin.Str.occurrences b a 0 b.length 1).isEmpty))
  | _, _ => none
def gLeT : D → D → Option D
  | .str a, .str b => some (.bl (!decide (b.cps.toList < a.cps.toList)))
  | _, _ => none
def iStrM (f : M D) : M (List D) := f.bind fun x => match strOf? x with
  | some a => M.pure (a.cps.toList.map fun c => D.str ⟨#[c]⟩)
  | none => fun _ => .fail
def gSlS (l h : Option Int) : D → Option D
  | .str z => if small z.length = true then some (.str (cutS z l h)) else none
  | _ => none
section
variable {X : Cx} {W : WX} {c : Fc} {p p1 p2 p3 : Bool} {n m : Nat} {a b e : Expr} {fa fb : M D} {pos pp : Pos}
theorem ex_intT (hm : X.mg "int" = none) (ha : EX X W c p1 (.rd n) a fa) (hg : Gl X "int" := by rfl) (h1 : starEach [a] X.env = (false, eval a X.env) :: starEach [] X.env := by rfl) (hpl : (backTo pos (starEach [] X.env)).any (·.1) = false := by rfl) :
    EX X W c p1 (.rd 0) (.Call (.Name "int" pp) [a] [] pos) (e1L gIntT fa) := by
  refine and_true' (ex_L (fun h => pe_callTy call_int_str hg hm (by decide +kernel) h (by decide) (by decide) h1 hpl) (call1 fun G F H d v z Q gf fh q hz k => ?_) (ax_cons ha ax_nil wrd h1))
  have q := q.rp (gf.trans fh)
  cases q <;> first | (cases hz; done) | skip
  have hz : (if _ then _ else _) = some z := hz
  split at hz
  · rename_i hl
    obtain ⟨i, ei, rfl⟩ := Option.map_eq_some_iff.mp hz
    exact ⟨_, i, rfl, ei, hl, k _ G F H [] (.refl gf fh) ⟨.int _, rfl⟩⟩
  · cases hz
theorem ex_inT (ha : EX X W c p1 (.rd 0) a fa) (hb : EX X W c p2 (.rd 0) b fb) (hm : behindInMarks .In b = false := by rfl) : EX X W c (p1 && p2) (.rd 0) (.Compare a [.In] [b] pos) (e2 gInT fa fb) := by
  refine ex_2 (fun h1 h2 => pe_cmpR op_in_str h1 h2 hm) (fun G F H d e v u z Q gf fh q1 q2 hz k => ?_) ha hb w00 wrd
  have q1 := q1.1.rp (gf.trans fh)
  have q2 := q2.1.rp (gf.trans fh)
  cases q1 <;> first | (cases hz; done) | skip
  cases q2 <;> first | (cases hz; done) | skip
  cases hz
  exact ⟨_, _, rfl, rfl, k _ G F H [] (.refl gf fh) ⟨.bl _, rfl⟩⟩
theorem leT_S {K : PySem.W.Frag} {mg : Str → Option Value} : Op2S K mg (.rd n) (.rd m) (.rd 0) (fun x y H Q => ∃ i j, x = .str i ∧ y = .str j ∧ Q (.bl (!decide (j.cps.toList < i.cps.toList))) H) gLeT := fun G F H d e v u z Q gf fh q1 q2 hz k => by
  have q1 := q1.1.rp (gf.trans fh)
  have q2 := q2.1.rp (gf.trans fh)
  cases q1 <;> first | (cases hz; done) | skip
  cases q2 <;> first | (cases hz; done) | skip
  cases hz
  exact ⟨_, _, rfl, rfl, k _ G F H [] (.refl gf fh) ⟨.bl _, rfl⟩⟩
/-! a text walked -/
theorem itok_s {K : PySem.W.Frag} {mg : Str → Option Value} {G0 : Hp} (x : Str) : ItOk K mg (Its x) (x.cps.toList.map fun c => D.str ⟨#[c]⟩) G0 where
  stop := fun i H s hl => by
    rw [List.length_map, Array.length_toList] at hl
    exact hl
  go := fun i H s hl => by
    rw [List.length_map, Array.length_toList] at hl
    exact hl
  yld := fun i H v H' G F d y s gf fh e => by
    obtain ⟨rfl, ch, e1, rfl⟩ := y
    rw [List.getElem?_map, Array.getElem?_toList, e1] at e
    cases e
    exact ⟨G, F, .refl gf fh, .str _⟩
theorem ix_str {tg : Expr} (h : EX X W c p (.rd 0) e fa) : IX X W c p tg e (iStrM fa) := by
  obtain ⟨te, h1, h2⟩ := h
  refine ⟨_, pi_str h1, fun σ ρ G F H Rr o w => ?_⟩
  refine EX.use te h2 o (Wp.ofBindM w) (fun r hr v G1 F1 H1 fp x1 o1 q hp => ?_) fun _ z => z
  have q : Rp X.K X.mg G1 v r.1 := q.1
  cases es : strOf? r.1 with
  | none =>
    rw [es] at hr
    exact hr.elim
  | some a =>
    rw [es] at hr
    rw [strOf_eq es] at q
    cases q
    exact ⟨a, rfl, hr (Its a) G1 F1 H1 x1 o1.drop (itok_s a) hp⟩
/-! a text cut -/
def eSlS (fa : M D) (fl fh : M (Option Int)) : M D := fa.bind fun x => fl.bind fun l => fh.bind fun h => M.ofO (gSlS l h x)
theorem ex_slS {lo hi : Option Expr} {fl fh : M (Option Int)} {p4 : Pos} (ha : EX X W c p1 (.rd 0) a fa) (hl : PX X W c p2 lo fl) (hh : PX X W c p3 hi fh) : EX X W c (p1 && (p2 && p3)) (.rd 0) (.Subscript a (.Slice lo hi none p4) pos) (eSlS fa fl fh) := by
  obtain ⟨ta, a1, a2⟩ := ha
  obtain ⟨tl, l1, l2⟩ := hl
  obtain ⟨th, h1, h2⟩ := hh
  refine ⟨_, pe_slice sl_str a1 l1 h1, fun σ ρ G F H Q o w => ?_⟩
  refine EX.use ta a2 o (Wp.ofBindM w) (fun r k1 v G1 F1 H1 fp1 x1 o1 q1 hp1 => ?_) fun _ z => z
  refine l2 σ r.2 G1 F1 H1 _ o1.drop ((Wp.nxExt x1 (Wp.ofBindM k1)).imp (fun rl k2 => ?_) fun _ z => z)
  intro G2 F2 H2 x2 o2 hp2
  refine h2 σ rl.2 G2 F2 H2 _ o2 ((Wp.nxExt x2 (Wp.nxExt x1 (Wp.ofBindM k2))).imp (fun rh k3 => ?_) fun _ z => z)
  intro G3 F3 H3 x3 o3 hp3
  have q1 : Rp X.K X.mg G1 v r.1 := q1.1
  generalize r.1 = d at q1 k3
  cases q1 <;> first | exact k3.elim | skip
  have k3 : Wp (M.ofO (if _ then _ else _ : Option D) rh.2) _ _ := k3
  split at k3
  · rename_i hz
    refine ⟨_, rfl, szl_small hz, k3 _ G3 F3 H3 [] ((x1.trans x2).trans x3) o3 ⟨.str _, rfl⟩ fun hp => ?_⟩
    rw [Bool.and_eq_true, Bool.and_eq_true] at hp
    exact ⟨((hp3 hp.2.2).1.trans (hp2 hp.2.1).1).trans (hp1 hp.1).1, ((hp1 hp.1).2.trans (hp2 hp.2.1).2).trans (hp3 hp.2.2).2⟩
  · exact k3.elim
end
end
end PV

set_option Elab.async false
set_option linter.all false
set_option maxRecDepth 100000
set_option maxHeartbeats 0
namespace PV
noncomputable section
open PySem PySem.Spec
open PyProof.Rows L2

/-! ## 48. a text repeated -/
def gMulT : D → D → Option D
  | .str x, .int n => if (1 ≤ x.length ∧ x.length ≤ 100) ∧ 2 ≤ n ∧ n ≤ 1000 then some (.str (Txt.mul x n)) else none
  | _, _ => none
theorem mulOkT {x : Str} {n : Int} (h : (1 ≤ x.length ∧ x.length ≤ 100) ∧ 2 ≤ n ∧ n ≤ 1000) : MulOk x n := by
  obtain ⟨⟨l1, l2⟩, n1, n2⟩ := h
  have np : 0 < n := by omega
  refine ⟨by rw [decide_eq_false (by omega), decide_eq_false (by omega)]; rfl, fun _ _ => ?_, fun _ _ => ?_⟩
  · have big : ((x.length : Int)) ≤ (2 ^ 63 - 1) / n := by
      rw [Int.le_ediv_iff_mul_le np]
      have := Int.mul_le_mul (show (x.length : Int) ≤ 100 by omega) n2 (by omega) (by decide)
      omega
    omega
  · have := Nat.mul_le_mul l2 (show n.toNat ≤ 1000 by omega)
    unfold PySem.Builtin.Str.tooLong
    exact decide_eq_false (by rw [sizeLine_eq]; omega)
section
variable {X : Cx} {W : WX} {c : Fc} {p p1 p2 : Bool} {rk : Nat} {a b e : Expr} {fa fb fe : M D} {pos : Pos}
theorem mul_txt : OpR X (binaryOp .Mult) (fun x y H Q => ∃ z n, x = .str z ∧ y = .int n ∧ MulOk z n ∧ Q (.str (Txt.mul z n)) H) := by
  rintro pins s σ H _ _ v u Q I rx ry ⟨z, n, rfl, rfl, h, q⟩
  obtain ⟨t, rfl⟩ := rx
  obtain ⟨t', rfl⟩ := ry
  exact SB.mul h fun tk k => ⟨.str _, H, I.tok k, ⟨tk, rfl⟩, q⟩
theorem ex_mulT (ha : EX X W c p1 (.rd 0) a fa) (hb : EX X W c p2 (.rd 0) b fb) : EX X W c (p1 && p2) (.rd 0) (.BinOp a .Mult b pos) (e2 gMulT fa fb) := by
  refine ex_2 (fun h1 h2 => pe_op mul_txt h1 h2) (fun G F H d e v u z Q gf fh q1 q2 hz k => ?_) ha hb w00 wrd
  have q1 := q1.1.rp (gf.trans fh)
  have q2 := q2.1.rp (gf.trans fh)
  cases q1 <;> first | (cases hz; done) | skip
  cases q2 <;> first | (cases hz; done) | skip
  have hz : (if _ then _ else _) = some z := hz
  split at hz
  · rename_i hc
    cases hz
    exact ⟨_, _, rfl, rfl, mulOkT hc, k _ G F H [] (.refl gf fh) ⟨.str _, rfl⟩⟩
  · cases hz
/-! ## 49. a value taken apart: (a, b, ..) = e -/
def sUnp (fe : M D) (g : D → PV.Env → Option PV.Env) : SM := sDo fe fun d ρ => match g d ρ with
  | some ρ' => .nx ρ'
  | none => .fail
theorem sx_unp {tg : Expr} {is : List Nat} {g : D → PV.Env → Option PV.Env} (he : EX X W c p (.rd 0) e fe) (hg : GX X c tg is g) (hs : swapsWithSole [tg] e pos.line X.env = pure false := by rfl) (hw : swappedStores [tg] e X.env = pure none := by rfl) (h1 : (assignEach [tg] X.env).map (·.2) = [assign tg X.env] := by rfl) :
    SX X W c rk (.Assign [tg] e pos) (sUnp fe g) := by
  obtain ⟨te, e1, e2⟩ := he
  obtain ⟨_, tg', g1, g2⟩ := hg
  refine ⟨_, ps_asg e1 g1 hs hw h1, fun D σ ρ G F H o w => ?_⟩
  refine EX.use te e2 o (WpS.ofDo w) (fun r hr v G1 F1 H1 fp x1 o1 q hp => ?_) fun _ z => Nx.toS z
  split at hr
  · rename_i ρ' hz
    exact g2 σ r.2 ρ' G1 F1 H1 r.1 v _ o1.drop q.1 hz fun σ' o' hl _ => hr σ' G1 F1 H1 x1 o' hl
  · exact hr.elim
theorem frs_unp {i : Nat} {g : D → PV.Env → Option PV.Env} (h : Fr i fe) (hg : FrG i g) : FrS i (sUnp fe g) := by
  refine frs_do h fun d => ⟨fun ρ ρ' ρ1 l e => ?_, fun ρ ρ' x ρ1 l e => ?_, fun ρ ρ1 e => ?_⟩
  · split at e
    · rename_i z hz
      cases e
      obtain ⟨y, hy, ly⟩ := hg.mo d ρ ρ' ρ1 l hz
      exact ⟨y, by rw [hy], ly⟩
    · cases e
  · split at e <;> cases e
  · split at e
    · rename_i z hz
      cases e
      exact hg.kp d ρ ρ1 hz
    · cases e
end
end
end PV

set_option Elab.async false
set_option linter.all false
set_option maxRecDepth 100000
set_option maxHeartbeats 0
namespace PV
noncomputable section
open PySem PySem.Spec
open PyProof.Rows L2

/-! ## 50. try: .. except NoText as e: return ("text", e.at) -/
def sTryN (i : Nat) (fb : SM) : SM := fun ρ => match fb ρ with
  | .exc (.note d) => if i < ρ.length then .rt (.tup [.str "text", d]) (blank ρ) else .fail
  | .exc _ => .fail
  | r => r
structure XcT (K : PySem.W.Frag) (mg : Str → Option Value) (CN : Addr) : Prop where
  gN : mg "NoText" = some (.ref CN)
  nn : PySem.W.exmOne K (.ref CN) (.ref CN) = some true
  xf : XfC K CN
  hno : PySem.W.findIn K (.ref CN) "at" = some none
section
variable {X : Cx} {W : WX} {c : Fc} {rk : Nat}
theorem sx_tryN (ok : Cok X W) (hs : X.stack = X.env :: X.outer) (hf : X.env.frame = some X.env.locals) (hN : X.N.Nodup) {CN : Addr} (xc : XcT X.K X.mg CN) (i : Nat) {n : Str} {body : List Stmt} {fb : SM} {np pos pos2 p1 p2 p3 p4 p5 : Pos} {kt j1}
    (hb : ∀ (W' : WX) (pn : List (Addr × Obj)) (xe : Value → Shared → Prop), Cok (X.tr pn xe) W' → Pso (X.tr pn xe) → SXs (X.tr pn xe) W' c 0 body fb) (hio : c.io = [] := by rfl)
    (hi : X.N[i]? = some n := by rfl) (hln : X.env.kindOf n = some .local := by rfl) (hg : Gl X "NoText" := by rfl) (hv : Vis X.env.scope n := by first | exact Or.inl rfl | exact Or.inr (Or.inl rfl) | exact Or.inr (Or.inr rfl)) (hd : (n == ("__debug__" : Str)) = false := by decide) (hcd : (n == ("__classdict__" : Str)) = false := by decide) :
    SX X W c 0 (.Try body [.ExceptHandler (some (.Name "NoText" np)) (some n) [.Return (some (.Tuple [.Constant (.str "text") j1 p1, .Attribute (.Name n p2) "at" p3] kt p4)) p5] pos] [] [] pos2) (sTryN i fb) := by
  have reads : Reads X body (canS X.K X.mg c 0 fb) := fun W' pn xe tk po => (hb W' pn xe ⟨tk, ok.calm⟩ po).can
  refine ⟨_, ps_tryH hs hf reads (hears_as (i := i) (k := .ref CN) hs hf ⟨hg, by decide, .inl xc.gN⟩ hN hi hln
    (fun a oe cls d pn z fields => pss_one (ps_ret (pe_tup (pa_cons pe_str (pa_cons (pe_xf xc.xf xc.hno z fields (pe_var (X := X.suite a ((a, oe) :: pn)) hi hv hd hcd)) pa_nil))))) (hears_none hs hf ok.tk)), fun D σ ρ G F H o w => ?_⟩
  refine ⟨ρ, G, F, o, ?_⟩
  unfold sTryN at w
  cases e : fb ρ with
  | nx ρ' => rw [e] at w; exact w
  | rt d ρ' => rw [e] at w; exact w
  | fail => rw [e] at w; exact w.elim
  | exc x =>
    rw [e] at w
    intro σ' hl cls dd G' F' H' x1 gf fh xr
    cases x with
    | mal => exact w.elim
    | refu d => exact w.elim
    | note d =>
      obtain ⟨C, a1, v, hC, rfl, rfl, hx, rv⟩ := xr
      rw [xc.gN] at hC
      cases hC
      refine ⟨true, xc.nn, fun a ha => ?_⟩
      have w : WpS (if i < ρ.length then SR.rt (.tup [.str "text", d]) (blank ρ) else .fail) _ _ _ := w
      split at w
      · rename_i hil
        rw [o.len, ← hl] at hil
        refine ⟨.ref a, by rw [List.getElem?_set_self hil], rfl, rfl, a1, _, v, rfl, hx, by simp, ?_⟩
        refine ⟨by show 2 ≤ sizeLine; decide, fun b hb' => ?_⟩
        have blankOk : Ok X.K X.mg c [] G' F' H' σ' (blank ρ) := Ok.blank gf fh (o.bf.trans x1.f) (by rw [hl]; exact o.len) hio
        have g := Grow.sh (o := .tup [.str "text", v]) gf fh hb'
        have pair : RpL X.K X.mg G' [.str "text", v] [.str "text", d] := .cons (.str _) (.cons rv .nil)
        exact w σ' (.ref b) _ _ _ [] (x1.trans g.x) (blankOk.grown g) ⟨.tup upd_same (pair.mono g.x.g), rfl⟩
      · exact w.elim
end
/-- out of the facts -/
theorem xcT_at {K : PySem.W.Frag} {h : Heap} {mg : Str → Option Value} (X : K.In h) (G : h.Ns mainGlobals mg) (c1 : (He.Fa.glo "NoText").ok K = true) (c2 : (He.Fa.exm "NoText" "NoText" true).ok K = true) (c3 : (He.Fa.noat "NoText" "at").ok K = true) (c4 : xfB K (He.ga K "NoText") = true) : XcT K mg (He.ga K "NoText") :=
  ⟨He.glo_ok X G c1, He.exm_ok c2, xfB_ok c4, He.noat_ok c3⟩
/-- both tries' classes at once -/
theorem xcb_at {K : PySem.W.Frag} {h : Heap} {mg : Str → Option Value} (X : K.In h) (G : h.Ns mainGlobals mg) (c1 : (He.Fa.glo "Malformed").ok K = true) (c2 : (He.Fa.glo "Refused").ok K = true) (c3 : (He.Fa.exm "Malformed" "Malformed" true).ok K = true) (c4 : (He.Fa.exm "Refused" "Malformed" false).ok K = true) (c5 : (He.Fa.exm "Refused" "Refused" true).ok K = true)
    (c6 : (He.Fa.noat "Refused" "reason").ok K = true) (c7 : xfB K (He.ga K "Refused") = true) (n1 : (He.Fa.glo "NoText").ok K = true) (n2 : (He.Fa.exm "NoText" "Malformed" false).ok K = true) (n3 : (He.Fa.exm "NoText" "Refused" false).ok K = true) : ∃ CM CR CN, XcR K mg CM CR ∧ XcN K mg CM CR CN :=
  ⟨_, _, _, ⟨He.glo_ok X G c1, He.glo_ok X G c2, He.exm_ok c3, He.exm_ok c4, He.exm_ok c5, xfB_ok c7, He.noat_ok c6⟩, ⟨He.glo_ok X G n1, He.exm_ok n2, He.exm_ok n3⟩⟩
end
end PV

set_option Elab.async false
set_option linter.all false
set_option maxRecDepth 100000
set_option maxHeartbeats 0
namespace NQ
open PySem PySem.SeqAt
open SeqRoads2 MeetsSeq3 MeetsSeq2 MeetsSeq
open AutoSeq1 (wpAny_loadPart' sub_list_list sub_tuple_tuple)
/-! ## 51. != of lists and of tuples whose items are all alike by their own == -/
section
variable {A : Around} {prog : Program} {w : World} {R : Result → Shared → Prop}
theorem ne_walk (l b : Addr) (N : Nat) (J : Nat → Shared → Prop) (turns : GQ.ListI prog w A (fun e s' => R (.error e) s') l b N J) (last : ∀ s, J N s → R (.ok (.ret (.bool false))) s) :
    ∀ (left i : Nat), i + left = N → ∀ s, J i s → wpAny (model prog w) A.in1 (Builtin.«list.__eq__.loop» ⟨[.ref l, .ref b, rawInt i, rawInt 3], []⟩) (GQ.FinOf prog w A R) (fun e s' => R (.error e) s') s
  | 0, i, hi, s, h => by
    obtain ⟨xs, ys, m1, m2, hx, hy, z1, z2, _⟩ := turns _ _ h
    have good : R (.ok (.ret (.bool false))) s := last s (by rw [← hi]; exact h)
    have o1 : xs[((i : Nat) : Int).toNat]? = none := by rw [Array.getElem?_eq_none]; omega
    have o2 : ys[((i : Nat) : Int).toNat]? = none := by rw [Array.getElem?_eq_none]; omega
    rcases s with ⟨c1, c2, c3, c4, c5⟩
    wp_walk using wpAny_loadPart' hx, wpAny_loadPart' hy
    rw [o1, o2]
    wp_walk using wpAny_loadPart' hx, wpAny_loadPart' hy
    have e : (xs.size != ys.size) = false := by rw [z1, z2]; simp
    show R (.ok (.ret (.bool (xs.size != ys.size)))) _
    rw [e]
    exact good
  | left + 1, i, hi, s, h => by
    obtain ⟨xs, ys, m1, m2, hx, hy, z1, z2, alike⟩ := turns _ _ h
    have k1 : i < xs.size := by omega
    have k2 : i < ys.size := by omega
    have o1 : xs[((i : Nat) : Int).toNat]? = some xs[i] := by simp [k1]
    have o2 : ys[((i : Nat) : Int).toNat]? = some ys[i] := by simp [k2]
    have step := alike k1 k2
    rcases s with ⟨c1, c2, c3, c4, c5⟩
    wp_walk using wpAny_loadPart' hx, wpAny_loadPart' hy
    rw [o1, o2]
    refine wpAny_bind (wpAny_mono step ?_ fun _ _ z => z)
    rintro _ s2 ⟨rfl, h2⟩
    have more := ne_walk l b N J turns last left (i + 1) (by omega) s2 h2
    rcases s2 with ⟨f1, f2, f3, f4, f5⟩
    wp_walk
    rw [show ((i : Int) + 1) = ((i + 1 : Nat) : Int) by omega]
    refine ⟨plainId_quiet plain_eq_loop _, codeAny_builtin entry_eq_loop ?_⟩
    rw [Around.under_plainId plain_eq_loop]
    exact more
theorem ne_list (l b : Addr) (N : Nat) (J : Nat → Shared → Prop) (turns : GQ.ListI prog w A (fun e s' => R (.error e) s') l b N J) (last : ∀ s, J N s → R (.ok (.ret (.bool false))) s) {s : Shared} (h : J 0 s) :
    wpAny (model prog w) A.in1 (Builtin.«list.__ne__» ⟨[.ref l, .ref b], []⟩) (GQ.FinOf prog w A R) (fun e s' => R (.error e) s') s := by
  obtain ⟨xs, ys, m1, m2, hx, hy, z1, z2, _⟩ := turns _ _ h
  have more := ne_walk (A := A) (R := R) l b N J turns last N 0 (by omega) s h
  have sub := sub_list_list
  have e : ¬ (xs.size != ys.size) = true := by rw [z1, z2]; simp
  rcases s with ⟨c1, c2, c3, c4, c5⟩
  wp_walk using wpAny_loadPart' hx, wpAny_loadPart' hy
  refine ⟨plainId_quiet plain_eq_loop _, codeAny_builtin entry_eq_loop ?_⟩
  rw [Around.under_plainId plain_eq_loop]
  exact more
theorem ne_tup (l b : Addr) (xs ys : Array Value) (m1 m2 : Nat) (d1 d2 : Option Addr) (s1 s2 : Array (Option Value)) (same : xs.size = ys.size) (J : Nat → Shared → Prop)
    (alike : ∀ i (h1 : i < xs.size) (h2 : i < ys.size) s, J i s → wpAny (model prog w) A.in1 (eqBool xs[i] ys[i]) (fun r s' => r = true ∧ J (i + 1) s') (fun e s' => R (.error e) s') s)
    (last : ∀ s, J xs.size s → R (.ok (.ret (.bool false))) s) {s : Shared} (hx : s.heap.get? l = some { cls := .type "tuple", dict := d1, data := .seq xs m1, slots := s1 }) (hy : s.heap.get? b = some { cls := .type "tuple", dict := d2, data := .seq ys m2, slots := s2 }) (h : J 0 s) :
    wpAny (model prog w) A.in1 (Builtin.«tuple.__ne__» ⟨[.ref l, .ref b], []⟩) (GQ.FinOf prog w A R) (fun e s' => R (.error e) s') s := by
  have sub := sub_tuple_tuple
  have zl : (xs.toList.zip ys.toList).length = xs.size := by simp [same]
  have start := h
  rcases s with ⟨c1, c2, c3, c4, c5⟩
  wp_walk using wpAny_loadPart' hx, wpAny_loadPart' hy, wpAny_forIn_list _ (fun rest q s' => q.1 = none ∧ ∃ i, i ≤ xs.size ∧ rest = (xs.toList.zip ys.toList).drop i ∧ J i s') _
  case turn =>
    rintro ⟨p, q⟩ rest _ s' ⟨_, i, le, dr, hJ⟩
    have lt : i < (xs.toList.zip ys.toList).length := by
      refine Nat.lt_of_not_le fun z => ?_
      rw [List.drop_eq_nil_of_le z] at dr
      cases dr
    have k1 : i < xs.size := by omega
    have k2 : i < ys.size := by omega
    rw [List.drop_eq_getElem_cons lt] at dr
    injection dr with e1 e2
    have ep : p = xs[i] := by simpa using congrArg Prod.fst e1
    have eq : q = ys[i] := by simpa using congrArg Prod.snd e1
    rw [ep, eq]
    refine wpAny_bind (wpAny_mono (alike i k1 k2 s' hJ) ?_ fun _ _ z => z)
    rintro _ s3 ⟨rfl, h3⟩
    wp_walk
    exact ⟨rfl, i + 1, k1, e2, h3⟩
  case fin =>
    rintro ⟨q1, q2⟩ s' ⟨none_, i, le, dr, hJ⟩
    have none_ : q1 = none := none_
    have over : xs.size ≤ i := by
      refine Nat.le_of_not_lt fun z => ?_
      rw [List.drop_eq_getElem_cons (by omega)] at dr
      cases dr
    have good : R (.ok (.ret (.bool false))) s' := last s' (by rw [show xs.size = i by omega]; exact hJ)
    rw [none_]
    wp_walk
    simpa [Builtin.Tuple.tupleCompareSizes, same] using good
  case h => exact ⟨rfl, 0, Nat.zero_le _, rfl, start⟩
end
section
variable {A : Around} {prog : Program} {w : World} {s : Shared} {E : Value → Shared → Prop}
theorem rc_neList {l b : Addr} {N : Nat} {Q : Value → Shared → Prop} (hu : A.units < cLine) (J : Nat → Shared → Prop) (turns : GQ.ListI prog w A E l b N J) (last : ∀ s, J N s → Q (.bool false) s) (h : J 0 s) : wpAny (model prog w) A (richCompare .NotEq (.ref l) (.ref b)) Q E s := by
  obtain ⟨xs, ys, m1, m2, hx, hy, _⟩ := turns _ _ h
  refine wpAny_richCompare_same_room (op := .NotEq) ⟨_, hx, rfl⟩ ⟨_, hy, rfl⟩ F.slot_list_ne (GQ.call_here F.slot_list_ne ⟨_, hx, rfl⟩ F.entry_list_ne (F.args_list_ne_2 _ _) ?_) hu
  exact ne_list (R := wants (fun v s' => v ≠ .notImplemented ∧ Q v s') E) l b N J turns (fun s' q => ⟨nofun, last s' q⟩) h
theorem rc_neTup {l b : Addr} {xs ys : Array Value} {Q : Value → Shared → Prop} (same : xs.size = ys.size) (hu : A.units < cLine) (J : Nat → Shared → Prop) (tl : s.heap.IsTuple l xs) (tb : s.heap.IsTuple b ys)
    (alike : ∀ i (h1 : i < xs.size) (h2 : i < ys.size) s, J i s → wpAny (model prog w) A.in1 (eqBool xs[i] ys[i]) (fun r s' => r = true ∧ J (i + 1) s') E s) (last : ∀ s, J xs.size s → Q (.bool false) s) (h : J 0 s) : wpAny (model prog w) A (richCompare .NotEq (.ref l) (.ref b)) Q E s := by
  obtain ⟨⟨k1, d1, t1, z1⟩, hx, e1, m1, g1⟩ := id tl
  obtain ⟨⟨k2, d2, t2, z2⟩, hy, e2, m2, g2⟩ := id tb
  simp only at e1 g1 e2 g2
  subst e1 g1 e2 g2
  refine wpAny_richCompare_same_room (op := .NotEq) ⟨_, hx, rfl⟩ ⟨_, hy, rfl⟩ F.slot_tuple_ne (GQ.call_here F.slot_tuple_ne ⟨_, hx, rfl⟩ F.entry_tuple_ne (F.args_tuple_ne_2 _ _) ?_) hu
  exact ne_tup (R := wants (fun v s' => v ≠ .notImplemented ∧ Q v s') E) l b xs ys m1 m2 d1 d2 z1 z2 same J alike (fun s' q => ⟨nofun, last s' q⟩) hx hy h
end
end NQ

set_option Elab.async false
set_option linter.all false
set_option maxRecDepth 100000
set_option maxHeartbeats 0
namespace PV
noncomputable section
open PySem PySem.Spec
open PyProof.Rows L2

/-! ## 52. rows that hold instances: == and != when all is alike -/
section
variable {X : Cx} {n : Nat} {D0 : Eqv}
/-- != gives False for what D0 says -/
def NcG (X : Cx) (n : Nat) (D0 : Eqv) : Prop :=
  ∀ (A : Around) (pins : List (Addr × Obj)) (s : Shared) (σ : L2.St) (H : Hp) (x y : V) (u v : Value), L2.Sub X n A → Inv X pins σ H s → RelV x u → RelV y v → D0 x y H →
    wpAny (model X.prog X.w) A (richCompare .NotEq u v) (fun r s' => r = .bool false ∧ ∃ H', Inv X pins σ H' s' ∧ L2.Ext H H') X.xe s
theorem ncG_list (mon : Mon D0) (h : EqG X n D0) : NcG X (n + 1) (DList D0) := by
  rintro A pins s σ H _ _ u v sb I rx ry ⟨a, b, xs, ys, rfl, rfl, ha, hb, p⟩
  cases (show u = .ref a from rx)
  cases (show v = .ref b from ry)
  refine NQ.rc_neList (N := xs.length) sb.room.units0 (fun _ s' => LoopI X pins σ H s') ?_ (fun s' q => ⟨rfl, q⟩) ⟨H, I, L2.Ext.rfl'⟩
  intro i s' q
  obtain ⟨H1, I1, e1⟩ := id q
  obtain ⟨_, is, k1, r1, o1⟩ := I1.hok a _ (e1 _ _ ha)
  obtain ⟨_, js, k2, r2, o2⟩ := I1.hok b _ (e1 _ _ hb)
  have l1 := r1.length
  have l2 := r2.length
  have l3 := p.1
  exact ⟨is.toArray, js.toArray, k1, k2, o1, o2, by rw [List.size_toArray, l1], by rw [List.size_toArray, ← l2, l3], fun h1 h2 => turnG mon h sb p r1 r2 i h1 h2 s' q⟩
theorem ncG_tup (mon : Mon D0) (h : EqG X n D0) : NcG X (n + 1) (DTup X.K D0) := by
  rintro A pins s σ H _ _ u v sb I rx ry ⟨a, b, xs, ys, rfl, rfl, ha, hb, p⟩
  cases (show u = .ref a from rx)
  cases (show v = .ref b from ry)
  obtain ⟨is, r1, t1, _⟩ := I.tuple ha
  obtain ⟨js, r2, t2, _⟩ := I.tuple hb
  have same : is.toArray.size = js.toArray.size := by
    rw [List.size_toArray, List.size_toArray, ← r1.length, p.1, r2.length]
  exact NQ.rc_neTup same sb.room.units0 (fun _ s' => LoopI X pins σ H s') t1 t2 (fun i h1 h2 s' q => turnG mon h sb p r1 r2 i h1 h2 s' q) (fun s' q => ⟨rfl, q⟩) ⟨H, I, L2.Ext.rfl'⟩
def rNeG (D0 : Eqv) : R2 := fun x y H Q => D0 x y H ∧ ∀ H', L2.Ext H H' → Q (.bl false) H'
theorem op_neG (h : NcG X n D0) (hr : Room n X.A) : OpR X (compareOp .NotEq) (rNeG D0) := by
  rintro pins s σ H x y v u Q I rx ry ⟨d, q⟩
  show wpAny _ _ (richCompare .NotEq v u) _ _ s
  refine wpAny_mono (h X.A pins s σ H x y v u ⟨hr, rfl⟩ I rx ry d) ?_ fun _ _ z => z
  rintro _ s' ⟨rfl, H', I', e⟩
  exact ⟨.bl false, H', I', rfl, q H' e⟩
end
/-! alike, by the mirrors -/
def oneAlike (k : Str) (mm : List D → R D) (f : D → D → Bool) : D → D → Bool
  | .lst a, .lst b => eqR f a b
  | .tup a, .tup b => eqR f a b
  | .obj c fs, .obj c' gs => decide (c = k) && (decide (c' = k) && match mm [.obj c fs, .obj c' gs] with
    | .ok (.bl true) => true
    | _ => false)
  | x, y => match flatD x, flatD y with
    | some u, some v => eqV u v
    | _, _ => false
def alike (k : Str) (mm : List D → R D) : Nat → D → D → Bool
  | 0 => oneAlike k mm fun _ _ => false
  | n + 1 => oneAlike k mm (alike k mm n)
def isRow : D → Bool
  | .lst _ => true
  | .tup _ => true
  | _ => false
def gNeX (k : Str) (mm : List D → R D) (x y : D) : Option D := if (isRow x && alike k mm 3 x y) = true then some (.bl false) else gNe x y
def gEqX (k : Str) (mm : List D → R D) (x y : D) : Option D := if (isRow x && alike k mm 3 x y) = true then some (.bl true) else gEq x y
/-- two instances, alike by the class's == -/
def insR (K : PySem.W.Frag) (mg : Str → Option Value) (mm : List D → R D) (a b : Addr) (H : Hp) : Prop := ∃ G d1 d2, Same G H ∧ Rp K mg G (.ref a) d1 ∧ Rp K mg G (.ref b) d2 ∧ mm [d1, d2] = .ok (.bl true)
def lvl (K : PySem.W.Frag) (mg : Str → Option Value) (C : Addr) (mm : List D → R D) : Nat → Eqv
  | 0 => fun x y H => DFlat x y H ∨ DIns C (insR K mg mm) x y H
  | n + 1 => fun x y H => lvl K mg C mm n x y H ∨ (DList (lvl K mg C mm n) x y H ∨ DTup K (lvl K mg C mm n) x y H)
section
variable {K : PySem.W.Frag} {mg : Str → Option Value} {C : Addr} {mm : List D → R D} {k : Str}
theorem mon_insR : ∀ a b H H', L2.Ext H H' → insR K mg mm a b H → insR K mg mm a b H' := fun a b H H' e ⟨G, d1, d2, s, r1, r2, h⟩ => ⟨G, d1, d2, s.trans e, r1, r2, h⟩
theorem mon_lvl : ∀ n, Mon (lvl K mg C mm n)
  | 0 => Mon.or mon_flat (mon_ins mon_insR)
  | n + 1 => Mon.or (mon_lvl n) (Mon.or (mon_list (mon_lvl n)) (mon_tup (mon_lvl n)))
theorem prs_of {f : D → D → Bool} {E0 : Eqv} {G H : Hp} (h : ∀ d e v u, Rp K mg G v d → Rp K mg G u e → f d e = true → E0 v u H) : ∀ {ds es : List D} {vs us : List V}, RpL K mg G vs ds → RpL K mg G us es → eqR f ds es = true → Prs E0 vs us H
  | [], [], _, _, .nil, .nil, _ => Prs.nil
  | [], _ :: _, _, _, _, _, e => nomatch e
  | _ :: _, [], _, _, _, _, e => nomatch e
  | d :: ds, e :: es, _, _, .cons r1 rs, .cons q1 qs, z => by
    rw [eqR_cons, Bool.and_eq_true] at z
    exact Prs.cons (h _ _ _ _ r1 q1 z.1) (prs_of h rs qs z.2)
theorem lvl_one (T : mg k = some (.ref C)) {f : D → D → Bool} {E0 : Eqv} {G H : Hp} (gh : Same G H) (h : ∀ d e v u, Rp K mg G v d → Rp K mg G u e → f d e = true → E0 v u H) {d e : D} {v u : V} (r : Rp K mg G v d) (q : Rp K mg G u e) (z : oneAlike k mm f d e = true) :
    (DFlat v u H ∨ DIns C (insR K mg mm) v u H) ∨ (DList E0 v u H ∨ DTup K E0 v u H) := by
  have flat : (match flatD d, flatD e with
      | some u, some v => eqV u v
      | _, _ => false) = true → (DFlat v u H ∨ DIns C (insR K mg mm) v u H) ∨ (DList E0 v u H ∨ DTup K E0 v u H) := fun z => by
    split at z
    · rename_i e1 e2
      obtain ⟨rfl, f1⟩ := flat_rp r e1
      obtain ⟨rfl, f2⟩ := flat_rp q e2
      exact .inl (.inl ⟨f1, f2, z⟩)
    · cases z
  unfold oneAlike at z
  split at z
  · obtain ⟨a, vs, rfl, ha, ra⟩ := r.lst_inv
    obtain ⟨b, us, rfl, hb, rb⟩ := q.lst_inv
    exact .inr (.inl ⟨a, b, vs, us, rfl, rfl, gh _ _ ha, gh _ _ hb, prs_of h ra rb z⟩)
  · obtain ⟨a, vs, rfl, ha, ra⟩ := r.tup_inv
    obtain ⟨b, us, rfl, hb, rb⟩ := q.tup_inv
    exact .inr (.inr ⟨a, b, vs, us, rfl, rfl, .of (gh _ _ ha), .of (gh _ _ hb), prs_of h ra rb z⟩)
  · rw [Bool.and_eq_true, Bool.and_eq_true] at z
    obtain ⟨z1, z2, z3⟩ := z
    have e1 := of_decide_eq_true z1
    have e2 := of_decide_eq_true z2
    obtain ⟨a, C1, dx, fs, rfl, ha, g1, _⟩ := id r.obj_inv
    obtain ⟨b, C2, dy, gs, rfl, hb, g2, _⟩ := id q.obj_inv
    rw [e1, T] at g1
    rw [e2, T] at g2
    cases g1
    cases g2
    split at z3
    · rename_i em
      exact .inl (.inr ⟨a, b, dx, dy, fs, gs, rfl, rfl, gh _ _ ha, gh _ _ hb, G, _, _, gh, r, q, em⟩)
    · cases z3
  · exact flat z
theorem lvl_of (T : mg k = some (.ref C)) {G H : Hp} (gh : Same G H) : ∀ (n : Nat) (d e : D) (v u : V), Rp K mg G v d → Rp K mg G u e → alike k mm n d e = true → lvl K mg C mm (n + 1) v u H
  | 0, d, e, v, u, r, q, z => by
    rcases lvl_one (k := k) (f := fun _ _ => false) (E0 := lvl K mg C mm 0) T gh (fun _ _ _ _ _ _ z => by cases z) r q (show oneAlike k mm (fun _ _ => false) d e = true from z) with h | h
    · exact .inl h
    · exact .inr h
  | n + 1, d, e, v, u, r, q, z => by
    rcases lvl_one (k := k) (f := alike k mm n) (E0 := lvl K mg C mm (n + 1)) T gh (fun d e v u r q z => lvl_of T gh n d e v u r q z) r q (show oneAlike k mm (alike k mm n) d e = true from z) with h | h
    · exact .inl (lvl_low n h)
    · exact .inr h
where
  lvl_low : ∀ n {v u : V} {H : Hp}, DFlat v u H ∨ DIns C (insR K mg mm) v u H → lvl K mg C mm (n + 1) v u H
    | 0, _, _, _, h => .inl h
    | n + 1, _, _, _, h => .inl (lvl_low n h)
/-- a row of things alike -/
def rowE (K : PySem.W.Frag) (mg : Str → Option Value) (C : Addr) (mm : List D → R D) : Eqv := fun x y H => DList (lvl K mg C mm 3) x y H ∨ DTup K (lvl K mg C mm 3) x y H
theorem row_of (T : mg k = some (.ref C)) {G H : Hp} (gh : Same G H) {d e : D} {v u : V} (r : Rp K mg G v d) (q : Rp K mg G u e) (z : (isRow d && alike k mm 3 d e) = true) : rowE K mg C mm v u H := by
  rw [Bool.and_eq_true] at z
  obtain ⟨z1, z2⟩ := z
  have low := fun d e v u r q z => lvl_of (K := K) (mm := mm) T gh 2 d e v u r q z
  rcases lvl_one (k := k) (f := alike k mm 2) (E0 := lvl K mg C mm 3) T gh low r q (show oneAlike k mm (alike k mm 2) d e = true from z2) with (⟨f1, _, _⟩ | ⟨a, b, dx, dy, fs, gs, rfl, rfl, ha, _⟩) | h
  · cases d <;> first | (cases z1; done) | skip
    · obtain ⟨a, vs, rfl, _⟩ := r.tup_inv
      cases f1
    · obtain ⟨a, vs, rfl, _⟩ := r.lst_inv
      cases f1
  · cases d <;> first | (cases z1; done) | skip
    · obtain ⟨a', vs, e, hv, _⟩ := r.tup_inv
      cases e
      rw [gh _ _ hv] at ha
      cases ha
    · obtain ⟨a', vs, e, hv, _⟩ := r.lst_inv
      cases e
      rw [gh _ _ hv] at ha
      cases ha
  · exact h
end
section
variable {X : Cx} {W : WX} {c : Fc} {p1 p2 : Bool} {pos : Pos} {a b : Expr} {fa fb : M D} {k : Str} {E : XK} {C f : Addr} {fd : FuncData} {pn : List Str} {j : Nat} {mm : List D → R D}
theorem eqG_lvl (hx : Passes (L2.CX X.prog X.w) X E) (Mo : OpM X.K C "__eq__" f) (F : FnOk X.prog X.w X.K X.mg X.base (L2.CX X.prog X.w) j f fd pn (spM X.K X.mg [.sh, .sh] 0 (m0 mm))) (hb : Binds X.K fd pn []) : ∀ n, EqG X (j + n) (lvl X.K X.mg C mm n)
  | 0 => by
    have F' : FnOk X.prog X.w X.K X.mg X.base (L2.CX X.prog X.w) j f fd pn (spEq (insR X.K X.mg mm)) := F.imp fun vs H Q E' h => by
      obtain ⟨x, y, rfl, ⟨G, d1, d2, s, r1, r2, em⟩, q⟩ := h
      refine ⟨G, H, [d1, d2], [], s, .refl _, .sh r1 (.sh r2 .nil), List.nodup_nil, fun _ h => (nomatch h), ?_⟩
      unfold m0
      rw [em]
      intro v G' F1 H' fr fo x1 gf fh ow out nd hf
      obtain ⟨rv, _⟩ := ow
      cases rv
      exact q H' (x1.f.trans fh)
    exact EqG.or (eqG_flat.mono (Nat.zero_le _)) (eqG_ins F' Mo.at_ Mo.isFn_ hb hx)
  | n + 1 => EqG.or ((eqG_lvl hx Mo F hb n).mono (Nat.le_succ _)) (EqG.or (eqG_list (mon_lvl n) (eqG_lvl hx Mo F hb n)) (eqG_tup (mon_lvl n) (eqG_lvl hx Mo F hb n)))
theorem growE {G F H H' : Hp} (gf : Same G F) (fh : Same F H) (e : L2.Ext H H') : Grow G F H G F H' [] := ⟨.refl _ _, gf, fh.trans e, e, fun _ h1 h2 => absurd h1 h2, List.nodup_nil, fun _ h => (nomatch h), fun _ h => (nomatch h)⟩
theorem neX_op (hm : Rm X) (hx : Passes (L2.CX X.prog X.w) X E) (Mo : OpM X.K C "__eq__" f) (F : FnOk X.prog X.w X.K X.mg X.base (L2.CX X.prog X.w) j f fd pn (spM X.K X.mg [.sh, .sh] 0 (m0 mm))) (hr : Room (j + 4) X.A) (hb : Binds X.K fd pn []) :
    OpR X (compareOp .NotEq) (fun x y H Q => rNeG (rowE X.K X.mg C mm) x y H Q ∨ rNeD X.K x y H Q) := by
  have deep := eqG_lvl (mm := mm) hx Mo F hb 3
  have both : NcG X (j + 4) (rowE X.K X.mg C mm) := fun A pins s σ H x y u v sb I rx ry d => d.elim (fun d => ncG_list (mon_lvl 3) deep A pins s σ H x y u v sb I rx ry d) fun d => ncG_tup (mon_lvl 3) deep A pins s σ H x y u v sb I rx ry d
  exact OpR.or (op_neG both hr) (op_neD hm.u64)
theorem eqX_op (hm : Rm X) (hx : Passes (L2.CX X.prog X.w) X E) (Mo : OpM X.K C "__eq__" f) (F : FnOk X.prog X.w X.K X.mg X.base (L2.CX X.prog X.w) j f fd pn (spM X.K X.mg [.sh, .sh] 0 (m0 mm))) (hr : Room (j + 4) X.A) (hb : Binds X.K fd pn []) :
    OpR X (compareOp .Eq) (fun x y H Q => rEqG (rowE X.K X.mg C mm) x y H Q ∨ rEqD X.K x y H Q) := by
  have deep := eqG_lvl (mm := mm) hx Mo F hb 3
  have both : RcG X (j + 4) (rowE X.K X.mg C mm) := fun A pins s σ H x y u v sb I rx ry d => d.elim (fun d => rcG_list (mon_lvl 3) deep A pins s σ H x y u v sb I rx ry d) fun d => rcG_tup (mon_lvl 3) deep A pins s σ H x y u v sb I rx ry d
  exact OpR.or (op_eqG both hr) (op_eqD hm.u64)
theorem neX_S {K : PySem.W.Frag} {mg : Str → Option Value} (T : mg k = some (.ref C)) : Op2S K mg (.rd 0) (.rd 0) (.rd 0) (fun x y H Q => rNeG (rowE K mg C mm) x y H Q ∨ rNeD K x y H Q) (gNeX k mm) := by
  intro G F H d e v u z Q gf fh q1 q2 hz fin
  unfold gNeX at hz
  split at hz
  · rename_i ha
    cases hz
    exact .inl ⟨row_of T (gf.trans fh) q1.1 q2.1 ha, fun H' e => fin _ G F H' [] (growE gf fh e) ⟨.bl _, rfl⟩⟩
  · exact .inr (ne_S G F H d e v u z Q gf fh q1 q2 hz fin)
theorem eqX_S {K : PySem.W.Frag} {mg : Str → Option Value} (T : mg k = some (.ref C)) : Op2S K mg (.rd 0) (.rd 0) (.rd 0) (fun x y H Q => rEqG (rowE K mg C mm) x y H Q ∨ rEqD K x y H Q) (gEqX k mm) := by
  intro G F H d e v u z Q gf fh q1 q2 hz fin
  unfold gEqX at hz
  split at hz
  · rename_i ha
    cases hz
    exact .inl ⟨row_of T (gf.trans fh) q1.1 q2.1 ha, fun H' e => fin _ G F H' [] (growE gf fh e) ⟨.bl _, rfl⟩⟩
  · exact .inr (eq_S G F H d e v u z Q gf fh q1 q2 hz fin)
theorem ex_neX (hm : Rm X) (hW : Free W E) (ok : Cok X W) (T : ClsF X.K X.mg k C) (Mo : OpM X.K C "__eq__" f) (F : FnOk X.prog X.w X.K X.mg X.base (L2.CX X.prog X.w) j f fd pn (spM X.K X.mg [.sh, .sh] 0 (m0 mm))) (hr : Room (j + 4) X.A) (hb : Binds X.K fd pn []) (ha : EX X W c p1 (.rd 0) a fa) (hb' : EX X W c p2 (.rd 0) b fb) :
    EX X W c (p1 && p2) (.rd 0) (.Compare a [.NotEq] [b] pos) (e2 (gNeX k mm) fa fb) := ex_2 (fun h1 h2 => pe_cmpR (neX_op hm (passFree hW ok) Mo F hr hb) h1 h2 (nomark b)) (neX_S T.gl) ha hb' w00 w00
theorem tx_neX (hm : Rm X) (hW : Free W E) (ok : Cok X W) (T : ClsF X.K X.mg k C) (Mo : OpM X.K C "__eq__" f) (F : FnOk X.prog X.w X.K X.mg X.base (L2.CX X.prog X.w) j f fd pn (spM X.K X.mg [.sh, .sh] 0 (m0 mm))) (hr : Room (j + 4) X.A) (hb : Binds X.K fd pn []) (ha : EX X W c p1 (.rd 0) a fa) (hb' : EX X W c p2 (.rd 0) b fb) :
    TX X W c (p1 && p2) (.Compare a [.NotEq] [b] pos) (tB (e2 (gNeX k mm) fa fb)) := tx_cmp (neX_op hm (passFree hW ok) Mo F hr hb) (neX_S T.gl) ha hb' w00 w00 (nomark b)
theorem tx_eqX (hm : Rm X) (hW : Free W E) (ok : Cok X W) (T : ClsF X.K X.mg k C) (Mo : OpM X.K C "__eq__" f) (F : FnOk X.prog X.w X.K X.mg X.base (L2.CX X.prog X.w) j f fd pn (spM X.K X.mg [.sh, .sh] 0 (m0 mm))) (hr : Room (j + 4) X.A) (hb : Binds X.K fd pn []) (ha : EX X W c p1 (.rd 0) a fa) (hb' : EX X W c p2 (.rd 0) b fb) :
    TX X W c (p1 && p2) (.Compare a [.Eq] [b] pos) (tB (e2 (gEqX k mm) fa fb)) := tx_cmp (eqX_op hm (passFree hW ok) Mo F hr hb) (eqX_S T.gl) ha hb' w00 w00 (nomark b)
end
/-! ## 53. {i: j} -/
section
variable {X : Cx} {W : WX} {c : Fc} {pos : Pos}
theorem ex_dict1 (i j : Int) {t1 t2 p1 p2} : EX X W c false (.own 1) (.Dict [some (.Constant (.int i) t1 p1)] [.Constant (.int j) t2 p2] pos) (eC (.dct [(.int i, .int j)])) := by
  refine ⟨_, pe_disp (pps_cons pe_int pe_int pps_nil) rfl rfl (by simp) (show 1 ≤ 15 by decide), fun σ ρ G F H Q o w p hp => ?_⟩
  refine ⟨upd_same, [(.inl i, .int j)], rfl, show 1 ≤ 15 by decide, ?_⟩
  rw [upd_upd]
  show Q (.ref p) (upd H p (.dK [(.inl i, .int j)]))
  exact w (.ref p) G F _ [p] (.refl _ _) (o.grown (Grow.own (o := .dK [(.inl i, .int j)]) o.gf o.fh hp)) (Own.mkK (es := [(.int i, .int j)]) (kvs := [(.inl i, .int j)]) upd_same rfl (ownL_sh (.cons (.int j) .nil))) fun z => nomatch z
end
/-! ## 54. frames of the rules for texts -/
section
variable {i : Nat}
theorem fr_eSM1 {g : Str → D → Option D} {fo fe : M D} (h : Fr i fo) (h' : Fr i fe) : Fr i (eSM1 g fo fe) := fr_bind h fun x => by
  cases strOf? x with
  | none => exact fr_fail
  | some a => exact fr_bind h' fun _ => fr_ofO
theorem fr_eSlS {fa : M D} {fl fh : M (Option Int)} (h : Fr i fa) (h1 : Fr i fl) (h2 : Fr i fh) : Fr i (eSlS fa fl fh) := fr_bind h fun _ => fr_bind h1 fun _ => fr_bind h2 fun _ => fr_ofO
theorem fr_iStrM {fa : M D} (h : Fr i fa) : Fr i (iStrM fa) := fr_bind h fun x => by
  cases strOf? x with
  | none => exact fr_fail
  | some a => exact fr_pure
end
/-! ## 55. str(x): an instance's own text, or an int's -/
def eStrA (k : Str) (mm : List D → R D) (fa : M D) : M D := fa.bind fun x => if isObj k x = true then (M.lift mm (M.pure [x])).bind toStr else M.ofO (gStr x)
section
variable {X : Cx} {W : WX} {c : Fc} {p : Bool} {pos : Pos} {a : Expr} {fa : M D} {k : Str} {E : XK} {C f : Addr} {fd : FuncData} {pn : List Str} {j : Nat} {mm : List D → R D}
theorem ex_strA {pp : Pos} (hW : Free W E) (ok : Cok X W) (T : ClsF X.K X.mg k C) (Mo : OpM X.K C "__str__" f) (F : FnOk X.prog X.w X.K X.mg X.base (L2.CX X.prog X.w) j f fd pn (spM X.K X.mg [.sh] 0 (m0 mm))) (hr : Room (j + 2) X.A) (hb : Binds X.K fd pn []) (hm : X.mg "str" = none) (ha : EX X W c p (.rd 0) a fa) (hg : Gl X "str" := by rfl)
    (h1 : starEach [a] X.env = (false, eval a X.env) :: starEach [] X.env := by rfl) (hpl : (backTo pos (starEach [] X.env)).any (·.1) = false := by rfl) : EX X W c p (.rd 0) (.Call (.Name "str" pp) [a] [] pos) (eStrA k mm fa) := by
  obtain ⟨ta, a1, a2⟩ := ha
  have two : CallR X (.type "str") (fun xs H Q => (∃ x, xs = [x] ∧ rOne C (spM X.K X.mg [.sh] 0 (m0 mm)) E x H fun z H' => ∃ y, z = .str y ∧ Q z H') ∨ ∃ i : Int, xs = [.int i] ∧ i.natAbs.log2 < 1920 ∧ Q (.str (toString i)) H) := fun pins s σ H xs us Q I r h =>
    h.elim (fun h => str_own Mo F hr hb (passFree hW ok) pins s σ H xs us Q I r h) fun h => call_str_int pins s σ H xs us Q I r h
  refine ⟨_, pe_callTy two hg hm (by decide +kernel) (pa_cons a1 pa_nil h1) (by decide) (by decide) h1 hpl, fun σ ρ G F0 H Q o w => ?_⟩
  refine EX.use ta a2 o (Wp.ofBindM w) (fun r hr v G1 F1 H1 fp x1 o1 q1 hp1 => ?_) fun _ z => z
  have q1 : Rp X.K X.mg G1 v r.1 := q1.1
  split at hr
  · rename_i io
    obtain ⟨fs, eq⟩ := isObj_eq io
    rw [eq] at q1 hr
    obtain ⟨x, C', dx, us, rfl, e1, e2, _⟩ := q1.obj_inv
    rw [T.gl] at e2
    cases e2
    refine .inl ⟨.ref x, rfl, x, dx, us, rfl, o1.gh _ _ e1, ?_⟩
    rw [eE_of (σ := σ) hW]
    refine spm_use (m := mm) (ds := [.obj k fs]) (p := p) (ρ := ρ) (H := H) x1 o1.drop (.sh q1 .nil) hp1 ((Wp.ofBindM hr).imp (fun r hr => ?_) fun _ z => z)
    intro v G' F' H' fp x2 o2 q2 hp2
    obtain ⟨d', ρ2⟩ := r
    cases d' <;> first | exact hr.elim | skip
    have qv : Rp X.K X.mg G' v (.str _) := q2.1
    cases qv
    exact ⟨_, rfl, hr _ G' F' H' fp x2 o2 q2 hp2⟩
  · refine .inr ?_
    unfold M.ofO at hr
    split at hr
    · rename_i z hz
      generalize r.1 = d at q1 hz
      cases q1 <;> first | (cases hz; done) | skip
      have hz : (if _ then _ else _) = some z := hz
      split at hz
      · rename_i hl
        cases hz
        exact ⟨_, rfl, hl, hr _ G1 F1 H1 [] x1 o1.drop ⟨.str _, rfl⟩ hp1⟩
      · cases hz
    · exact hr.elim
end
theorem fr_eStrA {i : Nat} {k : Str} {mm : List D → R D} {fa : M D} (h : Fr i fa) : Fr i (eStrA k mm fa) := fr_bind h fun _ => fr_ite (fr_bind (fr_lift fr_pure) fun _ => fr_toStr) fr_ofO
end
end PV

set_option Elab.async false
set_option linter.all false
set_option maxRecDepth 100000
set_option maxHeartbeats 0
namespace PV
noncomputable section
open PySem PySem.Spec
open PyProof.Rows L2

/-! ## 57. an exception out of a comprehension's element -/
section
variable {M : Model} {A : Around} {E : Value → Shared → Prop} {s : Shared} {base : Heap} {env : PySem.Env} {outer : List PySem.Env} {e L L' : Addr} {Z : Obj → Prop}
/-- one frame notes it that did not hold it -/
theorem note_else {Q : Unit → Shared → Prop} (hZ : HandSPX.Steady Z) (fr : A.frames = some (env :: outer)) (hf : env.frame = some L) (ne : L' ≠ L) (hh : HandSPX.HeldZ base (env :: outer) e Z L' s.heap)
    (go : ∀ h', HandSPX.HeldZ base (env :: outer) e Z L h' → s.heap.UpToSlots h' → Q () { s with heap := h' }) : wpAny M A (noteFrame (.ref e) env) Q E s := by
  obtain ⟨kb, new, fun_, oe, vs, T, oT, ts, ge, ze, de, tb, nT, Te, gT, dT, at3⟩ := hh
  have offT : ∀ b o, s.heap.get? b = some o → (∀ xs, o.data ≠ .fields xs) → b ≠ T := by
    rintro b o g nf rfl
    rw [gT] at g
    cases g
    exact nf ts dT
  have same : ∀ b, b ≠ T → (s.heap.update T (Obj.mapFields (·.setIfInBounds 3 Value.none))).get? b = s.heap.get? b := fun b z => Heap.get?_update_other _ _ z.symm
  have baseT : ∀ b o, base.get? b = some o → b ≠ T := by
    rintro b o g rfl
    rw [nT] at g
    cases g
  have differ : ((rawInt L' : Value) == rawInt L) = false := by
    have : (rawInt L' : Value) ≠ rawInt L := fun z => ne (Int.ofNat.inj (show (L' : Int) = (L : Int) by simpa [rawInt] using z))
    simpa using this
  unfold noteFrame
  simp only [hf]
  refine wpAny_bind (wpAny_field ge de tb ?_)
  rw [if_pos (by simp : (Value.ref T != Value.none) = true)]
  refine wpAny_bind (wpAny_field gT dT at3 ?_)
  rw [differ, if_neg (by decide)]
  refine wpAny_bind (wpAny_setField gT dT (Array.getElem?_eq_some_iff.mp at3).1 ?_)
  refine HandSPX.wpAny_entryZ (base := base) hZ fr (fun_.of_keeps fun b o g nf => ⟨o, by rw [same b (offT b o g nf)]; exact g, rfl⟩) hf (by rw [same e Te.symm]; exact ge)
    (fun b o g => by rw [same b (baseT b o g)]; exact kb b o g) new de (Array.getElem?_eq_some_iff.mp tb).1 ze fun h' nt => ?_
  exact go h' ⟨nt.1, new, nt.2.1, nt.2.2.1⟩ fun b o g nf => nt.2.2.2 b o (by rw [same b (offT b o g nf)]; exact g) nf
end
/-- a block's context, with a wish about exceptions -/
abbrev blkx (X : Cx) (s : Shared) (H : Hp) (scope : Scope) (ce : PySem.Env) (fp : List Addr) (xe : Value → Shared → Prop) : Cx := { X.blk s H scope ce fp with xe := xe }
section
variable {X : Cx} {s : Shared} {σ : L2.St} {H : Hp} {pins : List (Addr × Obj)}
theorem ok_xe {e : Value → Shared → Prop} (h : X.Ok) : Cx.Ok { X with xe := e } := by
  cases h
  constructor <;> assumption
theorem inv_xe {e : Value → Shared → Prop} (h : Inv X pins σ H s) : Inv { X with xe := e } pins σ H s := by
  obtain ⟨a, b, c, d, f, g, i, j, k, l, m⟩ := h
  exact ⟨ok_xe a, b, c, d, f, g, i, j, k, l, m⟩
/-- what leaves the block's element is taken, if the def takes it -/
theorem takes_blk {W : WX} {ce : PySem.Env} {scope : Scope} {fp : List Addr} (hs : X.stack = X.env :: X.outer) (hf : X.env.frame = some X.env.locals) (tk : Takes X W) (hW : ∀ c d σ σ' H, W c d σ H → W c d σ' H)
    (I : Inv X pins σ H s) (hfp : ∀ b ∈ fp, FpOk X pins H b) (cl : ce.locals = s.heap.objs.size) (cf : ce.frame = X.env.frame) :
    Takes (blkx X s H scope ce fp (notedBy (model X.prog X.w) X.A ce (CompFails (model X.prog X.w) X.A X.xe ce))) W := by
  rintro u s' ⟨a, B, sI, pn, σI, HI, cls, d, rfl, J, nb, up, sky, na, os, ag, w⟩
  have fr : X.A.frames = some (X.env :: X.outer) := by rw [I.ok.frames, hs]
  have hB : ∀ b ∈ frs X.stack, b < s.heap.objs.size := fun b hb => by
    obtain ⟨_, o, g, _⟩ := J.ok.funs.mem hb
    exact Heap.lt_size g
  have offS : ce.locals ∉ frs X.stack := fun z => by
    have lt : ce.locals < s.heap.objs.size := hB _ z
    rw [cl] at lt
    exact Nat.lt_irrefl _ lt
  have offL : ce.locals ≠ X.env.locals := fun z => offS (by rw [z, hs]; unfold frs; rw [List.filterMap_cons, hf]; exact List.mem_cons_self)
  show wpAny (model X.prog X.w) X.A (noteFrame (.ref a) ce) _ _ s'
  rw [noteFrame_env _ cf]
  have fin : ∀ h1, HandSPX.HeldZ B (X.env :: X.outer) a (Zc cls d) X.env.locals h1 → s'.heap.UpToSlots h1 → CompFails (model X.prog X.w) X.A X.xe ce (.ref a) { s' with heap := h1 } := by
    intro h1 held up1
    obtain ⟨kb, new, fun_, tr⟩ := held
    obtain ⟨m, ⟨oC, es, ep, gC, rC⟩, _⟩ := J.loc
    have bC : B.get? ce.locals = some oC := nb _ oC gC offS
    refine ⟨m, ⟨oC, es, ep, kb _ _ bC, rC⟩, fun h2 m2 n2 sb => ?_⟩
    -- the ground without the block's names
    have g2 : ∀ b o, (PySem.W.hideAll B [ce.locals]).get? b = some o → B.get? b = some o ∧ b ≠ ce.locals := fun b o g => ⟨PySem.W.of_hideAll _ g, fun z => by
      rw [z, PySem.W.hideAll_none _ List.mem_cons_self] at g
      cases g⟩
    have gone : ∀ b, B.get? b = none → (PySem.W.hideAll B [ce.locals]).get? b = none := fun b z => by
      cases q : (PySem.W.hideAll B [ce.locals]).get? b with
      | none => rfl
      | some o => rw [(g2 b o q).1] at z; cases z
    have offC : ∀ b, B.get? b = none → b ≠ ce.locals := fun b z e => by
      rw [e, bC] at z
      cases z
    have held2 : HandSPX.HeldZ (PySem.W.hideAll B [ce.locals]) (X.env :: X.outer) a (Zc cls d) X.env.locals h2 := by
      refine ⟨fun b o g => ?_, gone _ new, funFrames_none (Heap.FunFrames.sameBut sb n2 fun_) fun b hb => gone b (fun_.mem hb).1, ?_⟩
      · obtain ⟨q1, q2⟩ := g2 b o g
        rw [sb.2 b q2]
        exact kb b o q1
      · obtain ⟨oe, vs, T, oT, ts, ge, ze, de, tb, nT, Te, gT, dT, at3⟩ := tr
        exact ⟨oe, vs, T, oT, ts, by rw [sb.2 a (offC a new)]; exact ge, ze, de, tb, gone T nT, Te, by rw [sb.2 T (offC T nT)]; exact gT, dT, at3⟩
    have held3 := held2
    obtain ⟨_, _, _, oe, vs, T, _, _, ge, _, de, tb, _⟩ := held3
    unfold PySem.passOn
    refine wpAny_bind (wpAny_field ge de tb ?_)
    rw [if_neg (by simp : ¬ (Value.ref T == Value.none) = true), cf, hf]
    refine wpAny_bind (HandSPX.setFlight_onZ held2 fun h3 held4 up3 => wpAny_throw ?_)
    -- back in the def
    have K1 : Inv X pins σ HI sI := I.call' (ch := fp) J.os J.base J.hok J.bare fun b hb => by
      obtain ⟨_, p2, _, p4, p5, p6⟩ := hfp b hb
      exact ⟨p4, p2, p5, p6⟩
    obtain ⟨p1, p2, _, p4, p5, p6⟩ := I.fpOk (b := ce.locals) (H' := HI) (Nat.le_of_eq cl.symm) J.free
    have K2 : Inv X pins σ HI { sI with heap := PySem.W.hideAll sI.heap [ce.locals] } := K1.turned (t' := sI.toks) (fun b o z g => PySem.W.hideAll_get _ g (by simpa using z)) p1 p2 p4 p5 p6
    have hid : ∀ b o, (PySem.W.hideAll sI.heap [ce.locals]).get? b = some o → sI.heap.get? b = some o ∧ b ≠ ce.locals := fun b o g => ⟨PySem.W.of_hideAll _ g, fun z => by
      rw [z, PySem.W.hideAll_none _ List.mem_cons_self] at g
      cases g⟩
    refine tk _ _ ⟨a, PySem.W.hideAll B [ce.locals], _, pins, σ, HI, cls, d, rfl, K2, fun b o g off => ?_, fun b o g nf => ?_, .inr (.inr (by rw [hs]; exact held4)), na, os, ag, hW _ _ _ _ _ w⟩
    · obtain ⟨q1, q2⟩ := hid b o g
      exact PySem.W.hideAll_get _ (nb b o q1 off) (by simpa using q2)
    · obtain ⟨q1, q2⟩ := hid b o g
      obtain ⟨l1, r1⟩ := up b o q1 nf
      obtain ⟨l2, r2⟩ := up1 b _ r1 nf
      have r3 : h2.get? b = some _ := (sb.2 b q2).trans r2
      obtain ⟨l4, r4⟩ := up3 b _ r3 nf
      exact ⟨l4, r4⟩
  have sky : Sky B (X.env :: X.outer) a (Zc cls d) ce.locals s'.heap := by rw [← hs]; exact sky
  rcases sky with ⟨k1, k2, k3, oe, vs, k4, k5, k6, k7⟩ | fl | hd
  · exact HandSPX.look_newZ Zc.steady fr k3 hf k4 k1 k2 k6 k7 k5 fin
  · exact HandSPX.looks_onZ Zc.steady fr hf fl fin
  · exact note_else Zc.steady fr hf offL hd fin
end
end
end PV

set_option Elab.async false
set_option linter.all false
set_option maxRecDepth 100000
set_option maxHeartbeats 0
namespace PV
noncomputable section
open PySem PySem.Spec
open PyProof.Rows L2

/-! ## 58. a comprehension out of whose element an exception may go -/
section
variable {X : Cx}
/-- the invariant of the turns -/
def Turning (Y : Cx) (τ : L2.St) (fp : List Addr) (tn : Nat → Heap → Prop) (V : Nat → Nat → Hp → Prop) (n : Nat) (s : Shared) : Prop :=
  ∃ i G, Inv Y [] τ G s ∧ tn i s.heap ∧ (∀ b ∈ fp, G b = none) ∧ V i n G
theorem keeps_pins {Y : Cx} {fp : List Addr} {h0 : Heap} {τ : L2.St} {G : Hp} {s : Shared} (J : Inv Y ([] ++ pinsAt fp h0) τ G s) {b : Addr} (hb : b ∈ fp) {o : Obj} (e : h0.get? b = some o) : s.heap.get? b = some o ∧ G b = none := by
  obtain ⟨p1, p2, _⟩ := J.pin (b, o) (List.mem_append_right _ (List.mem_append_right _ (mem_pinsAt hb e)))
  exact ⟨p1, p2⟩
theorem frees_ok {pins : List (Addr × Obj)} {σ : L2.St} {H : Hp} {s : Shared} {scope : Scope} {own : List (Str × Nat)} (I : Inv X pins σ H s) (bo : BlkOk X.N X.env.scope scope own) : ∀ y ∈ scope.names, y.2 = .free → ∃ c, X.env.cells.lookup y.1 = some c := fun y hy e =>
  I.ok.has _ ((bo.free y hy e).elim Or.inl Or.inr)
/-- the turns of the block, one after another -/
theorem lcx_turns {Y : Cx} {E' : Value → Shared → Prop} {τ τ1 : L2.St} {vs : List Nat} {fp : List Addr} {it D0 : Addr} {tn : Nat → Heap → Prop} {J : It} {V : Nat → Nat → Hp → Prop} {Z : Hp → Prop} {elt tg iter : Expr} {scope : Scope} {pos : Pos} {g : TG} {te : TE} {R : Result → Shared → Prop} (hτ : τ = wipe τ1 vs)
    (hc : Y.calm = true) (T : Turn Y.prog Y.w Y.K tg J fp it tn) (hR : ∀ e s', E' e s' → notedBy (model Y.prog Y.w) Y.A Y.env (fun e s' => R (.error e) s') e s') (hfp : ∀ {G : Hp} {σ' : L2.St} {s' : Shared}, Inv Y [] σ' G s' → (∀ b ∈ fp, G b = none) → ∀ b ∈ fp, FpOk Y [] G b)
    (pg : PG { Y with xe := fun _ _ => False } tg g) (pe : PE { Y with xe := E' } elt te) (nx0 : ∀ e s', ¬ Y.xe e s')
    (turn : ∀ i m G, V i m G → (J.stop i G ∧ Z G) ∨ (J.go i G ∧ ∃ Nx : Hp → Prop, (∀ G', Nx G' → ∃ m', m' < m ∧ V (i + 1) m' G') ∧ ∀ x G', J.yld i G x G' → g x τ G' fun σ2 G2 => wipe σ2 vs = τ ∧ te σ2 G2 fun y G4 => ∃ acc, G4 D0 = some (.lst acc) ∧ acc.length < sizeLine ∧ Nx (upd G4 D0 (.lst (acc ++ [y])))))
    (fin : ∀ G s', Inv Y [] τ G s' → Z G → R (.ok .next) s') (m0 : Nat) {s : Shared} (h0 : Turning Y τ fp tn V m0 s) :
    codeAny (model Y.prog Y.w) Y.A (.compLoop (.ListComp elt [⟨tg, iter, [], 0⟩] scope pos) 0 (.ref it) (.ref D0) Y.env) R s := by
  refine compLoop_any (Turning Y τ fp tn V) (fun m sa ⟨i, Ga, Ia, sta, na, va⟩ => ?_) m0 h0
  have never : ∀ {α : Type} {t : Sem α} {Q Q' : α → Shared → Prop} {E1 E2 : Value → Shared → Prop} {s1 : Shared}, wpAny (model Y.prog Y.w) Y.A t Q E1 s1 → (∀ e s', ¬ E1 e s') → (∀ a s', Q a s' → Q' a s') → wpAny (model Y.prog Y.w) Y.A t Q' E2 s1 := fun h no k => wpAny_mono h k fun e s' z => absurd z (no e s')
  rcases turn i m Ga va with ⟨stop, z⟩ | ⟨go, Nx, hNx, step⟩
  · have last := T.done Y rfl rfl rfl hc i [] sa _ Ga (fun _ _ => False) Ia (hfp Ia na) sta stop
    refine never last (fun _ _ => id) fun r sb q => ?_
    rw [q.1]
    exact fin Ga sb q.2 z
  · have one := T.item Y rfl rfl rfl hc i [] sa _ Ga (fun _ _ => False) Ia (hfp Ia na) sta go
    refine never one (fun _ _ => id) fun r sb q => ?_
    obtain ⟨u, rfl, q⟩ := q
    refine never q (fun _ _ => id) fun _ sc q => ?_
    obtain ⟨x, Gc, Ic, rx, yc, stc, nc⟩ := q
    have Jc := Ic.pinned (hfp Ic nc) (T.obj _ _ stc)
    refine never (pg.run _ sc _ Gc x u _ (inv_xe Jc) rx (step x Gc yc)) (fun _ _ => id) fun _ sd q => ?_
    obtain ⟨σd, Gd, Id, wd, qd⟩ := q
    -- no test stands in the clause
    refine wpAny_tests_nil ?_
    rw [if_pos rfl]
    refine wpAny_mono (pe.run _ sd σd Gd _ (inv_xe (X := { Y with xe := fun _ _ => False }) Id) qd) (fun v se q => ?_) fun e s' z => hR e s' z
    obtain ⟨yv, Ge, Ie, rv, acc, hD, hz, nx⟩ := q
    refine app_ok (X := Y) (inv_xe (X := { Y with xe := E' }) Ie) hD hz rv fun sf If => ?_
    obtain ⟨m', lt, vf⟩ := hNx _ nx
    have len : τ.length = σd.length := by rw [← wd, wipe_length]
    refine ⟨m', lt, i + 1, _, (If.unpinned (pins := [])).weak len (fun j v e => ?_), T.keep _ _ _ stc fun b hb o e => (keeps_pins If hb e).1, fun b hb => ?_, vf⟩
    · rw [← wd] at e
      exact (wipe_some e).1
    · obtain ⟨o, e, _⟩ := T.obj _ _ stc b hb
      exact (keeps_pins If hb e).2
end
/-- [elt for target in iter], elt with a wish about what leaves it -/
theorem pe_lcx {W : WX} {wi : TI} {g : TG} {te : TE} {elt tg iter : Expr} {scope : Scope} {own : List (Str × Nat)} {pos : Pos} (hc : X.calm = true) (hk : X.stack = X.env :: X.outer) (hf : X.env.frame = some X.env.locals) (hN : X.N.Nodup) (tk : Takes X W) (hW : ∀ c d σ σ' H, W c d σ H → W c d σ' H)
    (hi : PI X tg iter wi) (bo : BlkOk X.N X.env.scope scope own) (hg : ∀ s H C cl fp, PG (X.blk s H scope (compEnvC scope cl C X.env) fp) tg g)
    (he : ∀ s H C cl fp xe, Takes (blkx X s H scope (compEnvC scope cl C X.env) fp xe) W → PE (blkx X s H scope (compEnvC scope cl C X.env) fp xe) elt te) (hs : ∀ x, foldedSetIterable iter X.env x = pure x) :
    PE X (.ListComp elt [⟨tg, iter, [], 0⟩] scope pos) (tLc wi g tYes te (own.map fun p => p.2)) := by
  refine ⟨fun pins s0 σ H Q I0 h => ?_⟩
  rw [eval_ListComp]
  refine comprehension_at (use := none) rfl hs (closure_ok (frees_ok I0 bo)) bo.kind (fun y hy e => by rw [bo.uniq y hy, e]) ?_
  refine thn (hi.run pins s0 σ H _ I0 h) fun _ sx hx => thn hx fun _ s1 h1 => ?_
  obtain ⟨it, fp, tn, J, H1, rfl, I1, T, st1, free1, q⟩ := h1
  refine wpAny_newObj_type (newEnv_comp ?_) (Nat.zero_le _)
  -- the new list, at the heap's end
  obtain ⟨V, ⟨m0, v0⟩, turn⟩ := q s1.heap.objs.size (I1.hok.fresh (Nat.le_refl _))
  have up1 : ∀ b o, s1.heap.get? b = some o → (s1.heap.push { cls := .type "list", data := .seq ([] : List Value).toArray }).get? b = some o := fun b o e => Heap.get?_push_of_some _ e
  have I2 : Inv X pins σ (upd H1 s1.heap.objs.size (.lst [])) { s1 with heap := s1.heap.push { cls := .type "list", data := .seq ([] : List Value).toArray } } :=
    I1.laid (t' := s1.toks) up1 (Nat.le_refl _) ⟨Nat.zero_le _, [], 0, .nil, Heap.get?_push_size _ rfl⟩
  have low : ∀ b ∈ fp, b < s1.heap.objs.size := fun b hb => (T.obj _ _ st1 b hb).elim fun _ z => Heap.lt_size z.1
  have free2 : ∀ b ∈ fp, FpOk X pins (upd H1 s1.heap.objs.size (.lst [])) b := fun b hb => ⟨by rw [upd_ne (Nat.ne_of_lt (low b hb))]; exact (free1 b hb).1, (free1 b hb).2⟩
  have st2 := T.keep _ _ _ st1 fun b _ o e => up1 b o e
  have bigger : ∀ b ∈ fp, b < (s1.heap.push { cls := .type "list", data := .seq ([] : List Value).toArray }).objs.size := fun b hb => by
    rw [Heap.size_push]
    exact Nat.lt_succ_of_lt (low b hb)
  generalize s1.heap.objs.size = D0 at *
  generalize upd H1 D0 (.lst []) = H2 at *
  generalize es2 : ({ s1 with heap := s1.heap.push { cls := .type "list", data := .seq ([] : List Value).toArray } } : Shared) = s2 at I2
  have eh : s1.heap.push { cls := .type "list", data := .seq ([] : List Value).toArray } = s2.heap := by rw [← es2]
  have J0 := block_start I2 bo hN fun b hb => ⟨free2 b hb, by rw [← eh]; exact bigger b hb⟩
  have st3 : tn 0 (pushCells (s2.heap.push { cls := .type "dict", data := .dict #[] }) scope.names) := T.keep _ _ _ st2 fun b _ o e => pushCells_keeps _ _ _ _ (Heap.get?_push_of_some _ (by rw [← eh]; exact e))
  have gs := hg s2 H2 s2.heap.objs.size (cellsFrom (s2.heap.objs.size + 1) scope.names (cloFrom X.env.cells scope.names [])) fp
  have es := he s2 H2 s2.heap.objs.size (cellsFrom (s2.heap.objs.size + 1) scope.names (cloFrom X.env.cells scope.names [])) fp
  have goal : ∀ s3 : Shared, s3 = { s2 with heap := pushCells (s2.heap.push { cls := .type "dict", data := .dict #[] }) scope.names } →
      codeAny (model X.prog X.w) X.A (.compLoop (.ListComp elt [⟨tg, iter, [], 0⟩] scope pos) 0 (.ref it) (.ref D0) (compEnvC scope (cellsFrom (s2.heap.objs.size + 1) scope.names (cloFrom X.env.cells scope.names [])) s2.heap.objs.size X.env))
        (compEnds (model X.prog X.w) X.A X.xe none (EP X pins σ Q) (.ref D0) (compEnvC scope (cellsFrom (s2.heap.objs.size + 1) scope.names (cloFrom X.env.cells scope.names [])) s2.heap.objs.size X.env)) s3 := by
    rintro s3 rfl
    generalize ec : compEnvC scope (cellsFrom (s2.heap.objs.size + 1) scope.names (cloFrom X.env.cells scope.names [])) s2.heap.objs.size X.env = ce at J0 gs es ⊢
    have cl : ce.locals = s2.heap.objs.size := by rw [← ec]; rfl
    have cf : ce.frame = X.env.frame := by rw [← ec]; rfl
    have tk2 := takes_blk hk hf tk hW I2 free2 cl cf (scope := scope)
    refine lcx_turns (Y := X.blk s2 H2 scope ce fp) (τ := wipe σ (own.map fun p => p.2)) (Z := Q (.ref D0)) rfl hc T (fun e s' z => z) (fun {G σ' s'} J' hn b hb => ?_) gs (es _ tk2) (fun _ _ z => z) (fun i m G v => ?_) (fun G s' J' z => ?_) m0 ⟨0, H2, J0, st3, fun b hb => (free2 b hb).1, v0⟩
    · exact ⟨hn b hb, (J'.ok.exf b hb).1, J'.ok.exfs b hb, .inl hb, fun x c e => (J'.ok.exf b hb).2 x c e, fun p hp => absurd (show p ∈ ([] : List (Addr × Obj)) ++ [] from hp) (List.not_mem_nil)⟩
    · rcases turn i m G v with z | ⟨go, Nx, h1, h2⟩
      · exact .inl z
      · exact .inr ⟨go, Nx, h1, fun x G' y => h2 x G' y⟩
    · have C0 : G ce.locals = none := J'.free
      obtain ⟨mp, hn, _⟩ := J'.loc
      have back : Inv X pins σ G s' := I2.call' (ch := fp) J'.os J'.base J'.hok J'.bare fun b hb => let ⟨_, p2, _, p4, p5, p6⟩ := free2 b hb; ⟨p4, p2, p5, p6⟩
      obtain ⟨f0, f1, _, f3, f4, f5⟩ := I2.fpOk (H' := G) (Nat.le_of_eq cl.symm) C0
      refine ⟨mp, hn, fun h2 sb => ⟨.ref D0, G, back.turned (t' := s'.toks) (fun b o z g => (sb.2 b z).trans g) f0 f1 f3 f4 f5, rfl, z⟩⟩
  exact codeAny_compStart_list (goal _ rfl) (T.self X.A 0 _ _ _ st3 (goal _ rfl))
end
end PV

set_option Elab.async false
set_option linter.all false
set_option maxRecDepth 100000
set_option maxHeartbeats 0
namespace PV
noncomputable section
open PySem PySem.Spec
open PyProof.Rows L2

/-! ## 59. .. as a mirror -/
def lcX (vs : List Nat) (g : D → PV.Env → Option PV.Env) (f : M D) (ds : List D) : PV.Env → R (List D × PV.Env) := List.rec (motive := fun _ => PV.Env → R (List D × PV.Env)) (fun ρ => .ok ([], ρ)) (fun d _ ih ρ => match g d (wipeG ρ vs) with
  | none => .fail
  | some ρ1 => match f ρ1 with
    | .ok (y, ρ2) => match ih ρ2 with
      | .ok (ys, ρ3) => .ok (y :: ys, ρ3)
      | .exc x => .exc x
      | .fail => .fail
    | .exc x => .exc x
    | .fail => .fail) ds
theorem lcX_cons (vs : List Nat) (g : D → PV.Env → Option PV.Env) (f : M D) (d : D) (r : List D) (ρ : PV.Env) : lcX vs g f (d :: r) ρ = match g d (wipeG ρ vs) with
  | none => .fail
  | some ρ1 => match f ρ1 with
    | .ok (y, ρ2) => match lcX vs g f r ρ2 with
      | .ok (ys, ρ3) => .ok (y :: ys, ρ3)
      | .exc x => .exc x
      | .fail => .fail
    | .exc x => .exc x
    | .fail => .fail := rfl
def eLcX (vs : List Nat) (fi : M (List D)) (g : D → PV.Env → Option PV.Env) (f : M D) : M D := fi.bind fun ds ρ => if ds.length ≤ 100000 then match lcX vs g f ds ρ with
    | .ok (ys, ρ2) => .ok (.lst ys, restE ρ vs ρ2)
    | .exc x => .exc x
    | .fail => .fail
  else .fail
/-- what an element's derivation says, exceptions told -/
def canX (K : PySem.W.Frag) (mg : Str → Option Value) (W : WX) (c : Fc) (f : M D) : TE := fun σ H Q => ∃ ρ G F, Ok K mg c [] G F H σ ρ ∧
  Wp (f ρ) (fun r => ∀ v G' F' H' fp, Ext G F G' F' → Ok K mg c fp G' F' H' σ r.2 → Val K mg (.rd 0) G' H' r.1 v fp → Q v H') (Nx K mg W σ G F)
theorem EX.canX {X : Cx} {W : WX} {c : Fc} {p : Bool} {e : Expr} {f : M D} (h : EX X W c p (.rd 0) e f) : PE X e (PV.canX X.K X.mg W c f) := by
  obtain ⟨te, h1, h2⟩ := h
  refine ⟨fun pins s σ H Q I ⟨ρ, G, F, o, w⟩ => h1.run pins s σ H Q I (h2 σ ρ G F H Q o (w.imp (fun r hr v G' F' H' fp x o' q _ => hr v G' F' H' fp x o' q) fun _ z => z))⟩
/-- what is wished of the rest of the turns -/
def restX (K : PySem.W.Frag) (mg : Str → Option Value) (W : WX) (σ : L2.St) (G F : Hp) (E : List D × PV.Env → Prop) (acc : List D) (r : R (List D × PV.Env)) : Prop := Wp r (fun z => E (acc ++ z.1, z.2)) (Nx K mg W σ G F)
section
variable {X : Cx} {W : WX} {c : Fc} {p q r : Bool}
theorem nx_any {K : PySem.W.Frag} {mg : Str → Option Value} (hW : ∀ c d σ σ' H, W c d σ H → W c d σ' H) {σ σ' : L2.St} {G F : Hp} {x : Exn} (h : Nx K mg W σ G F x) : Nx K mg W σ' G F x := fun cls dd G' F' H' e1 e2 e3 e4 => hW _ _ _ _ _ (h cls dd G' F' H' e1 e2 e3 e4)
theorem ex_lcX (ok : Cok X W) (hk : X.stack = X.env :: X.outer) (hf : X.env.frame = some X.env.locals) (hN : X.N.Nodup) (hW : ∀ c d σ σ' H, W c d σ H → W c d σ' H) {elt tg iter : Expr} {scope : Scope} {own : List (Str × Nat)} {is : List Nat} {pos : Pos} {fi : M (List D)} {g : D → PV.Env → Option PV.Env} {fe : M D}
    (hi : IX X W c p tg iter fi) (bo : BlkOk X.N X.env.scope scope own) (hv : ownVs c (own.map (·.2)) = true) (his : ∀ i ∈ is, i ∈ own.map (·.2))
    (hg : ∀ (s : Shared) (H : Hp) (C : Addr) (cl : List (Str × Addr)) (fp : List Addr), GX (X.blk s H scope (compEnvC scope cl C X.env) fp) c tg is g)
    (he : ∀ (s : Shared) (H : Hp) (C : Addr) (cl : List (Str × Addr)) (fp : List Addr) (xe : Value → Shared → Prop), Cok (blkx X s H scope (compEnvC scope cl C X.env) fp xe) W → EX (blkx X s H scope (compEnvC scope cl C X.env) fp xe) W c r (.rd 0) elt fe)
    (hs : ∀ x, foldedSetIterable iter X.env x = pure x := by intro _; rfl) : EX X W c false (.own 1) (.ListComp elt [⟨tg, iter, [], 0⟩] scope pos) (eLcX (own.map (·.2)) fi g fe) := by
  obtain ⟨wi, i1, i2⟩ := hi
  have gw := (hg X.s_0 (fun _ => none) 0 [] []).1
  refine ⟨_, pe_lcx (g := canG X.K X.mg c is g) (te := PV.canX X.K X.mg W c fe) ok.calm hk hf hN ok.tk hW i1 bo (fun s H C cl fp => (hg s H C cl fp).can) (fun s H C cl fp xe tk => (he s H C cl fp xe ⟨tk, ok.calm⟩).canX) hs, fun σ ρ G F H Q o w => ?_⟩
  generalize own.map (fun p => p.2) = vs at *
  refine i2 σ ρ G F H _ o ((Wp.ofBindM w).imp (fun rr hr => ?_) fun _ z => z)
  intro J G1 F1 H1 x1 o1 it _ D0 hD
  obtain ⟨ds, ρ1⟩ := rr
  dsimp only at hr
  by_cases hl : ds.length ≤ 100000
  case neg => rw [if_neg hl] at hr; exact hr.elim
  rw [if_pos hl] at hr
  have start : restX X.K X.mg W σ G1 F1 (fun z => EPost X c false (.own 1) σ ρ G F H Q (.lst z.1, restE ρ1 vs z.2)) [] (lcX vs g fe ds ρ1) := by
    unfold restX
    cases e : lcX vs g fe ds ρ1 with
    | ok z => rw [e] at hr; exact hr
    | exc x => rw [e] at hr; exact Nx.ext x1 hr
    | fail => rw [e] at hr; exact hr
  refine ⟨fun i n H' => i + n = ds.length ∧ ∃ ρ' acc, LcS X.K X.mg c false 0 D0 G1 F1 H1 G1 (wipe σ vs) (wipeG ρ' vs) acc H' ∧ acc.length ≤ i ∧ restX X.K X.mg W σ G1 F1 (fun z => EPost X c false (.own 1) σ ρ G F H Q (.lst z.1, restE ρ1 vs z.2)) acc (lcX vs g fe (ds.drop i) ρ'),
    ⟨ds.length, Nat.zero_add _, ρ1, [], LcS.start o1 hD hv, Nat.le_refl _, start⟩, fun i n H2 ⟨en, ρ', acc, st, la, wish⟩ => ?_⟩
  by_cases hi : i < ds.length
  · obtain ⟨G2, F2, xg, _, o2, back⟩ := st.pin
    rw [List.drop_eq_getElem_cons hi, lcX_cons] at wish
    refine .inr ⟨it.go i H2 (xg.g.trans o2.gh) hi, fun H3 => i + 1 + (n - 1) = ds.length ∧ ∃ ρ' acc, LcS X.K X.mg c false 0 D0 G1 F1 H1 G1 (wipe σ vs) (wipeG ρ' vs) acc H3 ∧ acc.length ≤ i + 1 ∧ restX X.K X.mg W σ G1 F1 (fun z => EPost X c false (.own 1) σ ρ G F H Q (.lst z.1, restE ρ1 vs z.2)) acc (lcX vs g fe (ds.drop (i + 1)) ρ'),
      fun H3 hq => ⟨n - 1, by omega, hq⟩, fun x H3 y => ?_⟩
    obtain ⟨G3, F3, gr, rp⟩ := it.yld i H2 x H3 G2 F2 _ y xg.g o2.gf o2.fh (List.getElem?_eq_getElem hi)
    have o3 := o2.grown gr
    cases ea : g ds[i] (wipeG ρ' vs) with
    | none =>
      rw [ea] at wish
      exact wish.elim
    | some ρa =>
      rw [ea] at wish
      refine ⟨wipeG ρ' vs, ρa, G3, F3, _, o3, rp, ea, fun σ4 o4 hl4 w4 => ?_⟩
      have w5 : wipe σ4 vs = wipe σ vs := (w4 vs his).trans (by rw [wipe_eq, wipe_eq]; exact wipeG_sub fun i hi => hi)
      refine ⟨w5, ?_⟩
      unfold tYes
      dsimp only
      rw [if_pos rfl]
      refine ⟨ρa, G3, F3, o4, ?_⟩
      dsimp only at wish
      cases ec : fe ρa with
      | fail => rw [ec] at wish; exact wish.elim
      | exc x =>
        rw [ec] at wish
        exact nx_any hW (Nx.ext (xg.trans gr.x) wish)
      | ok z =>
        obtain ⟨y, ρc⟩ := z
        rw [ec] at wish
        dsimp only at wish
        intro v G6 F6 H6 fp x6 o6 q6
        obtain ⟨vs', hD', hl', st'⟩ := (back G1 ((xg.trans gr.x).trans x6).g (gr.x.trans x6) o6 fun hP => by cases hP).2 (mdK_own (k := 0) q6) hD
        have big : 100000 ≤ sizeLine := by decide
        refine ⟨vs', hD', by omega, by omega, ρc, acc ++ [y], ?_, ?_, ?_⟩
        · rw [← w5]; exact st'.wiped hv
        · rw [List.length_append]
          exact Nat.succ_le_succ la
        · unfold restX at wish ⊢
          cases e4 : lcX vs g fe (ds.drop (i + 1)) ρc with
          | ok z =>
            rw [e4] at wish
            show EPost X c false (.own 1) σ ρ G F H Q (.lst (acc ++ [y] ++ z.1), restE ρ1 vs z.2)
            rw [List.append_assoc]
            exact wish
          | exc x => rw [e4] at wish; exact wish
          | fail => rw [e4] at wish; exact wish
  · rw [List.drop_eq_nil_of_le (Nat.le_of_not_lt hi)] at wish
    obtain ⟨G2, F2, rest, x2, _, o2, ow2, h2⟩ := st.ex
    have fin : EPost X c false (.own 1) σ ρ G F H Q (.lst (acc ++ []), restE ρ1 vs ρ') := wish
    rw [List.append_nil] at fin
    exact .inl ⟨it.stop i H2 (x2.g.trans o2.gh) (Nat.le_of_not_lt hi), fin (.ref D0) G2 F2 H2 (D0 :: rest) (x1.trans x2) (o1.rest x2 o2 hv) ow2 fun hP => nomatch hP⟩
end
end
end PV

set_option Elab.async false
set_option linter.all false
set_option maxRecDepth 100000
set_option maxHeartbeats 0
namespace PV
noncomputable section
open PySem PySem.Spec
open PyProof.Rows L2

/-! ## 60. what _law_result tells, the same in every law -/
def told : R D → R D
  | .ok d => .ok (.tup [.str "told", d])
  | .exc .mal => .ok (.tup [.str "malformed", .non])
  | .exc (.refu e) => .ok (.tup [.str "refused", e])
  | .exc x => .exc x
  | .fail => .fail
abbrev argI (i : Int) : M D := e2 gIx (eVar 1) (eC (.int i))
abbrev toldS (T : FTab) (f : M (List D)) : SM := sRet (eTup (aCons (eC (.str "told")) (aCons (eCallL 0 T f) (aNil))))
abbrev lenT (i : Int) : M Bool := PV.tB (e2 gEq (e1L gLen (eVar 1)) (eC (.int i)))
def sResult (T : FTab) : SM := sTryR 2 (sSeq (sIf (lenT 1) (toldS T (aCons (argI 0) (aNil))) (sNx))
  (sSeq (sIf (lenT 2) (toldS T (aCons (argI 0) (aCons (argI 1) (aNil)))) (sNx))
  (sSeq (sIf (lenT 3) (toldS T (aCons (argI 0) (aCons (argI 1) (aCons (argI 2) (aNil))))) (sNx))
  (sSeq (sIf (lenT 4) (toldS T (aCons (argI 0) (aCons (argI 1) (aCons (argI 2) (aCons (argI 3) (aNil)))))) (sNx))
  (toldS T (aCons (argI 0) (aCons (argI 1) (aCons (argI 2) (aCons (argI 3) (aCons (argI 4) (aNil))))))))))) 
section
variable {T : FTab} {x : Str} {m : List D → R D} {vs : List D} {n : Nat}
theorem told_run {ρ : PV.Env} {f : M (List D)} (h0 : look ρ 0 = some (.fn x)) (hl : 2 < ρ.length) (hT : T x = some (n, m)) (hn : vs.length = n) (hf : f ρ = .ok (vs, ρ)) {s : SM} (hs : s ρ = toldS T f ρ) :
    (match sTryR 2 s ρ with
      | .nx _ => R.ok D.non
      | .rt d _ => .ok d
      | .exc x => .exc x
      | .fail => .fail) = told (m vs) := by
  have e : eCallL 0 T f ρ = upM ρ (m vs) := by
    unfold eCallL
    simp only [h0, hT]
    rw [M.bind_of hf, if_pos hn]
    cases m vs <;> rfl
  unfold sTryR
  rw [hs]
  unfold toldS sRet sDo
  cases hm : m vs with
  | ok d =>
    rw [hm] at e
    rw [tup_of (two_of (v := .str "told") rfl e) (by simp)]
    rfl
  | fail =>
    rw [hm] at e
    have : eTup (aCons (eC (.str "told")) (aCons (eCallL 0 T f) aNil)) ρ = .fail := by
      unfold eTup eL aCons
      simp [M.bind, e, upM, eC, M.pure]
    rw [this]
    rfl
  | exc q =>
    rw [hm] at e
    have : eTup (aCons (eC (.str "told")) (aCons (eCallL 0 T f) aNil)) ρ = .exc q := by
      unfold eTup eL aCons
      simp [M.bind, e, upM, eC, M.pure]
    rw [this]
    cases q with
    | refu d => 
      dsimp only
      rw [if_pos hl]
      rfl
    | mal => rfl
    | note d => rfl
theorem lenT_of {i : Int} {ρ : PV.Env} (h : look ρ 1 = some (.tup vs)) (hl : vs.length ≤ 100000) : lenT i ρ = .ok (decide ((vs.length : Int) = i), ρ) := tB_of (eqI_of (e1L_of (var_of h) rfl) rfl)
theorem argI_of {i : Nat} {ρ : PV.Env} {v : D} (h : look ρ 1 = some (.tup vs)) (g : gIx (.tup vs) (.int i) = some v) : argI i ρ = .ok (v, ρ) := e2_of (var_of h) rfl g
theorem if_past {t : M Bool} {a k : SM} {ρ : PV.Env} (h : t ρ = .ok (false, ρ)) : sSeq (sIf t a sNx) k ρ = k ρ := sSeq_of (if_no h)
theorem if_here {t : M Bool} {f : M (List D)} {k : SM} {ρ : PV.Env} (h : t ρ = .ok (true, ρ)) : sSeq (sIf t (toldS T f) sNx) k ρ = toldS T f ρ := by
  unfold sSeq sIf
  rw [sDo_of h]
  unfold toldS sRet sDo
  cases eTup (aCons (eC (.str "told")) (aCons (eCallL 0 T f) aNil)) ρ <;> rfl
theorem result_run (hT : T x = some (n, m)) (hn : vs.length = n) (h1 : 1 ≤ n) (h5 : n ≤ 5) : runF 3 0 (sResult T) [.fn x, .tup vs] = told (m vs) := by
  have h0 : look (PV.envOf 3 [.fn x, .tup vs]) 0 = some (.fn x) := rfl
  have h1 : look (PV.envOf 3 [.fn x, .tup vs]) 1 = some (.tup vs) := rfl
  have hl : 2 < (PV.envOf 3 [.fn x, .tup vs]).length := Nat.lt_succ_self 2
  unfold runF sResult
  rw [if_pos rfl]
  generalize PV.envOf 3 [.fn x, .tup vs] = ρ at *
  have L := fun i : Int => lenT_of (i := i) h1 (by omega)
  match vs, hn with
  | [], hn => simp at hn; omega
  | [a], hn => exact told_run h0 hl hT hn (cons_of (argI_of (i := 0) h1 rfl) nil_of) (if_here (L 1))
  | [a, b], hn => exact told_run h0 hl hT hn (cons_of (argI_of (i := 0) h1 rfl) (cons_of (argI_of (i := 1) h1 rfl) nil_of)) ((if_past (L 1)).trans (if_here (L 2)))
  | [a, b, c], hn => exact told_run h0 hl hT hn (cons_of (argI_of (i := 0) h1 rfl) (cons_of (argI_of (i := 1) h1 rfl) (cons_of (argI_of (i := 2) h1 rfl) nil_of))) ((if_past (L 1)).trans ((if_past (L 2)).trans (if_here (L 3))))
  | [a, b, c, d], hn => exact told_run h0 hl hT hn (cons_of (argI_of (i := 0) h1 rfl) (cons_of (argI_of (i := 1) h1 rfl) (cons_of (argI_of (i := 2) h1 rfl) (cons_of (argI_of (i := 3) h1 rfl) nil_of)))) ((if_past (L 1)).trans ((if_past (L 2)).trans ((if_past (L 3)).trans (if_here (L 4)))))
  | [a, b, c, d, e], hn => exact told_run h0 hl hT hn (cons_of (argI_of (i := 0) h1 rfl) (cons_of (argI_of (i := 1) h1 rfl) (cons_of (argI_of (i := 2) h1 rfl) (cons_of (argI_of (i := 3) h1 rfl) (cons_of (argI_of (i := 4) h1 rfl) nil_of))))) ((if_past (L 1)).trans ((if_past (L 2)).trans ((if_past (L 3)).trans (if_past (L 4)))))
  | _ :: _ :: _ :: _ :: _ :: _ :: _, hn => simp at hn; omega
end
/-! ## 61. known slots, fewer or put in another order -/
theorem ag_sub {j n : Nat} {L L' : List (Nat × D)} {ρ : PV.Env} (A : Ag j n L ρ) (h : ∀ p ∈ L', L.lookup p.1 = some p.2) : Ag j n L' ρ := A.sub fun i d e => h (i, d) (lookup_mem e)
theorem each_cons {L l : List (Nat × D)} {a : Nat × D} (h : L.lookup a.1 = some a.2) (t : ∀ p ∈ l, L.lookup p.1 = some p.2) : ∀ p ∈ a :: l, L.lookup p.1 = some p.2 := fun p hp => (List.mem_cons.mp hp).elim (fun e => by rw [e]; exact h) (t p)
theorem each_nil {L : List (Nat × D)} : ∀ p ∈ ([] : List (Nat × D)), L.lookup p.1 = some p.2 := fun _ h => absurd h List.not_mem_nil
/-! ## 62. a comprehension whose element may raise, but does not -/
theorem lcX_map {v : Nat} {f : M D} {h : D → D} {ρ : PV.Env} : ∀ (ds : List D) (ρ' : PV.Env), wipeG ρ' [v] = wipeG ρ [v] → (∀ d ∈ ds, f (ρ.set v (some d)) = .ok (h d, ρ.set v (some d))) → ∃ ρ2, lcX [v] (tgName v) f ds ρ' = .ok (ds.map h, ρ2) ∧ wipeG ρ2 [v] = wipeG ρ [v]
  | [], ρ', e, _ => ⟨ρ', rfl, e⟩
  | d :: r, ρ', e, hf => by
    have es : (wipeG ρ' [v]).set v (some d) = ρ.set v (some d) := by
      rw [e, wipeG_cons]
      show (ρ.set v none).set v (some d) = _
      rw [List.set_set]
    obtain ⟨ρ2, q, w⟩ := lcX_map r (ρ.set v (some d)) (wipeG_set (by simp)) fun x hx => hf x (List.mem_cons_of_mem _ hx)
    refine ⟨ρ2, ?_, w⟩
    rw [lcX_cons, tgName_def]
    dsimp only
    rw [es, hf d List.mem_cons_self]
    dsimp only
    rw [← tgName_def, q]
    rfl
theorem eLcX_map {v : Nat} {f : M D} {h : D → D} {fi : M (List D)} {ds : List D} {ρ : PV.Env} (hfi : fi ρ = .ok (ds, ρ)) (hl : ds.length ≤ 100000) (hf : ∀ d ∈ ds, f (ρ.set v (some d)) = .ok (h d, ρ.set v (some d))) : eLcX [v] fi (tgName v) f ρ = .ok (.lst (ds.map h), ρ) := by
  obtain ⟨ρ2, e, w⟩ := lcX_map ds ρ rfl hf
  unfold eLcX
  rw [M.bind_of hfi, if_pos hl, e]
  dsimp only
  rw [restE_wipe w]
theorem ix0_of {fa : M D} {ρ ρ1 : PV.Env} {d : D} {ds : List D} {t : List D → D} (ha : fa ρ = .ok (t (d :: ds), ρ1)) (ht : t = D.tup ∨ t = D.lst) : e2 gIx fa (eC (.int 0)) ρ = .ok (d, ρ1) := by
  refine e2_of ha rfl ?_
  rcases ht with rfl | rfl <;> simp [gIx, atI, ixN]
end
end PV

open PySem PySem.Spec
open PyProof.Rows L2
set_option Elab.async false
set_option linter.all false
set_option maxRecDepth 100000
set_option maxHeartbeats 0
namespace K02
open PV
noncomputable section
def topS (i : Nat) : Stmt := PySem.Challenge.pw_surfaceroads_k02_whole_rows_and_texts_of.main.body.getD i (.Pass ⟨0, 0, 0, 0⟩)
def u__wall : {st : Stmt // topS 0 = st} := by
  refine ⟨?_, ?_⟩
  rotate_left
  conv => lhs; whnf
abbrev t__wall : Stmt := u__wall.1
def u_is_integer : {st : Stmt // topS 7 = st} := by
  refine ⟨?_, ?_⟩
  rotate_left
  conv => lhs; whnf
abbrev t_is_integer : Stmt := u_is_integer.1
def u_common : {st : Stmt // topS 8 = st} := by
  refine ⟨?_, ?_⟩
  rotate_left
  conv => lhs; whnf
abbrev t_common : Stmt := u_common.1
def u_check_ratio : {st : Stmt // topS 12 = st} := by
  refine ⟨?_, ?_⟩
  rotate_left
  conv => lhs; whnf
abbrev t_check_ratio : Stmt := u_check_ratio.1
def u_is_ratio_row : {st : Stmt // topS 13 = st} := by
  refine ⟨?_, ?_⟩
  rotate_left
  conv => lhs; whnf
abbrev t_is_ratio_row : Stmt := u_is_ratio_row.1
def u_ratios : {st : Stmt // topS 14 = st} := by
  refine ⟨?_, ?_⟩
  rotate_left
  conv => lhs; whnf
abbrev t_ratios : Stmt := u_ratios.1
def u_ratio_sum : {st : Stmt // topS 15 = st} := by
  refine ⟨?_, ?_⟩
  rotate_left
  conv => lhs; whnf
abbrev t_ratio_sum : Stmt := u_ratio_sum.1
def u_ratio_product : {st : Stmt // topS 16 = st} := by
  refine ⟨?_, ?_⟩
  rotate_left
  conv => lhs; whnf
abbrev t_ratio_product : Stmt := u_ratio_product.1
def u_dot : {st : Stmt // topS 17 = st} := by
  refine ⟨?_, ?_⟩
  rotate_left
  conv => lhs; whnf
abbrev t_dot : Stmt := u_dot.1
def u_ratios_text : {st : Stmt // topS 18 = st} := by
  refine ⟨?_, ?_⟩
  rotate_left
  conv => lhs; whnf
abbrev t_ratios_text : Stmt := u_ratios_text.1
def u_read_ratio : {st : Stmt // topS 19 = st} := by
  refine ⟨?_, ?_⟩
  rotate_left
  conv => lhs; whnf
abbrev t_read_ratio : Stmt := u_read_ratio.1
def u_read_ratios : {st : Stmt // topS 20 = st} := by
  refine ⟨?_, ?_⟩
  rotate_left
  conv => lhs; whnf
abbrev t_read_ratios : Stmt := u_read_ratios.1
def u__law_state : {st : Stmt // topS 22 = st} := by
  refine ⟨?_, ?_⟩
  rotate_left
  conv => lhs; whnf
abbrev t__law_state : Stmt := u__law_state.1
def u__law_take : {st : Stmt // topS 23 = st} := by
  refine ⟨?_, ?_⟩
  rotate_left
  conv => lhs; whnf
abbrev t__law_take : Stmt := u__law_take.1
def u__law_says : {st : Stmt // topS 24 = st} := by
  refine ⟨?_, ?_⟩
  rotate_left
  conv => lhs; whnf
abbrev t__law_says : Stmt := u__law_says.1
def u__law_is_whole : {st : Stmt // topS 25 = st} := by
  refine ⟨?_, ?_⟩
  rotate_left
  conv => lhs; whnf
abbrev t__law_is_whole : Stmt := u__law_is_whole.1
def u__law_same : {st : Stmt // topS 26 = st} := by
  refine ⟨?_, ?_⟩
  rotate_left
  conv => lhs; whnf
abbrev t__law_same : Stmt := u__law_same.1
def u__law_common : {st : Stmt // topS 27 = st} := by
  refine ⟨?_, ?_⟩
  rotate_left
  conv => lhs; whnf
abbrev t__law_common : Stmt := u__law_common.1
def u__law_result : {st : Stmt // topS 28 = st} := by
  refine ⟨?_, ?_⟩
  rotate_left
  conv => lhs; whnf
abbrev t__law_result : Stmt := u__law_result.1
def u__law_num : {st : Stmt // topS 29 = st} := by
  refine ⟨?_, ?_⟩
  rotate_left
  conv => lhs; whnf
abbrev t__law_num : Stmt := u__law_num.1
def u__law_num_row : {st : Stmt // topS 30 = st} := by
  refine ⟨?_, ?_⟩
  rotate_left
  conv => lhs; whnf
abbrev t__law_num_row : Stmt := u__law_num_row.1
def u__law_read : {st : Stmt // topS 31 = st} := by
  refine ⟨?_, ?_⟩
  rotate_left
  conv => lhs; whnf
abbrev t__law_read : Stmt := u__law_read.1
def u__law_is_text : {st : Stmt // topS 32 = st} := by
  refine ⟨?_, ?_⟩
  rotate_left
  conv => lhs; whnf
abbrev t__law_is_text : Stmt := u__law_is_text.1
def u_law : {st : Stmt // topS 33 = st} := by
  refine ⟨?_, ?_⟩
  rotate_left
  conv => lhs; whnf
abbrev t_law : Stmt := u_law.1
def u_Refused___init__ : {st : Stmt // (clsS (topS 4)).getD 0 (.Pass ⟨0, 0, 0, 0⟩) = st} := by
  refine ⟨?_, ?_⟩
  rotate_left
  conv => lhs; whnf
abbrev t_Refused___init__ : Stmt := u_Refused___init__.1
def u_NoText___init__ : {st : Stmt // (clsS (topS 5)).getD 0 (.Pass ⟨0, 0, 0, 0⟩) = st} := by
  refine ⟨?_, ?_⟩
  rotate_left
  conv => lhs; whnf
abbrev t_NoText___init__ : Stmt := u_NoText___init__.1
def u_Ratio___init__ : {st : Stmt // (clsS (topS 11)).getD 0 (.Pass ⟨0, 0, 0, 0⟩) = st} := by
  refine ⟨?_, ?_⟩
  rotate_left
  conv => lhs; whnf
abbrev t_Ratio___init__ : Stmt := u_Ratio___init__.1
def u_Ratio___add__ : {st : Stmt // (clsS (topS 11)).getD 1 (.Pass ⟨0, 0, 0, 0⟩) = st} := by
  refine ⟨?_, ?_⟩
  rotate_left
  conv => lhs; whnf
abbrev t_Ratio___add__ : Stmt := u_Ratio___add__.1
def u_Ratio___sub__ : {st : Stmt // (clsS (topS 11)).getD 2 (.Pass ⟨0, 0, 0, 0⟩) = st} := by
  refine ⟨?_, ?_⟩
  rotate_left
  conv => lhs; whnf
abbrev t_Ratio___sub__ : Stmt := u_Ratio___sub__.1
def u_Ratio___mul__ : {st : Stmt // (clsS (topS 11)).getD 3 (.Pass ⟨0, 0, 0, 0⟩) = st} := by
  refine ⟨?_, ?_⟩
  rotate_left
  conv => lhs; whnf
abbrev t_Ratio___mul__ : Stmt := u_Ratio___mul__.1
def u_Ratio___neg__ : {st : Stmt // (clsS (topS 11)).getD 4 (.Pass ⟨0, 0, 0, 0⟩) = st} := by
  refine ⟨?_, ?_⟩
  rotate_left
  conv => lhs; whnf
abbrev t_Ratio___neg__ : Stmt := u_Ratio___neg__.1
def u_Ratio___eq__ : {st : Stmt // (clsS (topS 11)).getD 5 (.Pass ⟨0, 0, 0, 0⟩) = st} := by
  refine ⟨?_, ?_⟩
  rotate_left
  conv => lhs; whnf
abbrev t_Ratio___eq__ : Stmt := u_Ratio___eq__.1
def u_Ratio_less : {st : Stmt // (clsS (topS 11)).getD 6 (.Pass ⟨0, 0, 0, 0⟩) = st} := by
  refine ⟨?_, ?_⟩
  rotate_left
  conv => lhs; whnf
abbrev t_Ratio_less : Stmt := u_Ratio_less.1
def u_Ratio___str__ : {st : Stmt // (clsS (topS 11)).getD 7 (.Pass ⟨0, 0, 0, 0⟩) = st} := by
  refine ⟨?_, ?_⟩
  rotate_left
  conv => lhs; whnf
abbrev t_Ratio___str__ : Stmt := u_Ratio___str__.1
def u_Ratio_over : {st : Stmt // (clsS (topS 11)).getD 8 (.Pass ⟨0, 0, 0, 0⟩) = st} := by
  refine ⟨?_, ?_⟩
  rotate_left
  conv => lhs; whnf
abbrev t_Ratio_over : Stmt := u_Ratio_over.1
def u_Ratio_times : {st : Stmt // (clsS (topS 11)).getD 9 (.Pass ⟨0, 0, 0, 0⟩) = st} := by
  refine ⟨?_, ?_⟩
  rotate_left
  conv => lhs; whnf
abbrev t_Ratio_times : Stmt := u_Ratio_times.1
def u_Ratio_sign : {st : Stmt // (clsS (topS 11)).getD 10 (.Pass ⟨0, 0, 0, 0⟩) = st} := by
  refine ⟨?_, ?_⟩
  rotate_left
  conv => lhs; whnf
abbrev t_Ratio_sign : Stmt := u_Ratio_sign.1
def u_Ratio_is_zero : {st : Stmt // (clsS (topS 11)).getD 11 (.Pass ⟨0, 0, 0, 0⟩) = st} := by
  refine ⟨?_, ?_⟩
  rotate_left
  conv => lhs; whnf
abbrev t_Ratio_is_zero : Stmt := u_Ratio_is_zero.1
def u_Ratio_is_whole : {st : Stmt // (clsS (topS 11)).getD 12 (.Pass ⟨0, 0, 0, 0⟩) = st} := by
  refine ⟨?_, ?_⟩
  rotate_left
  conv => lhs; whnf
abbrev t_Ratio_is_whole : Stmt := u_Ratio_is_whole.1
def u_Ratio_floor : {st : Stmt // (clsS (topS 11)).getD 13 (.Pass ⟨0, 0, 0, 0⟩) = st} := by
  refine ⟨?_, ?_⟩
  rotate_left
  conv => lhs; whnf
abbrev t_Ratio_floor : Stmt := u_Ratio_floor.1
def u_Ratio_size : {st : Stmt // (clsS (topS 11)).getD 14 (.Pass ⟨0, 0, 0, 0⟩) = st} := by
  refine ⟨?_, ?_⟩
  rotate_left
  conv => lhs; whnf
abbrev t_Ratio_size : Stmt := u_Ratio_size.1
theorem sc__wall : FnScope ["k"] ["k"] (defScope t__wall) := ⟨rfl, rfl, rfl, by decide +kernel, rfl, by decide +kernel, by decide +kernel⟩
theorem sc_is_integer : FnScope ["value"] ["value"] (defScope t_is_integer) := ⟨rfl, rfl, rfl, by decide +kernel, rfl, by decide +kernel, by decide +kernel⟩
theorem sc_common : FnScope ["a", "b"] ["a", "b"] (defScope t_common) := ⟨rfl, rfl, rfl, by decide +kernel, rfl, by decide +kernel, by decide +kernel⟩
theorem sc_check_ratio : FnScope ["value"] ["value"] (defScope t_check_ratio) := ⟨rfl, rfl, rfl, by decide +kernel, rfl, by decide +kernel, by decide +kernel⟩
theorem sc_is_ratio_row : FnScope ["value", "x"] ["value"] (defScope t_is_ratio_row) := ⟨rfl, rfl, rfl, by decide +kernel, rfl, by decide +kernel, by decide +kernel⟩
theorem sc_ratios : FnScope ["row", "x"] ["row"] (defScope t_ratios) := ⟨rfl, rfl, rfl, by decide +kernel, rfl, by decide +kernel, by decide +kernel⟩
theorem sc_ratio_sum : FnScope ["row", "found", "x"] ["row"] (defScope t_ratio_sum) := ⟨rfl, rfl, rfl, by decide +kernel, rfl, by decide +kernel, by decide +kernel⟩
theorem sc_ratio_product : FnScope ["row", "found", "x"] ["row"] (defScope t_ratio_product) := ⟨rfl, rfl, rfl, by decide +kernel, rfl, by decide +kernel, by decide +kernel⟩
theorem sc_dot : FnScope ["one", "two", "x", "y"] ["one", "two"] (defScope t_dot) := ⟨rfl, rfl, rfl, by decide +kernel, rfl, by decide +kernel, by decide +kernel⟩
theorem sc_ratios_text : FnScope ["row", "x"] ["row"] (defScope t_ratios_text) := ⟨rfl, rfl, rfl, by decide +kernel, rfl, by decide +kernel, by decide +kernel⟩
theorem sc_read_ratio : FnScope ["text", "top", "slash", "low", "piece", "found", "c"] ["text"] (defScope t_read_ratio) := ⟨rfl, rfl, rfl, by decide +kernel, rfl, by decide +kernel, by decide +kernel⟩
theorem sc_read_ratios : FnScope ["text", "piece"] ["text"] (defScope t_read_ratios) := ⟨rfl, rfl, rfl, by decide +kernel, rfl, by decide +kernel, by decide +kernel⟩
theorem sc__law_state : FnScope ["script", "seed", "total", "cell"] ["script"] (defScope t__law_state) := ⟨rfl, rfl, rfl, by decide +kernel, rfl, by decide +kernel, by decide +kernel⟩
theorem sc__law_take : FnScope ["state", "m", "value"] ["state", "m"] (defScope t__law_take) := ⟨rfl, rfl, rfl, by decide +kernel, rfl, by decide +kernel, by decide +kernel⟩
theorem sc__law_says : FnScope ["value", "due"] ["value", "due"] (defScope t__law_says) := ⟨rfl, rfl, rfl, by decide +kernel, rfl, by decide +kernel, by decide +kernel⟩
theorem sc__law_is_whole : FnScope ["value"] ["value"] (defScope t__law_is_whole) := ⟨rfl, rfl, rfl, by decide +kernel, rfl, by decide +kernel, by decide +kernel⟩
theorem sc__law_same : FnScope ["one", "two", "k"] ["one", "two"] (defScope t__law_same) := ⟨rfl, rfl, rfl, by decide +kernel, rfl, by decide +kernel, by decide +kernel⟩
theorem sc__law_common : FnScope ["a", "b"] ["a", "b"] (defScope t__law_common) := ⟨rfl, rfl, rfl, by decide +kernel, rfl, by decide +kernel, by decide +kernel⟩
theorem sc__law_result : FnScope ["act", "given", "refused"] ["act", "given"] (defScope t__law_result) := ⟨rfl, rfl, rfl, by decide +kernel, rfl, by decide +kernel, by decide +kernel⟩
theorem sc__law_num : FnScope ["state"] ["state"] (defScope t__law_num) := ⟨rfl, rfl, rfl, by decide +kernel, rfl, by decide +kernel, by decide +kernel⟩
theorem sc__law_num_row : FnScope ["state", "many", "k"] ["state", "many"] (defScope t__law_num_row) := ⟨rfl, rfl, rfl, by decide +kernel, rfl, by decide +kernel, by decide +kernel⟩
theorem sc__law_read : FnScope ["act", "text", "error"] ["act", "text"] (defScope t__law_read) := ⟨rfl, rfl, rfl, by decide +kernel, rfl, by decide +kernel, by decide +kernel⟩
theorem sc__law_is_text : FnScope ["text", "own", "parts", "part", "c"] ["text"] (defScope t__law_is_text) := ⟨rfl, rfl, rfl, by decide +kernel, rfl, by decide +kernel, by decide +kernel⟩
theorem sc_law : FnScope ["script", "state", "extent", "row", "other", "whole", "product", "across", "x", "y", "value", "good", "mixed", "text", "own", "at", "mark", "bent", "told", "line", "bad", "part", "act"] ["script"] (defScope t_law) := ⟨rfl, rfl, rfl, by decide +kernel, rfl, by decide +kernel, by decide +kernel⟩
theorem sc_Refused___init__ : FnScope ["self", "reason"] ["self", "reason"] (defScope t_Refused___init__) := ⟨rfl, rfl, rfl, by decide +kernel, rfl, by decide +kernel, by decide +kernel⟩
theorem sc_NoText___init__ : FnScope ["self", "at"] ["self", "at"] (defScope t_NoText___init__) := ⟨rfl, rfl, rfl, by decide +kernel, rfl, by decide +kernel, by decide +kernel⟩
theorem sc_Ratio___init__ : FnScope ["self", "n", "d", "g"] ["self", "n", "d"] (defScope t_Ratio___init__) := ⟨rfl, rfl, rfl, by decide +kernel, rfl, by decide +kernel, by decide +kernel⟩
theorem sc_Ratio___add__ : FnScope ["self", "other"] ["self", "other"] (defScope t_Ratio___add__) := ⟨rfl, rfl, rfl, by decide +kernel, rfl, by decide +kernel, by decide +kernel⟩
theorem sc_Ratio___sub__ : FnScope ["self", "other"] ["self", "other"] (defScope t_Ratio___sub__) := ⟨rfl, rfl, rfl, by decide +kernel, rfl, by decide +kernel, by decide +kernel⟩
theorem sc_Ratio___mul__ : FnScope ["self", "other"] ["self", "other"] (defScope t_Ratio___mul__) := ⟨rfl, rfl, rfl, by decide +kernel, rfl, by decide +kernel, by decide +kernel⟩
theorem sc_Ratio___neg__ : FnScope ["self"] ["self"] (defScope t_Ratio___neg__) := ⟨rfl, rfl, rfl, by decide +kernel, rfl, by decide +kernel, by decide +kernel⟩
theorem sc_Ratio___eq__ : FnScope ["self", "other"] ["self", "other"] (defScope t_Ratio___eq__) := ⟨rfl, rfl, rfl, by decide +kernel, rfl, by decide +kernel, by decide +kernel⟩
theorem sc_Ratio_less : FnScope ["self", "other"] ["self", "other"] (defScope t_Ratio_less) := ⟨rfl, rfl, rfl, by decide +kernel, rfl, by decide +kernel, by decide +kernel⟩
theorem sc_Ratio___str__ : FnScope ["self"] ["self"] (defScope t_Ratio___str__) := ⟨rfl, rfl, rfl, by decide +kernel, rfl, by decide +kernel, by decide +kernel⟩
theorem sc_Ratio_over : FnScope ["self", "other"] ["self", "other"] (defScope t_Ratio_over) := ⟨rfl, rfl, rfl, by decide +kernel, rfl, by decide +kernel, by decide +kernel⟩
theorem sc_Ratio_times : FnScope ["self", "k"] ["self", "k"] (defScope t_Ratio_times) := ⟨rfl, rfl, rfl, by decide +kernel, rfl, by decide +kernel, by decide +kernel⟩
theorem sc_Ratio_sign : FnScope ["self"] ["self"] (defScope t_Ratio_sign) := ⟨rfl, rfl, rfl, by decide +kernel, rfl, by decide +kernel, by decide +kernel⟩
theorem sc_Ratio_is_zero : FnScope ["self"] ["self"] (defScope t_Ratio_is_zero) := ⟨rfl, rfl, rfl, by decide +kernel, rfl, by decide +kernel, by decide +kernel⟩
theorem sc_Ratio_is_whole : FnScope ["self"] ["self"] (defScope t_Ratio_is_whole) := ⟨rfl, rfl, rfl, by decide +kernel, rfl, by decide +kernel, by decide +kernel⟩
theorem sc_Ratio_floor : FnScope ["self"] ["self"] (defScope t_Ratio_floor) := ⟨rfl, rfl, rfl, by decide +kernel, rfl, by decide +kernel, by decide +kernel⟩
theorem sc_Ratio_size : FnScope ["self"] ["self"] (defScope t_Ratio_size) := ⟨rfl, rfl, rfl, by decide +kernel, rfl, by decide +kernel, by decide +kernel⟩
def s__wall : SM := sWhile (tB (eC (.bl true))) (sNx)
def m__wall : List D → R D := runF 1 0 s__wall
def s_is_integer : SM := sRet (eAnd (e1 (gIsT .int) (eVar 0)) (eNot (e1 (gIsT .bl) (eVar 0))))
def m_is_integer : List D → R D := runF 1 0 s_is_integer
def s_common : SM := sSeq (sPar [0, 1] (aCons (e1L gAbs (eVar 0)) (aCons (e1L gAbs (eVar 1)) (aNil))))
  (sSeq (sWhile (tB (e2 gGt (eVar 1) (eC (.int 0)))) (sPar [0, 1] (aCons (eVar 1) (aCons (e2 gMod (eVar 0) (eVar 1)) (aNil)))))
  (sRet (eVar 0)))
def m_common : List D → R D := runF 2 0 s_common
def s_check_ratio : SM := sIf (tNot (tB (e1 (gIsK "Ratio") (eVar 0)))) (sRaise .mal) (sNx)
def m_check_ratio : List D → R D := runF 1 0 s_check_ratio
def s_is_ratio_row : SM := sRet (eAnd (e1 (gIsT .tup) (eVar 0)) (e1L gAll (eLc [1] (iSeqM (eVar 0)) (tgName 1) (tTrue) (e1 (gIsK "Ratio") (eVar 1)))))
def m_is_ratio_row : List D → R D := runF 2 0 s_is_ratio_row
def s__law_state : SM := sSeq (sAsg 1 (eC (.int 0)))
  (sSeq (sAsg 2 (eC (.int 1)))
  (sSeq (sFor (iSeqM (eSlL (eVar 0) (pNone) (pSome (eC (.int 63))))) (tgName 3) (sSeq (sAsg 1 (e2 gAdd (e2 gMul (eVar 1) (eC (.int 1000003))) (e1L gAbs (eVar 3))))
  (sAsg 2 (e2 gMod (e1L gInt (e2 gAdd (e2 gMul (eVar 2) (eC (.int 48271))) (eVar 3))) (eC (.int 2147483647))))))
  (sRet (eLst (aCons (eVar 1) (aCons (eIf (tB (e2 gNe (eVar 2) (eC (.int 1973665155)))) (eVar 2) (eC (.int 7))) (aNil)))))))
def m__law_state : List D → R D := runF 4 1 s__law_state
def s__law_take : SM := sSeq (sIf (tB (e2 gGt (e2 gIx (eVar 0) (eC (.int 0))) (eC (.int 0)))) (sSeq (sAsg 2 (e2 gMod (e1L gInt (e2 gIx (eVar 0) (eC (.int 0)))) (eVar 1)))
  (sSeq (sPut 0 opSetL (e2 gDiv (e2 gIx (eVar 0) (eC (.int 0))) (eVar 1)) (eC (.int 0)))
  (sRet (eVar 2)))) (sNx))
  (sSeq (sPut 0 opSetL (e2 gMod (e1L gInt (e2 gAdd (e2 gMul (e2 gIx (eVar 0) (eC (.int 1))) (eC (.int 48271))) (eC (.int 11)))) (eC (.int 2147483647))) (eC (.int 1)))
  (sRet (e2 gMod (e1L gInt (e2 gDiv (e2 gIx (eVar 0) (eC (.int 1))) (eC (.int 7)))) (eVar 1))))
def m__law_take : List D → R (D × List D) := runB 3 [.io 1, .sh] 0 s__law_take
def s__law_says : SM := sRet (eAnd (e1 (gIsT .bl) (eVar 0)) (e2 gEq (eVar 0) (eVar 1)))
def m__law_says : List D → R D := runF 2 0 s__law_says
def s__law_is_whole : SM := sRet (eAnd (e1 (gIsT .int) (eVar 0)) (eNot (e1 (gIsT .bl) (eVar 0))))
def m__law_is_whole : List D → R D := runF 1 0 s__law_is_whole
def s__law_common : SM := sSeq (sWhile (tB (e2 gNe (eVar 1) (eC (.int 0)))) (sPar [0, 1] (aCons (eVar 1) (aCons (e2 gMod (e1L gInt (eVar 0)) (eVar 1)) (aNil)))))
  (sRet (e1L gAbs (eVar 0)))
def m__law_common : List D → R D := runF 2 0 s__law_common
def s_Ratio___eq__ : SM := sRet (eAnd (e1 (gIsK "Ratio") (eVar 1)) (eAnd (e2 gEq (e1 (gFld "Ratio" "n") (eVar 0)) (e1 (gFld "Ratio" "n") (eVar 1))) (e2 gEq (e1 (gFld "Ratio" "d") (eVar 0)) (e1 (gFld "Ratio" "d") (eVar 1)))))
def m_Ratio___eq__ : List D → R D := runF 2 0 s_Ratio___eq__
def s_Ratio___str__ : SM := sSeq (sIf (tB (e2 gEq (e1 (gFld "Ratio" "d") (eVar 0)) (eC (.int 1)))) (sRet (e1L gStr (e1 (gFld "Ratio" "n") (eVar 0)))) (sNx))
  (sRet (eJs [e1 gFmt (e1 (gFld "Ratio" "n") (eVar 0)), eC (.str "/"), e1 gFmt (e1 (gFld "Ratio" "d") (eVar 0))] Str.empty))
def m_Ratio___str__ : List D → R D := runF 1 0 s_Ratio___str__
def s__law_is_text : SM := sSeq (sAsg 1 (eIf (tB (e2 gEq (eSlS (eVar 0) (pNone) (pSome (eC (.int 1)))) (eC (.str "-")))) (eSlS (eVar 0) (pSome (eC (.int 1))) (pNone)) (eVar 0)))
  (sSeq (sAsg 2 (eSM1 gSplit (eVar 1) (eC (.str "/"))))
  (sSeq (sIf (tOr (tB (e2 gGt (e1L gLen (eVar 0)) (eC (.int 400)))) (tOr (tB (e2 gGt (e1L gLen (eVar 2)) (eC (.int 2)))) (tB (e1L gAny (eLc [3] (iSeqM (eVar 2)) (tgName 3) (tTrue) (eOr (e2 gEq (eVar 3) (eC (.str ""))) (eNot (e1L gAll (eLc [4] (iStrM (eVar 3)) (tgName 4) (tTrue) (e2 gInT (eVar 4) (eC (.str "0123456789")))))))))))) (sRet (eC (.bl false))) (sNx))
  (sSeq (sIf (tOr (tB (e1L gAny (eLc [3] (iSeqM (eVar 2)) (tgName 3) (tTrue) (eAnd (e2 gGt (e1L gLen (eVar 3)) (eC (.int 1))) (e2 gEq (e2 gIx (eVar 3) (eC (.int 0))) (eC (.str "0"))))))) (tB (e2 gEq (eSlS (eVar 0) (pNone) (pSome (eC (.int 2)))) (eC (.str "-0"))))) (sRet (eC (.bl false))) (sNx))
  (sSeq (sIf (tB (e2 gEq (e1L gLen (eVar 2)) (eC (.int 1)))) (sRet (eC (.bl true))) (sNx))
  (sRet (eAnd (e2 gGt (e1L gIntT (e2 gIx (eVar 2) (eC (.int 1)))) (eC (.int 1))) (e2 gEq (eCall (m__law_common) (aCons (e1L gIntT (e2 gIx (eVar 2) (eC (.int 0)))) (aCons (e1L gIntT (e2 gIx (eVar 2) (eC (.int 1)))) (aNil)))) (eC (.int 1)))))))))
def m__law_is_text : List D → R D := runF 5 0 s__law_is_text
def s_Ratio_less : SM := sDrop (eCall (m__wall) (aCons (eC (.int 0)) (aNil)))
def m_Ratio_less : List D → R D := runF 2 0 s_Ratio_less
def s_Ratio_over : SM := sDrop (eCall (m__wall) (aCons (eC (.int 1)) (aNil)))
def m_Ratio_over : List D → R D := runF 2 0 s_Ratio_over
def s_Ratio_times : SM := sDrop (eCall (m__wall) (aCons (eC (.int 2)) (aNil)))
def m_Ratio_times : List D → R D := runF 2 0 s_Ratio_times
def s_Ratio_sign : SM := sDrop (eCall (m__wall) (aCons (eC (.int 3)) (aNil)))
def m_Ratio_sign : List D → R D := runF 1 0 s_Ratio_sign
def s_Ratio_is_zero : SM := sDrop (eCall (m__wall) (aCons (eC (.int 4)) (aNil)))
def m_Ratio_is_zero : List D → R D := runF 1 0 s_Ratio_is_zero
def s_Ratio_is_whole : SM := sDrop (eCall (m__wall) (aCons (eC (.int 5)) (aNil)))
def m_Ratio_is_whole : List D → R D := runF 1 0 s_Ratio_is_whole
def s_Ratio_floor : SM := sDrop (eCall (m__wall) (aCons (eC (.int 6)) (aNil)))
def m_Ratio_floor : List D → R D := runF 1 0 s_Ratio_floor
def s_Ratio_size : SM := sDrop (eCall (m__wall) (aCons (eC (.int 7)) (aNil)))
def m_Ratio_size : List D → R D := runF 1 0 s_Ratio_size
def s_Ratio___init__ : SM := sSeq (sIf (tOr (tNot (tB (eCall (m_is_integer) (aCons (eVar 1) (aNil))))) (tNot (tB (eCall (m_is_integer) (aCons (eVar 2) (aNil)))))) (sRaise .mal) (sNx))
  (sSeq (sIf (tB (e2 gEq (eVar 2) (eC (.int 0)))) (sRaiseR (eC (.str "zero"))) (sNx))
  (sSeq (sAsg 3 (eCall (m_common) (aCons (eVar 1) (aCons (eVar 2) (aNil)))))
  (sSeq (sFldS 0 "Ratio" "n" (eIf (tB (e2 gGt (eVar 2) (eC (.int 0)))) (e2 gDiv (eVar 1) (eVar 3)) (e2 gDiv (e1 gNeg (eVar 1)) (eVar 3))))
  (sFldS 0 "Ratio" "d" (e2 gDiv (e1L gAbs (eVar 2)) (eVar 3))))))
def m_Ratio___init__ : List D → R (D × List D) := runB 4 [.io 1, .sh, .sh] 0 s_Ratio___init__
def s_ratios_text : SM := sRet (eIf (tB (e2 gGt (e1L gLen (eVar 0)) (eC (.int 0)))) (eM1 gJoin (eC (.str ",")) (eLc [1] (iSeqM (eVar 0)) (tgName 1) (tTrue) (eStrA "Ratio" m_Ratio___str__ (eVar 1)))) (eC (.str "-")))
def m_ratios_text : List D → R D := runF 2 0 s_ratios_text
def s_ratios : SM := sSeq (sIf (tNot (tB (e1 (gIsTs [.lst, .tup]) (eVar 0)))) (sRaise .mal) (sNx))
  (sRet (e1L gTuple (eLcX [1] (iSeqM (eVar 0)) (tgName 1) (eIf (tB (e1 (gIsK "Ratio") (eVar 1))) (eVar 1) (eMake "Ratio" m_Ratio___init__ [.int 1] (aCons (eVar 1) (aNil)))))))
def m_ratios : List D → R D := runF 2 0 s_ratios
def s__law_num : SM := sRet (eMake "Ratio" m_Ratio___init__ [] (aCons (e2 gSub (eCallIO 0 [.io 0, .val (.rd 0)] (m__law_take) (aIo 0 (aCons (eC (.int 13)) (aNil)))) (eC (.int 6))) (aCons (e2 gAdd (eC (.int 1)) (eCallIO 0 [.io 0, .val (.rd 0)] (m__law_take) (aIo 0 (aCons (eC (.int 3)) (aNil))))) (aNil))))
def m__law_num : List D → R (D × List D) := runB 1 [.io 1] 0 s__law_num
def s_Ratio___add__ : SM := sSeq (sDrop (eCall (m_check_ratio) (aCons (eVar 1) (aNil))))
  (sRet (eMake "Ratio" m_Ratio___init__ [] (aCons (e2 gAdd (e2 gMul (e1 (gFld "Ratio" "n") (eVar 0)) (e1 (gFld "Ratio" "d") (eVar 1))) (e2 gMul (e1 (gFld "Ratio" "n") (eVar 1)) (e1 (gFld "Ratio" "d") (eVar 0)))) (aCons (e2 gMul (e1 (gFld "Ratio" "d") (eVar 0)) (e1 (gFld "Ratio" "d") (eVar 1))) (aNil)))))
def m_Ratio___add__ : List D → R D := runF 2 0 s_Ratio___add__
def s_Ratio___sub__ : SM := sSeq (sDrop (eCall (m_check_ratio) (aCons (eVar 1) (aNil))))
  (sRet (eMake "Ratio" m_Ratio___init__ [] (aCons (e2 gSub (e2 gMul (e1 (gFld "Ratio" "n") (eVar 0)) (e1 (gFld "Ratio" "d") (eVar 1))) (e2 gMul (e1 (gFld "Ratio" "n") (eVar 1)) (e1 (gFld "Ratio" "d") (eVar 0)))) (aCons (e2 gMul (e1 (gFld "Ratio" "d") (eVar 0)) (e1 (gFld "Ratio" "d") (eVar 1))) (aNil)))))
def m_Ratio___sub__ : List D → R D := runF 2 0 s_Ratio___sub__
def s_Ratio___mul__ : SM := sSeq (sDrop (eCall (m_check_ratio) (aCons (eVar 1) (aNil))))
  (sRet (eMake "Ratio" m_Ratio___init__ [] (aCons (e2 gMul (e1 (gFld "Ratio" "n") (eVar 0)) (e1 (gFld "Ratio" "n") (eVar 1))) (aCons (e2 gMul (e1 (gFld "Ratio" "d") (eVar 0)) (e1 (gFld "Ratio" "d") (eVar 1))) (aNil)))))
def m_Ratio___mul__ : List D → R D := runF 2 0 s_Ratio___mul__
def s_Ratio___neg__ : SM := sRet (eMake "Ratio" m_Ratio___init__ [] (aCons (e1 gNeg (e1 (gFld "Ratio" "n") (eVar 0))) (aCons (e1 (gFld "Ratio" "d") (eVar 0)) (aNil))))
def m_Ratio___neg__ : List D → R D := runF 1 0 s_Ratio___neg__
def s_ratio_sum : SM := sSeq (sAsg 1 (eMake "Ratio" m_Ratio___init__ [.int 1] (aCons (eC (.int 0)) (aNil))))
  (sSeq (sFor (iSeqM (eVar 0)) (tgName 2) (sAsg 1 (eOpX "Ratio" m_Ratio___add__ gAdd (eVar 1) (eVar 2))))
  (sRet (eVar 1)))
def m_ratio_sum : List D → R D := runF 3 0 s_ratio_sum
def s_ratio_product : SM := sSeq (sAsg 1 (eMake "Ratio" m_Ratio___init__ [.int 1] (aCons (eC (.int 1)) (aNil))))
  (sSeq (sFor (iSeqM (eVar 0)) (tgName 2) (sAsg 1 (eOpX "Ratio" m_Ratio___mul__ gMul (eVar 1) (eVar 2))))
  (sRet (eVar 1)))
def m_ratio_product : List D → R D := runF 3 0 s_ratio_product
def s_read_ratio : SM := sSeq (sIf (tOr (tNot (tB (e1 (gIsT .str) (eVar 0)))) (tB (e2 gGt (e1L gLen (eVar 0)) (eC (.int 400))))) (sRaiseE .note (eC (.int 0))) (sNx))
  (sSeq (sUnp (eSM1 gParts (eSM1 gRmPre (eVar 0) (eC (.str "-"))) (eC (.str "/"))) (tgTup (tgCons (tgName 1) (tgCons (tgName 2) (tgCons (tgName 3) (tgNil)))) 3))
  (sSeq (sFor (iSeqM (eTup (aCons (eVar 1) (aCons (eIf (tB (e2 gEq (eVar 2) (eC (.str "/")))) (eVar 3) (eC (.str "1"))) (aNil))))) (tgName 4) (sIf (tOr (tB (e2 gEq (eVar 4) (eC (.str "")))) (tNot (tB (e1L gAll (eLc [6] (iStrM (eVar 4)) (tgName 6) (tTrue) (e3c gLeT gLeT (eC (.str "0")) (eVar 6) (eC (.str "9")))))))) (sRaiseE .note (eC (.int 0))) (sNx)))
  (sSeq (sIf (tAnd (tB (e2 gEq (eVar 2) (eC (.str "/")))) (tB (e2 gEq (e1L gIntT (eVar 3)) (eC (.int 0))))) (sRaiseE .note (eC (.int 0))) (sNx))
  (sSeq (sAsg 5 (eMake "Ratio" m_Ratio___init__ [] (aCons (e1L gIntT (eVar 1)) (aCons (eIf (tB (e2 gEq (eVar 2) (eC (.str "/")))) (e1L gIntT (eVar 3)) (eC (.int 1))) (aNil)))))
  (sSeq (sAsg 5 (eIf (tB (eSM1 gStarts (eVar 0) (eC (.str "-")))) (e1X "Ratio" m_Ratio___neg__ (eVar 5)) (eVar 5)))
  (sSeq (sIf (tB (e2 gNe (eStrX "Ratio" m_Ratio___str__ (eVar 5)) (eVar 0))) (sRaiseE .note (eC (.int 0))) (sNx))
  (sRet (eVar 5))))))))
def m_read_ratio : List D → R D := runF 7 0 s_read_ratio
def s__law_num_row : SM := sRet (e1L gTuple (eLc [2] (iRg rg1 (aCons (eVar 1) (aNil))) (tgName 2) (tTrue) (eCallIO 0 [.io 0] (m__law_num) (aIo 0 (aNil)))))
def m__law_num_row : List D → R (D × List D) := runB 3 [.io 1, .sh] 0 s__law_num_row
def s_dot : SM := sRet (eCall (m_ratio_sum) (aCons (eLc [2, 3] (iRg zipM (aCons (eVar 0) (aCons (eVar 1) (aNil)))) (tgTup (tgCons (tgName 2) (tgCons (tgName 3) (tgNil))) 2) (tTrue) (eOpX "Ratio" m_Ratio___mul__ gMul (eVar 2) (eVar 3))) (aNil)))
def m_dot : List D → R D := runF 4 0 s_dot
def s_read_ratios : SM := sSeq (sIf (tNot (tB (e1 (gIsT .str) (eVar 0)))) (sRaiseE .note (eC (.int 0))) (sNx))
  (sSeq (sIf (tB (e2 gEq (eVar 0) (eC (.str "-")))) (sRet (eTup (aNil))) (sNx))
  (sRet (e1L gTuple (eLcX [1] (iSeqM (eSM1 gSplit (eVar 0) (eC (.str ",")))) (tgName 1) (eCall (m_read_ratio) (aCons (eVar 1) (aNil)))))))
def m_read_ratios : List D → R D := runF 2 0 s_read_ratios
def held : FTab := fun y => if y = "ratios" then some (1, m_ratios) else if y = "read_ratio" then some (1, m_read_ratio) else if y = "read_ratios" then some (1, m_read_ratios) else none
def s__law_result : SM := sTryR 2 (sSeq (sIf (tB (e2 gEq (e1L gLen (eVar 1)) (eC (.int 1)))) (sRet (eTup (aCons (eC (.str "told")) (aCons (eCallL 0 held (aCons (e2 gIx (eVar 1) (eC (.int 0))) (aNil))) (aNil))))) (sNx))
  (sSeq (sIf (tB (e2 gEq (e1L gLen (eVar 1)) (eC (.int 2)))) (sRet (eTup (aCons (eC (.str "told")) (aCons (eCallL 0 held (aCons (e2 gIx (eVar 1) (eC (.int 0))) (aCons (e2 gIx (eVar 1) (eC (.int 1))) (aNil)))) (aNil))))) (sNx))
  (sSeq (sIf (tB (e2 gEq (e1L gLen (eVar 1)) (eC (.int 3)))) (sRet (eTup (aCons (eC (.str "told")) (aCons (eCallL 0 held (aCons (e2 gIx (eVar 1) (eC (.int 0))) (aCons (e2 gIx (eVar 1) (eC (.int 1))) (aCons (e2 gIx (eVar 1) (eC (.int 2))) (aNil))))) (aNil))))) (sNx))
  (sSeq (sIf (tB (e2 gEq (e1L gLen (eVar 1)) (eC (.int 4)))) (sRet (eTup (aCons (eC (.str "told")) (aCons (eCallL 0 held (aCons (e2 gIx (eVar 1) (eC (.int 0))) (aCons (e2 gIx (eVar 1) (eC (.int 1))) (aCons (e2 gIx (eVar 1) (eC (.int 2))) (aCons (e2 gIx (eVar 1) (eC (.int 3))) (aNil)))))) (aNil))))) (sNx))
  (sRet (eTup (aCons (eC (.str "told")) (aCons (eCallL 0 held (aCons (e2 gIx (eVar 1) (eC (.int 0))) (aCons (e2 gIx (eVar 1) (eC (.int 1))) (aCons (e2 gIx (eVar 1) (eC (.int 2))) (aCons (e2 gIx (eVar 1) (eC (.int 3))) (aCons (e2 gIx (eVar 1) (eC (.int 4))) (aNil))))))) (aNil)))))))))
def m__law_result : List D → R D := runF 3 0 s__law_result
def s__law_read : SM := sTryN 2 (sRet (eCall (m__law_result) (aCons (eVar 0) (aCons (eTup (aCons (eVar 1) (aNil))) (aNil)))))
def m__law_read : List D → R D := runF 3 0 s__law_read
def s__law_same (rec : List D → R D) : SM := sSeq (sIf (tB (e1 (gIsT .tup) (eVar 1))) (sRet (eAnd (e1 (gIsT .tup) (eVar 0)) (eAnd (e2 gEq (e1L gLen (eVar 0)) (e1L gLen (eVar 1))) (e1L gAll (eLc [2] (iRg rg1 (aCons (e1L gLen (eVar 1)) (aNil))) (tgName 2) (tTrue) (eCall (rec) (aCons (e2 gIx (eVar 0) (eVar 2)) (aCons (e2 gIx (eVar 1) (eVar 2)) (aNil))))))))) (sNx))
  (sSeq (sIf (tB (e1 (gIsT .str) (eVar 1))) (sRet (eAnd (e1 (gIsT .str) (eVar 0)) (e2 gEq (eVar 0) (eVar 1)))) (sNx))
  (sSeq (sIf (tB (e1 gIs (eVar 1))) (sRet (e1 gIs (eVar 0))) (sNx))
  (sRet (eAnd (eCall (m__law_is_whole) (aCons (eVar 0) (aNil))) (e2 gEq (eVar 0) (eVar 1))))))
def m__law_same_at : Nat → List D → R D
  | 0 => fun _ => .fail
  | n + 1 => runF 3 0 (s__law_same (m__law_same_at n))
def m__law_same : List D → R D := m__law_same_at 40
def s_law : SM := sSeq (sAsg 1 (eCall (m__law_state) (aCons (eVar 0) (aNil))))
  (sSeq (sAsg 2 (e2 gAdd (eC (.int 1)) (eCallIO 1 [.io 1, .val (.rd 0)] (m__law_take) (aIo 1 (aCons (eC (.int 5)) (aNil))))))
  (sSeq (sPar [3, 4] (aCons (eCallIO 1 [.io 1, .val (.rd 0)] (m__law_num_row) (aIo 1 (aCons (eVar 2) (aNil)))) (aCons (eCallIO 1 [.io 1, .val (.rd 0)] (m__law_num_row) (aIo 1 (aCons (eVar 2) (aNil)))) (aNil))))
  (sSeq (sPar [5, 6, 7] (aCons (eMake "Ratio" m_Ratio___init__ [.int 1] (aCons (eC (.int 0)) (aNil))) (aCons (eMake "Ratio" m_Ratio___init__ [.int 1] (aCons (eC (.int 1)) (aNil))) (aCons (eMake "Ratio" m_Ratio___init__ [.int 1] (aCons (eC (.int 0)) (aNil))) (aNil)))))
  (sSeq (sFor (iRg zipM (aCons (eVar 3) (aCons (eVar 4) (aNil)))) (tgTup (tgCons (tgName 8) (tgCons (tgName 9) (tgNil))) 2) (sPar [5, 6, 7] (aCons (eOpX "Ratio" m_Ratio___add__ gAdd (eVar 5) (eVar 8)) (aCons (eOpX "Ratio" m_Ratio___mul__ gMul (eVar 6) (eVar 8)) (aCons (eOpX "Ratio" m_Ratio___add__ gAdd (eVar 7) (eOpX "Ratio" m_Ratio___mul__ gMul (eVar 8) (eVar 9))) (aNil))))))
  (sSeq (sIf (tB (e2 (gNeX "Ratio" m_Ratio___eq__) (eLst (aCons (eCall (m_ratio_sum) (aCons (eVar 3) (aNil))) (aCons (eCall (m_ratio_sum) (aCons (e1L gList (eVar 3)) (aNil))) (aCons (eCall (m_ratio_product) (aCons (eVar 3) (aNil))) (aCons (eCall (m_dot) (aCons (eVar 3) (aCons (eVar 4) (aNil)))) (aCons (eCall (m_ratio_sum) (aCons (eTup (aNil)) (aNil))) (aCons (eCall (m_ratio_product) (aCons (eTup (aNil)) (aNil))) (aNil)))))))) (eLst (aCons (eVar 5) (aCons (eVar 5) (aCons (eVar 6) (aCons (eVar 7) (aCons (eMake "Ratio" m_Ratio___init__ [.int 1] (aCons (eC (.int 0)) (aNil))) (aCons (eMake "Ratio" m_Ratio___init__ [.int 1] (aCons (eC (.int 1)) (aNil))) (aNil)))))))))) (sRet (eC (.bl false))) (sNx))
  (sSeq (sFor (iSeqM (eLst (aCons (eVar 3) (aCons (e1L gList (eVar 3)) (aCons (eTup (aNil)) (aCons (eTup (aCons (eMake "Ratio" m_Ratio___init__ [.int 1] (aCons (eC (.int 1)) (aNil))) (aCons (eC (.int 1)) (aNil)))) (aCons (eTup (aCons (eC .non) (aNil))) (aCons (eC .non) (aCons (eC (.int 5)) (aCons (eC (.str "x")) (aCons (eTup (aCons (eVar 3) (aNil))) (aNil)))))))))))) (tgName 10) (sSeq (sAsg 11 (eAnd (e1 (gIsT .tup) (eVar 10)) (e1L gAll (eLc [8] (iSeqM (eVar 10)) (tgName 8) (tTrue) (e1 (gIsK "Ratio") (eVar 8))))))
  (sIf (tNot (tB (eCall (m__law_says) (aCons (eCall (m_is_ratio_row) (aCons (eVar 10) (aNil))) (aCons (eVar 11) (aNil)))))) (sRet (eC (.bl false))) (sNx))))
  (sSeq (sAsg 12 (eLst (aCons (e2 gSub (eCallIO 1 [.io 1, .val (.rd 0)] (m__law_take) (aIo 1 (aCons (eC (.int 9)) (aNil)))) (eC (.int 4))) (aCons (e2 gIx (eVar 3) (eC (.int 0))) (aCons (eC (.int 0)) (aNil))))))
  (sSeq (sIf (tOr (tB (e2 (gNeX "Ratio" m_Ratio___eq__) (eCall (m_ratios) (aCons (eVar 12) (aNil))) (eTup (aCons (eMake "Ratio" m_Ratio___init__ [.int 1] (aCons (e2 gIx (eVar 12) (eC (.int 0))) (aNil))) (aCons (e2 gIx (eVar 3) (eC (.int 0))) (aCons (eMake "Ratio" m_Ratio___init__ [.int 1] (aCons (eC (.int 0)) (aNil))) (aNil))))))) (tOr (tB (e2 (gNeX "Ratio" m_Ratio___eq__) (eCall (m_ratios) (aCons (e1L gTuple (eVar 12)) (aNil))) (eCall (m_ratios) (aCons (eVar 12) (aNil))))) (tB (e2 gNe (eCall (m_ratios) (aCons (eTup (aNil)) (aNil))) (eTup (aNil)))))) (sRet (eC (.bl false))) (sNx))
  (sSeq (sIf (tB (e2 gNe (eLc [20] (iSeqM (eTup (aCons (eC .non) (aCons (eC (.int 5)) (aCons (eTup (aCons (eC .non) (aNil))) (aCons (eTup (aCons (eC (.bl true)) (aNil))) (aCons (eTup (aCons (eC (.str "1")) (aNil))) (aCons (eC (.dct [(.int 1, .int 2)])) (aNil))))))))) (tgName 20) (tTrue) (e2 gIx (eCall (m__law_result) (aCons (eC (.fn "ratios")) (aCons (eTup (aCons (eVar 20) (aNil))) (aNil)))) (eC (.int 0)))) (e2 gRep (eLst (aCons (eC (.str "malformed")) (aNil))) (eC (.int 6))))) (sRet (eC (.bl false))) (sNx))
  (sSeq (sAsg 13 (eM1 gJoin (eC (.str ",")) (eLc [8] (iSeqM (eVar 3)) (tgName 8) (tTrue) (eStrA "Ratio" m_Ratio___str__ (eVar 8)))))
  (sSeq (sIf (tOr (tNot (tB (eCall (m__law_same) (aCons (eCall (m_ratios_text) (aCons (eVar 3) (aNil))) (aCons (eVar 13) (aNil)))))) (tOr (tB (e2 gNe (eCall (m_ratios_text) (aCons (eTup (aNil)) (aNil))) (eC (.str "-")))) (tOr (tB (e2 (gNeX "Ratio" m_Ratio___eq__) (eCall (m__law_read) (aCons (eC (.fn "read_ratios")) (aCons (eVar 13) (aNil)))) (eTup (aCons (eC (.str "told")) (aCons (eVar 3) (aNil)))))) (tB (e2 gNe (eCall (m__law_read) (aCons (eC (.fn "read_ratios")) (aCons (eC (.str "-")) (aNil)))) (eTup (aCons (eC (.str "told")) (aCons (eTup (aNil)) (aNil))))))))) (sRet (eC (.bl false))) (sNx))
  (sSeq (sAsg 14 (eStrA "Ratio" m_Ratio___str__ (e2 gIx (eVar 3) (eC (.int 0)))))
  (sSeq (sPar [15, 16] (aCons (eCallIO 1 [.io 1, .val (.rd 0)] (m__law_take) (aIo 1 (aCons (e2 gAdd (e1L gLen (eVar 14)) (eC (.int 1))) (aNil)))) (aCons (e2 gIx (eC (.str "019-/,. x")) (eCallIO 1 [.io 1, .val (.rd 0)] (m__law_take) (aIo 1 (aCons (eC (.int 9)) (aNil))))) (aNil))))
  (sSeq (sFor (iSeqM (eTup (aCons (eVar 14) (aCons (e2 gAdd (e2 gAdd (eSlS (eVar 14) (pNone) (pSome (eVar 15))) (eVar 16)) (eSlS (eVar 14) (pSome (eVar 15)) (pNone))) (aCons (e2 gAdd (eSlS (eVar 14) (pNone) (pSome (eVar 15))) (eSlS (eVar 14) (pSome (e2 gAdd (eVar 15) (eC (.int 1)))) (pNone))) (aCons (e2 gAdd (eC (.str "0")) (eVar 14)) (aCons (e2 gAdd (eVar 14) (eC (.str "/1"))) (aCons (e2 gAdd (eC (.str "-")) (eVar 14)) (aCons (eC (.str "2/4")) (aCons (eC (.str "1/0")) (aCons (eC (.str "")) (aCons (eC (.str "-")) (aCons (eC (.str "0/5")) (aCons (e2 gMulT (eC (.str "1")) (eC (.int 401))) (aNil))))))))))))))) (tgName 17) (sSeq (sAsg 11 (eCall (m__law_is_text) (aCons (eVar 17) (aNil))))
  (sSeq (sAsg 18 (eCall (m__law_read) (aCons (eC (.fn "read_ratio")) (aCons (eVar 17) (aNil)))))
  (sSeq (sIf (tOr (tB (e2 gNe (e2 gIx (eVar 18) (eC (.int 0))) (eIf (tB (eVar 11)) (eC (.str "told")) (eC (.str "text"))))) (tOr (tAnd (tNot (tB (eVar 11))) (tB (e2 gNe (e2 gIx (eVar 18) (eC (.int 1))) (eC (.int 0))))) (tAnd (tB (eVar 11)) (tB (e2 gNe (eStrA "Ratio" m_Ratio___str__ (e2 gIx (eVar 18) (eC (.int 1)))) (eVar 17)))))) (sRet (eC (.bl false))) (sNx))
  (sSeq (sAsg 19 (e2 gAdd (e2 gAdd (eVar 13) (eC (.str ","))) (eVar 17)))
  (sIf (tB (e2 gNe (e2 gIx (eCall (m__law_read) (aCons (eC (.fn "read_ratios")) (aCons (eVar 19) (aNil)))) (eC (.int 0))) (eIf (tB (e1L gAll (eLc [21] (iSeqM (eSM1 gSplit (eVar 19) (eC (.str ",")))) (tgName 21) (tTrue) (eCall (m__law_is_text) (aCons (eVar 21) (aNil)))))) (eC (.str "told")) (eC (.str "text"))))) (sRet (eC (.bl false))) (sNx)))))))
  (sRet (e2 gEq (eLc [22, 20] (iSeqM (eTup (aCons (eTup (aCons (eC (.fn "read_ratio")) (aCons (eC .non) (aNil)))) (aCons (eTup (aCons (eC (.fn "read_ratios")) (aCons (eC .non) (aNil)))) (aCons (eTup (aCons (eC (.fn "read_ratio")) (aCons (eC (.int 5)) (aNil)))) (aCons (eTup (aCons (eC (.fn "read_ratios")) (aCons (eTup (aCons (eC (.str "1")) (aNil))) (aNil)))) (aNil))))))) (tgTup (tgCons (tgName 22) (tgCons (tgName 20) (tgNil))) 2) (tTrue) (eCall (m__law_read) (aCons (eVar 22) (aCons (eVar 20) (aNil))))) (e2 gRep (eLst (aCons (eTup (aCons (eC (.str "text")) (aCons (eC (.int 0)) (aNil)))) (aNil))) (eC (.int 4)))))))))))))))))))
def m_law : List D → R D := runF 23 0 s_law
def g0 : SM := sAsg 1 (eCall (m__law_state) (aCons (eVar 0) (aNil)))
def g1 : SM := sAsg 2 (e2 gAdd (eC (.int 1)) (eCallIO 1 [.io 1, .val (.rd 0)] (m__law_take) (aIo 1 (aCons (eC (.int 5)) (aNil)))))
def g2 : SM := sPar [3, 4] (aCons (eCallIO 1 [.io 1, .val (.rd 0)] (m__law_num_row) (aIo 1 (aCons (eVar 2) (aNil)))) (aCons (eCallIO 1 [.io 1, .val (.rd 0)] (m__law_num_row) (aIo 1 (aCons (eVar 2) (aNil)))) (aNil)))
def g3 : SM := sPar [5, 6, 7] (aCons (eMake "Ratio" m_Ratio___init__ [.int 1] (aCons (eC (.int 0)) (aNil))) (aCons (eMake "Ratio" m_Ratio___init__ [.int 1] (aCons (eC (.int 1)) (aNil))) (aCons (eMake "Ratio" m_Ratio___init__ [.int 1] (aCons (eC (.int 0)) (aNil))) (aNil))))
def g4 : SM := sFor (iRg zipM (aCons (eVar 3) (aCons (eVar 4) (aNil)))) (tgTup (tgCons (tgName 8) (tgCons (tgName 9) (tgNil))) 2) (sPar [5, 6, 7] (aCons (eOpX "Ratio" m_Ratio___add__ gAdd (eVar 5) (eVar 8)) (aCons (eOpX "Ratio" m_Ratio___mul__ gMul (eVar 6) (eVar 8)) (aCons (eOpX "Ratio" m_Ratio___add__ gAdd (eVar 7) (eOpX "Ratio" m_Ratio___mul__ gMul (eVar 8) (eVar 9))) (aNil)))))
def g5 : SM := sIf (tB (e2 (gNeX "Ratio" m_Ratio___eq__) (eLst (aCons (eCall (m_ratio_sum) (aCons (eVar 3) (aNil))) (aCons (eCall (m_ratio_sum) (aCons (e1L gList (eVar 3)) (aNil))) (aCons (eCall (m_ratio_product) (aCons (eVar 3) (aNil))) (aCons (eCall (m_dot) (aCons (eVar 3) (aCons (eVar 4) (aNil)))) (aCons (eCall (m_ratio_sum) (aCons (eTup (aNil)) (aNil))) (aCons (eCall (m_ratio_product) (aCons (eTup (aNil)) (aNil))) (aNil)))))))) (eLst (aCons (eVar 5) (aCons (eVar 5) (aCons (eVar 6) (aCons (eVar 7) (aCons (eMake "Ratio" m_Ratio___init__ [.int 1] (aCons (eC (.int 0)) (aNil))) (aCons (eMake "Ratio" m_Ratio___init__ [.int 1] (aCons (eC (.int 1)) (aNil))) (aNil)))))))))) (sRet (eC (.bl false))) (sNx)
def g6 : SM := sFor (iSeqM (eLst (aCons (eVar 3) (aCons (e1L gList (eVar 3)) (aCons (eTup (aNil)) (aCons (eTup (aCons (eMake "Ratio" m_Ratio___init__ [.int 1] (aCons (eC (.int 1)) (aNil))) (aCons (eC (.int 1)) (aNil)))) (aCons (eTup (aCons (eC .non) (aNil))) (aCons (eC .non) (aCons (eC (.int 5)) (aCons (eC (.str "x")) (aCons (eTup (aCons (eVar 3) (aNil))) (aNil)))))))))))) (tgName 10) (sSeq (sAsg 11 (eAnd (e1 (gIsT .tup) (eVar 10)) (e1L gAll (eLc [8] (iSeqM (eVar 10)) (tgName 8) (tTrue) (e1 (gIsK "Ratio") (eVar 8))))))
  (sIf (tNot (tB (eCall (m__law_says) (aCons (eCall (m_is_ratio_row) (aCons (eVar 10) (aNil))) (aCons (eVar 11) (aNil)))))) (sRet (eC (.bl false))) (sNx)))
def g7 : SM := sAsg 12 (eLst (aCons (e2 gSub (eCallIO 1 [.io 1, .val (.rd 0)] (m__law_take) (aIo 1 (aCons (eC (.int 9)) (aNil)))) (eC (.int 4))) (aCons (e2 gIx (eVar 3) (eC (.int 0))) (aCons (eC (.int 0)) (aNil)))))
def g8 : SM := sIf (tOr (tB (e2 (gNeX "Ratio" m_Ratio___eq__) (eCall (m_ratios) (aCons (eVar 12) (aNil))) (eTup (aCons (eMake "Ratio" m_Ratio___init__ [.int 1] (aCons (e2 gIx (eVar 12) (eC (.int 0))) (aNil))) (aCons (e2 gIx (eVar 3) (eC (.int 0))) (aCons (eMake "Ratio" m_Ratio___init__ [.int 1] (aCons (eC (.int 0)) (aNil))) (aNil))))))) (tOr (tB (e2 (gNeX "Ratio" m_Ratio___eq__) (eCall (m_ratios) (aCons (e1L gTuple (eVar 12)) (aNil))) (eCall (m_ratios) (aCons (eVar 12) (aNil))))) (tB (e2 gNe (eCall (m_ratios) (aCons (eTup (aNil)) (aNil))) (eTup (aNil)))))) (sRet (eC (.bl false))) (sNx)
def g9 : SM := sIf (tB (e2 gNe (eLc [20] (iSeqM (eTup (aCons (eC .non) (aCons (eC (.int 5)) (aCons (eTup (aCons (eC .non) (aNil))) (aCons (eTup (aCons (eC (.bl true)) (aNil))) (aCons (eTup (aCons (eC (.str "1")) (aNil))) (aCons (eC (.dct [(.int 1, .int 2)])) (aNil))))))))) (tgName 20) (tTrue) (e2 gIx (eCall (m__law_result) (aCons (eC (.fn "ratios")) (aCons (eTup (aCons (eVar 20) (aNil))) (aNil)))) (eC (.int 0)))) (e2 gRep (eLst (aCons (eC (.str "malformed")) (aNil))) (eC (.int 6))))) (sRet (eC (.bl false))) (sNx)
def g10 : SM := sAsg 13 (eM1 gJoin (eC (.str ",")) (eLc [8] (iSeqM (eVar 3)) (tgName 8) (tTrue) (eStrA "Ratio" m_Ratio___str__ (eVar 8))))
def g11 : SM := sIf (tOr (tNot (tB (eCall (m__law_same) (aCons (eCall (m_ratios_text) (aCons (eVar 3) (aNil))) (aCons (eVar 13) (aNil)))))) (tOr (tB (e2 gNe (eCall (m_ratios_text) (aCons (eTup (aNil)) (aNil))) (eC (.str "-")))) (tOr (tB (e2 (gNeX "Ratio" m_Ratio___eq__) (eCall (m__law_read) (aCons (eC (.fn "read_ratios")) (aCons (eVar 13) (aNil)))) (eTup (aCons (eC (.str "told")) (aCons (eVar 3) (aNil)))))) (tB (e2 gNe (eCall (m__law_read) (aCons (eC (.fn "read_ratios")) (aCons (eC (.str "-")) (aNil)))) (eTup (aCons (eC (.str "told")) (aCons (eTup (aNil)) (aNil))))))))) (sRet (eC (.bl false))) (sNx)
def g12 : SM := sAsg 14 (eStrA "Ratio" m_Ratio___str__ (e2 gIx (eVar 3) (eC (.int 0))))
def g13 : SM := sPar [15, 16] (aCons (eCallIO 1 [.io 1, .val (.rd 0)] (m__law_take) (aIo 1 (aCons (e2 gAdd (e1L gLen (eVar 14)) (eC (.int 1))) (aNil)))) (aCons (e2 gIx (eC (.str "019-/,. x")) (eCallIO 1 [.io 1, .val (.rd 0)] (m__law_take) (aIo 1 (aCons (eC (.int 9)) (aNil))))) (aNil)))
def g14 : SM := sFor (iSeqM (eTup (aCons (eVar 14) (aCons (e2 gAdd (e2 gAdd (eSlS (eVar 14) (pNone) (pSome (eVar 15))) (eVar 16)) (eSlS (eVar 14) (pSome (eVar 15)) (pNone))) (aCons (e2 gAdd (eSlS (eVar 14) (pNone) (pSome (eVar 15))) (eSlS (eVar 14) (pSome (e2 gAdd (eVar 15) (eC (.int 1)))) (pNone))) (aCons (e2 gAdd (eC (.str "0")) (eVar 14)) (aCons (e2 gAdd (eVar 14) (eC (.str "/1"))) (aCons (e2 gAdd (eC (.str "-")) (eVar 14)) (aCons (eC (.str "2/4")) (aCons (eC (.str "1/0")) (aCons (eC (.str "")) (aCons (eC (.str "-")) (aCons (eC (.str "0/5")) (aCons (e2 gMulT (eC (.str "1")) (eC (.int 401))) (aNil))))))))))))))) (tgName 17) (sSeq (sAsg 11 (eCall (m__law_is_text) (aCons (eVar 17) (aNil))))
  (sSeq (sAsg 18 (eCall (m__law_read) (aCons (eC (.fn "read_ratio")) (aCons (eVar 17) (aNil)))))
  (sSeq (sIf (tOr (tB (e2 gNe (e2 gIx (eVar 18) (eC (.int 0))) (eIf (tB (eVar 11)) (eC (.str "told")) (eC (.str "text"))))) (tOr (tAnd (tNot (tB (eVar 11))) (tB (e2 gNe (e2 gIx (eVar 18) (eC (.int 1))) (eC (.int 0))))) (tAnd (tB (eVar 11)) (tB (e2 gNe (eStrA "Ratio" m_Ratio___str__ (e2 gIx (eVar 18) (eC (.int 1)))) (eVar 17)))))) (sRet (eC (.bl false))) (sNx))
  (sSeq (sAsg 19 (e2 gAdd (e2 gAdd (eVar 13) (eC (.str ","))) (eVar 17)))
  (sIf (tB (e2 gNe (e2 gIx (eCall (m__law_read) (aCons (eC (.fn "read_ratios")) (aCons (eVar 19) (aNil)))) (eC (.int 0))) (eIf (tB (e1L gAll (eLc [21] (iSeqM (eSM1 gSplit (eVar 19) (eC (.str ",")))) (tgName 21) (tTrue) (eCall (m__law_is_text) (aCons (eVar 21) (aNil)))))) (eC (.str "told")) (eC (.str "text"))))) (sRet (eC (.bl false))) (sNx))))))
def g15 : SM := sRet (e2 gEq (eLc [22, 20] (iSeqM (eTup (aCons (eTup (aCons (eC (.fn "read_ratio")) (aCons (eC .non) (aNil)))) (aCons (eTup (aCons (eC (.fn "read_ratios")) (aCons (eC .non) (aNil)))) (aCons (eTup (aCons (eC (.fn "read_ratio")) (aCons (eC (.int 5)) (aNil)))) (aCons (eTup (aCons (eC (.fn "read_ratios")) (aCons (eTup (aCons (eC (.str "1")) (aNil))) (aNil)))) (aNil))))))) (tgTup (tgCons (tgName 22) (tgCons (tgName 20) (tgNil))) 2) (tTrue) (eCall (m__law_read) (aCons (eVar 22) (aCons (eVar 20) (aNil))))) (e2 gRep (eLst (aCons (eTup (aCons (eC (.str "text")) (aCons (eC (.int 0)) (aNil)))) (aNil))) (eC (.int 4))))
theorem law_parts : s_law = seqL [g0, g1, g2, g3, g4, g5, g6, g7, g8, g9, g10, g11, g12, g13, g14] g15 := rfl

theorem fr_g3 : FrS 1 g3 := by
  unfold g3
  repeat (first | exact fr_var | exact fr_c | exact fr_aNil | exact fr_pNone | exact fr_tTrue | exact frs_nx | exact frs_raise | exact frs_retN | exact frg_nil | exact frg_name (by decide) | exact fr_take (by decide) | refine fr_e2 ?_ ?_ | refine fr_e1 ?_ | refine fr_e1L ?_ | refine fr_e2L ?_ ?_ | refine fr_aCons ?_ ?_ | refine fr_eTup ?_ | refine fr_eLst ?_ | refine fr_tB ?_ | refine fr_tAnd ?_ ?_ | refine fr_tOr ?_ ?_ | refine fr_tNot ?_ | refine fr_eIf ?_ ?_ ?_ | refine fr_eAnd ?_ ?_ | refine fr_eOr ?_ ?_ | refine fr_eNot ?_ | refine fr_e3c ?_ ?_ ?_ | refine fr_pSome ?_ | refine fr_eSl ?_ ?_ ?_ | refine fr_eSlL ?_ ?_ ?_ | refine fr_eM1 ?_ ?_ | refine fr_eCall ?_ | refine fr_iSeqM ?_ | refine fr_iRg ?_ | refine fr_eLc ?_ ?_ ?_ ?_ | refine fr_eLc2 ?_ ?_ ?_ ?_ ?_ ?_ ?_ | refine fr_eMeth1 ?_ | refine fr_eMeth0 | refine fr_eRm1 ?_ ?_ | refine fr_eDc ?_ ?_ ?_ ?_ ?_ | refine fr_eOpX ?_ ?_ | refine fr_e1X ?_ | refine fr_eStrX ?_ | refine fr_eMake ?_ | refine fr_eMethC ?_ ?_ | refine fr_eStrA ?_ | refine fr_eSM1 ?_ ?_ | refine fr_eSlS ?_ ?_ ?_ | refine frs_unp ?_ ?_ | refine frs_for ?_ ?_ ?_ | refine frs_while ?_ ?_ | refine frs_if ?_ ?_ ?_ | refine frs_seq ?_ ?_ | refine frs_asg ?_ | refine frs_ret ?_ | refine frs_drop ?_ | refine frs_par ?_ | refine frs_put ?_ ?_ | refine frg_tup ?_ | refine frg_cons ?_ ?_)
theorem fr_g4 : FrS 1 g4 := by
  unfold g4
  repeat (first | exact fr_var | exact fr_c | exact fr_aNil | exact fr_pNone | exact fr_tTrue | exact frs_nx | exact frs_raise | exact frs_retN | exact frg_nil | exact frg_name (by decide) | exact fr_take (by decide) | refine fr_e2 ?_ ?_ | refine fr_e1 ?_ | refine fr_e1L ?_ | refine fr_e2L ?_ ?_ | refine fr_aCons ?_ ?_ | refine fr_eTup ?_ | refine fr_eLst ?_ | refine fr_tB ?_ | refine fr_tAnd ?_ ?_ | refine fr_tOr ?_ ?_ | refine fr_tNot ?_ | refine fr_eIf ?_ ?_ ?_ | refine fr_eAnd ?_ ?_ | refine fr_eOr ?_ ?_ | refine fr_eNot ?_ | refine fr_e3c ?_ ?_ ?_ | refine fr_pSome ?_ | refine fr_eSl ?_ ?_ ?_ | refine fr_eSlL ?_ ?_ ?_ | refine fr_eM1 ?_ ?_ | refine fr_eCall ?_ | refine fr_iSeqM ?_ | refine fr_iRg ?_ | refine fr_eLc ?_ ?_ ?_ ?_ | refine fr_eLc2 ?_ ?_ ?_ ?_ ?_ ?_ ?_ | refine fr_eMeth1 ?_ | refine fr_eMeth0 | refine fr_eRm1 ?_ ?_ | refine fr_eDc ?_ ?_ ?_ ?_ ?_ | refine fr_eOpX ?_ ?_ | refine fr_e1X ?_ | refine fr_eStrX ?_ | refine fr_eMake ?_ | refine fr_eMethC ?_ ?_ | refine fr_eStrA ?_ | refine fr_eSM1 ?_ ?_ | refine fr_eSlS ?_ ?_ ?_ | refine frs_unp ?_ ?_ | refine frs_for ?_ ?_ ?_ | refine frs_while ?_ ?_ | refine frs_if ?_ ?_ ?_ | refine frs_seq ?_ ?_ | refine frs_asg ?_ | refine frs_ret ?_ | refine frs_drop ?_ | refine frs_par ?_ | refine frs_put ?_ ?_ | refine frg_tup ?_ | refine frg_cons ?_ ?_)
theorem fr_g5 : FrS 1 g5 := by
  unfold g5
  repeat (first | exact fr_var | exact fr_c | exact fr_aNil | exact fr_pNone | exact fr_tTrue | exact frs_nx | exact frs_raise | exact frs_retN | exact frg_nil | exact frg_name (by decide) | exact fr_take (by decide) | refine fr_e2 ?_ ?_ | refine fr_e1 ?_ | refine fr_e1L ?_ | refine fr_e2L ?_ ?_ | refine fr_aCons ?_ ?_ | refine fr_eTup ?_ | refine fr_eLst ?_ | refine fr_tB ?_ | refine fr_tAnd ?_ ?_ | refine fr_tOr ?_ ?_ | refine fr_tNot ?_ | refine fr_eIf ?_ ?_ ?_ | refine fr_eAnd ?_ ?_ | refine fr_eOr ?_ ?_ | refine fr_eNot ?_ | refine fr_e3c ?_ ?_ ?_ | refine fr_pSome ?_ | refine fr_eSl ?_ ?_ ?_ | refine fr_eSlL ?_ ?_ ?_ | refine fr_eM1 ?_ ?_ | refine fr_eCall ?_ | refine fr_iSeqM ?_ | refine fr_iRg ?_ | refine fr_eLc ?_ ?_ ?_ ?_ | refine fr_eLc2 ?_ ?_ ?_ ?_ ?_ ?_ ?_ | refine fr_eMeth1 ?_ | refine fr_eMeth0 | refine fr_eRm1 ?_ ?_ | refine fr_eDc ?_ ?_ ?_ ?_ ?_ | refine fr_eOpX ?_ ?_ | refine fr_e1X ?_ | refine fr_eStrX ?_ | refine fr_eMake ?_ | refine fr_eMethC ?_ ?_ | refine fr_eStrA ?_ | refine fr_eSM1 ?_ ?_ | refine fr_eSlS ?_ ?_ ?_ | refine frs_unp ?_ ?_ | refine frs_for ?_ ?_ ?_ | refine frs_while ?_ ?_ | refine frs_if ?_ ?_ ?_ | refine frs_seq ?_ ?_ | refine frs_asg ?_ | refine frs_ret ?_ | refine frs_drop ?_ | refine frs_par ?_ | refine frs_put ?_ ?_ | refine frg_tup ?_ | refine frg_cons ?_ ?_)
theorem fr_g6 : FrS 1 g6 := by
  unfold g6
  repeat (first | exact fr_var | exact fr_c | exact fr_aNil | exact fr_pNone | exact fr_tTrue | exact frs_nx | exact frs_raise | exact frs_retN | exact frg_nil | exact frg_name (by decide) | exact fr_take (by decide) | refine fr_e2 ?_ ?_ | refine fr_e1 ?_ | refine fr_e1L ?_ | refine fr_e2L ?_ ?_ | refine fr_aCons ?_ ?_ | refine fr_eTup ?_ | refine fr_eLst ?_ | refine fr_tB ?_ | refine fr_tAnd ?_ ?_ | refine fr_tOr ?_ ?_ | refine fr_tNot ?_ | refine fr_eIf ?_ ?_ ?_ | refine fr_eAnd ?_ ?_ | refine fr_eOr ?_ ?_ | refine fr_eNot ?_ | refine fr_e3c ?_ ?_ ?_ | refine fr_pSome ?_ | refine fr_eSl ?_ ?_ ?_ | refine fr_eSlL ?_ ?_ ?_ | refine fr_eM1 ?_ ?_ | refine fr_eCall ?_ | refine fr_iSeqM ?_ | refine fr_iRg ?_ | refine fr_eLc ?_ ?_ ?_ ?_ | refine fr_eLc2 ?_ ?_ ?_ ?_ ?_ ?_ ?_ | refine fr_eMeth1 ?_ | refine fr_eMeth0 | refine fr_eRm1 ?_ ?_ | refine fr_eDc ?_ ?_ ?_ ?_ ?_ | refine fr_eOpX ?_ ?_ | refine fr_e1X ?_ | refine fr_eStrX ?_ | refine fr_eMake ?_ | refine fr_eMethC ?_ ?_ | refine fr_eStrA ?_ | refine fr_eSM1 ?_ ?_ | refine fr_eSlS ?_ ?_ ?_ | refine frs_unp ?_ ?_ | refine frs_for ?_ ?_ ?_ | refine frs_while ?_ ?_ | refine frs_if ?_ ?_ ?_ | refine frs_seq ?_ ?_ | refine frs_asg ?_ | refine frs_ret ?_ | refine frs_drop ?_ | refine frs_par ?_ | refine frs_put ?_ ?_ | refine frg_tup ?_ | refine frg_cons ?_ ?_)
theorem fr_g8 : FrS 1 g8 := by
  unfold g8
  repeat (first | exact fr_var | exact fr_c | exact fr_aNil | exact fr_pNone | exact fr_tTrue | exact frs_nx | exact frs_raise | exact frs_retN | exact frg_nil | exact frg_name (by decide) | exact fr_take (by decide) | refine fr_e2 ?_ ?_ | refine fr_e1 ?_ | refine fr_e1L ?_ | refine fr_e2L ?_ ?_ | refine fr_aCons ?_ ?_ | refine fr_eTup ?_ | refine fr_eLst ?_ | refine fr_tB ?_ | refine fr_tAnd ?_ ?_ | refine fr_tOr ?_ ?_ | refine fr_tNot ?_ | refine fr_eIf ?_ ?_ ?_ | refine fr_eAnd ?_ ?_ | refine fr_eOr ?_ ?_ | refine fr_eNot ?_ | refine fr_e3c ?_ ?_ ?_ | refine fr_pSome ?_ | refine fr_eSl ?_ ?_ ?_ | refine fr_eSlL ?_ ?_ ?_ | refine fr_eM1 ?_ ?_ | refine fr_eCall ?_ | refine fr_iSeqM ?_ | refine fr_iRg ?_ | refine fr_eLc ?_ ?_ ?_ ?_ | refine fr_eLc2 ?_ ?_ ?_ ?_ ?_ ?_ ?_ | refine fr_eMeth1 ?_ | refine fr_eMeth0 | refine fr_eRm1 ?_ ?_ | refine fr_eDc ?_ ?_ ?_ ?_ ?_ | refine fr_eOpX ?_ ?_ | refine fr_e1X ?_ | refine fr_eStrX ?_ | refine fr_eMake ?_ | refine fr_eMethC ?_ ?_ | refine fr_eStrA ?_ | refine fr_eSM1 ?_ ?_ | refine fr_eSlS ?_ ?_ ?_ | refine frs_unp ?_ ?_ | refine frs_for ?_ ?_ ?_ | refine frs_while ?_ ?_ | refine frs_if ?_ ?_ ?_ | refine frs_seq ?_ ?_ | refine frs_asg ?_ | refine frs_ret ?_ | refine frs_drop ?_ | refine frs_par ?_ | refine frs_put ?_ ?_ | refine frg_tup ?_ | refine frg_cons ?_ ?_)
theorem fr_g9 : FrS 1 g9 := by
  unfold g9
  repeat (first | exact fr_var | exact fr_c | exact fr_aNil | exact fr_pNone | exact fr_tTrue | exact frs_nx | exact frs_raise | exact frs_retN | exact frg_nil | exact frg_name (by decide) | exact fr_take (by decide) | refine fr_e2 ?_ ?_ | refine fr_e1 ?_ | refine fr_e1L ?_ | refine fr_e2L ?_ ?_ | refine fr_aCons ?_ ?_ | refine fr_eTup ?_ | refine fr_eLst ?_ | refine fr_tB ?_ | refine fr_tAnd ?_ ?_ | refine fr_tOr ?_ ?_ | refine fr_tNot ?_ | refine fr_eIf ?_ ?_ ?_ | refine fr_eAnd ?_ ?_ | refine fr_eOr ?_ ?_ | refine fr_eNot ?_ | refine fr_e3c ?_ ?_ ?_ | refine fr_pSome ?_ | refine fr_eSl ?_ ?_ ?_ | refine fr_eSlL ?_ ?_ ?_ | refine fr_eM1 ?_ ?_ | refine fr_eCall ?_ | refine fr_iSeqM ?_ | refine fr_iRg ?_ | refine fr_eLc ?_ ?_ ?_ ?_ | refine fr_eLc2 ?_ ?_ ?_ ?_ ?_ ?_ ?_ | refine fr_eMeth1 ?_ | refine fr_eMeth0 | refine fr_eRm1 ?_ ?_ | refine fr_eDc ?_ ?_ ?_ ?_ ?_ | refine fr_eOpX ?_ ?_ | refine fr_e1X ?_ | refine fr_eStrX ?_ | refine fr_eMake ?_ | refine fr_eMethC ?_ ?_ | refine fr_eStrA ?_ | refine fr_eSM1 ?_ ?_ | refine fr_eSlS ?_ ?_ ?_ | refine frs_unp ?_ ?_ | refine frs_for ?_ ?_ ?_ | refine frs_while ?_ ?_ | refine frs_if ?_ ?_ ?_ | refine frs_seq ?_ ?_ | refine frs_asg ?_ | refine frs_ret ?_ | refine frs_drop ?_ | refine frs_par ?_ | refine frs_put ?_ ?_ | refine frg_tup ?_ | refine frg_cons ?_ ?_)
theorem fr_g10 : FrS 1 g10 := by
  unfold g10
  repeat (first | exact fr_var | exact fr_c | exact fr_aNil | exact fr_pNone | exact fr_tTrue | exact frs_nx | exact frs_raise | exact frs_retN | exact frg_nil | exact frg_name (by decide) | exact fr_take (by decide) | refine fr_e2 ?_ ?_ | refine fr_e1 ?_ | refine fr_e1L ?_ | refine fr_e2L ?_ ?_ | refine fr_aCons ?_ ?_ | refine fr_eTup ?_ | refine fr_eLst ?_ | refine fr_tB ?_ | refine fr_tAnd ?_ ?_ | refine fr_tOr ?_ ?_ | refine fr_tNot ?_ | refine fr_eIf ?_ ?_ ?_ | refine fr_eAnd ?_ ?_ | refine fr_eOr ?_ ?_ | refine fr_eNot ?_ | refine fr_e3c ?_ ?_ ?_ | refine fr_pSome ?_ | refine fr_eSl ?_ ?_ ?_ | refine fr_eSlL ?_ ?_ ?_ | refine fr_eM1 ?_ ?_ | refine fr_eCall ?_ | refine fr_iSeqM ?_ | refine fr_iRg ?_ | refine fr_eLc ?_ ?_ ?_ ?_ | refine fr_eLc2 ?_ ?_ ?_ ?_ ?_ ?_ ?_ | refine fr_eMeth1 ?_ | refine fr_eMeth0 | refine fr_eRm1 ?_ ?_ | refine fr_eDc ?_ ?_ ?_ ?_ ?_ | refine fr_eOpX ?_ ?_ | refine fr_e1X ?_ | refine fr_eStrX ?_ | refine fr_eMake ?_ | refine fr_eMethC ?_ ?_ | refine fr_eStrA ?_ | refine fr_eSM1 ?_ ?_ | refine fr_eSlS ?_ ?_ ?_ | refine frs_unp ?_ ?_ | refine frs_for ?_ ?_ ?_ | refine frs_while ?_ ?_ | refine frs_if ?_ ?_ ?_ | refine frs_seq ?_ ?_ | refine frs_asg ?_ | refine frs_ret ?_ | refine frs_drop ?_ | refine frs_par ?_ | refine frs_put ?_ ?_ | refine frg_tup ?_ | refine frg_cons ?_ ?_)
theorem fr_g11 : FrS 1 g11 := by
  unfold g11
  repeat (first | exact fr_var | exact fr_c | exact fr_aNil | exact fr_pNone | exact fr_tTrue | exact frs_nx | exact frs_raise | exact frs_retN | exact frg_nil | exact frg_name (by decide) | exact fr_take (by decide) | refine fr_e2 ?_ ?_ | refine fr_e1 ?_ | refine fr_e1L ?_ | refine fr_e2L ?_ ?_ | refine fr_aCons ?_ ?_ | refine fr_eTup ?_ | refine fr_eLst ?_ | refine fr_tB ?_ | refine fr_tAnd ?_ ?_ | refine fr_tOr ?_ ?_ | refine fr_tNot ?_ | refine fr_eIf ?_ ?_ ?_ | refine fr_eAnd ?_ ?_ | refine fr_eOr ?_ ?_ | refine fr_eNot ?_ | refine fr_e3c ?_ ?_ ?_ | refine fr_pSome ?_ | refine fr_eSl ?_ ?_ ?_ | refine fr_eSlL ?_ ?_ ?_ | refine fr_eM1 ?_ ?_ | refine fr_eCall ?_ | refine fr_iSeqM ?_ | refine fr_iRg ?_ | refine fr_eLc ?_ ?_ ?_ ?_ | refine fr_eLc2 ?_ ?_ ?_ ?_ ?_ ?_ ?_ | refine fr_eMeth1 ?_ | refine fr_eMeth0 | refine fr_eRm1 ?_ ?_ | refine fr_eDc ?_ ?_ ?_ ?_ ?_ | refine fr_eOpX ?_ ?_ | refine fr_e1X ?_ | refine fr_eStrX ?_ | refine fr_eMake ?_ | refine fr_eMethC ?_ ?_ | refine fr_eStrA ?_ | refine fr_eSM1 ?_ ?_ | refine fr_eSlS ?_ ?_ ?_ | refine frs_unp ?_ ?_ | refine frs_for ?_ ?_ ?_ | refine frs_while ?_ ?_ | refine frs_if ?_ ?_ ?_ | refine frs_seq ?_ ?_ | refine frs_asg ?_ | refine frs_ret ?_ | refine frs_drop ?_ | refine frs_par ?_ | refine frs_put ?_ ?_ | refine frg_tup ?_ | refine frg_cons ?_ ?_)
theorem fr_g12 : FrS 1 g12 := by
  unfold g12
  repeat (first | exact fr_var | exact fr_c | exact fr_aNil | exact fr_pNone | exact fr_tTrue | exact frs_nx | exact frs_raise | exact frs_retN | exact frg_nil | exact frg_name (by decide) | exact fr_take (by decide) | refine fr_e2 ?_ ?_ | refine fr_e1 ?_ | refine fr_e1L ?_ | refine fr_e2L ?_ ?_ | refine fr_aCons ?_ ?_ | refine fr_eTup ?_ | refine fr_eLst ?_ | refine fr_tB ?_ | refine fr_tAnd ?_ ?_ | refine fr_tOr ?_ ?_ | refine fr_tNot ?_ | refine fr_eIf ?_ ?_ ?_ | refine fr_eAnd ?_ ?_ | refine fr_eOr ?_ ?_ | refine fr_eNot ?_ | refine fr_e3c ?_ ?_ ?_ | refine fr_pSome ?_ | refine fr_eSl ?_ ?_ ?_ | refine fr_eSlL ?_ ?_ ?_ | refine fr_eM1 ?_ ?_ | refine fr_eCall ?_ | refine fr_iSeqM ?_ | refine fr_iRg ?_ | refine fr_eLc ?_ ?_ ?_ ?_ | refine fr_eLc2 ?_ ?_ ?_ ?_ ?_ ?_ ?_ | refine fr_eMeth1 ?_ | refine fr_eMeth0 | refine fr_eRm1 ?_ ?_ | refine fr_eDc ?_ ?_ ?_ ?_ ?_ | refine fr_eOpX ?_ ?_ | refine fr_e1X ?_ | refine fr_eStrX ?_ | refine fr_eMake ?_ | refine fr_eMethC ?_ ?_ | refine fr_eStrA ?_ | refine fr_eSM1 ?_ ?_ | refine fr_eSlS ?_ ?_ ?_ | refine frs_unp ?_ ?_ | refine frs_for ?_ ?_ ?_ | refine frs_while ?_ ?_ | refine frs_if ?_ ?_ ?_ | refine frs_seq ?_ ?_ | refine frs_asg ?_ | refine frs_ret ?_ | refine frs_drop ?_ | refine frs_par ?_ | refine frs_put ?_ ?_ | refine frg_tup ?_ | refine frg_cons ?_ ?_)
theorem fr_g14 : FrS 1 g14 := by
  unfold g14
  repeat (first | exact fr_var | exact fr_c | exact fr_aNil | exact fr_pNone | exact fr_tTrue | exact frs_nx | exact frs_raise | exact frs_retN | exact frg_nil | exact frg_name (by decide) | exact fr_take (by decide) | refine fr_e2 ?_ ?_ | refine fr_e1 ?_ | refine fr_e1L ?_ | refine fr_e2L ?_ ?_ | refine fr_aCons ?_ ?_ | refine fr_eTup ?_ | refine fr_eLst ?_ | refine fr_tB ?_ | refine fr_tAnd ?_ ?_ | refine fr_tOr ?_ ?_ | refine fr_tNot ?_ | refine fr_eIf ?_ ?_ ?_ | refine fr_eAnd ?_ ?_ | refine fr_eOr ?_ ?_ | refine fr_eNot ?_ | refine fr_e3c ?_ ?_ ?_ | refine fr_pSome ?_ | refine fr_eSl ?_ ?_ ?_ | refine fr_eSlL ?_ ?_ ?_ | refine fr_eM1 ?_ ?_ | refine fr_eCall ?_ | refine fr_iSeqM ?_ | refine fr_iRg ?_ | refine fr_eLc ?_ ?_ ?_ ?_ | refine fr_eLc2 ?_ ?_ ?_ ?_ ?_ ?_ ?_ | refine fr_eMeth1 ?_ | refine fr_eMeth0 | refine fr_eRm1 ?_ ?_ | refine fr_eDc ?_ ?_ ?_ ?_ ?_ | refine fr_eOpX ?_ ?_ | refine fr_e1X ?_ | refine fr_eStrX ?_ | refine fr_eMake ?_ | refine fr_eMethC ?_ ?_ | refine fr_eStrA ?_ | refine fr_eSM1 ?_ ?_ | refine fr_eSlS ?_ ?_ ?_ | refine frs_unp ?_ ?_ | refine frs_for ?_ ?_ ?_ | refine frs_while ?_ ?_ | refine frs_if ?_ ?_ ?_ | refine frs_seq ?_ ?_ | refine frs_asg ?_ | refine frs_ret ?_ | refine frs_drop ?_ | refine frs_par ?_ | refine frs_put ?_ ?_ | refine frg_tup ?_ | refine frg_cons ?_ ?_)
theorem fr_g15 : FrS 1 g15 := by
  unfold g15
  repeat (first | exact fr_var | exact fr_c | exact fr_aNil | exact fr_pNone | exact fr_tTrue | exact frs_nx | exact frs_raise | exact frs_retN | exact frg_nil | exact frg_name (by decide) | exact fr_take (by decide) | refine fr_e2 ?_ ?_ | refine fr_e1 ?_ | refine fr_e1L ?_ | refine fr_e2L ?_ ?_ | refine fr_aCons ?_ ?_ | refine fr_eTup ?_ | refine fr_eLst ?_ | refine fr_tB ?_ | refine fr_tAnd ?_ ?_ | refine fr_tOr ?_ ?_ | refine fr_tNot ?_ | refine fr_eIf ?_ ?_ ?_ | refine fr_eAnd ?_ ?_ | refine fr_eOr ?_ ?_ | refine fr_eNot ?_ | refine fr_e3c ?_ ?_ ?_ | refine fr_pSome ?_ | refine fr_eSl ?_ ?_ ?_ | refine fr_eSlL ?_ ?_ ?_ | refine fr_eM1 ?_ ?_ | refine fr_eCall ?_ | refine fr_iSeqM ?_ | refine fr_iRg ?_ | refine fr_eLc ?_ ?_ ?_ ?_ | refine fr_eLc2 ?_ ?_ ?_ ?_ ?_ ?_ ?_ | refine fr_eMeth1 ?_ | refine fr_eMeth0 | refine fr_eRm1 ?_ ?_ | refine fr_eDc ?_ ?_ ?_ ?_ ?_ | refine fr_eOpX ?_ ?_ | refine fr_e1X ?_ | refine fr_eStrX ?_ | refine fr_eMake ?_ | refine fr_eMethC ?_ ?_ | refine fr_eStrA ?_ | refine fr_eSM1 ?_ ?_ | refine fr_eSlS ?_ ?_ ?_ | refine frs_unp ?_ ?_ | refine frs_for ?_ ?_ ?_ | refine frs_while ?_ ?_ | refine frs_if ?_ ?_ ?_ | refine frs_seq ?_ ?_ | refine frs_asg ?_ | refine frs_ret ?_ | refine frs_drop ?_ | refine frs_par ?_ | refine frs_put ?_ ?_ | refine frg_tup ?_ | refine frg_cons ?_ ?_)
structure Txt (K : PySem.W.Frag) (mg : Str → Option Value) (fs : Nat → Addr) (fds : Nat → FuncData) : Prop where
  c_Ratio : ClsF K mg "Ratio" (He.ga K "Ratio")
  o_Ratio : OwnF K (He.ga K "Ratio") ["add", "mul"]
  n_Ratio_d : NoAttr K (He.ga K "Ratio") "d"
  n_Ratio_n : NoAttr K (He.ga K "Ratio") "n"
  k_Ratio : Mk K (He.ga K "Ratio") (fs 26)
  d_Refused___init__ : MetAt K (He.ga K "Refused") "__init__" "Refused.__init__" t_Refused___init__ ["self", "reason"] [] (fs 24) (fds 24)
  d_NoText___init__ : MetAt K (He.ga K "NoText") "__init__" "NoText.__init__" t_NoText___init__ ["self", "at"] [] (fs 25) (fds 25)
  d_Ratio___init__ : MetAt K (He.ga K "Ratio") "__init__" "Ratio.__init__" t_Ratio___init__ ["self", "n", "d"] [V.int 1] (fs 26) (fds 26)
  d_Ratio___add__ : MetAt K (He.ga K "Ratio") "__add__" "Ratio.__add__" t_Ratio___add__ ["self", "other"] [] (fs 27) (fds 27)
  d_Ratio___sub__ : MetAt K (He.ga K "Ratio") "__sub__" "Ratio.__sub__" t_Ratio___sub__ ["self", "other"] [] (fs 28) (fds 28)
  d_Ratio___mul__ : MetAt K (He.ga K "Ratio") "__mul__" "Ratio.__mul__" t_Ratio___mul__ ["self", "other"] [] (fs 29) (fds 29)
  d_Ratio___neg__ : MetAt K (He.ga K "Ratio") "__neg__" "Ratio.__neg__" t_Ratio___neg__ ["self"] [] (fs 30) (fds 30)
  d_Ratio___eq__ : MetAt K (He.ga K "Ratio") "__eq__" "Ratio.__eq__" t_Ratio___eq__ ["self", "other"] [] (fs 31) (fds 31)
  d_Ratio_less : MetAt K (He.ga K "Ratio") "less" "Ratio.less" t_Ratio_less ["self", "other"] [] (fs 32) (fds 32)
  d_Ratio___str__ : MetAt K (He.ga K "Ratio") "__str__" "Ratio.__str__" t_Ratio___str__ ["self"] [] (fs 33) (fds 33)
  d_Ratio_over : MetAt K (He.ga K "Ratio") "over" "Ratio.over" t_Ratio_over ["self", "other"] [] (fs 34) (fds 34)
  d_Ratio_times : MetAt K (He.ga K "Ratio") "times" "Ratio.times" t_Ratio_times ["self", "k"] [] (fs 35) (fds 35)
  d_Ratio_sign : MetAt K (He.ga K "Ratio") "sign" "Ratio.sign" t_Ratio_sign ["self"] [] (fs 36) (fds 36)
  d_Ratio_is_zero : MetAt K (He.ga K "Ratio") "is_zero" "Ratio.is_zero" t_Ratio_is_zero ["self"] [] (fs 37) (fds 37)
  d_Ratio_is_whole : MetAt K (He.ga K "Ratio") "is_whole" "Ratio.is_whole" t_Ratio_is_whole ["self"] [] (fs 38) (fds 38)
  d_Ratio_floor : MetAt K (He.ga K "Ratio") "floor" "Ratio.floor" t_Ratio_floor ["self"] [] (fs 39) (fds 39)
  d_Ratio_size : MetAt K (He.ga K "Ratio") "size" "Ratio.size" t_Ratio_size ["self"] [] (fs 40) (fds 40)
  b1_Ratio___init__ : ∃ ds, Vals [V.int 1] ds ∧ Binds K (fds 26) ["self", "n", "d"] ds
  rf : ErrK K mg "Refused" "reason" (He.ga K "Fault") (He.ga K "Refused") (fs 24)
  nf : ErrK K mg "NoText" "at" (He.ga K "Fault") (He.ga K "NoText") (fs 25)
  d__wall : DefAt K mg "_wall" t__wall ["k"] (fs 0) (fds 0)
  d_is_integer : DefAt K mg "is_integer" t_is_integer ["value"] (fs 1) (fds 1)
  d_common : DefAt K mg "common" t_common ["a", "b"] (fs 2) (fds 2)
  d_check_ratio : DefAt K mg "check_ratio" t_check_ratio ["value"] (fs 3) (fds 3)
  d_is_ratio_row : DefAt K mg "is_ratio_row" t_is_ratio_row ["value"] (fs 4) (fds 4)
  d_ratios : DefAt K mg "ratios" t_ratios ["row"] (fs 5) (fds 5)
  d_ratio_sum : DefAt K mg "ratio_sum" t_ratio_sum ["row"] (fs 6) (fds 6)
  d_ratio_product : DefAt K mg "ratio_product" t_ratio_product ["row"] (fs 7) (fds 7)
  d_dot : DefAt K mg "dot" t_dot ["one", "two"] (fs 8) (fds 8)
  d_ratios_text : DefAt K mg "ratios_text" t_ratios_text ["row"] (fs 9) (fds 9)
  d_read_ratio : DefAt K mg "read_ratio" t_read_ratio ["text"] (fs 10) (fds 10)
  d_read_ratios : DefAt K mg "read_ratios" t_read_ratios ["text"] (fs 11) (fds 11)
  d__law_state : DefAt K mg "_law_state" t__law_state ["script"] (fs 12) (fds 12)
  d__law_take : DefAt K mg "_law_take" t__law_take ["state", "m"] (fs 13) (fds 13)
  d__law_says : DefAt K mg "_law_says" t__law_says ["value", "due"] (fs 14) (fds 14)
  d__law_is_whole : DefAt K mg "_law_is_whole" t__law_is_whole ["value"] (fs 15) (fds 15)
  d__law_same : DefAt K mg "_law_same" t__law_same ["one", "two"] (fs 16) (fds 16)
  d__law_common : DefAt K mg "_law_common" t__law_common ["a", "b"] (fs 17) (fds 17)
  d__law_result : DefAt K mg "_law_result" t__law_result ["act", "given"] (fs 18) (fds 18)
  d__law_num : DefAt K mg "_law_num" t__law_num ["state"] (fs 19) (fds 19)
  d__law_num_row : DefAt K mg "_law_num_row" t__law_num_row ["state", "many"] (fs 20) (fds 20)
  d__law_read : DefAt K mg "_law_read" t__law_read ["act", "text"] (fs 21) (fds 21)
  d__law_is_text : DefAt K mg "_law_is_text" t__law_is_text ["text"] (fs 22) (fds 22)
  d_law : DefAt K mg "law" t_law ["script"] (fs 23) (fds 23)
  z_abs : mg "abs" = none
  z_all : mg "all" = none
  z_any : mg "any" = none
  z_bool : mg "bool" = none
  z_int : mg "int" = none
  z_isinstance : mg "isinstance" = none
  z_len : mg "len" = none
  z_list : mg "list" = none
  z_range : mg "range" = none
  z_str : mg "str" = none
  z_tuple : mg "tuple" = none
  z_zip : mg "zip" = none
  i_MOST_SIGNS : ∃ t, mg "MOST_SIGNS" = some (.int 400 t)
  mal : ∃ C, MalC K mg "Malformed" C
  xcn : ∃ CM CR CN, XcR K mg CM CR ∧ XcN K mg CM CR CN
  xt : XcT K mg (He.ga K "NoText")
section
variable {P : Program} {w : World} {K : PySem.W.Frag} {mg : Str → Option Value} {base : Heap} {fs : Nat → Addr} {fds : Nat → FuncData}
theorem ok_Refused___init__ (T : Txt K mg fs fds) : FnOk P w K mg base (L2.CX P w) 1 (fs 24) (fds 24) ["self", "reason"] (spRef K) := by
  refine err_init (t := tVar 1) (plain_of T.d_Refused___init__.F) rfl sc_Refused___init__ (fun a v H Q q => ⟨_, rfl, q _⟩) (fun cdv A outer s0 H E => ?_) fun a v => ⟨rfl, rfl⟩
  exact pss_cons (ps_expr (pe_faultInit T.rf rfl (pa_cons (pv 0) (pa_cons (pv 1) pa_nil)))) (pss_one (ps_ost (pv 0) (pv 1)))
theorem ok_NoText___init__ (T : Txt K mg fs fds) : FnOk P w K mg base (L2.CX P w) 1 (fs 25) (fds 25) ["self", "at"] (spErr K "at") := by
  refine err_init (t := tC (.str "no text")) (plain_of T.d_NoText___init__.F) rfl sc_NoText___init__ (fun a v H Q q => q _) (fun cdv A outer s0 H E => ?_) fun a v => ⟨rfl, rfl⟩
  exact pss_cons (ps_expr (pe_faultInit T.nf rfl (pa_cons (pv 0) (pa_cons pe_str pa_nil)))) (pss_one (ps_ost (pv 0) (pv 1)))
theorem ok__wall (T : Txt K mg fs fds) : FnOk P w K mg base (L2.CX P w) 1 (fs 0) (fds 0) ["k"] (spM K mg [.sh] 0 (m0 m__wall)) := by
  refine fn_okP (k := 0) (ps := [.sh]) (rk := 0) (ls := []) (s := s__wall) T.d__wall.F sc__wall rfl ?_ rfl rfl rfl
  intro cdv A outer s0 H E vs B hr ok po
  exact sxs_one (sx_while po (tx_val (ex_bl)) (sxs_one (sx_pass)))
theorem ok_is_integer (T : Txt K mg fs fds) : FnOk P w K mg base (L2.CX P w) 1 (fs 1) (fds 1) ["value"] (spM K mg [.sh] 0 (m0 m_is_integer)) := by
  refine fn_okP (k := 0) (ps := [.sh]) (rk := 0) (ls := []) (s := s_is_integer) T.d_is_integer.F sc_is_integer rfl ?_ rfl rfl rfl
  intro cdv A outer s0 H E vs B hr ok po
  exact sxs_one (sx_ret (ex_and (ex_isT .int (T.z_isinstance) (T.z_int) (ex_vo 0 0)) (ex_one (ex_not (ex_isT .bl (T.z_isinstance) (T.z_bool) (ex_vo 0 0))))))
theorem ok_common (T : Txt K mg fs fds) : FnOk P w K mg base (L2.CX P w) 1 (fs 2) (fds 2) ["a", "b"] (spM K mg [.sh, .sh] 0 (m0 m_common)) := by
  refine fn_okP (k := 0) (ps := [.sh, .sh]) (rk := 0) (ls := []) (s := s_common) T.d_common.F sc_common rfl ?_ rfl rfl rfl
  intro cdv A outer s0 H E vs B hr ok po
  exact sxs_cons (sx_par2 ok 0 1 (ap_cons (k := 0) (ex_abs (T.z_abs) (ex_vo 0 0)) (ap_cons (k := 0) (ex_abs (T.z_abs) (ex_vo 1 0)) (ap_nil))) sc_common.nd (by decide))
    (sxs_cons (sx_while po (tx_gt (ex_vo 1 0) (ex_int) w00) (sxs_one (sx_par2 ok 0 1 (ap_cons (k := 0) (ex_vo 1 0) (ap_cons (k := 0) (ex_mod (ex_vo 0 0) (ex_vo 1 0) w00) (ap_nil))) sc_common.nd (by decide))))
    (sxs_one (sx_ret (ex_vo 0 0))))
theorem ok_check_ratio (T : Txt K mg fs fds) : FnOk P w K mg base (L2.CX P w) 1 (fs 3) (fds 3) ["value"] (spM K mg [.sh] 0 (m0 m_check_ratio)) := by
  obtain ⟨C, M⟩ := T.mal
  refine fn_okP (k := 0) (ps := [.sh]) (rk := 0) (ls := []) (s := s_check_ratio) T.d_check_ratio.F sc_check_ratio rfl ?_ rfl rfl rfl
  intro cdv A outer s0 H E vs B hr ok po
  exact sxs_one (sx_if (tx_not (tx_val (ex_isK T.c_Ratio T.o_Ratio.is (T.z_isinstance) (ex_vo 0 0)))) (sxs_one (sx_raise ok M)) (sxs_nil))
theorem ok_is_ratio_row (T : Txt K mg fs fds) : FnOk P w K mg base (L2.CX P w) 1 (fs 4) (fds 4) ["value"] (spM K mg [.sh] 0 (m0 m_is_ratio_row)) := by
  refine fn_okP (k := 0) (ps := [.sh]) (rk := 0) (ls := [.own 0]) (s := s_is_ratio_row) T.d_is_ratio_row.F sc_is_ratio_row rfl ?_ rfl rfl rfl
  intro cdv A outer s0 H E vs B hr ok po
  exact sxs_one (sx_ret (ex_and (ex_isT .tup (T.z_isinstance) (T.z_tuple) (ex_vo 0 0)) (ex_one (ex_all ok (T.z_all) (ex_rd (LX.ex (lx_lc (k := 0) (own := [("x", 1)]) ok sc_is_ratio_row.nd (ix_seqS (ex_vo 0 0)) (blkB_ok rfl) rfl (by decide) rfl (fun s H C cl fp => gx_name 1 sc_is_ratio_row.nd) (fun s H C cl fp => txs_nil) (fun s H C cl fp => ex_isK T.c_Ratio T.o_Ratio.is (T.z_isinstance) (ex_vo 1 0)))))))))
theorem ok__law_state (T : Txt K mg fs fds) : FnOk P w K mg base (L2.CX P w) 1 (fs 12) (fds 12) ["script"] (spM K mg [.sh] 1 (m0 m__law_state)) := by
  refine fn_okP (k := 0) (ps := [.sh]) (rk := 1) (ls := [.own 0, .own 0, .own 0]) (s := s__law_state) T.d__law_state.F sc__law_state rfl ?_ rfl rfl rfl
  intro cdv A outer s0 H E vs B hr ok po
  exact sxs_cons (sx_asg 1 (ex_int) sc__law_state.nd)
    (sxs_cons (sx_asg 2 (ex_int) sc__law_state.nd)
    (sxs_cons (sx_for ok po (ix_seqS (ex_sh (ex_slL (ex_up (ex_vo 0 0)) (px_none) (px_some (ex_int)) wrd))) (gx_name 3 sc__law_state.nd) (sxs_cons (sx_asg 1 (ex_add (ex_mul (ex_vo 1 0) (ex_int) w00) (ex_abs (T.z_abs) (ex_vo 3 0))) sc__law_state.nd)
    (sxs_one (sx_asg 2 (ex_mod (ex_intc (T.z_int) (ex_add (ex_mul (ex_vo 2 0) (ex_int) w00) (ex_vo 3 0))) (ex_int) w00) sc__law_state.nd))))
    (sxs_one (sx_retO (ex_lst (ax_cons (ex_vo 1 0) (ax_cons (ex_if (tx_ne (rmOf hr) (ex_vo 2 0) (ex_int) w00) (ex_vo 2 0) (ex_int)) (ax_nil) w00) w00))))))
theorem ok__law_take (T : Txt K mg fs fds) : FnOk P w K mg base (L2.CX P w) 1 (fs 13) (fds 13) ["state", "m"] (spM K mg [.io 1, .sh] 0 (m__law_take)) := by
  refine fn_okI (k := 0) (ps := [.io 1, .sh]) (rk := 0) (ls := [.own 0]) (s := s__law_take) T.d__law_take.F sc__law_take rfl ?_ rfl rfl
  intro cdv A outer s0 H E vs B hr ok po
  exact sxs_cons (sx_if (tx_gt (ex_ix (rmOf hr) (ex_vo 0 1) (ex_int) wrd) (ex_int) w00) (sxs_cons (sx_asg 2 (ex_mod (ex_intc (T.z_int) (ex_ix (rmOf hr) (ex_vo 0 1) (ex_int) wrd)) (ex_vo 1 0) w00) sc__law_take.nd)
    (sxs_cons (sx_put 0 (k := 0) set_list ps3_lst (ex_div (ex_ix (rmOf hr) (ex_vo 0 1) (ex_int) wrd) (ex_vo 1 0) w00) (ex_int))
    (sxs_one (sx_ret (ex_vo 2 0))))) (sxs_nil))
    (sxs_cons (sx_put 0 (k := 0) set_list ps3_lst (ex_mod (ex_intc (T.z_int) (ex_add (ex_mul (ex_ix (rmOf hr) (ex_vo 0 1) (ex_int) wrd) (ex_int) w00) (ex_int))) (ex_int) w00) (ex_int))
    (sxs_one (sx_ret (ex_mod (ex_intc (T.z_int) (ex_div (ex_ix (rmOf hr) (ex_vo 0 1) (ex_int) wrd) (ex_int) w00)) (ex_vo 1 0) w00))))
theorem ok__law_says (T : Txt K mg fs fds) : FnOk P w K mg base (L2.CX P w) 1 (fs 14) (fds 14) ["value", "due"] (spM K mg [.sh, .sh] 0 (m0 m__law_says)) := by
  refine fn_okP (k := 0) (ps := [.sh, .sh]) (rk := 0) (ls := []) (s := s__law_says) T.d__law_says.F sc__law_says rfl ?_ rfl rfl rfl
  intro cdv A outer s0 H E vs B hr ok po
  exact sxs_one (sx_ret (ex_and (ex_isT .bl (T.z_isinstance) (T.z_bool) (ex_vo 0 0)) (ex_one (ex_eq (rmOf hr) (ex_vo 0 0) (ex_vo 1 0) w00))))
theorem ok__law_is_whole (T : Txt K mg fs fds) : FnOk P w K mg base (L2.CX P w) 1 (fs 15) (fds 15) ["value"] (spM K mg [.sh] 0 (m0 m__law_is_whole)) := by
  refine fn_okP (k := 0) (ps := [.sh]) (rk := 0) (ls := []) (s := s__law_is_whole) T.d__law_is_whole.F sc__law_is_whole rfl ?_ rfl rfl rfl
  intro cdv A outer s0 H E vs B hr ok po
  exact sxs_one (sx_ret (ex_and (ex_isT .int (T.z_isinstance) (T.z_int) (ex_vo 0 0)) (ex_one (ex_not (ex_isT .bl (T.z_isinstance) (T.z_bool) (ex_vo 0 0))))))
theorem ok__law_common (T : Txt K mg fs fds) : FnOk P w K mg base (L2.CX P w) 1 (fs 17) (fds 17) ["a", "b"] (spM K mg [.sh, .sh] 0 (m0 m__law_common)) := by
  refine fn_okP (k := 0) (ps := [.sh, .sh]) (rk := 0) (ls := []) (s := s__law_common) T.d__law_common.F sc__law_common rfl ?_ rfl rfl rfl
  intro cdv A outer s0 H E vs B hr ok po
  exact sxs_cons (sx_while po (tx_ne (rmOf hr) (ex_vo 1 0) (ex_int) w00) (sxs_one (sx_par2 ok 0 1 (ap_cons (k := 0) (ex_vo 1 0) (ap_cons (k := 0) (ex_mod (ex_intc (T.z_int) (ex_vo 0 0)) (ex_vo 1 0) w00) (ap_nil))) sc__law_common.nd (by decide))))
    (sxs_one (sx_ret (ex_abs (T.z_abs) (ex_vo 0 0))))
theorem ok_Ratio___eq__ (T : Txt K mg fs fds) : FnOk P w K mg base (L2.CX P w) 1 (fs 31) (fds 31) ["self", "other"] (spM K mg [.sh, .sh] 0 (m0 m_Ratio___eq__)) := by
  refine fn_metP (k := 0) (ps := [.sh, .sh]) (rk := 0) (ls := []) (s := s_Ratio___eq__) T.d_Ratio___eq__.F sc_Ratio___eq__ rfl ?_ rfl rfl rfl
  intro cdv A outer s0 H E vs B hr ok po
  exact sxs_one (sx_ret (ex_and (ex_isK T.c_Ratio T.o_Ratio.is (T.z_isinstance) (ex_vo 1 0)) (ex_and (ex_eq (rmOf hr) (ex_fld T.c_Ratio T.n_Ratio_n (ex_vo 0 0)) (ex_fld T.c_Ratio T.n_Ratio_n (ex_vo 1 0)) w00) (ex_one (ex_eq (rmOf hr) (ex_fld T.c_Ratio T.n_Ratio_d (ex_vo 0 0)) (ex_fld T.c_Ratio T.n_Ratio_d (ex_vo 1 0)) w00)))))
theorem ok_Ratio___str__ (T : Txt K mg fs fds) : FnOk P w K mg base (L2.CX P w) 1 (fs 33) (fds 33) ["self"] (spM K mg [.sh] 0 (m0 m_Ratio___str__)) := by
  refine fn_metP (k := 0) (ps := [.sh]) (rk := 0) (ls := []) (s := s_Ratio___str__) T.d_Ratio___str__.F sc_Ratio___str__ rfl ?_ rfl rfl rfl
  intro cdv A outer s0 H E vs B hr ok po
  exact sxs_cons (sx_if (tx_eq (rmOf hr) (ex_fld T.c_Ratio T.n_Ratio_d (ex_vo 0 0)) (ex_int) w00) (sxs_one (sx_ret (ex_strc (T.z_str) (ex_fld T.c_Ratio T.n_Ratio_n (ex_vo 0 0))))) (sxs_nil))
    (sxs_one (sx_ret (ex_fstr (.cons (ex_fmt (ex_fld T.c_Ratio T.n_Ratio_n (ex_vo 0 0))) (.cons (ex_str) (.cons (ex_fmt (ex_fld T.c_Ratio T.n_Ratio_d (ex_vo 0 0))) (.nil)))))))
theorem ok__law_is_text (T : Txt K mg fs fds) : FnOk P w K mg base (L2.CX P w) 2 (fs 22) (fds 22) ["text"] (spM K mg [.sh] 0 (m0 m__law_is_text)) := by
  refine fn_okP (k := 1) (ps := [.sh]) (rk := 0) (ls := [.own 0, .own 0, .own 0, .own 0]) (s := s__law_is_text) T.d__law_is_text.F sc__law_is_text rfl ?_ rfl rfl rfl
  intro cdv A outer s0 H E vs B hr ok po
  exact sxs_cons (sx_asg 1 (ex_if (tx_eq (rmOf hr) (ex_slS (ex_vo 0 0) (px_none) (px_some (ex_int))) (ex_str) w00) (ex_slS (ex_vo 0 0) (px_some (ex_int)) (px_none)) (ex_vo 0 0)) sc__law_is_text.nd)
    (sxs_cons (sx_asg 2 (ex_sh (ex_split (ex_vo 1 0) (ex_str))) sc__law_is_text.nd)
    (sxs_cons (sx_if (tw_tx (tw_or (tx_gt (ex_len (T.z_len) (ex_vo 0 0)) (ex_int) w00) (tw_or (tx_gt (ex_len (T.z_len) (ex_vo 2 0)) (ex_int) w00) (tw_or1 (tx_val (ex_any ok (T.z_any) (ex_rd (LX.ex (lx_lc (k := 0) (own := [("part", 3)]) ok sc__law_is_text.nd (ix_seqS (ex_vo 2 0)) (blkB_ok rfl) rfl (by decide) rfl (fun s H C cl fp => gx_name 3 sc__law_is_text.nd) (fun s H C cl fp => txs_nil) (fun s H C cl fp => ex_or (ex_eq (rmOf hr) (ex_vo 3 0) (ex_str) w00) (ex_one (ex_not (ex_all (cok_blk ok) (T.z_all) (ex_rd (LX.ex (lx_lc (k := 0) (own := [("c", 4)]) (cok_blk ok) sc__law_is_text.nd (ix_str (ex_vo 3 0)) (blkB_ok rfl) rfl (by decide) rfl (fun s H C cl fp => gx_name 4 sc__law_is_text.nd) (fun s H C cl fp => txs_nil) (fun s H C cl fp => ex_inT (ex_vo 4 0) (ex_str)))))))))))))))))) (sxs_one (sx_ret (ex_bl))) (sxs_nil))
    (sxs_cons (sx_if (tw_tx (tw_or (tx_val (ex_any ok (T.z_any) (ex_rd (LX.ex (lx_lc (k := 0) (own := [("part", 3)]) ok sc__law_is_text.nd (ix_seqS (ex_vo 2 0)) (blkB_ok rfl) rfl (by decide) rfl (fun s H C cl fp => gx_name 3 sc__law_is_text.nd) (fun s H C cl fp => txs_nil) (fun s H C cl fp => ex_and (ex_gt (ex_len (T.z_len) (ex_vo 3 0)) (ex_int) w00) (ex_one (ex_eq (rmOf hr) (ex_ix0 (rmOf hr) (ex_vo 3 0) (ex_int)) (ex_str) w00)))))))) (tw_or1 (tx_eq (rmOf hr) (ex_slS (ex_vo 0 0) (px_none) (px_some (ex_int))) (ex_str) w00)))) (sxs_one (sx_ret (ex_bl))) (sxs_nil))
    (sxs_cons (sx_if (tx_eq (rmOf hr) (ex_len (T.z_len) (ex_vo 2 0)) (ex_int) w00) (sxs_one (sx_ret (ex_bl))) (sxs_nil))
    (sxs_one (sx_ret (ex_and (ex_gt (ex_intT (T.z_int) (ex_ix0 (rmOf hr) (ex_vo 2 0) (ex_int))) (ex_int) w00) (ex_one (ex_eq (rmOf hr) (ex_call ok (ok__law_common T) (hr.mono (by decide)) (T.d__law_common.g) (T.d__law_common.F.kp) (T.d__law_common.b) (ax_cons (ex_intT (T.z_int) (ex_ix0 (rmOf hr) (ex_vo 2 0) (ex_int))) (ax_cons (ex_intT (T.z_int) (ex_ix0 (rmOf hr) (ex_vo 2 0) (ex_int))) (ax_nil) w00) w00)) (ex_int) w00)))))))))
theorem ok_Ratio_less (T : Txt K mg fs fds) : FnOk P w K mg base (L2.CX P w) 2 (fs 32) (fds 32) ["self", "other"] (spM K mg [.sh, .sh] 0 (m0 m_Ratio_less)) := by
  refine fn_metP (k := 1) (ps := [.sh, .sh]) (rk := 0) (ls := []) (s := s_Ratio_less) T.d_Ratio_less.F sc_Ratio_less rfl ?_ rfl rfl rfl
  intro cdv A outer s0 H E vs B hr ok po
  exact sxs_one (sx_drop (ex_call ok (ok__wall T) (hr.mono (by decide)) (T.d__wall.g) (T.d__wall.F.kp) (T.d__wall.b) (ax_cons (ex_int) (ax_nil) w00)))
theorem ok_Ratio_over (T : Txt K mg fs fds) : FnOk P w K mg base (L2.CX P w) 2 (fs 34) (fds 34) ["self", "other"] (spM K mg [.sh, .sh] 0 (m0 m_Ratio_over)) := by
  refine fn_metP (k := 1) (ps := [.sh, .sh]) (rk := 0) (ls := []) (s := s_Ratio_over) T.d_Ratio_over.F sc_Ratio_over rfl ?_ rfl rfl rfl
  intro cdv A outer s0 H E vs B hr ok po
  exact sxs_one (sx_drop (ex_call ok (ok__wall T) (hr.mono (by decide)) (T.d__wall.g) (T.d__wall.F.kp) (T.d__wall.b) (ax_cons (ex_int) (ax_nil) w00)))
theorem ok_Ratio_times (T : Txt K mg fs fds) : FnOk P w K mg base (L2.CX P w) 2 (fs 35) (fds 35) ["self", "k"] (spM K mg [.sh, .sh] 0 (m0 m_Ratio_times)) := by
  refine fn_metP (k := 1) (ps := [.sh, .sh]) (rk := 0) (ls := []) (s := s_Ratio_times) T.d_Ratio_times.F sc_Ratio_times rfl ?_ rfl rfl rfl
  intro cdv A outer s0 H E vs B hr ok po
  exact sxs_one (sx_drop (ex_call ok (ok__wall T) (hr.mono (by decide)) (T.d__wall.g) (T.d__wall.F.kp) (T.d__wall.b) (ax_cons (ex_int) (ax_nil) w00)))
theorem ok_Ratio_sign (T : Txt K mg fs fds) : FnOk P w K mg base (L2.CX P w) 2 (fs 36) (fds 36) ["self"] (spM K mg [.sh] 0 (m0 m_Ratio_sign)) := by
  refine fn_metP (k := 1) (ps := [.sh]) (rk := 0) (ls := []) (s := s_Ratio_sign) T.d_Ratio_sign.F sc_Ratio_sign rfl ?_ rfl rfl rfl
  intro cdv A outer s0 H E vs B hr ok po
  exact sxs_one (sx_drop (ex_call ok (ok__wall T) (hr.mono (by decide)) (T.d__wall.g) (T.d__wall.F.kp) (T.d__wall.b) (ax_cons (ex_int) (ax_nil) w00)))
theorem ok_Ratio_is_zero (T : Txt K mg fs fds) : FnOk P w K mg base (L2.CX P w) 2 (fs 37) (fds 37) ["self"] (spM K mg [.sh] 0 (m0 m_Ratio_is_zero)) := by
  refine fn_metP (k := 1) (ps := [.sh]) (rk := 0) (ls := []) (s := s_Ratio_is_zero) T.d_Ratio_is_zero.F sc_Ratio_is_zero rfl ?_ rfl rfl rfl
  intro cdv A outer s0 H E vs B hr ok po
  exact sxs_one (sx_drop (ex_call ok (ok__wall T) (hr.mono (by decide)) (T.d__wall.g) (T.d__wall.F.kp) (T.d__wall.b) (ax_cons (ex_int) (ax_nil) w00)))
theorem ok_Ratio_is_whole (T : Txt K mg fs fds) : FnOk P w K mg base (L2.CX P w) 2 (fs 38) (fds 38) ["self"] (spM K mg [.sh] 0 (m0 m_Ratio_is_whole)) := by
  refine fn_metP (k := 1) (ps := [.sh]) (rk := 0) (ls := []) (s := s_Ratio_is_whole) T.d_Ratio_is_whole.F sc_Ratio_is_whole rfl ?_ rfl rfl rfl
  intro cdv A outer s0 H E vs B hr ok po
  exact sxs_one (sx_drop (ex_call ok (ok__wall T) (hr.mono (by decide)) (T.d__wall.g) (T.d__wall.F.kp) (T.d__wall.b) (ax_cons (ex_int) (ax_nil) w00)))
theorem ok_Ratio_floor (T : Txt K mg fs fds) : FnOk P w K mg base (L2.CX P w) 2 (fs 39) (fds 39) ["self"] (spM K mg [.sh] 0 (m0 m_Ratio_floor)) := by
  refine fn_metP (k := 1) (ps := [.sh]) (rk := 0) (ls := []) (s := s_Ratio_floor) T.d_Ratio_floor.F sc_Ratio_floor rfl ?_ rfl rfl rfl
  intro cdv A outer s0 H E vs B hr ok po
  exact sxs_one (sx_drop (ex_call ok (ok__wall T) (hr.mono (by decide)) (T.d__wall.g) (T.d__wall.F.kp) (T.d__wall.b) (ax_cons (ex_int) (ax_nil) w00)))
theorem ok_Ratio_size (T : Txt K mg fs fds) : FnOk P w K mg base (L2.CX P w) 2 (fs 40) (fds 40) ["self"] (spM K mg [.sh] 0 (m0 m_Ratio_size)) := by
  refine fn_metP (k := 1) (ps := [.sh]) (rk := 0) (ls := []) (s := s_Ratio_size) T.d_Ratio_size.F sc_Ratio_size rfl ?_ rfl rfl rfl
  intro cdv A outer s0 H E vs B hr ok po
  exact sxs_one (sx_drop (ex_call ok (ok__wall T) (hr.mono (by decide)) (T.d__wall.g) (T.d__wall.F.kp) (T.d__wall.b) (ax_cons (ex_int) (ax_nil) w00)))
theorem ok_Ratio___init__ (T : Txt K mg fs fds) : FnOk P w K mg base (L2.CX P w) 3 (fs 26) (fds 26) ["self", "n", "d"] (spM K mg [.io 1, .sh, .sh] 0 (m_Ratio___init__)) := by
  obtain ⟨C, M⟩ := T.mal
  refine fn_metI (k := 2) (ps := [.io 1, .sh, .sh]) (rk := 0) (ls := [.own 0]) (s := s_Ratio___init__) T.d_Ratio___init__.F sc_Ratio___init__ rfl ?_ rfl rfl
  intro cdv A outer s0 H E vs B hr ok po
  exact sxs_cons (sx_if (tw_tx (tw_or (tx_not (tx_val (ex_call ok (ok_is_integer T) (hr.mono (by decide)) (T.d_is_integer.g) (T.d_is_integer.F.kp) (T.d_is_integer.b) (ax_cons (ex_vo 1 0) (ax_nil) w00)))) (tw_or1 (tx_not (tx_val (ex_call ok (ok_is_integer T) (hr.mono (by decide)) (T.d_is_integer.g) (T.d_is_integer.F.kp) (T.d_is_integer.b) (ax_cons (ex_vo 2 0) (ax_nil) w00))))))) (sxs_one (sx_raise ok M)) (sxs_nil))
    (sxs_cons (sx_if (tx_eq (rmOf hr) (ex_vo 2 0) (ex_int) w00) (sxs_one (sx_raiseE ok T.rf (xr_refu T.rf) (ok_Refused___init__ T) (hr.mono (by decide)) T.d_Refused___init__.b (ex_str))) (sxs_nil))
    (sxs_cons (sx_asg 3 (ex_call ok (ok_common T) (hr.mono (by decide)) (T.d_common.g) (T.d_common.F.kp) (T.d_common.b) (ax_cons (ex_vo 1 0) (ax_cons (ex_vo 2 0) (ax_nil) w00) w00)) sc_Ratio___init__.nd)
    (sxs_cons (sx_fld 0 T.c_Ratio T.n_Ratio_n (ex_if (tx_gt (ex_vo 2 0) (ex_int) w00) (ex_div (ex_vo 1 0) (ex_vo 3 0) w00) (ex_div (ex_neg (ex_vo 1 0)) (ex_vo 3 0) w00)))
    (sxs_one (sx_fld 0 T.c_Ratio T.n_Ratio_d (ex_div (ex_abs (T.z_abs) (ex_vo 2 0)) (ex_vo 3 0) w00))))))
theorem ok_ratios_text (T : Txt K mg fs fds) : FnOk P w K mg base (L2.CX P w) 4 (fs 9) (fds 9) ["row"] (spM K mg [.sh] 0 (m0 m_ratios_text)) := by
  refine fn_okP (k := 3) (ps := [.sh]) (rk := 0) (ls := [.own 0]) (s := s_ratios_text) T.d_ratios_text.F sc_ratios_text rfl ?_ rfl rfl rfl
  intro cdv A outer s0 H E vs B hr ok po
  exact sxs_one (sx_ret (ex_if (tx_gt (ex_len (T.z_len) (ex_vo 0 0)) (ex_int) w00) (ex_join (ex_str) (ex_rd (LX.ex (lx_lc (k := 0) (own := [("x", 1)]) ok sc_ratios_text.nd (ix_seqS (ex_vo 0 0)) (blkB_ok rfl) rfl (by decide) rfl (fun s H C cl fp => gx_name 1 sc_ratios_text.nd) (fun s H C cl fp => txs_nil) (fun s H C cl fp => ex_strA rfl (cok_blk ok) T.c_Ratio T.d_Ratio___str__.op (ok_Ratio___str__ T) (hr.mono (by decide)) T.d_Ratio___str__.b (T.z_str) (ex_vo 1 0)))))) (ex_str)))
theorem ok_ratios (T : Txt K mg fs fds) : FnOk P w K mg base (L2.CX P w) 5 (fs 5) (fds 5) ["row"] (spM K mg [.sh] 0 (m0 m_ratios)) := by
  obtain ⟨C, M⟩ := T.mal
  refine fn_okP (k := 4) (ps := [.sh]) (rk := 0) (ls := [.own 0]) (s := s_ratios) T.d_ratios.F sc_ratios rfl ?_ rfl rfl rfl
  intro cdv A outer s0 H E vs B hr ok po
  exact sxs_cons (sx_if (tx_not (tx_val (ex_isTs2 .lst .tup ⟨T.z_list, rfl, rfl, by decide⟩ ⟨T.z_tuple, rfl, rfl, by decide⟩ (T.z_isinstance) (ex_vo 0 0)))) (sxs_one (sx_raise ok M)) (sxs_nil))
    (sxs_one (sx_ret (ex_tupc (T.z_tuple) (ex_rd (ex_lcX (own := [("x", 1)]) ok rfl rfl sc_ratios.nd (fun _ _ _ _ _ z => z) (ix_seqS (ex_vo 0 0)) (blkB_ok rfl) rfl (by decide) (fun s H C cl fp => gx_name 1 sc_ratios.nd) (fun s H C cl fp xe okx => ex_if (tx_val (ex_isK T.c_Ratio T.o_Ratio.is (T.z_isinstance) (ex_vo 1 0))) (ex_vo 1 0) (ex_sh (ex_make (ps := [.sh]) (qs := [.sh]) (mI := m_Ratio___init__) (dflt := [.int 1]) rfl okx T.c_Ratio T.k_Ratio (ok_Ratio___init__ T) (hr.mono (by decide)) T.b1_Ratio___init__.choose_spec.2 T.b1_Ratio___init__.choose_spec.1 (fun _ => .cons (.int _) .nil) (ax_cons (ex_vo 1 0) (ax_nil) w00)))))))))
theorem ok__law_num (T : Txt K mg fs fds) : FnOk P w K mg base (L2.CX P w) 5 (fs 19) (fds 19) ["state"] (spM K mg [.io 1] 0 (m__law_num)) := by
  refine fn_okI (k := 4) (ps := [.io 1]) (rk := 0) (ls := []) (s := s__law_num) T.d__law_num.F sc__law_num rfl ?_ rfl rfl
  intro cdv A outer s0 H E vs B hr ok po
  exact sxs_one (sx_ret (ex_sh (ex_make (ps := [.sh, .sh]) (qs := []) (mI := m_Ratio___init__) (dflt := []) rfl ok T.c_Ratio T.k_Ratio (ok_Ratio___init__ T) (hr.mono (by decide)) T.d_Ratio___init__.b .nil (fun _ => .nil) (ax_cons (ex_sub (ex_callIO 0 (n := 1) ok (ok__law_take T) (hr.mono (by decide)) (T.d__law_take.g) (T.d__law_take.F.kp) (T.d__law_take.b) (ax_io 0 (ax_cons (ex_int) (ax_nil) w00))) (ex_int) w00) (ax_cons (ex_add (ex_int) (ex_callIO 0 (n := 1) ok (ok__law_take T) (hr.mono (by decide)) (T.d__law_take.g) (T.d__law_take.F.kp) (T.d__law_take.b) (ax_io 0 (ax_cons (ex_int) (ax_nil) w00)))) (ax_nil) w00) w00))))
theorem ok_Ratio___add__ (T : Txt K mg fs fds) : FnOk P w K mg base (L2.CX P w) 5 (fs 27) (fds 27) ["self", "other"] (spM K mg [.sh, .sh] 0 (m0 m_Ratio___add__)) := by
  refine fn_metP (k := 4) (ps := [.sh, .sh]) (rk := 0) (ls := []) (s := s_Ratio___add__) T.d_Ratio___add__.F sc_Ratio___add__ rfl ?_ rfl rfl rfl
  intro cdv A outer s0 H E vs B hr ok po
  exact sxs_cons (sx_drop (ex_call ok (ok_check_ratio T) (hr.mono (by decide)) (T.d_check_ratio.g) (T.d_check_ratio.F.kp) (T.d_check_ratio.b) (ax_cons (ex_vo 1 0) (ax_nil) w00)))
    (sxs_one (sx_ret (ex_sh (ex_make (ps := [.sh, .sh]) (qs := []) (mI := m_Ratio___init__) (dflt := []) rfl ok T.c_Ratio T.k_Ratio (ok_Ratio___init__ T) (hr.mono (by decide)) T.d_Ratio___init__.b .nil (fun _ => .nil) (ax_cons (ex_add (ex_mul (ex_fld T.c_Ratio T.n_Ratio_n (ex_vo 0 0)) (ex_fld T.c_Ratio T.n_Ratio_d (ex_vo 1 0)) w00) (ex_mul (ex_fld T.c_Ratio T.n_Ratio_n (ex_vo 1 0)) (ex_fld T.c_Ratio T.n_Ratio_d (ex_vo 0 0)) w00)) (ax_cons (ex_mul (ex_fld T.c_Ratio T.n_Ratio_d (ex_vo 0 0)) (ex_fld T.c_Ratio T.n_Ratio_d (ex_vo 1 0)) w00) (ax_nil) w00) w00)))))
theorem ok_Ratio___sub__ (T : Txt K mg fs fds) : FnOk P w K mg base (L2.CX P w) 5 (fs 28) (fds 28) ["self", "other"] (spM K mg [.sh, .sh] 0 (m0 m_Ratio___sub__)) := by
  refine fn_metP (k := 4) (ps := [.sh, .sh]) (rk := 0) (ls := []) (s := s_Ratio___sub__) T.d_Ratio___sub__.F sc_Ratio___sub__ rfl ?_ rfl rfl rfl
  intro cdv A outer s0 H E vs B hr ok po
  exact sxs_cons (sx_drop (ex_call ok (ok_check_ratio T) (hr.mono (by decide)) (T.d_check_ratio.g) (T.d_check_ratio.F.kp) (T.d_check_ratio.b) (ax_cons (ex_vo 1 0) (ax_nil) w00)))
    (sxs_one (sx_ret (ex_sh (ex_make (ps := [.sh, .sh]) (qs := []) (mI := m_Ratio___init__) (dflt := []) rfl ok T.c_Ratio T.k_Ratio (ok_Ratio___init__ T) (hr.mono (by decide)) T.d_Ratio___init__.b .nil (fun _ => .nil) (ax_cons (ex_sub (ex_mul (ex_fld T.c_Ratio T.n_Ratio_n (ex_vo 0 0)) (ex_fld T.c_Ratio T.n_Ratio_d (ex_vo 1 0)) w00) (ex_mul (ex_fld T.c_Ratio T.n_Ratio_n (ex_vo 1 0)) (ex_fld T.c_Ratio T.n_Ratio_d (ex_vo 0 0)) w00) w00) (ax_cons (ex_mul (ex_fld T.c_Ratio T.n_Ratio_d (ex_vo 0 0)) (ex_fld T.c_Ratio T.n_Ratio_d (ex_vo 1 0)) w00) (ax_nil) w00) w00)))))
theorem ok_Ratio___mul__ (T : Txt K mg fs fds) : FnOk P w K mg base (L2.CX P w) 5 (fs 29) (fds 29) ["self", "other"] (spM K mg [.sh, .sh] 0 (m0 m_Ratio___mul__)) := by
  refine fn_metP (k := 4) (ps := [.sh, .sh]) (rk := 0) (ls := []) (s := s_Ratio___mul__) T.d_Ratio___mul__.F sc_Ratio___mul__ rfl ?_ rfl rfl rfl
  intro cdv A outer s0 H E vs B hr ok po
  exact sxs_cons (sx_drop (ex_call ok (ok_check_ratio T) (hr.mono (by decide)) (T.d_check_ratio.g) (T.d_check_ratio.F.kp) (T.d_check_ratio.b) (ax_cons (ex_vo 1 0) (ax_nil) w00)))
    (sxs_one (sx_ret (ex_sh (ex_make (ps := [.sh, .sh]) (qs := []) (mI := m_Ratio___init__) (dflt := []) rfl ok T.c_Ratio T.k_Ratio (ok_Ratio___init__ T) (hr.mono (by decide)) T.d_Ratio___init__.b .nil (fun _ => .nil) (ax_cons (ex_mul (ex_fld T.c_Ratio T.n_Ratio_n (ex_vo 0 0)) (ex_fld T.c_Ratio T.n_Ratio_n (ex_vo 1 0)) w00) (ax_cons (ex_mul (ex_fld T.c_Ratio T.n_Ratio_d (ex_vo 0 0)) (ex_fld T.c_Ratio T.n_Ratio_d (ex_vo 1 0)) w00) (ax_nil) w00) w00)))))
theorem ok_Ratio___neg__ (T : Txt K mg fs fds) : FnOk P w K mg base (L2.CX P w) 5 (fs 30) (fds 30) ["self"] (spM K mg [.sh] 0 (m0 m_Ratio___neg__)) := by
  refine fn_metP (k := 4) (ps := [.sh]) (rk := 0) (ls := []) (s := s_Ratio___neg__) T.d_Ratio___neg__.F sc_Ratio___neg__ rfl ?_ rfl rfl rfl
  intro cdv A outer s0 H E vs B hr ok po
  exact sxs_one (sx_ret (ex_sh (ex_make (ps := [.sh, .sh]) (qs := []) (mI := m_Ratio___init__) (dflt := []) rfl ok T.c_Ratio T.k_Ratio (ok_Ratio___init__ T) (hr.mono (by decide)) T.d_Ratio___init__.b .nil (fun _ => .nil) (ax_cons (ex_neg (ex_fld T.c_Ratio T.n_Ratio_n (ex_vo 0 0))) (ax_cons (ex_fld T.c_Ratio T.n_Ratio_d (ex_vo 0 0)) (ax_nil) w00) w00))))
theorem ok_ratio_sum (T : Txt K mg fs fds) : FnOk P w K mg base (L2.CX P w) 6 (fs 6) (fds 6) ["row"] (spM K mg [.sh] 0 (m0 m_ratio_sum)) := by
  refine fn_okP (k := 5) (ps := [.sh]) (rk := 0) (ls := [.own 0, .own 0]) (s := s_ratio_sum) T.d_ratio_sum.F sc_ratio_sum rfl ?_ rfl rfl rfl
  intro cdv A outer s0 H E vs B hr ok po
  exact sxs_cons (sx_asg 1 (ex_sh (ex_make (ps := [.sh]) (qs := [.sh]) (mI := m_Ratio___init__) (dflt := [.int 1]) rfl ok T.c_Ratio T.k_Ratio (ok_Ratio___init__ T) (hr.mono (by decide)) T.b1_Ratio___init__.choose_spec.2 T.b1_Ratio___init__.choose_spec.1 (fun _ => .cons (.int _) .nil) (ax_cons (ex_int) (ax_nil) w00))) sc_ratio_sum.nd)
    (sxs_cons (sx_for ok po (ix_seqS (ex_vo 0 0)) (gx_name 2 sc_ratio_sum.nd) (sxs_one (sx_asg 1 (ex_opX (g := gAdd) rfl ok T.c_Ratio T.o_Ratio.first T.d_Ratio___add__.op (T.o_Ratio.left "add" (by decide)) (ok_Ratio___add__ T) (hr.mono (by decide)) T.d_Ratio___add__.b addI_op addI_S (ex_vo 1 0) (ex_vo 2 0)) sc_ratio_sum.nd)))
    (sxs_one (sx_ret (ex_vo 1 0))))
theorem ok_ratio_product (T : Txt K mg fs fds) : FnOk P w K mg base (L2.CX P w) 6 (fs 7) (fds 7) ["row"] (spM K mg [.sh] 0 (m0 m_ratio_product)) := by
  refine fn_okP (k := 5) (ps := [.sh]) (rk := 0) (ls := [.own 0, .own 0]) (s := s_ratio_product) T.d_ratio_product.F sc_ratio_product rfl ?_ rfl rfl rfl
  intro cdv A outer s0 H E vs B hr ok po
  exact sxs_cons (sx_asg 1 (ex_sh (ex_make (ps := [.sh]) (qs := [.sh]) (mI := m_Ratio___init__) (dflt := [.int 1]) rfl ok T.c_Ratio T.k_Ratio (ok_Ratio___init__ T) (hr.mono (by decide)) T.b1_Ratio___init__.choose_spec.2 T.b1_Ratio___init__.choose_spec.1 (fun _ => .cons (.int _) .nil) (ax_cons (ex_int) (ax_nil) w00))) sc_ratio_product.nd)
    (sxs_cons (sx_for ok po (ix_seqS (ex_vo 0 0)) (gx_name 2 sc_ratio_product.nd) (sxs_one (sx_asg 1 (ex_opX (g := gMul) rfl ok T.c_Ratio T.o_Ratio.first T.d_Ratio___mul__.op (T.o_Ratio.left "mul" (by decide)) (ok_Ratio___mul__ T) (hr.mono (by decide)) T.d_Ratio___mul__.b mulI_op mulI_S (ex_vo 1 0) (ex_vo 2 0)) sc_ratio_product.nd)))
    (sxs_one (sx_ret (ex_vo 1 0))))
theorem ok_read_ratio (T : Txt K mg fs fds) : FnOk P w K mg base (L2.CX P w) 6 (fs 10) (fds 10) ["text"] (spM K mg [.sh] 0 (m0 m_read_ratio)) := by
  refine fn_okP (k := 5) (ps := [.sh]) (rk := 0) (ls := [.own 0, .own 0, .own 0, .own 0, .own 0, .own 0]) (s := s_read_ratio) T.d_read_ratio.F sc_read_ratio rfl ?_ rfl rfl rfl
  intro cdv A outer s0 H E vs B hr ok po
  exact sxs_cons (sx_if (tw_tx (tw_or (tx_not (tx_val (ex_isT .str (T.z_isinstance) (T.z_str) (ex_vo 0 0)))) (tw_or1 (tx_gt (ex_len (T.z_len) (ex_vo 0 0)) (ex_gint (T.i_MOST_SIGNS)) w00)))) (sxs_one (sx_raiseE ok T.nf (xr_note T.nf) (ok_NoText___init__ T) (hr.mono (by decide)) T.d_NoText___init__.b (ex_int))) (sxs_nil))
    (sxs_cons (sx_unp (ex_parts (ex_rmPre (ex_vo 0 0) (ex_str)) (ex_str)) (gx_tup rfl (gxs_cons (gx_name 1 sc_read_ratio.nd) (gxs_cons (gx_name 2 sc_read_ratio.nd) (gxs_cons (gx_name 3 sc_read_ratio.nd) (gxs_nil))))))
    (sxs_cons (sx_for ok po (ix_seqS (ex_tup (ax_cons (ex_vo 1 0) (ax_cons (ex_if (tx_eq (rmOf hr) (ex_vo 2 0) (ex_str) w00) (ex_vo 3 0) (ex_str)) (ax_nil) w00) w00))) (gx_name 4 sc_read_ratio.nd) (sxs_one (sx_if (tw_tx (tw_or (tx_eq (rmOf hr) (ex_vo 4 0) (ex_str) w00) (tw_or1 (tx_not (tx_val (ex_all ok (T.z_all) (ex_rd (LX.ex (lx_lc (k := 0) (own := [("c", 6)]) ok sc_read_ratio.nd (ix_str (ex_vo 4 0)) (blkB_ok rfl) rfl (by decide) rfl (fun s H C cl fp => gx_name 6 sc_read_ratio.nd) (fun s H C cl fp => txs_nil) (fun s H C cl fp => ex_chain op_le_str op_le_str leT_S leT_S (ex_str) (ex_vo 6 0) (ex_str) w00 w00)))))))))) (sxs_one (sx_raiseE ok T.nf (xr_note T.nf) (ok_NoText___init__ T) (hr.mono (by decide)) T.d_NoText___init__.b (ex_int))) (sxs_nil))))
    (sxs_cons (sx_if (tw_tx (tw_and (tx_eq (rmOf hr) (ex_vo 2 0) (ex_str) w00) (tw_and1 (tx_eq (rmOf hr) (ex_intT (T.z_int) (ex_vo 3 0)) (ex_int) w00)))) (sxs_one (sx_raiseE ok T.nf (xr_note T.nf) (ok_NoText___init__ T) (hr.mono (by decide)) T.d_NoText___init__.b (ex_int))) (sxs_nil))
    (sxs_cons (sx_asg 5 (ex_sh (ex_make (ps := [.sh, .sh]) (qs := []) (mI := m_Ratio___init__) (dflt := []) rfl ok T.c_Ratio T.k_Ratio (ok_Ratio___init__ T) (hr.mono (by decide)) T.d_Ratio___init__.b .nil (fun _ => .nil) (ax_cons (ex_intT (T.z_int) (ex_vo 1 0)) (ax_cons (ex_if (tx_eq (rmOf hr) (ex_vo 2 0) (ex_str) w00) (ex_intT (T.z_int) (ex_vo 3 0)) (ex_int)) (ax_nil) w00) w00))) sc_read_ratio.nd)
    (sxs_cons (sx_asg 5 (ex_if (tx_val (ex_starts (ex_vo 0 0) (ex_str))) (ex_negX rfl ok T.c_Ratio T.d_Ratio___neg__.op (ok_Ratio___neg__ T) (hr.mono (by decide)) T.d_Ratio___neg__.b (ex_vo 5 0)) (ex_vo 5 0)) sc_read_ratio.nd)
    (sxs_cons (sx_if (tx_ne (rmOf hr) (ex_strX rfl ok T.c_Ratio T.d_Ratio___str__.op (ok_Ratio___str__ T) (hr.mono (by decide)) T.d_Ratio___str__.b (T.z_str) (ex_vo 5 0)) (ex_vo 0 0) w00) (sxs_one (sx_raiseE ok T.nf (xr_note T.nf) (ok_NoText___init__ T) (hr.mono (by decide)) T.d_NoText___init__.b (ex_int))) (sxs_nil))
    (sxs_one (sx_ret (ex_vo 5 0)))))))))
theorem ok__law_num_row (T : Txt K mg fs fds) : FnOk P w K mg base (L2.CX P w) 6 (fs 20) (fds 20) ["state", "many"] (spM K mg [.io 1, .sh] 0 (m__law_num_row)) := by
  refine fn_okI (k := 5) (ps := [.io 1, .sh]) (rk := 0) (ls := [.own 0]) (s := s__law_num_row) T.d__law_num_row.F sc__law_num_row rfl ?_ rfl rfl
  intro cdv A outer s0 H E vs B hr ok po
  exact sxs_one (sx_ret (ex_tupc (T.z_tuple) (ex_rd (LX.ex (lx_lc (k := 0) (own := [("k", 2)]) ok sc__law_num_row.nd (ix_rg1 (T.z_range) (ax_cons (ex_vo 1 0) (ax_nil) w00)) (blkB_ok rfl) rfl (by decide) rfl (fun s H C cl fp => gx_name 2 sc__law_num_row.nd) (fun s H C cl fp => txs_nil) (fun s H C cl fp => ex_callIO 0 (n := 1) (cok_blk ok) (ok__law_num T) (hr.mono (by decide)) (T.d__law_num.g) (T.d__law_num.F.kp) (T.d__law_num.b) (ax_io 0 (ax_nil))))))))
theorem ok_dot (T : Txt K mg fs fds) : FnOk P w K mg base (L2.CX P w) 7 (fs 8) (fds 8) ["one", "two"] (spM K mg [.sh, .sh] 0 (m0 m_dot)) := by
  refine fn_okP (k := 6) (ps := [.sh, .sh]) (rk := 0) (ls := [.own 0, .own 0]) (s := s_dot) T.d_dot.F sc_dot rfl ?_ rfl rfl rfl
  intro cdv A outer s0 H E vs B hr ok po
  exact sxs_one (sx_ret (ex_call ok (ok_ratio_sum T) (hr.mono (by decide)) (T.d_ratio_sum.g) (T.d_ratio_sum.F.kp) (T.d_ratio_sum.b) (ax_cons (ex_sh (LX.ex (lx_lc (k := 0) (own := [("x", 2), ("y", 3)]) ok sc_dot.nd (ix_zip (ax_cons (ex_vo 0 0) (ax_cons (ex_vo 1 0) (ax_nil) w00) w00) (fun h => RZ.pi_zipA rfl (T.z_zip) h)) (blkB_ok rfl) rfl (by decide) rfl (fun s H C cl fp => gx_tup rfl (gxs_cons (gx_name 2 sc_dot.nd) (gxs_cons (gx_name 3 sc_dot.nd) (gxs_nil)))) (fun s H C cl fp => txs_nil) (fun s H C cl fp => ex_opX (g := gMul) rfl (cok_blk ok) T.c_Ratio T.o_Ratio.first T.d_Ratio___mul__.op (T.o_Ratio.left "mul" (by decide)) (ok_Ratio___mul__ T) (hr.mono (by decide)) T.d_Ratio___mul__.b mulI_op mulI_S (ex_vo 2 0) (ex_vo 3 0))))) (ax_nil) w00)))
theorem ok_read_ratios (T : Txt K mg fs fds) : FnOk P w K mg base (L2.CX P w) 7 (fs 11) (fds 11) ["text"] (spM K mg [.sh] 0 (m0 m_read_ratios)) := by
  refine fn_okP (k := 6) (ps := [.sh]) (rk := 0) (ls := [.own 0]) (s := s_read_ratios) T.d_read_ratios.F sc_read_ratios rfl ?_ rfl rfl rfl
  intro cdv A outer s0 H E vs B hr ok po
  exact sxs_cons (sx_if (tx_not (tx_val (ex_isT .str (T.z_isinstance) (T.z_str) (ex_vo 0 0)))) (sxs_one (sx_raiseE ok T.nf (xr_note T.nf) (ok_NoText___init__ T) (hr.mono (by decide)) T.d_NoText___init__.b (ex_int))) (sxs_nil))
    (sxs_cons (sx_if (tx_eq (rmOf hr) (ex_vo 0 0) (ex_str) w00) (sxs_one (sx_ret (ex_tup (ax_nil)))) (sxs_nil))
    (sxs_one (sx_ret (ex_tupc (T.z_tuple) (ex_rd (ex_lcX (own := [("piece", 1)]) ok rfl rfl sc_read_ratios.nd (fun _ _ _ _ _ z => z) (ix_seqS (ex_sh (ex_split (ex_vo 0 0) (ex_str)))) (blkB_ok rfl) rfl (by decide) (fun s H C cl fp => gx_name 1 sc_read_ratios.nd) (fun s H C cl fp xe okx => ex_call okx (ok_read_ratio T) (hr.mono (by decide)) (T.d_read_ratio.g) (T.d_read_ratio.F.kp) (T.d_read_ratio.b) (ax_cons (ex_vo 1 0) (ax_nil) w00))))))))
theorem hHeld0 (T : Txt K mg fs fds) : ∀ y n m, held y = some (n, m) → HeldM P w K mg base 7 y n m := by
  intro y n m h
  unfold held at h
  split at h
  · rename_i e
    subst e
    cases h
    exact ⟨_, _, _, _, _, (ok_ratios T).mono (by decide), T.d_ratios.g, T.d_ratios.F.kp, T.d_ratios.b, rfl, rfl⟩
  split at h
  · rename_i e
    subst e
    cases h
    exact ⟨_, _, _, _, _, (ok_read_ratio T).mono (by decide), T.d_read_ratio.g, T.d_read_ratio.F.kp, T.d_read_ratio.b, rfl, rfl⟩
  split at h
  · rename_i e
    subst e
    cases h
    exact ⟨_, _, _, _, _, (ok_read_ratios T).mono (by decide), T.d_read_ratios.g, T.d_read_ratios.F.kp, T.d_read_ratios.b, rfl, rfl⟩
  cases h
theorem ok__law_result (T : Txt K mg fs fds) : FnOk P w K mg base (L2.CX P w) 8 (fs 18) (fds 18) ["act", "given"] (spM K mg [.sh, .sh] 0 (m0 m__law_result)) := by
  obtain ⟨CM, CR, CN, xc, xn⟩ := T.xcn
  have hHeld := hHeld0 (P := P) (w := w) (base := base) T
  refine fn_okP (k := 7) (ps := [.sh, .sh]) (rk := 0) (ls := [.own 0]) (s := s__law_result) T.d__law_result.F sc__law_result rfl ?_ rfl rfl rfl
  intro cdv A outer s0 H E vs B hr ok po
  exact sxs_one (sx_tryR ok rfl rfl sc__law_result.nd xc 2 (fun W' pn xe ok po => sxs_cons (sx_if (tx_eq (rmOf hr) (ex_len (T.z_len) (ex_vo 1 0)) (ex_int) w00) (sxs_one (sx_ret (ex_tup (ax_cons (ex_str) (ax_cons (ex_callL 0 ok hHeld (hr.mono (by decide)) (ax_cons (ex_ix0 (rmOf hr) (ex_vo 1 0) (ex_int)) (ax_nil) w00)) (ax_nil) w00) w00)))) (sxs_nil))
    (sxs_cons (sx_if (tx_eq (rmOf hr) (ex_len (T.z_len) (ex_vo 1 0)) (ex_int) w00) (sxs_one (sx_ret (ex_tup (ax_cons (ex_str) (ax_cons (ex_callL 0 ok hHeld (hr.mono (by decide)) (ax_cons (ex_ix0 (rmOf hr) (ex_vo 1 0) (ex_int)) (ax_cons (ex_ix0 (rmOf hr) (ex_vo 1 0) (ex_int)) (ax_nil) w00) w00)) (ax_nil) w00) w00)))) (sxs_nil))
    (sxs_cons (sx_if (tx_eq (rmOf hr) (ex_len (T.z_len) (ex_vo 1 0)) (ex_int) w00) (sxs_one (sx_ret (ex_tup (ax_cons (ex_str) (ax_cons (ex_callL 0 ok hHeld (hr.mono (by decide)) (ax_cons (ex_ix0 (rmOf hr) (ex_vo 1 0) (ex_int)) (ax_cons (ex_ix0 (rmOf hr) (ex_vo 1 0) (ex_int)) (ax_cons (ex_ix0 (rmOf hr) (ex_vo 1 0) (ex_int)) (ax_nil) w00) w00) w00)) (ax_nil) w00) w00)))) (sxs_nil))
    (sxs_cons (sx_if (tx_eq (rmOf hr) (ex_len (T.z_len) (ex_vo 1 0)) (ex_int) w00) (sxs_one (sx_ret (ex_tup (ax_cons (ex_str) (ax_cons (ex_callL 0 ok hHeld (hr.mono (by decide)) (ax_cons (ex_ix0 (rmOf hr) (ex_vo 1 0) (ex_int)) (ax_cons (ex_ix0 (rmOf hr) (ex_vo 1 0) (ex_int)) (ax_cons (ex_ix0 (rmOf hr) (ex_vo 1 0) (ex_int)) (ax_cons (ex_ix0 (rmOf hr) (ex_vo 1 0) (ex_int)) (ax_nil) w00) w00) w00) w00)) (ax_nil) w00) w00)))) (sxs_nil))
    (sxs_one (sx_ret (ex_tup (ax_cons (ex_str) (ax_cons (ex_callL 0 ok hHeld (hr.mono (by decide)) (ax_cons (ex_ix0 (rmOf hr) (ex_vo 1 0) (ex_int)) (ax_cons (ex_ix0 (rmOf hr) (ex_vo 1 0) (ex_int)) (ax_cons (ex_ix0 (rmOf hr) (ex_vo 1 0) (ex_int)) (ax_cons (ex_ix0 (rmOf hr) (ex_vo 1 0) (ex_int)) (ax_cons (ex_ix0 (rmOf hr) (ex_vo 1 0) (ex_int)) (ax_nil) w00) w00) w00) w00) w00)) (ax_nil) w00) w00)))))))) (.inr ⟨_, xn⟩))
theorem ok__law_read (T : Txt K mg fs fds) : FnOk P w K mg base (L2.CX P w) 9 (fs 21) (fds 21) ["act", "text"] (spM K mg [.sh, .sh] 0 (m0 m__law_read)) := by
  refine fn_okP (k := 8) (ps := [.sh, .sh]) (rk := 0) (ls := [.own 0]) (s := s__law_read) T.d__law_read.F sc__law_read rfl ?_ rfl rfl rfl
  intro cdv A outer s0 H E vs B hr ok po
  exact sxs_one (sx_tryN ok rfl rfl sc__law_read.nd T.xt 2 (fun W' pn xe ok po => sxs_one (sx_ret (ex_call ok (ok__law_result T) (hr.mono (by decide)) (T.d__law_result.g) (T.d__law_result.F.kp) (T.d__law_result.b) (ax_cons (ex_vo 0 0) (ax_cons (ex_tup (ax_cons (ex_vo 1 0) (ax_nil) w00)) (ax_nil) w00) w00)))))
theorem ok__law_same_at (T : Txt K mg fs fds) : ∀ n : Nat, FnOk P w K mg base (L2.CX P w) (1 + n) (fs 16) (fds 16) ["one", "two"] (spM K mg [.sh, .sh] 0 (m0 (m__law_same_at n)))
  | 0 => fn_fail
  | n + 1 => by
    have ihF := ok__law_same_at T n
    refine fn_okP (k := 1 + n) (ps := [.sh, .sh]) (rk := 0) (ls := [.own 0]) (s := s__law_same (m__law_same_at n)) T.d__law_same.F sc__law_same rfl ?_ rfl rfl rfl
    intro cdv A outer s0 H E vs B hr ok po
    exact sxs_cons (sx_if (tx_val (ex_isT .tup (T.z_isinstance) (T.z_tuple) (ex_vo 1 0))) (sxs_one (sx_ret (ex_and (ex_isT .tup (T.z_isinstance) (T.z_tuple) (ex_vo 0 0)) (ex_and (ex_eq (rmOf hr) (ex_len (T.z_len) (ex_vo 0 0)) (ex_len (T.z_len) (ex_vo 1 0)) w00) (ex_one (ex_all ok (T.z_all) (ex_rd (LX.ex (lx_lc (k := 0) (own := [("k", 2)]) ok sc__law_same.nd (ix_rg1 (T.z_range) (ax_cons (ex_len (T.z_len) (ex_vo 1 0)) (ax_nil) w00)) (blkB_ok rfl) rfl (by decide) rfl (fun s H C cl fp => gx_name 2 sc__law_same.nd) (fun s H C cl fp => txs_nil) (fun s H C cl fp => ex_call (cok_blk ok) (ihF) hr (T.d__law_same.g) (T.d__law_same.F.kp) (T.d__law_same.b) (ax_cons (ex_ix0 (rmOf hr) (ex_vo 0 0) (ex_vo 2 0)) (ax_cons (ex_ix0 (rmOf hr) (ex_vo 1 0) (ex_vo 2 0)) (ax_nil) w00) w00))))))))))) (sxs_nil))
        (sxs_cons (sx_if (tx_val (ex_isT .str (T.z_isinstance) (T.z_str) (ex_vo 1 0))) (sxs_one (sx_ret (ex_and (ex_isT .str (T.z_isinstance) (T.z_str) (ex_vo 0 0)) (ex_one (ex_eq (rmOf hr) (ex_vo 0 0) (ex_vo 1 0) w00))))) (sxs_nil))
        (sxs_cons (sx_if (tx_is (ex_vo 1 0)) (sxs_one (sx_ret (ex_is (ex_vo 0 0)))) (sxs_nil))
        (sxs_one (sx_ret (ex_and (ex_call ok (ok__law_is_whole T) (hr.mono (by omega)) (T.d__law_is_whole.g) (T.d__law_is_whole.F.kp) (T.d__law_is_whole.b) (ax_cons (ex_vo 0 0) (ax_nil) w00)) (ex_one (ex_eq (rmOf hr) (ex_vo 0 0) (ex_vo 1 0) w00)))))))
theorem ok__law_same (T : Txt K mg fs fds) : FnOk P w K mg base (L2.CX P w) 41 (fs 16) (fds 16) ["one", "two"] (spM K mg [.sh, .sh] 0 (m0 m__law_same)) := ok__law_same_at T 40
theorem ok_law (T : Txt K mg fs fds) : FnOk P w K mg base (L2.CX P w) 43 (fs 23) (fds 23) ["script"] (spM K mg [.sh] 0 (m0 m_law)) := by
  refine fn_okP (k := 42) (ps := [.sh]) (rk := 0) (ls := [.own 1, .own 0, .own 0, .own 0, .own 0, .own 0, .own 0, .own 0, .own 0, .own 0, .own 0, .own 0, .own 0, .own 0, .own 0, .own 0, .own 0, .own 0, .own 0, .own 0, .own 0, .own 0]) (s := s_law) T.d_law.F sc_law rfl ?_ rfl rfl rfl
  intro cdv A outer s0 H E vs B hr ok po
  exact sxs_cons (sx_asg 1 (ex_call ok (ok__law_state T) (hr.mono (by decide)) (T.d__law_state.g) (T.d__law_state.F.kp) (T.d__law_state.b) (ax_cons (ex_vo 0 0) (ax_nil) w00)) sc_law.nd)
    (sxs_cons (sx_asg 2 (ex_add (ex_int) (ex_callIO 1 (n := 1) ok (ok__law_take T) (hr.mono (by decide)) (T.d__law_take.g) (T.d__law_take.F.kp) (T.d__law_take.b) (ax_io 1 (ax_cons (ex_int) (ax_nil) w00)))) sc_law.nd)
    (sxs_cons (sx_par2 ok 3 4 (ap_cons (k := 0) (ex_callIO 1 (n := 1) ok (ok__law_num_row T) (hr.mono (by decide)) (T.d__law_num_row.g) (T.d__law_num_row.F.kp) (T.d__law_num_row.b) (ax_io 1 (ax_cons (ex_vo 2 0) (ax_nil) w00))) (ap_cons (k := 0) (ex_callIO 1 (n := 1) ok (ok__law_num_row T) (hr.mono (by decide)) (T.d__law_num_row.g) (T.d__law_num_row.F.kp) (T.d__law_num_row.b) (ax_io 1 (ax_cons (ex_vo 2 0) (ax_nil) w00))) (ap_nil))) sc_law.nd (by decide))
    (sxs_cons (sx_par3 ok 5 6 7 (ap_cons (k := 0) (ex_sh (ex_make (ps := [.sh]) (qs := [.sh]) (mI := m_Ratio___init__) (dflt := [.int 1]) rfl ok T.c_Ratio T.k_Ratio (ok_Ratio___init__ T) (hr.mono (by decide)) T.b1_Ratio___init__.choose_spec.2 T.b1_Ratio___init__.choose_spec.1 (fun _ => .cons (.int _) .nil) (ax_cons (ex_int) (ax_nil) w00))) (ap_cons (k := 0) (ex_sh (ex_make (ps := [.sh]) (qs := [.sh]) (mI := m_Ratio___init__) (dflt := [.int 1]) rfl ok T.c_Ratio T.k_Ratio (ok_Ratio___init__ T) (hr.mono (by decide)) T.b1_Ratio___init__.choose_spec.2 T.b1_Ratio___init__.choose_spec.1 (fun _ => .cons (.int _) .nil) (ax_cons (ex_int) (ax_nil) w00))) (ap_cons (k := 0) (ex_sh (ex_make (ps := [.sh]) (qs := [.sh]) (mI := m_Ratio___init__) (dflt := [.int 1]) rfl ok T.c_Ratio T.k_Ratio (ok_Ratio___init__ T) (hr.mono (by decide)) T.b1_Ratio___init__.choose_spec.2 T.b1_Ratio___init__.choose_spec.1 (fun _ => .cons (.int _) .nil) (ax_cons (ex_int) (ax_nil) w00))) (ap_nil)))) sc_law.nd (by decide))
    (sxs_cons (sx_for ok po (ix_zip (ax_cons (ex_vo 3 0) (ax_cons (ex_vo 4 0) (ax_nil) w00) w00) (fun h => RZ.pi_zipA rfl (T.z_zip) h)) (gx_tup rfl (gxs_cons (gx_name 8 sc_law.nd) (gxs_cons (gx_name 9 sc_law.nd) (gxs_nil)))) (sxs_one (sx_par3 ok 5 6 7 (ap_cons (k := 0) (ex_opX (g := gAdd) rfl ok T.c_Ratio T.o_Ratio.first T.d_Ratio___add__.op (T.o_Ratio.left "add" (by decide)) (ok_Ratio___add__ T) (hr.mono (by decide)) T.d_Ratio___add__.b addI_op addI_S (ex_vo 5 0) (ex_vo 8 0)) (ap_cons (k := 0) (ex_opX (g := gMul) rfl ok T.c_Ratio T.o_Ratio.first T.d_Ratio___mul__.op (T.o_Ratio.left "mul" (by decide)) (ok_Ratio___mul__ T) (hr.mono (by decide)) T.d_Ratio___mul__.b mulI_op mulI_S (ex_vo 6 0) (ex_vo 8 0)) (ap_cons (k := 0) (ex_opX (g := gAdd) rfl ok T.c_Ratio T.o_Ratio.first T.d_Ratio___add__.op (T.o_Ratio.left "add" (by decide)) (ok_Ratio___add__ T) (hr.mono (by decide)) T.d_Ratio___add__.b addI_op addI_S (ex_vo 7 0) (ex_opX (g := gMul) rfl ok T.c_Ratio T.o_Ratio.first T.d_Ratio___mul__.op (T.o_Ratio.left "mul" (by decide)) (ok_Ratio___mul__ T) (hr.mono (by decide)) T.d_Ratio___mul__.b mulI_op mulI_S (ex_vo 8 0) (ex_vo 9 0))) (ap_nil)))) sc_law.nd (by decide))))
    (sxs_cons (sx_if (tx_neX (rmOf hr) rfl ok T.c_Ratio T.d_Ratio___eq__.op (ok_Ratio___eq__ T) (hr.mono (by decide)) T.d_Ratio___eq__.b (ex_sh (ex_lst (ax_cons (ex_call ok (ok_ratio_sum T) (hr.mono (by decide)) (T.d_ratio_sum.g) (T.d_ratio_sum.F.kp) (T.d_ratio_sum.b) (ax_cons (ex_vo 3 0) (ax_nil) w00)) (ax_cons (ex_call ok (ok_ratio_sum T) (hr.mono (by decide)) (T.d_ratio_sum.g) (T.d_ratio_sum.F.kp) (T.d_ratio_sum.b) (ax_cons (ex_sh (ex_lstc (T.z_list) (ex_up (ex_vo 3 0)))) (ax_nil) w00)) (ax_cons (ex_call ok (ok_ratio_product T) (hr.mono (by decide)) (T.d_ratio_product.g) (T.d_ratio_product.F.kp) (T.d_ratio_product.b) (ax_cons (ex_vo 3 0) (ax_nil) w00)) (ax_cons (ex_call ok (ok_dot T) (hr.mono (by decide)) (T.d_dot.g) (T.d_dot.F.kp) (T.d_dot.b) (ax_cons (ex_vo 3 0) (ax_cons (ex_vo 4 0) (ax_nil) w00) w00)) (ax_cons (ex_call ok (ok_ratio_sum T) (hr.mono (by decide)) (T.d_ratio_sum.g) (T.d_ratio_sum.F.kp) (T.d_ratio_sum.b) (ax_cons (ex_tup (ax_nil)) (ax_nil) w00)) (ax_cons (ex_call ok (ok_ratio_product T) (hr.mono (by decide)) (T.d_ratio_product.g) (T.d_ratio_product.F.kp) (T.d_ratio_product.b) (ax_cons (ex_tup (ax_nil)) (ax_nil) w00)) (ax_nil) w00) w00) w00) w00) w00) w00))) (ex_sh (ex_lst (ax_cons (ex_vo 5 0) (ax_cons (ex_vo 5 0) (ax_cons (ex_vo 6 0) (ax_cons (ex_vo 7 0) (ax_cons (ex_sh (ex_make (ps := [.sh]) (qs := [.sh]) (mI := m_Ratio___init__) (dflt := [.int 1]) rfl ok T.c_Ratio T.k_Ratio (ok_Ratio___init__ T) (hr.mono (by decide)) T.b1_Ratio___init__.choose_spec.2 T.b1_Ratio___init__.choose_spec.1 (fun _ => .cons (.int _) .nil) (ax_cons (ex_int) (ax_nil) w00))) (ax_cons (ex_sh (ex_make (ps := [.sh]) (qs := [.sh]) (mI := m_Ratio___init__) (dflt := [.int 1]) rfl ok T.c_Ratio T.k_Ratio (ok_Ratio___init__ T) (hr.mono (by decide)) T.b1_Ratio___init__.choose_spec.2 T.b1_Ratio___init__.choose_spec.1 (fun _ => .cons (.int _) .nil) (ax_cons (ex_int) (ax_nil) w00))) (ax_nil) w00) w00) w00) w00) w00) w00)))) (sxs_one (sx_ret (ex_bl))) (sxs_nil))
    (sxs_cons (sx_for ok po (ix_seqS (ex_sh (ex_lst (ax_cons (ex_vo 3 0) (ax_cons (ex_sh (ex_lstc (T.z_list) (ex_up (ex_vo 3 0)))) (ax_cons (ex_tup (ax_nil)) (ax_cons (ex_tup (ax_cons (ex_sh (ex_make (ps := [.sh]) (qs := [.sh]) (mI := m_Ratio___init__) (dflt := [.int 1]) rfl ok T.c_Ratio T.k_Ratio (ok_Ratio___init__ T) (hr.mono (by decide)) T.b1_Ratio___init__.choose_spec.2 T.b1_Ratio___init__.choose_spec.1 (fun _ => .cons (.int _) .nil) (ax_cons (ex_int) (ax_nil) w00))) (ax_cons (ex_int) (ax_nil) w00) w00)) (ax_cons (ex_tup (ax_cons (ex_non) (ax_nil) w00)) (ax_cons (ex_non) (ax_cons (ex_int) (ax_cons (ex_str) (ax_cons (ex_tup (ax_cons (ex_vo 3 0) (ax_nil) w00)) (ax_nil) w00) w00) w00) w00) w00) w00) w00) w00) w00)))) (gx_name 10 sc_law.nd) (sxs_cons (sx_asg 11 (ex_and (ex_isT .tup (T.z_isinstance) (T.z_tuple) (ex_vo 10 0)) (ex_one (ex_all ok (T.z_all) (ex_rd (LX.ex (lx_lc (k := 0) (own := [("x", 8)]) ok sc_law.nd (ix_seqS (ex_vo 10 0)) (blkB_ok rfl) rfl (by decide) rfl (fun s H C cl fp => gx_name 8 sc_law.nd) (fun s H C cl fp => txs_nil) (fun s H C cl fp => ex_isK T.c_Ratio T.o_Ratio.is (T.z_isinstance) (ex_vo 8 0)))))))) sc_law.nd)
    (sxs_one (sx_if (tx_not (tx_val (ex_call ok (ok__law_says T) (hr.mono (by decide)) (T.d__law_says.g) (T.d__law_says.F.kp) (T.d__law_says.b) (ax_cons (ex_call ok (ok_is_ratio_row T) (hr.mono (by decide)) (T.d_is_ratio_row.g) (T.d_is_ratio_row.F.kp) (T.d_is_ratio_row.b) (ax_cons (ex_vo 10 0) (ax_nil) w00)) (ax_cons (ex_vo 11 0) (ax_nil) w00) w00)))) (sxs_one (sx_ret (ex_bl))) (sxs_nil)))))
    (sxs_cons (sx_asg 12 (ex_sh (ex_lst (ax_cons (ex_sub (ex_callIO 1 (n := 1) ok (ok__law_take T) (hr.mono (by decide)) (T.d__law_take.g) (T.d__law_take.F.kp) (T.d__law_take.b) (ax_io 1 (ax_cons (ex_int) (ax_nil) w00))) (ex_int) w00) (ax_cons (ex_ix0 (rmOf hr) (ex_vo 3 0) (ex_int)) (ax_cons (ex_int) (ax_nil) w00) w00) w00))) sc_law.nd)
    (sxs_cons (sx_if (tw_tx (tw_or (tx_neX (rmOf hr) rfl ok T.c_Ratio T.d_Ratio___eq__.op (ok_Ratio___eq__ T) (hr.mono (by decide)) T.d_Ratio___eq__.b (ex_call ok (ok_ratios T) (hr.mono (by decide)) (T.d_ratios.g) (T.d_ratios.F.kp) (T.d_ratios.b) (ax_cons (ex_vo 12 0) (ax_nil) w00)) (ex_tup (ax_cons (ex_sh (ex_make (ps := [.sh]) (qs := [.sh]) (mI := m_Ratio___init__) (dflt := [.int 1]) rfl ok T.c_Ratio T.k_Ratio (ok_Ratio___init__ T) (hr.mono (by decide)) T.b1_Ratio___init__.choose_spec.2 T.b1_Ratio___init__.choose_spec.1 (fun _ => .cons (.int _) .nil) (ax_cons (ex_ix0 (rmOf hr) (ex_vo 12 0) (ex_int)) (ax_nil) w00))) (ax_cons (ex_ix0 (rmOf hr) (ex_vo 3 0) (ex_int)) (ax_cons (ex_sh (ex_make (ps := [.sh]) (qs := [.sh]) (mI := m_Ratio___init__) (dflt := [.int 1]) rfl ok T.c_Ratio T.k_Ratio (ok_Ratio___init__ T) (hr.mono (by decide)) T.b1_Ratio___init__.choose_spec.2 T.b1_Ratio___init__.choose_spec.1 (fun _ => .cons (.int _) .nil) (ax_cons (ex_int) (ax_nil) w00))) (ax_nil) w00) w00) w00))) (tw_or (tx_neX (rmOf hr) rfl ok T.c_Ratio T.d_Ratio___eq__.op (ok_Ratio___eq__ T) (hr.mono (by decide)) T.d_Ratio___eq__.b (ex_call ok (ok_ratios T) (hr.mono (by decide)) (T.d_ratios.g) (T.d_ratios.F.kp) (T.d_ratios.b) (ax_cons (ex_tupc (T.z_tuple) (ex_up (ex_vo 12 0))) (ax_nil) w00)) (ex_call ok (ok_ratios T) (hr.mono (by decide)) (T.d_ratios.g) (T.d_ratios.F.kp) (T.d_ratios.b) (ax_cons (ex_vo 12 0) (ax_nil) w00))) (tw_or1 (tx_ne (rmOf hr) (ex_call ok (ok_ratios T) (hr.mono (by decide)) (T.d_ratios.g) (T.d_ratios.F.kp) (T.d_ratios.b) (ax_cons (ex_tup (ax_nil)) (ax_nil) w00)) (ex_tup (ax_nil)) w00))))) (sxs_one (sx_ret (ex_bl))) (sxs_nil))
    (sxs_cons (sx_if (tx_ne (rmOf hr) (ex_rd (LX.ex (lx_lc (k := 0) (own := [("bad", 20)]) ok sc_law.nd (ix_seqS (ex_tup (ax_cons (ex_non) (ax_cons (ex_int) (ax_cons (ex_tup (ax_cons (ex_non) (ax_nil) w00)) (ax_cons (ex_tup (ax_cons (ex_bl) (ax_nil) w00)) (ax_cons (ex_tup (ax_cons (ex_str) (ax_nil) w00)) (ax_cons (ex_sh (ex_dict1 1 2)) (ax_nil) w00) w00) w00) w00) w00) w00))) (blkB_ok rfl) rfl (by decide) rfl (fun s H C cl fp => gx_name 20 sc_law.nd) (fun s H C cl fp => txs_nil) (fun s H C cl fp => ex_ix0 (rmOf hr) (ex_call (cok_blk ok) (ok__law_result T) (hr.mono (by decide)) (T.d__law_result.g) (T.d__law_result.F.kp) (T.d__law_result.b) (ax_cons (ex_fn (T.d_ratios.g)) (ax_cons (ex_tup (ax_cons (ex_vo 20 0) (ax_nil) w00)) (ax_nil) w00) w00)) (ex_int))))) (ex_rd (ex_rep (ex_rd (ex_lst (ax_cons (ex_str) (ax_nil) w00))) (ex_int) wrd)) wrd) (sxs_one (sx_ret (ex_bl))) (sxs_nil))
    (sxs_cons (sx_asg 13 (ex_join (ex_str) (ex_rd (LX.ex (lx_lc (k := 0) (own := [("x", 8)]) ok sc_law.nd (ix_seqS (ex_vo 3 0)) (blkB_ok rfl) rfl (by decide) rfl (fun s H C cl fp => gx_name 8 sc_law.nd) (fun s H C cl fp => txs_nil) (fun s H C cl fp => ex_strA rfl (cok_blk ok) T.c_Ratio T.d_Ratio___str__.op (ok_Ratio___str__ T) (hr.mono (by decide)) T.d_Ratio___str__.b (T.z_str) (ex_vo 8 0)))))) sc_law.nd)
    (sxs_cons (sx_if (tw_tx (tw_or (tx_not (tx_val (ex_call ok (ok__law_same T) (hr.mono (by decide)) (T.d__law_same.g) (T.d__law_same.F.kp) (T.d__law_same.b) (ax_cons (ex_call ok (ok_ratios_text T) (hr.mono (by decide)) (T.d_ratios_text.g) (T.d_ratios_text.F.kp) (T.d_ratios_text.b) (ax_cons (ex_vo 3 0) (ax_nil) w00)) (ax_cons (ex_vo 13 0) (ax_nil) w00) w00)))) (tw_or (tx_ne (rmOf hr) (ex_call ok (ok_ratios_text T) (hr.mono (by decide)) (T.d_ratios_text.g) (T.d_ratios_text.F.kp) (T.d_ratios_text.b) (ax_cons (ex_tup (ax_nil)) (ax_nil) w00)) (ex_str) w00) (tw_or (tx_neX (rmOf hr) rfl ok T.c_Ratio T.d_Ratio___eq__.op (ok_Ratio___eq__ T) (hr.mono (by decide)) T.d_Ratio___eq__.b (ex_call ok (ok__law_read T) (hr.mono (by decide)) (T.d__law_read.g) (T.d__law_read.F.kp) (T.d__law_read.b) (ax_cons (ex_fn (T.d_read_ratios.g)) (ax_cons (ex_vo 13 0) (ax_nil) w00) w00)) (ex_tup (ax_cons (ex_str) (ax_cons (ex_vo 3 0) (ax_nil) w00) w00))) (tw_or1 (tx_ne (rmOf hr) (ex_call ok (ok__law_read T) (hr.mono (by decide)) (T.d__law_read.g) (T.d__law_read.F.kp) (T.d__law_read.b) (ax_cons (ex_fn (T.d_read_ratios.g)) (ax_cons (ex_str) (ax_nil) w00) w00)) (ex_tup (ax_cons (ex_str) (ax_cons (ex_tup (ax_nil)) (ax_nil) w00) w00)) w00)))))) (sxs_one (sx_ret (ex_bl))) (sxs_nil))
    (sxs_cons (sx_asg 14 (ex_strA rfl ok T.c_Ratio T.d_Ratio___str__.op (ok_Ratio___str__ T) (hr.mono (by decide)) T.d_Ratio___str__.b (T.z_str) (ex_ix0 (rmOf hr) (ex_vo 3 0) (ex_int))) sc_law.nd)
    (sxs_cons (sx_par2 ok 15 16 (ap_cons (k := 0) (ex_callIO 1 (n := 1) ok (ok__law_take T) (hr.mono (by decide)) (T.d__law_take.g) (T.d__law_take.F.kp) (T.d__law_take.b) (ax_io 1 (ax_cons (ex_add (ex_len (T.z_len) (ex_vo 14 0)) (ex_int)) (ax_nil) w00))) (ap_cons (k := 0) (ex_ix0 (rmOf hr) (ex_str) (ex_callIO 1 (n := 1) ok (ok__law_take T) (hr.mono (by decide)) (T.d__law_take.g) (T.d__law_take.F.kp) (T.d__law_take.b) (ax_io 1 (ax_cons (ex_int) (ax_nil) w00)))) (ap_nil))) sc_law.nd (by decide))
    (sxs_cons (sx_for ok po (ix_seqS (ex_tup (ax_cons (ex_vo 14 0) (ax_cons (ex_add (ex_add (ex_slS (ex_vo 14 0) (px_none) (px_some (ex_vo 15 0))) (ex_vo 16 0)) (ex_slS (ex_vo 14 0) (px_some (ex_vo 15 0)) (px_none))) (ax_cons (ex_add (ex_slS (ex_vo 14 0) (px_none) (px_some (ex_vo 15 0))) (ex_slS (ex_vo 14 0) (px_some (ex_add (ex_vo 15 0) (ex_int))) (px_none))) (ax_cons (ex_add (ex_str) (ex_vo 14 0)) (ax_cons (ex_add (ex_vo 14 0) (ex_str)) (ax_cons (ex_add (ex_str) (ex_vo 14 0)) (ax_cons (ex_str) (ax_cons (ex_str) (ax_cons (ex_str) (ax_cons (ex_str) (ax_cons (ex_str) (ax_cons (ex_mulT (ex_str) (ex_int)) (ax_nil) w00) w00) w00) w00) w00) w00) w00) w00) w00) w00) w00) w00))) (gx_name 17 sc_law.nd) (sxs_cons (sx_asg 11 (ex_call ok (ok__law_is_text T) (hr.mono (by decide)) (T.d__law_is_text.g) (T.d__law_is_text.F.kp) (T.d__law_is_text.b) (ax_cons (ex_vo 17 0) (ax_nil) w00)) sc_law.nd)
    (sxs_cons (sx_asg 18 (ex_call ok (ok__law_read T) (hr.mono (by decide)) (T.d__law_read.g) (T.d__law_read.F.kp) (T.d__law_read.b) (ax_cons (ex_fn (T.d_read_ratio.g)) (ax_cons (ex_vo 17 0) (ax_nil) w00) w00)) sc_law.nd)
    (sxs_cons (sx_if (tw_tx (tw_or (tx_ne (rmOf hr) (ex_ix0 (rmOf hr) (ex_vo 18 0) (ex_int)) (ex_if (tx_val (ex_vo 11 0)) (ex_str) (ex_str)) w00) (tw_or (tw_tx (tw_and (tx_not (tx_val (ex_vo 11 0))) (tw_and1 (tx_ne (rmOf hr) (ex_ix0 (rmOf hr) (ex_vo 18 0) (ex_int)) (ex_int) w00)))) (tw_or1 (tw_tx (tw_and (tx_val (ex_vo 11 0)) (tw_and1 (tx_ne (rmOf hr) (ex_strA rfl ok T.c_Ratio T.d_Ratio___str__.op (ok_Ratio___str__ T) (hr.mono (by decide)) T.d_Ratio___str__.b (T.z_str) (ex_ix0 (rmOf hr) (ex_vo 18 0) (ex_int))) (ex_vo 17 0) w00)))))))) (sxs_one (sx_ret (ex_bl))) (sxs_nil))
    (sxs_cons (sx_asg 19 (ex_add (ex_add (ex_vo 13 0) (ex_str)) (ex_vo 17 0)) sc_law.nd)
    (sxs_one (sx_if (tx_ne (rmOf hr) (ex_ix0 (rmOf hr) (ex_call ok (ok__law_read T) (hr.mono (by decide)) (T.d__law_read.g) (T.d__law_read.F.kp) (T.d__law_read.b) (ax_cons (ex_fn (T.d_read_ratios.g)) (ax_cons (ex_vo 19 0) (ax_nil) w00) w00)) (ex_int)) (ex_if (tx_val (ex_all ok (T.z_all) (ex_rd (LX.ex (lx_lc (k := 0) (own := [("part", 21)]) ok sc_law.nd (ix_seqS (ex_sh (ex_split (ex_vo 19 0) (ex_str)))) (blkB_ok rfl) rfl (by decide) rfl (fun s H C cl fp => gx_name 21 sc_law.nd) (fun s H C cl fp => txs_nil) (fun s H C cl fp => ex_call (cok_blk ok) (ok__law_is_text T) (hr.mono (by decide)) (T.d__law_is_text.g) (T.d__law_is_text.F.kp) (T.d__law_is_text.b) (ax_cons (ex_vo 21 0) (ax_nil) w00))))))) (ex_str) (ex_str)) w00) (sxs_one (sx_ret (ex_bl))) (sxs_nil))))))))
    (sxs_one (sx_ret (ex_eq (rmOf hr) (ex_rd (LX.ex (lx_lc (k := 0) (own := [("act", 22), ("bad", 20)]) ok sc_law.nd (ix_seqS (ex_tup (ax_cons (ex_tup (ax_cons (ex_fn (T.d_read_ratio.g)) (ax_cons (ex_non) (ax_nil) w00) w00)) (ax_cons (ex_tup (ax_cons (ex_fn (T.d_read_ratios.g)) (ax_cons (ex_non) (ax_nil) w00) w00)) (ax_cons (ex_tup (ax_cons (ex_fn (T.d_read_ratio.g)) (ax_cons (ex_int) (ax_nil) w00) w00)) (ax_cons (ex_tup (ax_cons (ex_fn (T.d_read_ratios.g)) (ax_cons (ex_tup (ax_cons (ex_str) (ax_nil) w00)) (ax_nil) w00) w00)) (ax_nil) w00) w00) w00) w00))) (blkB_ok rfl) rfl (by decide) rfl (fun s H C cl fp => gx_tup rfl (gxs_cons (gx_name 22 sc_law.nd) (gxs_cons (gx_name 20 sc_law.nd) (gxs_nil)))) (fun s H C cl fp => txs_nil) (fun s H C cl fp => ex_call (cok_blk ok) (ok__law_read T) (hr.mono (by decide)) (T.d__law_read.g) (T.d__law_read.F.kp) (T.d__law_read.b) (ax_cons (ex_vo 22 0) (ax_cons (ex_vo 20 0) (ax_nil) w00) w00))))) (ex_rd (ex_rep (ex_rd (ex_lst (ax_cons (ex_tup (ax_cons (ex_str) (ax_cons (ex_int) (ax_nil) w00) w00)) (ax_nil) w00))) (ex_int) wrd)) wrd)))))))))))))))))
end
def fa0 : List He.Fa := [.glo "_wall", .keep "_wall", .code ("_wall", none) "_wall", .glo "is_integer", .keep "is_integer", .code ("is_integer", none) "is_integer", .glo "common", .keep "common", .code ("common", none) "common", .glo "check_ratio", .keep "check_ratio", .code ("check_ratio", none) "check_ratio", .glo "is_ratio_row", .keep "is_ratio_row", .code ("is_ratio_row", none) "is_ratio_row", .glo "ratios", .keep "ratios", .code ("ratios", none) "ratios", .glo "ratio_sum", .keep "ratio_sum", .code ("ratio_sum", none) "ratio_sum", .glo "ratio_product", .keep "ratio_product", .code ("ratio_product", none) "ratio_product", .glo "dot", .keep "dot", .code ("dot", none) "dot", .glo "ratios_text", .keep "ratios_text", .code ("ratios_text", none) "ratios_text"]
def fa1 : List He.Fa := [.glo "read_ratio", .keep "read_ratio", .code ("read_ratio", none) "read_ratio", .glo "read_ratios", .keep "read_ratios", .code ("read_ratios", none) "read_ratios", .glo "_law_state", .keep "_law_state", .code ("_law_state", none) "_law_state", .glo "_law_take", .keep "_law_take", .code ("_law_take", none) "_law_take", .glo "_law_says", .keep "_law_says", .code ("_law_says", none) "_law_says", .glo "_law_is_whole", .keep "_law_is_whole", .code ("_law_is_whole", none) "_law_is_whole", .glo "_law_same", .keep "_law_same", .code ("_law_same", none) "_law_same", .glo "_law_common", .keep "_law_common", .code ("_law_common", none) "_law_common", .glo "_law_result", .keep "_law_result", .code ("_law_result", none) "_law_result", .glo "_law_num", .keep "_law_num", .code ("_law_num", none) "_law_num"]
def fa2 : List He.Fa := [.glo "_law_num_row", .keep "_law_num_row", .code ("_law_num_row", none) "_law_num_row", .glo "_law_read", .keep "_law_read", .code ("_law_read", none) "_law_read", .glo "_law_is_text", .keep "_law_is_text", .code ("_law_is_text", none) "_law_is_text", .glo "law", .keep "law", .code ("law", none) "law", .meth "Refused" "__init__", .meth "NoText" "__init__", .meth "Ratio" "__init__", .meth "Ratio" "__add__", .meth "Ratio" "__sub__", .meth "Ratio" "__mul__", .meth "Ratio" "__neg__", .meth "Ratio" "__eq__", .meth "Ratio" "less", .meth "Ratio" "__str__", .meth "Ratio" "over", .meth "Ratio" "times", .meth "Ratio" "sign", .meth "Ratio" "is_zero", .meth "Ratio" "is_whole", .meth "Ratio" "floor", .meth "Ratio" "size", .glo "Ratio"]
def fa3 : List He.Fa := [.cls "Ratio", .noat "Ratio" "d", .noat "Ratio" "n", .mkr "Ratio", .glo "Fault", .glo "Refused", .noat "Refused" "reason", .glo "Fault", .glo "NoText", .noat "NoText" "at", .exm "NoText" "NoText" true, .exm "NoText" "Malformed" false, .exm "NoText" "Refused" false, .free "abs", .free "all", .free "any", .free "bool", .free "int", .free "isinstance", .free "len", .free "list", .free "range", .free "str", .free "tuple", .free "zip", .int "MOST_SIGNS" 400, .glo "Malformed", .exc "Malformed", .glo "Refused", .exm "Malformed" "Malformed" true]
def fa4 : List He.Fa := [.exm "Refused" "Malformed" false, .exm "Refused" "Refused" true, .noat "Refused" "reason"]
def faL : List He.Fa := fa0 ++ fa1 ++ fa2 ++ fa3 ++ fa4
def fnp0 : List He.FnD := [⟨("_wall", none), "_wall", "_wall", defArgs t__wall, defBody t__wall, defScope t__wall⟩, ⟨("is_integer", none), "is_integer", "is_integer", defArgs t_is_integer, defBody t_is_integer, defScope t_is_integer⟩, ⟨("common", none), "common", "common", defArgs t_common, defBody t_common, defScope t_common⟩, ⟨("check_ratio", none), "check_ratio", "check_ratio", defArgs t_check_ratio, defBody t_check_ratio, defScope t_check_ratio⟩, ⟨("is_ratio_row", none), "is_ratio_row", "is_ratio_row", defArgs t_is_ratio_row, defBody t_is_ratio_row, defScope t_is_ratio_row⟩, ⟨("ratios", none), "ratios", "ratios", defArgs t_ratios, defBody t_ratios, defScope t_ratios⟩, ⟨("ratio_sum", none), "ratio_sum", "ratio_sum", defArgs t_ratio_sum, defBody t_ratio_sum, defScope t_ratio_sum⟩, ⟨("ratio_product", none), "ratio_product", "ratio_product", defArgs t_ratio_product, defBody t_ratio_product, defScope t_ratio_product⟩, ⟨("dot", none), "dot", "dot", defArgs t_dot, defBody t_dot, defScope t_dot⟩, ⟨("ratios_text", none), "ratios_text", "ratios_text", defArgs t_ratios_text, defBody t_ratios_text, defScope t_ratios_text⟩, ⟨("read_ratio", none), "read_ratio", "read_ratio", defArgs t_read_ratio, defBody t_read_ratio, defScope t_read_ratio⟩, ⟨("read_ratios", none), "read_ratios", "read_ratios", defArgs t_read_ratios, defBody t_read_ratios, defScope t_read_ratios⟩, ⟨("_law_state", none), "_law_state", "_law_state", defArgs t__law_state, defBody t__law_state, defScope t__law_state⟩, ⟨("_law_take", none), "_law_take", "_law_take", defArgs t__law_take, defBody t__law_take, defScope t__law_take⟩, ⟨("_law_says", none), "_law_says", "_law_says", defArgs t__law_says, defBody t__law_says, defScope t__law_says⟩, ⟨("_law_is_whole", none), "_law_is_whole", "_law_is_whole", defArgs t__law_is_whole, defBody t__law_is_whole, defScope t__law_is_whole⟩, ⟨("_law_same", none), "_law_same", "_law_same", defArgs t__law_same, defBody t__law_same, defScope t__law_same⟩, ⟨("_law_common", none), "_law_common", "_law_common", defArgs t__law_common, defBody t__law_common, defScope t__law_common⟩, ⟨("_law_result", none), "_law_result", "_law_result", defArgs t__law_result, defBody t__law_result, defScope t__law_result⟩, ⟨("_law_num", none), "_law_num", "_law_num", defArgs t__law_num, defBody t__law_num, defScope t__law_num⟩]
def fnp1 : List He.FnD := [⟨("_law_num_row", none), "_law_num_row", "_law_num_row", defArgs t__law_num_row, defBody t__law_num_row, defScope t__law_num_row⟩, ⟨("_law_read", none), "_law_read", "_law_read", defArgs t__law_read, defBody t__law_read, defScope t__law_read⟩, ⟨("_law_is_text", none), "_law_is_text", "_law_is_text", defArgs t__law_is_text, defBody t__law_is_text, defScope t__law_is_text⟩, ⟨("law", none), "law", "law", defArgs t_law, defBody t_law, defScope t_law⟩]
def fnL : List He.FnD := fnp0 ++ fnp1
def dmL : List He.DefD := [mD "Refused" "__init__" "Refused.__init__" t_Refused___init__ [], mD "NoText" "__init__" "NoText.__init__" t_NoText___init__ [], mD "Ratio" "__init__" "Ratio.__init__" t_Ratio___init__ [.int 1], mD "Ratio" "__add__" "Ratio.__add__" t_Ratio___add__ [], mD "Ratio" "__sub__" "Ratio.__sub__" t_Ratio___sub__ [], mD "Ratio" "__mul__" "Ratio.__mul__" t_Ratio___mul__ [], mD "Ratio" "__neg__" "Ratio.__neg__" t_Ratio___neg__ [], mD "Ratio" "__eq__" "Ratio.__eq__" t_Ratio___eq__ [], mD "Ratio" "less" "Ratio.less" t_Ratio_less [], mD "Ratio" "__str__" "Ratio.__str__" t_Ratio___str__ [], mD "Ratio" "over" "Ratio.over" t_Ratio_over [], mD "Ratio" "times" "Ratio.times" t_Ratio_times [], mD "Ratio" "sign" "Ratio.sign" t_Ratio_sign [], mD "Ratio" "is_zero" "Ratio.is_zero" t_Ratio_is_zero [], mD "Ratio" "is_whole" "Ratio.is_whole" t_Ratio_is_whole [], mD "Ratio" "floor" "Ratio.floor" t_Ratio_floor [], mD "Ratio" "size" "Ratio.size" t_Ratio_size []]
def clB (K : PySem.W.Frag) : Bool := ownB K (He.ga K "Ratio") ["add", "mul"] && errB K "Refused" && errB K "NoText" && xfB K (He.ga K "NoText") && true
theorem txt {K : PySem.W.Frag} {h : Heap} {mg : Str → Option Value} (X : K.In h) (G : h.Ns mainGlobals mg) (c : faL.all (He.Fa.ok K) = true) (e : fnL.map (fun d => He.fnObs K d.at_) = fnL.map He.FnD.val) (c7 : xfB K (He.ga K "Refused") = true) (c8 : dmL.all (He.DefD.ok K) = true) (e8 : dmL.map (fun d => He.fnW K d.at_) = dmL.map He.DefD.val) (c9 : clB K = true) : ∃ fs fds, Txt K mg fs fds ∧ mg "law" = some (.ref (fs 23)) := by
  obtain ⟨fd0, h0⟩ := def_at (st := t__wall) (ps := ["k"]) X G (fn_at e 0 rfl) (fa_at c 2 rfl) (fa_at c 0 rfl) (fa_at c 1 rfl) fun _ _ _ _ _ _ us hl => match us, hl with | [_], _ => rfl
  obtain ⟨fd1, h1⟩ := def_at (st := t_is_integer) (ps := ["value"]) X G (fn_at e 1 rfl) (fa_at c 5 rfl) (fa_at c 3 rfl) (fa_at c 4 rfl) fun _ _ _ _ _ _ us hl => match us, hl with | [_], _ => rfl
  obtain ⟨fd2, h2⟩ := def_at (st := t_common) (ps := ["a", "b"]) X G (fn_at e 2 rfl) (fa_at c 8 rfl) (fa_at c 6 rfl) (fa_at c 7 rfl) fun _ _ _ _ _ _ us hl => match us, hl with | [_, _], _ => rfl
  obtain ⟨fd3, h3⟩ := def_at (st := t_check_ratio) (ps := ["value"]) X G (fn_at e 3 rfl) (fa_at c 11 rfl) (fa_at c 9 rfl) (fa_at c 10 rfl) fun _ _ _ _ _ _ us hl => match us, hl with | [_], _ => rfl
  obtain ⟨fd4, h4⟩ := def_at (st := t_is_ratio_row) (ps := ["value"]) X G (fn_at e 4 rfl) (fa_at c 14 rfl) (fa_at c 12 rfl) (fa_at c 13 rfl) fun _ _ _ _ _ _ us hl => match us, hl with | [_], _ => rfl
  obtain ⟨fd5, h5⟩ := def_at (st := t_ratios) (ps := ["row"]) X G (fn_at e 5 rfl) (fa_at c 17 rfl) (fa_at c 15 rfl) (fa_at c 16 rfl) fun _ _ _ _ _ _ us hl => match us, hl with | [_], _ => rfl
  obtain ⟨fd6, h6⟩ := def_at (st := t_ratio_sum) (ps := ["row"]) X G (fn_at e 6 rfl) (fa_at c 20 rfl) (fa_at c 18 rfl) (fa_at c 19 rfl) fun _ _ _ _ _ _ us hl => match us, hl with | [_], _ => rfl
  obtain ⟨fd7, h7⟩ := def_at (st := t_ratio_product) (ps := ["row"]) X G (fn_at e 7 rfl) (fa_at c 23 rfl) (fa_at c 21 rfl) (fa_at c 22 rfl) fun _ _ _ _ _ _ us hl => match us, hl with | [_], _ => rfl
  obtain ⟨fd8, h8⟩ := def_at (st := t_dot) (ps := ["one", "two"]) X G (fn_at e 8 rfl) (fa_at c 26 rfl) (fa_at c 24 rfl) (fa_at c 25 rfl) fun _ _ _ _ _ _ us hl => match us, hl with | [_, _], _ => rfl
  obtain ⟨fd9, h9⟩ := def_at (st := t_ratios_text) (ps := ["row"]) X G (fn_at e 9 rfl) (fa_at c 29 rfl) (fa_at c 27 rfl) (fa_at c 28 rfl) fun _ _ _ _ _ _ us hl => match us, hl with | [_], _ => rfl
  obtain ⟨fd10, h10⟩ := def_at (st := t_read_ratio) (ps := ["text"]) X G (fn_at e 10 rfl) (fa_at c 32 rfl) (fa_at c 30 rfl) (fa_at c 31 rfl) fun _ _ _ _ _ _ us hl => match us, hl with | [_], _ => rfl
  obtain ⟨fd11, h11⟩ := def_at (st := t_read_ratios) (ps := ["text"]) X G (fn_at e 11 rfl) (fa_at c 35 rfl) (fa_at c 33 rfl) (fa_at c 34 rfl) fun _ _ _ _ _ _ us hl => match us, hl with | [_], _ => rfl
  obtain ⟨fd12, h12⟩ := def_at (st := t__law_state) (ps := ["script"]) X G (fn_at e 12 rfl) (fa_at c 38 rfl) (fa_at c 36 rfl) (fa_at c 37 rfl) fun _ _ _ _ _ _ us hl => match us, hl with | [_], _ => rfl
  obtain ⟨fd13, h13⟩ := def_at (st := t__law_take) (ps := ["state", "m"]) X G (fn_at e 13 rfl) (fa_at c 41 rfl) (fa_at c 39 rfl) (fa_at c 40 rfl) fun _ _ _ _ _ _ us hl => match us, hl with | [_, _], _ => rfl
  obtain ⟨fd14, h14⟩ := def_at (st := t__law_says) (ps := ["value", "due"]) X G (fn_at e 14 rfl) (fa_at c 44 rfl) (fa_at c 42 rfl) (fa_at c 43 rfl) fun _ _ _ _ _ _ us hl => match us, hl with | [_, _], _ => rfl
  obtain ⟨fd15, h15⟩ := def_at (st := t__law_is_whole) (ps := ["value"]) X G (fn_at e 15 rfl) (fa_at c 47 rfl) (fa_at c 45 rfl) (fa_at c 46 rfl) fun _ _ _ _ _ _ us hl => match us, hl with | [_], _ => rfl
  obtain ⟨fd16, h16⟩ := def_at (st := t__law_same) (ps := ["one", "two"]) X G (fn_at e 16 rfl) (fa_at c 50 rfl) (fa_at c 48 rfl) (fa_at c 49 rfl) fun _ _ _ _ _ _ us hl => match us, hl with | [_, _], _ => rfl
  obtain ⟨fd17, h17⟩ := def_at (st := t__law_common) (ps := ["a", "b"]) X G (fn_at e 17 rfl) (fa_at c 53 rfl) (fa_at c 51 rfl) (fa_at c 52 rfl) fun _ _ _ _ _ _ us hl => match us, hl with | [_, _], _ => rfl
  obtain ⟨fd18, h18⟩ := def_at (st := t__law_result) (ps := ["act", "given"]) X G (fn_at e 18 rfl) (fa_at c 56 rfl) (fa_at c 54 rfl) (fa_at c 55 rfl) fun _ _ _ _ _ _ us hl => match us, hl with | [_, _], _ => rfl
  obtain ⟨fd19, h19⟩ := def_at (st := t__law_num) (ps := ["state"]) X G (fn_at e 19 rfl) (fa_at c 59 rfl) (fa_at c 57 rfl) (fa_at c 58 rfl) fun _ _ _ _ _ _ us hl => match us, hl with | [_], _ => rfl
  obtain ⟨fd20, h20⟩ := def_at (st := t__law_num_row) (ps := ["state", "many"]) X G (fn_at e 20 rfl) (fa_at c 62 rfl) (fa_at c 60 rfl) (fa_at c 61 rfl) fun _ _ _ _ _ _ us hl => match us, hl with | [_, _], _ => rfl
  obtain ⟨fd21, h21⟩ := def_at (st := t__law_read) (ps := ["act", "text"]) X G (fn_at e 21 rfl) (fa_at c 65 rfl) (fa_at c 63 rfl) (fa_at c 64 rfl) fun _ _ _ _ _ _ us hl => match us, hl with | [_, _], _ => rfl
  obtain ⟨fd22, h22⟩ := def_at (st := t__law_is_text) (ps := ["text"]) X G (fn_at e 22 rfl) (fa_at c 68 rfl) (fa_at c 66 rfl) (fa_at c 67 rfl) fun _ _ _ _ _ _ us hl => match us, hl with | [_], _ => rfl
  obtain ⟨fd23, h23⟩ := def_at (st := t_law) (ps := ["script"]) X G (fn_at e 23 rfl) (fa_at c 71 rfl) (fa_at c 69 rfl) (fa_at c 70 rfl) fun _ _ _ _ _ _ us hl => match us, hl with | [_], _ => rfl
  obtain ⟨fd24, h24⟩ := met_at0 (st := t_Refused___init__) (pn := ["self", "reason"]) (dw_at e8 0 rfl) (dk_at c8 0 rfl) (fa_at c 72 rfl) fun _ _ _ _ _ _ us hl => match us, hl with | [_, _], _ => rfl
  obtain ⟨fd25, h25⟩ := met_at0 (st := t_NoText___init__) (pn := ["self", "at"]) (dw_at e8 1 rfl) (dk_at c8 1 rfl) (fa_at c 73 rfl) fun _ _ _ _ _ _ us hl => match us, hl with | [_, _], _ => rfl
  obtain ⟨fd26, h26, b26⟩ := met_at1 (st := t_Ratio___init__) (pn := ["self", "n", "d"]) 1 2 rfl (dw_at e8 2 rfl) (dk_at c8 2 rfl) (fa_at c 74 rfl) (fun _ _ _ _ _ _ _ us its hl h2 => match us, its, hl, h2 with | [_, _], [_], _, _ => ⟨_, rfl, rfl⟩) fun _ _ _ _ _ _ _ us its hl h2 => match us, its, hl, h2 with | [_, _, _], [_], _, _ => ⟨_, rfl, rfl⟩
  obtain ⟨fd27, h27⟩ := met_at0 (st := t_Ratio___add__) (pn := ["self", "other"]) (dw_at e8 3 rfl) (dk_at c8 3 rfl) (fa_at c 75 rfl) fun _ _ _ _ _ _ us hl => match us, hl with | [_, _], _ => rfl
  obtain ⟨fd28, h28⟩ := met_at0 (st := t_Ratio___sub__) (pn := ["self", "other"]) (dw_at e8 4 rfl) (dk_at c8 4 rfl) (fa_at c 76 rfl) fun _ _ _ _ _ _ us hl => match us, hl with | [_, _], _ => rfl
  obtain ⟨fd29, h29⟩ := met_at0 (st := t_Ratio___mul__) (pn := ["self", "other"]) (dw_at e8 5 rfl) (dk_at c8 5 rfl) (fa_at c 77 rfl) fun _ _ _ _ _ _ us hl => match us, hl with | [_, _], _ => rfl
  obtain ⟨fd30, h30⟩ := met_at0 (st := t_Ratio___neg__) (pn := ["self"]) (dw_at e8 6 rfl) (dk_at c8 6 rfl) (fa_at c 78 rfl) fun _ _ _ _ _ _ us hl => match us, hl with | [_], _ => rfl
  obtain ⟨fd31, h31⟩ := met_at0 (st := t_Ratio___eq__) (pn := ["self", "other"]) (dw_at e8 7 rfl) (dk_at c8 7 rfl) (fa_at c 79 rfl) fun _ _ _ _ _ _ us hl => match us, hl with | [_, _], _ => rfl
  obtain ⟨fd32, h32⟩ := met_at0 (st := t_Ratio_less) (pn := ["self", "other"]) (dw_at e8 8 rfl) (dk_at c8 8 rfl) (fa_at c 80 rfl) fun _ _ _ _ _ _ us hl => match us, hl with | [_, _], _ => rfl
  obtain ⟨fd33, h33⟩ := met_at0 (st := t_Ratio___str__) (pn := ["self"]) (dw_at e8 9 rfl) (dk_at c8 9 rfl) (fa_at c 81 rfl) fun _ _ _ _ _ _ us hl => match us, hl with | [_], _ => rfl
  obtain ⟨fd34, h34⟩ := met_at0 (st := t_Ratio_over) (pn := ["self", "other"]) (dw_at e8 10 rfl) (dk_at c8 10 rfl) (fa_at c 82 rfl) fun _ _ _ _ _ _ us hl => match us, hl with | [_, _], _ => rfl
  obtain ⟨fd35, h35⟩ := met_at0 (st := t_Ratio_times) (pn := ["self", "k"]) (dw_at e8 11 rfl) (dk_at c8 11 rfl) (fa_at c 83 rfl) fun _ _ _ _ _ _ us hl => match us, hl with | [_, _], _ => rfl
  obtain ⟨fd36, h36⟩ := met_at0 (st := t_Ratio_sign) (pn := ["self"]) (dw_at e8 12 rfl) (dk_at c8 12 rfl) (fa_at c 84 rfl) fun _ _ _ _ _ _ us hl => match us, hl with | [_], _ => rfl
  obtain ⟨fd37, h37⟩ := met_at0 (st := t_Ratio_is_zero) (pn := ["self"]) (dw_at e8 13 rfl) (dk_at c8 13 rfl) (fa_at c 85 rfl) fun _ _ _ _ _ _ us hl => match us, hl with | [_], _ => rfl
  obtain ⟨fd38, h38⟩ := met_at0 (st := t_Ratio_is_whole) (pn := ["self"]) (dw_at e8 14 rfl) (dk_at c8 14 rfl) (fa_at c 86 rfl) fun _ _ _ _ _ _ us hl => match us, hl with | [_], _ => rfl
  obtain ⟨fd39, h39⟩ := met_at0 (st := t_Ratio_floor) (pn := ["self"]) (dw_at e8 15 rfl) (dk_at c8 15 rfl) (fa_at c 87 rfl) fun _ _ _ _ _ _ us hl => match us, hl with | [_], _ => rfl
  obtain ⟨fd40, h40⟩ := met_at0 (st := t_Ratio_size) (pn := ["self"]) (dw_at e8 16 rfl) (dk_at c8 16 rfl) (fa_at c 88 rfl) fun _ _ _ _ _ _ us hl => match us, hl with | [_], _ => rfl
  unfold clB at c9
  simp only [Bool.and_eq_true] at c9
  obtain ⟨⟨⟨⟨o0, rr⟩, rn⟩, rx⟩, _⟩ := c9
  refine ⟨fun i => ([He.ga K "_wall", He.ga K "is_integer", He.ga K "common", He.ga K "check_ratio", He.ga K "is_ratio_row", He.ga K "ratios", He.ga K "ratio_sum", He.ga K "ratio_product", He.ga K "dot", He.ga K "ratios_text", He.ga K "read_ratio", He.ga K "read_ratios", He.ga K "_law_state", He.ga K "_law_take", He.ga K "_law_says", He.ga K "_law_is_whole", He.ga K "_law_same", He.ga K "_law_common", He.ga K "_law_result", He.ga K "_law_num", He.ga K "_law_num_row", He.ga K "_law_read", He.ga K "_law_is_text", He.ga K "law", He.ma K (He.ga K "Refused") "__init__", He.ma K (He.ga K "NoText") "__init__", He.ma K (He.ga K "Ratio") "__init__", He.ma K (He.ga K "Ratio") "__add__", He.ma K (He.ga K "Ratio") "__sub__", He.ma K (He.ga K "Ratio") "__mul__", He.ma K (He.ga K "Ratio") "__neg__", He.ma K (He.ga K "Ratio") "__eq__", He.ma K (He.ga K "Ratio") "less", He.ma K (He.ga K "Ratio") "__str__", He.ma K (He.ga K "Ratio") "over", He.ma K (He.ga K "Ratio") "times", He.ma K (He.ga K "Ratio") "sign", He.ma K (He.ga K "Ratio") "is_zero", He.ma K (He.ga K "Ratio") "is_whole", He.ma K (He.ga K "Ratio") "floor", He.ma K (He.ga K "Ratio") "size"] : List Addr).getD i 0, fun i => ([fd0, fd1, fd2, fd3, fd4, fd5, fd6, fd7, fd8, fd9, fd10, fd11, fd12, fd13, fd14, fd15, fd16, fd17, fd18, fd19, fd20, fd21, fd22, fd23, fd24, fd25, fd26, fd27, fd28, fd29, fd30, fd31, fd32, fd33, fd34, fd35, fd36, fd37, fd38, fd39, fd40] : List FuncData).getD i fd0, ⟨cls_at X G (fa_at c 89 rfl) (fa_at c 90 rfl), ownB_ok o0, He.noat_ok (fa_at c 91 rfl), He.noat_ok (fa_at c 92 rfl), He.mkr_ok (fa_at c 93 rfl), h24, h25, h26, h27, h28, h29, h30, h31, h32, h33, h34, h35, h36, h37, h38, h39, h40, b26, errK_at "Refused" "reason" X G (fa_at c 94 rfl) (fa_at c 95 rfl) (fa_at c 96 rfl) (fa_at c 72 rfl) rr, errK_at "NoText" "at" X G (fa_at c 97 rfl) (fa_at c 98 rfl) (fa_at c 99 rfl) (fa_at c 73 rfl) rn, h0, h1, h2, h3, h4, h5, h6, h7, h8, h9, h10, h11, h12, h13, h14, h15, h16, h17, h18, h19, h20, h21, h22, h23, He.free_ok X G (fa_at c 103 rfl), He.free_ok X G (fa_at c 104 rfl), He.free_ok X G (fa_at c 105 rfl), He.free_ok X G (fa_at c 106 rfl), He.free_ok X G (fa_at c 107 rfl), He.free_ok X G (fa_at c 108 rfl), He.free_ok X G (fa_at c 109 rfl), He.free_ok X G (fa_at c 110 rfl), He.free_ok X G (fa_at c 111 rfl), He.free_ok X G (fa_at c 112 rfl), He.free_ok X G (fa_at c 113 rfl), He.free_ok X G (fa_at c 114 rfl), He.int_ok X G (fa_at c 115 rfl), mal_at X G (fa_at c 116 rfl) (fa_at c 117 rfl), xcb_at X G (fa_at c 116 rfl) (fa_at c 118 rfl) (fa_at c 119 rfl) (fa_at c 120 rfl) (fa_at c 121 rfl) (fa_at c 122 rfl) c7 (fa_at c 98 rfl) (fa_at c 101 rfl) (fa_at c 102 rfl), xcT_at X G (fa_at c 98 rfl) (fa_at c 100 rfl) (fa_at c 99 rfl) rx⟩, h23.g⟩
theorem fin {P : Program} {w : World} {K : PySem.W.Frag} {h : Heap} {mg : Str → Option Value} {fa : Addr} (X : K.In h) (G : h.Ns mainGlobals mg) (hfa : mg "law" = some (.ref fa)) (c : faL.all (He.Fa.ok K) = true) (e : fnL.map (fun d => He.fnObs K d.at_) = fnL.map He.FnD.val) (c7 : xfB K (He.ga K "Refused") = true) (c8 : dmL.all (He.DefD.ok K) = true) (e8 : dmL.map (fun d => He.fnW K d.at_) = dmL.map He.DefD.val) (c9 : clB K = true)
    (math : ∀ ns : List Int, ns.length ≤ 63 → (∀ z ∈ ns, Builtin.Int.intBits z ≤ 1048576) → m_law [.scr ns] = .ok (.bl true)) : ∃ fd : FuncData, (∀ (s : Shared) (u : Value), BindsTo s fd ⟨[u], []⟩ [("script", u)]) ∧ ∀ base : Heap, K.In base → base.Ns mainGlobals mg → FnOk P w K mg base (L2.CX P w) 43 fa fd ["script"] (spEnd K) := by
  obtain ⟨fs, fds, T, hl⟩ := txt X G c e c7 c8 e8 c9
  rw [hfa] at hl
  have hl := Value.ref.inj (Option.some.inj hl)
  subst hl
  refine ⟨fds 23, fun s u => ?_, fun base _ _ => fn_end (ok_law T) math⟩
  obtain ⟨oc, od, kV, doc, pm, an, cdv, ct, osl, he, l, c⟩ := T.d_law.F.ex
  rw [he]
  exact .of_eq rfl
end
end K02

open PySem PySem.Spec
open PyProof.Rows L2
set_option Elab.async false
set_option linter.all false
set_option maxRecDepth 100000
set_option maxHeartbeats 0
namespace K02
open PV
noncomputable section
/-! ### two ways to the greatest common divisor -/
def ct : M Bool := PV.tB (e2 gGt (eVar 1) (eC (.int 0)))
def cb : SM := sPar [0, 1] (aCons (eVar 1) (aCons (e2 gMod (eVar 0) (eVar 1)) (aNil)))
theorem ct_ok (x y : Int) : ct [some (.int x), some (.int y)] = .ok (decide (0 < y), [some (.int x), some (.int y)]) := by with_unfolding_all rfl
theorem cb_ok (x y : Int) (h : y ≠ 0) : cb [some (.int x), some (.int y)] = .nx [some (.int y), some (.int (x.fmod y))] := by
  simp [cb, sPar, sDo, aCons, aNil, e2, gMod, h, M.bind, M.ofO, M.pure, eVar, look_zero, look_succ, setAll, put_eq]
theorem cloop : ∀ (n a b : Nat), b < n → whileN ct cb n [some (.int a), some (.int b)] = .nx [some (.int (Nat.gcd a b : Nat)), some (.int 0)]
  | 0, _, _, h => by omega
  | n + 1, a, b, h => by
    by_cases hb : b = 0
    · subst hb
      refine (whileN_f (ct_ok a 0)).trans ?_
      rw [Nat.gcd_zero_right]
    · have e : Int.fmod (a : Int) (b : Int) = ((a % b : Nat) : Int) := by
        rw [Int.fmod_eq_emod_of_nonneg (hb := by omega)]
        exact (Int.natCast_emod a b).symm
      have ih := cloop n b (a % b) (Nat.lt_of_lt_of_le (Nat.mod_lt a (by omega)) (by omega))
      have eg : Nat.gcd b (a % b) = Nat.gcd a b := by rw [Nat.gcd_comm a b, Nat.gcd_rec b a, Nat.gcd_comm]
      rw [eg] at ih
      have ht := ct_ok a b
      rw [decide_eq_true (show (0 : Int) < b by omega)] at ht
      rw [whileN_t ht (cb_ok a b (by omega)), e]
      exact ih
theorem common_ok (a b : Int) (hb : b.natAbs < 1000) : m_common [.int a, .int b] = .ok (.int (Int.gcd a b)) := by
  have ea : (if a < 0 then -a else a) = ((a.natAbs : Nat) : Int) := by split <;> omega
  have eb : (if b < 0 then -b else b) = ((b.natAbs : Nat) : Int) := by split <;> omega
  have hw := cloop fuelW a.natAbs b.natAbs (Nat.lt_trans hb (by decide))
  have e : s_common (PV.envOf 2 [.int a, .int b]) = .rt (.int (Int.gcd a b)) [some (.int (Int.gcd a b)), some (.int 0)] := by
    unfold s_common
    have e1 : sPar [0, 1] (aCons (e1L gAbs (eVar 0)) (aCons (e1L gAbs (eVar 1)) (aNil))) (PV.envOf 2 [.int a, .int b]) = .nx [some (.int a.natAbs), some (.int b.natAbs)] := by
      simp [sPar, sDo, e1L, eL, PV.g1, gAbs, M.bind, M.ofO, M.pure, eVar, look_zero, look_succ, aCons, aNil, setAll, put_eq, PV.envOf, ea, eb]
    rw [sSeq_of e1]
    exact (sSeq_of (a := sWhile ct cb) (show sWhile ct cb _ = _ from hw)).trans rfl
  unfold m_common runF
  rw [e]
theorem fmod_small (a b : Int) (h : b ≠ 0) : (a.fmod b).natAbs < b.natAbs := by
  have h1 := Int.emod_nonneg a h
  have h2 := Int.emod_lt a h
  rw [Int.fmod_eq_emod]
  split
  · omega
  · rename_i hn
    have hb : b < 0 := by omega
    have h3 : a % b ≠ 0 := fun z => hn (.inr (Int.dvd_of_emod_eq_zero z))
    omega
theorem fmod_gcd (a b : Int) : Int.gcd b (a.fmod b) = Int.gcd a b := by
  rw [Int.fmod_def, Int.gcd_sub_mul_left_right, Int.gcd_comm]
def lt_ : M Bool := PV.tB (e2 gNe (eVar 1) (eC (.int 0)))
def lb : SM := sPar [0, 1] (aCons (eVar 1) (aCons (e2 gMod (e1L gInt (eVar 0)) (eVar 1)) (aNil)))
theorem lt_ok (x y : Int) : lt_ [some (.int x), some (.int y)] = .ok (!decide (y = 0), [some (.int x), some (.int y)]) := by with_unfolding_all rfl
theorem lb_ok (x y : Int) (h : y ≠ 0) : lb [some (.int x), some (.int y)] = .nx [some (.int y), some (.int (x.fmod y))] := by
  simp [lb, sPar, sDo, aCons, aNil, e2, e1L, eL, PV.g1, gInt, gMod, h, M.bind, M.ofO, M.pure, eVar, look_zero, look_succ, setAll, put_eq]
theorem lloop : ∀ (n : Nat) (a b : Int), b.natAbs < n → ∃ g : Int, g.natAbs = Int.gcd a b ∧ whileN lt_ lb n [some (.int a), some (.int b)] = .nx [some (.int g), some (.int 0)]
  | 0, _, _, h => by omega
  | n + 1, a, b, h => by
    by_cases hb : b = 0
    · subst hb
      exact ⟨a, by simp, whileN_f (lt_ok a 0)⟩
    · obtain ⟨g, hg, e⟩ := lloop n b (a.fmod b) (Nat.lt_of_lt_of_le (fmod_small a b hb) (by omega))
      have ht := lt_ok a b
      rw [decide_eq_false hb] at ht
      exact ⟨g, by rw [hg, fmod_gcd], by rw [whileN_t ht (lb_ok a b hb)]; exact e⟩
theorem lcommon_ok (a b : Int) (hb : b.natAbs < 1000) : m__law_common [.int a, .int b] = .ok (.int (Int.gcd a b)) := by
  obtain ⟨g, hg, hw⟩ := lloop fuelW a b (Nat.lt_trans hb (by decide))
  have eg : (if g < 0 then -g else g) = (Int.gcd a b : Int) := by rw [← hg]; split <;> omega
  have e : s__law_common (PV.envOf 2 [.int a, .int b]) = .rt (.int (Int.gcd a b)) [some (.int g), some (.int 0)] := by
    unfold s__law_common
    refine (sSeq_of (a := sWhile lt_ lb) (show sWhile lt_ lb _ = _ from hw)).trans ?_
    simp [sRet, sDo, e1L, eL, PV.g1, gAbs, M.bind, M.ofO, M.pure, eVar, look_zero, look_succ, aCons, aNil, eg]
  unfold m__law_common runF
  rw [e]
end
end K02

open PySem PySem.Spec
open PyProof.Rows L2
set_option Elab.async false
set_option linter.all false
set_option maxRecDepth 100000
set_option maxHeartbeats 0
namespace K02
open PV
noncomputable section
/-! ### lowest terms -/
/-- what a Ratio of n and d holds -/
structure Low (n d N E : Int) : Prop where
  pos : 1 ≤ E
  small : E.natAbs ≤ d.natAbs
  low : Int.gcd N E = 1
  same : N * d = n * E
  top : N.natAbs ≤ n.natAbs
theorem low_ex (n d : Int) (h : d ≠ 0) : Low n d (if 0 < d then n.fdiv (Int.gcd n d) else (-n).fdiv (Int.gcd n d)) ((if d < 0 then -d else d).fdiv (Int.gcd n d)) := by
  have gp : 0 < Int.gcd n d := Int.gcd_pos_of_ne_zero_right n h
  have gz : (Int.gcd n d : Int) ≠ 0 := by omega
  obtain ⟨n', hn⟩ := Int.gcd_dvd_left (a := n) (b := d)
  obtain ⟨d', hd⟩ := Int.gcd_dvd_right (a := n) (b := d)
  have cop : Int.gcd n' d' = 1 := by
    have e := Int.gcd_mul_left (Int.gcd n d : Int) n' d'
    rw [← hn, ← hd, Int.natAbs_natCast] at e
    have e2 : Int.gcd n d * Int.gcd n' d' = Int.gcd n d * 1 := by omega
    exact Nat.eq_of_mul_eq_mul_left gp e2
  generalize Int.gcd n d = g at *
  have big : ∀ x : Int, x.natAbs ≤ ((g : Int) * x).natAbs := fun x => by
    rw [Int.natAbs_mul, Int.natAbs_natCast]
    exact Nat.le_mul_of_pos_left _ gp
  have dz : d' ≠ 0 := fun z => h (by rw [hd, z, Int.mul_zero])
  have q : ∀ x : Int, ((g : Int) * x).fdiv g = x := fun x => Int.mul_fdiv_cancel_left x gz
  have qn : n.fdiv g = n' := by rw [hn]; exact q n'
  have qn' : (-n).fdiv g = -n' := by rw [hn, ← Int.mul_neg]; exact q _
  have qd : d.fdiv g = d' := by rw [hd]; exact q d'
  have qd' : (-d).fdiv g = -d' := by rw [hd, ← Int.mul_neg]; exact q _
  by_cases hp : 0 < d
  · have dp : 0 < d' := by
      rcases Int.lt_trichotomy d' 0 with z | z | z
      · have : (g : Int) * d' < 0 := Int.mul_neg_of_pos_of_neg (by omega) z
        omega
      · exact absurd z dz
      · exact z
    rw [if_pos hp, if_neg (show ¬ d < 0 by omega), qn, qd]
    refine ⟨by omega, ?_, cop, ?_, ?_⟩
    · rw [hd]; exact big d'
    · rw [hd, hn]; grind
    · rw [hn]; exact big n'
  · have dn : d' < 0 := by
      rcases Int.lt_trichotomy d' 0 with z | z | z
      · exact z
      · exact absurd z dz
      · have : 0 < (g : Int) * d' := Int.mul_pos (by omega) z
        omega
    rw [if_neg hp, if_pos (show d < 0 by omega), qn', qd']
    refine ⟨by omega, ?_, ?_, ?_, ?_⟩
    · rw [Int.natAbs_neg, hd]; exact big d'
    · rw [Int.neg_gcd, Int.gcd_neg]; exact cop
    · rw [hd, hn]; grind
    · rw [Int.natAbs_neg, hn]; exact big n'
/-- lowest terms are one -/
theorem low_one {N1 d1 N2 d2 : Int} (p1 : 1 ≤ d1) (p2 : 1 ≤ d2) (c1 : Int.gcd N1 d1 = 1) (c2 : Int.gcd N2 d2 = 1) (e : N1 * d2 = N2 * d1) : N1 = N2 ∧ d1 = d2 := by
  have en : N1.natAbs * d2.natAbs = N2.natAbs * d1.natAbs := by rw [← Int.natAbs_mul, ← Int.natAbs_mul, e]
  have k1 : Nat.Coprime N1.natAbs d1.natAbs := c1
  have k2 : Nat.Coprime N2.natAbs d2.natAbs := c2
  have a1 : d1.natAbs ∣ d2.natAbs := k1.symm.dvd_of_dvd_mul_left (by rw [en]; exact Nat.dvd_mul_left _ _)
  have a2 : d2.natAbs ∣ d1.natAbs := k2.symm.dvd_of_dvd_mul_left (by rw [← en]; exact Nat.dvd_mul_left _ _)
  have ed := Nat.dvd_antisymm a1 a2
  have ed : d1 = d2 := by omega
  subst ed
  exact ⟨Int.eq_of_mul_eq_mul_right (by omega) e, rfl⟩
/-! ### what the defs give -/
def rat (N E : Int) : D := .obj "Ratio" [("n", .int N), ("d", .int E)]
theorem isint_ok (n : Int) : m_is_integer [.int n] = .ok (.bl true) := by with_unfolding_all rfl
theorem eq0_ok (d : Int) : gEq (.int d) (.int 0) = some (.bl (decide (d = 0))) := rfl
theorem nd_ne : ¬ Str.ofString "n" = Str.ofString "d" := by decide
theorem init_ok (n d : Int) (h : d ≠ 0) (hs : d.natAbs < 1000) : ∃ N E, Low n d N E ∧ m_Ratio___init__ [.obj "Ratio" [], .int n, .int d] = .ok (.non, [rat N E]) := by
  refine ⟨_, _, low_ex n d h, ?_⟩
  have gp : 0 < Int.gcd n d := Int.gcd_pos_of_ne_zero_right n h
  have gl : Int.gcd n d ≤ d.natAbs := Int.gcd_le_natAbs_right n h
  have gz : ((Int.gcd n d : Nat) : Int) ≠ 0 := by omega
  have gs : ((Int.gcd n d : Nat) : Int).natAbs < 1073741824 := by omega
  have dv : ∀ x : Int, gDiv (.int x) (.int (Int.gcd n d : Nat)) = some (.int (x.fdiv (Int.gcd n d : Nat))) := fun x => by
    show (if _ then _ else _) = _
    rw [if_neg gz, if_pos gs]
  have hc := common_ok n d hs
  have ii := isint_ok
  generalize (Int.gcd n d : Nat) = g at *
  unfold m_Ratio___init__ runB s_Ratio___init__
  by_cases hp : 0 < d
  all_goals simp [sSeq, sIf, sDo, PV.tOr, PV.tNot, PV.tB, e1, e2, e1L, eL, PV.g1, eCall, M.lift, M.bind, M.ofO, M.pure, eVar, eC, look_zero, look_succ, aCons, aNil, PV.envOf, ii, asBl, sNx, eq0_ok, h, sAsg, put_eq, hc, sFldS, eIf, gGt, hp, dv, gAbs, gNeg, putA, endR, outsOf, rat, nd_ne]
end
end K02

open PySem PySem.Spec
open PyProof.Rows L2
set_option Elab.async false
set_option linter.all false
set_option maxRecDepth 100000
set_option maxHeartbeats 0
namespace K02
open PV
noncomputable section
def mkOf : R (D × List D) → R D
  | .ok (.non, [y]) => .ok y
  | .ok _ => .fail
  | .exc x => .exc x
  | .fail => .fail
def mk (n d : Int) : R D := mkOf (m_Ratio___init__ [.obj "Ratio" [], .int n, .int d])
theorem mk_ok (n d : Int) (h : d ≠ 0) (hs : d.natAbs < 1000) : ∃ N E, Low n d N E ∧ mk n d = .ok (rat N E) := by
  obtain ⟨N, E, l, e⟩ := init_ok n d h hs
  exact ⟨N, E, l, by unfold mk; rw [e]; rfl⟩
theorem mk_zero (n : Int) : mk n 0 = .exc (.refu (.str "zero")) := by with_unfolding_all rfl
theorem make_of {fa : M (List D)} {ρ ρ1 : PV.Env} {ds dflt : List D} {n d : Int} (h : fa ρ = .ok (ds, ρ1)) (e : ds ++ dflt = [.int n, .int d]) : eMake "Ratio" m_Ratio___init__ dflt fa ρ = upM ρ1 (mk n d) := by
  unfold eMake
  rw [M.bind_of h, e]
  unfold mk
  generalize m_Ratio___init__ [D.obj (Str.ofString "Ratio") [], D.int n, D.int d] = r
  rcases r with ⟨y, os⟩ | x | _
  · cases y <;> first | rfl | skip
    rcases os with _ | ⟨y, _ | ⟨_, _⟩⟩ <;> rfl
  · rfl
  · rfl
theorem f_n (N E : Int) : gFld "Ratio" "n" (rat N E) = some (.int N) := by with_unfolding_all rfl
theorem f_d (N E : Int) : gFld "Ratio" "d" (rat N E) = some (.int E) := by with_unfolding_all rfl
theorem chk_ok (N E : Int) : m_check_ratio [rat N E] = .ok .non := by with_unfolding_all rfl
theorem mulR {x y : Int} (h : y.natAbs < 1000) : mulOk x y = true := mulOk_r (by omega)
theorem mulL {x y : Int} (h : x.natAbs < 1000) : mulOk x y = true := by
  unfold mulOk
  rw [decide_eq_true (show x.natAbs < 2 ^ 64 by omega)]
  rfl
section
variable {N1 E1 N2 E2 : Int}
theorem fld_n {i : Nat} {ρ : PV.Env} {N E : Int} (h : look ρ i = some (rat N E)) : e1 (gFld "Ratio" "n") (eVar i) ρ = .ok (.int N, ρ) := by
  simp [e1, M.bind, M.ofO, M.pure, eVar, h, f_n]
theorem fld_d {i : Nat} {ρ : PV.Env} {N E : Int} (h : look ρ i = some (rat N E)) : e1 (gFld "Ratio" "d") (eVar i) ρ = .ok (.int E, ρ) := by
  simp [e1, M.bind, M.ofO, M.pure, eVar, h, f_d]
theorem after_chk {s : SM} {N1 E1 N2 E2 : Int} : sSeq (sDrop (eCall m_check_ratio (aCons (eVar 1) aNil))) s (PV.envOf 2 [rat N1 E1, rat N2 E2]) = s (PV.envOf 2 [rat N1 E1, rat N2 E2]) := by
  refine sSeq_of ?_
  unfold sDrop sDo
  rw [call_of (cons_of (var_of (v := rat N2 E2) rfl) nil_of) (chk_ok N2 E2)]
theorem bin_ret {f : M D} {N1 E1 N2 E2 : Int} {y : R D} (h : f (PV.envOf 2 [rat N1 E1, rat N2 E2]) = upM (PV.envOf 2 [rat N1 E1, rat N2 E2]) y) : runF 2 0 (sSeq (sDrop (eCall m_check_ratio (aCons (eVar 1) aNil))) (sRet f)) [rat N1 E1, rat N2 E2] = y := by
  unfold runF
  rw [after_chk]
  unfold sRet sDo
  rw [h]
  cases y <;> rfl
theorem add_ok (s1 : E1.natAbs < 1000) (s2 : E2.natAbs < 1000) : m_Ratio___add__ [rat N1 E1, rat N2 E2] = mk (N1 * E2 + N2 * E1) (E1 * E2) :=
  bin_ret (make_of (two_of (add_of (mul_of (fld_n rfl) (fld_d rfl) (mulR s2)) (mul_of (fld_n rfl) (fld_d rfl) (mulR s1))) (mul_of (fld_d rfl) (fld_d rfl) (mulR s2))) rfl)
theorem sub_ok (s1 : E1.natAbs < 1000) (s2 : E2.natAbs < 1000) : m_Ratio___sub__ [rat N1 E1, rat N2 E2] = mk (N1 * E2 - N2 * E1) (E1 * E2) :=
  bin_ret (make_of (two_of (sub_of (mul_of (fld_n rfl) (fld_d rfl) (mulR s2)) (mul_of (fld_n rfl) (fld_d rfl) (mulR s1))) (mul_of (fld_d rfl) (fld_d rfl) (mulR s2))) rfl)
theorem mulM_ok (s1 : N2.natAbs < 1000) (s2 : E2.natAbs < 1000) : m_Ratio___mul__ [rat N1 E1, rat N2 E2] = mk (N1 * N2) (E1 * E2) :=
  bin_ret (make_of (two_of (mul_of (fld_n rfl) (fld_n rfl) (mulR s1)) (mul_of (fld_d rfl) (fld_d rfl) (mulR s2))) rfl)
theorem neg_ok : m_Ratio___neg__ [rat N1 E1] = mk (-N1) E1 :=
  ret_of (make_of (two_of (neg_of (fld_n rfl)) (fld_d rfl)) rfl)
end
end
end K02

open PySem PySem.Spec
open PyProof.Rows L2
set_option Elab.async false
set_option linter.all false
set_option maxRecDepth 100000
set_option maxHeartbeats 0
namespace K02
open PV
noncomputable section
/-! ### the law's own helpers, and the other methods -/
theorem isK_ok (N E : Int) : gIsK "Ratio" (rat N E) = some (.bl true) := by with_unfolding_all rfl
theorem says_ok (b c : Bool) : m__law_says [.bl b, .bl c] = .ok (.bl (decide (b = c))) := by cases b <;> cases c <;> with_unfolding_all rfl
section
variable {N E N1 E1 N2 E2 n d : Int}
theorem eAnd_t {fa fb : M D} {ρ ρ1 ρ2 : PV.Env} {v : D} (h : fa ρ = .ok (.bl true, ρ1)) (k : fb ρ1 = .ok (v, ρ2)) : eAnd fa fb ρ = .ok (v, ρ2) := by
  unfold eAnd
  rw [M.bind_of h]
  exact k
theorem eAnd_f {fa fb : M D} {ρ ρ1 : PV.Env} (h : fa ρ = .ok (.bl false, ρ1)) : eAnd fa fb ρ = .ok (.bl false, ρ1) := by
  unfold eAnd
  rw [M.bind_of h]
  rfl
theorem eqM_ok : m_Ratio___eq__ [rat N1 E1, rat N2 E2] = .ok (.bl (decide (N1 = N2 ∧ E1 = E2))) := by
  refine ret_of (eAnd_t (e1_of (var_of rfl) (isK_ok N2 E2)) ?_)
  by_cases h : N1 = N2
  · refine (eAnd_t ((eqI_of (fld_n rfl) (fld_n rfl)).trans (by rw [decide_eq_true h])) (eqI_of (fld_d rfl) (fld_d rfl))).trans ?_
    by_cases k : E1 = E2
    · rw [decide_eq_true k, decide_eq_true ⟨h, k⟩]
    · rw [decide_eq_false k, decide_eq_false fun z => k z.2]
  · refine (eAnd_f ((eqI_of (fld_n rfl) (fld_n rfl)).trans (by rw [decide_eq_false h]))).trans ?_
    rw [decide_eq_false fun z => h z.1]
/-! the text -/
def rtx (N E : Int) : Str := if E = 1 then toString N else Str.ofString (toString N) ++ (Str.ofString "/" ++ Str.ofString (toString E))
theorem len_ok {i : Int} (h : i.natAbs.log2 < 1920) : (Str.ofString (toString i)).length ≤ 1921 := by
  rw [PySem.ofString_length]
  exact int_text_length_le (by decide) h
theorem small_ok {s : Str} {n : Nat} (h : s.length ≤ n) (k : n ≤ 100000) : small s.length = true := decide_eq_true (Nat.le_trans h k)
theorem fmt_ok {fa : M D} {ρ ρ1 : PV.Env} {i : Int} (ha : fa ρ = .ok (.int i, ρ1)) (h : i.natAbs.log2 < 1920) : e1 gFmt fa ρ = .ok (.str (toString i), ρ1) := e1_of ha (if_pos h)
theorem str_ok {fa : M D} {ρ ρ1 : PV.Env} {i : Int} (ha : fa ρ = .ok (.int i, ρ1)) (h : i.natAbs.log2 < 1920) : e1L gStr fa ρ = .ok (.str (toString i), ρ1) := e1L_of ha (if_pos h)
theorem js_nil {acc : Str} {ρ : PV.Env} : eJs [] acc ρ = .ok (.str acc, ρ) := rfl
theorem js_cons {g : M D} {r : List (M D)} {acc y : Str} {ρ ρ1 : PV.Env} (h : g ρ = .ok (.str y, ρ1)) (hl : small (acc ++ y).length = true) : eJs (g :: r) acc ρ = eJs r (acc ++ y) ρ1 := by
  show M.bind g _ ρ = _
  rw [M.bind_of h]
  show (if small (acc ++ y).length = true then eJs r (acc ++ y) else fun _ => .fail) ρ1 = _
  rw [if_pos hl]
theorem strM_ok (hN : N.natAbs.log2 < 1920) (hE : E.natAbs.log2 < 1920) : m_Ratio___str__ [rat N E] = .ok (.str (rtx N E)) := by
  have l1 := len_ok hN
  have l2 := len_ok hE
  have l3 : (Str.ofString "/").length = 1 := by decide
  have l0 : Str.empty.length = 0 := by decide
  unfold rtx
  by_cases h : E = 1
  · rw [if_pos h]
    unfold m_Ratio___str__ runF s_Ratio___str__
    have t : PV.tB (e2 gEq (e1 (gFld "Ratio" "d") (eVar 0)) (eC (.int 1))) (PV.envOf 1 [rat N E]) = .ok (true, PV.envOf 1 [rat N E]) := tB_of ((eqI_of (fld_d rfl) rfl).trans (by rw [decide_eq_true h]))
    have e : sIf (PV.tB (e2 gEq (e1 (gFld "Ratio" "d") (eVar 0)) (eC (.int 1)))) (sRet (e1L gStr (e1 (gFld "Ratio" "n") (eVar 0)))) sNx (PV.envOf 1 [rat N E]) = .rt (.str (toString N)) (PV.envOf 1 [rat N E]) := by
      unfold sIf
      rw [sDo_of t]
      unfold sRet
      exact sDo_of (str_ok (fld_n rfl) hN)
    unfold sSeq
    rw [e]
  · rw [if_neg h]
    refine (seq_run (if_no (tB_of ((eqI_of (fld_d rfl) rfl).trans (by rw [decide_eq_false h]))))).trans (ret_of ?_)
    rw [js_cons (fmt_ok (fld_n rfl) hN) (small_ok (n := 2000) (by rw [strLen_append]; omega) (by omega)), js_cons (y := Str.ofString "/") rfl (small_ok (n := 2000) (by rw [strLen_append, strLen_append]; omega) (by omega)),
      js_cons (fmt_ok (fld_d rfl) hE) (small_ok (n := 4000) (by rw [strLen_append, strLen_append, strLen_append]; omega) (by omega)), js_nil, Str.empty_append, Str.append_assoc]
    rfl
theorem strOk_list (z : Str) : PyData.strOk z = z.cps.toList.all fun c => decide (c < 0x110000) := by
  unfold PyData.strOk
  rw [← Array.all_toList]
theorem char_lt (c : Char) : c.toNat < 0x110000 := by
  have v := c.valid
  unfold UInt32.isValidChar Nat.isValidChar at v
  show c.val.toNat < _
  omega
theorem strOk_of (s : String) : PyData.strOk (Str.ofString s) = true := by
  rw [strOk_list, PyProof.Rows.signs_ofString, List.all_map, List.all_eq_true]
  exact fun c _ => decide_eq_true (char_lt c)
theorem strOk_app {a b : Str} (ha : PyData.strOk a = true) (hb : PyData.strOk b = true) : PyData.strOk (a ++ b) = true := by
  rw [strOk_list] at ha hb ⊢
  rw [PyProof.Rows.cps_toList_append, List.all_append, ha, hb]
  rfl
theorem gEq_str {z : Str} (k : PyData.strOk z = true) : gEq (.str z) (.str z) = some (.bl true) := by
  have e : eqD (.str z) (.str z) = (match PyData.strOk z, PyData.strOk z with
    | true, true => some (z == z)
    | _, _ => none) := rfl
  unfold gEq
  rw [e, k, beq_self_eq_true]
  rfl
theorem same_str {z : Str} (h : PyData.strOk z = true) : m__law_same [.str z, .str z] = .ok (.bl true) := by
  have t1 : PV.tB (e1 (gIsT .tup) (eVar 1)) (PV.envOf 3 [.str z, .str z]) = .ok (false, PV.envOf 3 [.str z, .str z]) := tB_of (e1_of (var_of rfl) rfl)
  have t2 : PV.tB (e1 (gIsT .str) (eVar 1)) (PV.envOf 3 [.str z, .str z]) = .ok (true, PV.envOf 3 [.str z, .str z]) := tB_of (e1_of (var_of rfl) rfl)
  refine (seq_run (if_no t1)).trans ?_
  unfold runF sSeq sIf
  rw [sDo_of t2]
  have e : sRet (eAnd (e1 (gIsT .str) (eVar 0)) (e2 gEq (eVar 0) (eVar 1))) (PV.envOf 3 [.str z, .str z]) = .rt (.bl true) (PV.envOf 3 [.str z, .str z]) := by
    unfold sRet
    exact sDo_of (eAnd_t (e1_of (var_of rfl) rfl) (e2_of (var_of rfl) (var_of rfl) (gEq_str h)))
  simp only [if_true, e]
theorem rtx_ok : PyData.strOk (rtx N E) = true := by
  unfold rtx
  split
  · exact strOk_of _
  · exact strOk_app (strOk_of _) (strOk_app (strOk_of _) (strOk_of _))
end
end
end K02

open PySem PySem.Spec
open PyProof.Rows L2
set_option Elab.async false
set_option linter.all false
set_option maxRecDepth 100000
set_option maxHeartbeats 0
namespace K02
open PV
noncomputable section
/-! ### common divisors of great numbers: the steps are few -/
theorem half_mod {b r : Nat} (h0 : 0 < r) (h : r < b) : 2 * (b % r) < b := by
  have h1 := Nat.mod_lt b h0
  have h2 := Nat.div_add_mod b r
  have h3 : 1 ≤ b / r := (Nat.one_le_div_iff h0).mpr (by omega)
  have h4 : r * 1 ≤ r * (b / r) := Nat.mul_le_mul_left r h3
  omega
theorem fmod_nat (a b : Nat) : Int.fmod (a : Int) (b : Int) = ((a % b : Nat) : Int) := by
  rw [Int.fmod_eq_emod_of_nonneg (hb := by omega)]
  exact (Int.natCast_emod a b).symm
theorem cstep {n a b : Nat} (hb : b ≠ 0) : whileN ct cb (n + 1) [some (.int a), some (.int b)] = whileN ct cb n [some (.int b), some (.int ((a % b : Nat) : Int))] := by
  have ht := ct_ok a b
  rw [decide_eq_true (show (0 : Int) < b by omega)] at ht
  rw [whileN_t ht (cb_ok a b (by omega)), fmod_nat]
theorem cstop {n a : Nat} : whileN ct cb (n + 1) [some (.int a), some (.int ((0 : Nat) : Int))] = .nx [some (.int a), some (.int 0)] := whileN_f (ct_ok a 0)
theorem gcd_step (a b : Nat) : Nat.gcd b (a % b) = Nat.gcd a b := by rw [Nat.gcd_comm a b, Nat.gcd_rec b a, Nat.gcd_comm]
theorem cbig : ∀ (k n a b : Nat), b < 2 ^ k → 2 * k + 1 ≤ n → whileN ct cb n [some (.int a), some (.int b)] = .nx [some (.int ((Nat.gcd a b : Nat) : Int)), some (.int 0)]
  | k, 0, _, _, _, h => by omega
  | 0, n + 1, a, b, hb, _ => by
    have z : b = 0 := by rw [Nat.pow_zero] at hb; omega
    rw [z, Nat.gcd_zero_right]
    exact cstop
  | k + 1, n + 1, a, b, hb, hn => by
    by_cases z : b = 0
    · rw [z, Nat.gcd_zero_right]
      exact cstop
    · rw [cstep z]
      obtain ⟨m, en⟩ : ∃ m, n = m + 1 := ⟨n - 1, by omega⟩
      subst en
      by_cases y : a % b = 0
      · have g := gcd_step a b
        rw [y, Nat.gcd_zero_right] at g
        rw [y, ← g]
        exact cstop
      · have lt := Nat.mod_lt a (show 0 < b by omega)
        have half := half_mod (show 0 < a % b by omega) lt
        rw [cstep y, cbig k m _ _ (by rw [Nat.pow_succ] at hb; omega) (by omega), gcd_step, gcd_step]
theorem common_big (a b : Int) (hb : b.natAbs < 2 ^ 2000) : m_common [.int a, .int b] = .ok (.int (Int.gcd a b)) := by
  have ea : (if a < 0 then -a else a) = ((a.natAbs : Nat) : Int) := by split <;> omega
  have eb : (if b < 0 then -b else b) = ((b.natAbs : Nat) : Int) := by split <;> omega
  have hw := cbig 2000 fuelW a.natAbs b.natAbs hb (by decide)
  have e : s_common (PV.envOf 2 [.int a, .int b]) = .rt (.int (Int.gcd a b)) [some (.int (Int.gcd a b)), some (.int 0)] := by
    unfold s_common
    have e1 : sPar [0, 1] (aCons (e1L gAbs (eVar 0)) (aCons (e1L gAbs (eVar 1)) (aNil))) (PV.envOf 2 [.int a, .int b]) = .nx [some (.int a.natAbs), some (.int b.natAbs)] := by
      simp [sPar, sDo, e1L, eL, PV.g1, gAbs, M.bind, M.ofO, M.pure, eVar, look_zero, look_succ, aCons, aNil, setAll, put_eq, PV.envOf, ea, eb]
    rw [sSeq_of e1]
    exact (sSeq_of (a := sWhile ct cb) (show sWhile ct cb _ = _ from hw)).trans rfl
  unfold m_common runF
  rw [e]
/-- the law's own way, of numbers from 0 on -/
theorem lstep {n a b : Nat} (hb : b ≠ 0) : whileN lt_ lb (n + 1) [some (.int a), some (.int b)] = whileN lt_ lb n [some (.int b), some (.int ((a % b : Nat) : Int))] := by
  have ht := lt_ok a b
  rw [decide_eq_false (show ¬ (b : Int) = 0 by omega)] at ht
  rw [whileN_t ht (lb_ok a b (by omega)), fmod_nat]
theorem lstop {n a : Nat} : whileN lt_ lb (n + 1) [some (.int a), some (.int ((0 : Nat) : Int))] = .nx [some (.int a), some (.int 0)] := whileN_f (lt_ok a 0)
theorem lbig : ∀ (k n a b : Nat), b < 2 ^ k → 2 * k + 1 ≤ n → whileN lt_ lb n [some (.int a), some (.int b)] = .nx [some (.int ((Nat.gcd a b : Nat) : Int)), some (.int 0)]
  | k, 0, _, _, _, h => by omega
  | 0, n + 1, a, b, hb, _ => by
    have z : b = 0 := by rw [Nat.pow_zero] at hb; omega
    rw [z, Nat.gcd_zero_right]
    exact lstop
  | k + 1, n + 1, a, b, hb, hn => by
    by_cases z : b = 0
    · rw [z, Nat.gcd_zero_right]
      exact lstop
    · rw [lstep z]
      obtain ⟨m, en⟩ : ∃ m, n = m + 1 := ⟨n - 1, by omega⟩
      subst en
      by_cases y : a % b = 0
      · have g := gcd_step a b
        rw [y, Nat.gcd_zero_right] at g
        rw [y, ← g]
        exact lstop
      · have lt := Nat.mod_lt a (show 0 < b by omega)
        have half := half_mod (show 0 < a % b by omega) lt
        rw [lstep y, lbig k m _ _ (by rw [Nat.pow_succ] at hb; omega) (by omega), gcd_step, gcd_step]
theorem lcommon_big (a b : Nat) (hb : b < 2 ^ 2000) : m__law_common [.int a, .int b] = .ok (.int ((Nat.gcd a b : Nat) : Int)) := by
  have hw := lbig 2000 fuelW a b hb (by decide)
  have nn : ¬ (((Nat.gcd a b : Nat) : Int) < 0) := by omega
  have e : s__law_common (PV.envOf 2 [.int a, .int b]) = .rt (.int ((Nat.gcd a b : Nat) : Int)) [some (.int ((Nat.gcd a b : Nat) : Int)), some (.int 0)] := by
    unfold s__law_common
    refine (sSeq_of (a := sWhile lt_ lb) (show sWhile lt_ lb _ = _ from hw)).trans ?_
    simp [sRet, sDo, e1L, eL, PV.g1, gAbs, M.bind, M.ofO, M.pure, eVar, look_zero, look_succ, aCons, aNil, nn]
  unfold m__law_common runF
  rw [e]
/-- a Ratio of great numbers -/
theorem init_big (n d : Int) (h : d ≠ 0) (hs : d.natAbs < 2 ^ 2000) : ∃ N E, Low n d N E ∧ m_Ratio___init__ [.obj "Ratio" [], .int n, .int d] = .ok (.non, [rat N E]) := by
  refine ⟨_, _, low_ex n d h, ?_⟩
  have gp : 0 < Int.gcd n d := Int.gcd_pos_of_ne_zero_right n h
  have gl : Int.gcd n d ≤ d.natAbs := Int.gcd_le_natAbs_right n h
  have gz : ((Int.gcd n d : Nat) : Int) ≠ 0 := by omega
  have gg : (0 : Int) < ((Int.gcd n d : Nat) : Int) := by omega
  have lg : ((Int.gcd n d : Nat) : Int).natAbs.log2 < 9000 := by
    rw [Int.natAbs_natCast]
    refine (Nat.log2_lt (by omega)).mpr (Nat.lt_of_le_of_lt gl (Nat.lt_of_lt_of_le hs (Nat.pow_le_pow_right (by decide) (by decide))))
  have dv : ∀ x : Int, gDiv (.int x) (.int (Int.gcd n d : Nat)) = some (.int (x.fdiv (Int.gcd n d : Nat))) := fun x => by
    show (if _ then _ else if _ then _ else if _ then _ else _) = _
    rw [if_neg gz]
    split
    · rfl
    · rw [if_pos ⟨gg, lg⟩]
  have hc := common_big n d hs
  have ii := isint_ok
  generalize (Int.gcd n d : Nat) = g at *
  unfold m_Ratio___init__ runB s_Ratio___init__
  by_cases hp : 0 < d
  all_goals simp [sSeq, sIf, sDo, PV.tOr, PV.tNot, PV.tB, e1, e2, e1L, eL, PV.g1, eCall, M.lift, M.bind, M.ofO, M.pure, eVar, eC, look_zero, look_succ, aCons, aNil, PV.envOf, ii, asBl, sNx, eq0_ok, h, sAsg, put_eq, hc, sFldS, eIf, gGt, hp, dv, gAbs, gNeg, putA, endR, outsOf, rat, nd_ne]
theorem mk_big (n d : Int) (h : d ≠ 0) (hs : d.natAbs < 2 ^ 2000) : ∃ N E, Low n d N E ∧ mk n d = .ok (rat N E) := by
  obtain ⟨N, E, l, e⟩ := init_big n d h hs
  exact ⟨N, E, l, by unfold mk; rw [e]; rfl⟩
end
end K02

open PySem PySem.Spec
open PyProof.Rows L2
set_option Elab.async false
set_option linter.all false
set_option maxRecDepth 100000
set_option maxHeartbeats 0
namespace K02
open PV PySem.NumText
/-! ### digits -/
def dl (n : Nat) : List Nat := (Nat.toDigits 10 n).map Char.toNat
theorem dchar {n : Nat} (h : n < 10) : (Nat.digitChar n).toNat = 48 + n := by
  have : n = 0 ∨ n = 1 ∨ n = 2 ∨ n = 3 ∨ n = 4 ∨ n = 5 ∨ n = 6 ∨ n = 7 ∨ n = 8 ∨ n = 9 := by omega
  rcases this with rfl | rfl | rfl | rfl | rfl | rfl | rfl | rfl | rfl | rfl <;> rfl
theorem dl_small {n : Nat} (h : n < 10) : dl n = [48 + n] := by
  unfold dl
  rw [Nat.toDigits_of_lt_base h, List.map_cons, dchar h]
  rfl
theorem dl_big {n : Nat} (h : ¬ n < 10) : dl n = dl (n / 10) ++ [48 + n % 10] := by
  unfold dl
  rw [Nat.toDigits_eq_if (by decide), if_neg h, List.map_append, List.map_cons, dchar (Nat.mod_lt n (by decide))]
  rfl
theorem val_app (l : List Nat) (c : Nat) : digitsVal (l ++ [c]) = digitsVal l * 10 + (c - 48) := by
  unfold digitsVal
  rw [List.foldl_append]
  rfl
/-- a number as it is written: no 0 ahead of others -/
structure Good (l : List Nat) : Prop where
  dig : AllDigits l
  ne : l ≠ []
  lead : l.head? = some 48 → l = [48]
theorem dl_ok : ∀ n : Nat, Good (dl n) ∧ digitsVal (dl n) = n ∧ (n ≠ 0 → (dl n).head? ≠ some 48) := by
  intro n0
  refine Nat.strongRecOn n0 fun n ih => ?_
  · skip
    by_cases h : n < 10
    · rw [dl_small h]
      refine ⟨⟨fun c hc => ?_, by simp, fun z => ?_⟩, ?_, fun z w => ?_⟩
      · rw [List.mem_singleton] at hc
        omega
      · simp at z
        rw [z]
      · unfold digitsVal
        simp
      · simp at w
        omega
    · obtain ⟨⟨d1, d2, d3⟩, v, hd⟩ := ih (n / 10) (by omega)
      have q : n / 10 ≠ 0 := by omega
      have hd := hd q
      rw [dl_big h]
      have hh : (dl (n / 10) ++ [48 + n % 10]).head? = (dl (n / 10)).head? := by
        cases e : dl (n / 10) with
        | nil => exact absurd e d2
        | cons x r => rfl
      refine ⟨⟨fun c hc => ?_, by simp, fun z => ?_⟩, ?_, fun z w => ?_⟩
      · rcases List.mem_append.mp hc with hc | hc
        · exact d1 c hc
        · rw [List.mem_singleton] at hc
          omega
      · rw [hh] at z
        exact absurd z hd
      · rw [val_app, v]
        omega
      · rw [hh] at w
        exact hd w
theorem good_dl : ∀ (k : Nat) (l : List Nat), l.length = k → Good l → dl (digitsVal l) = l := by
  intro k
  induction k with
  | zero =>
    intro l hl g
    exact absurd (List.length_eq_zero_iff.mp hl) g.ne
  | succ k ih =>
    intro l hl g
    obtain ⟨p, c, rfl⟩ : ∃ p c, l = p ++ [c] := ⟨l.dropLast, l.getLast g.ne, (List.dropLast_concat_getLast g.ne).symm⟩
    have hc := g.dig c (List.mem_append.mpr (.inr (List.mem_singleton.mpr rfl)))
    cases p with
    | nil =>
      show dl (digitsVal ([] ++ [c])) = _
      rw [val_app, show digitsVal [] = 0 from rfl, dl_small (by omega)]
      simp
      omega
    | cons x r =>
      have lead : x ≠ 48 := fun w => by
        have one := g.lead (by rw [w]; rfl)
        simp at one
      have g' : Good (x :: r) := ⟨fun y hy => g.dig y (List.mem_append.mpr (.inl hy)), by simp, fun w => by
        simp at w
        exact absurd w lead⟩
      have sub := ih (x :: r) (by simpa using hl) g'
      have pos : digitsVal (x :: r) ≠ 0 := fun w => by
        rw [w, dl_small (by decide)] at sub
        simp at sub
        exact lead sub.1.symm
      rw [val_app, dl_big (by omega)]
      rw [show (digitsVal (x :: r) * 10 + (c - 48)) / 10 = digitsVal (x :: r) by omega, sub, show 48 + (digitsVal (x :: r) * 10 + (c - 48)) % 10 = c by omega]
theorem good_iff {l : List Nat} (h : AllDigits l) (ne : l ≠ []) : dl (digitsVal l) = l ↔ Good l :=
  ⟨fun e => by rw [← e]; exact (dl_ok _).1, fun g => good_dl _ l rfl g⟩
/-! an int's text -/
theorem repr_nat (n : Nat) : (toString (n : Int)).toList = Nat.toDigits 10 n := by
  show (Nat.repr n).toList = _
  unfold Nat.repr
  exact String.toList_ofList
theorem text_nat (n : Nat) : (Str.ofString (toString (n : Int))).cps.toList = dl n := by
  rw [signs_ofString, repr_nat]
  rfl
theorem text_neg {n : Nat} (h : n ≠ 0) : (Str.ofString (toString (-(n : Int)))).cps.toList = 45 :: dl n := by
  obtain ⟨m, en⟩ : ∃ m, n = m + 1 := ⟨n - 1, by omega⟩
  subst en
  have e : toString (-((m + 1 : Nat) : Int)) = "-" ++ Nat.repr (m + 1) := rfl
  rw [signs_ofString, e, String.toList_append, List.map_append]
  unfold Nat.repr
  rw [show (String.ofList (Nat.toDigits 10 (m + 1))).toList = Nat.toDigits 10 (m + 1) from String.toList_ofList]
  rfl
end K02

open PySem PySem.Spec
open PyProof.Rows L2
set_option Elab.async false
set_option linter.all false
set_option maxRecDepth 100000
set_option maxHeartbeats 0
namespace K02
open PV
/-! ### texts taken apart at a sign -/
abbrev tl (z : Str) : List Nat := z.cps.toList
theorem str_ext {x y : Str} (h : tl x = tl y) : x = y := PyProof.Rows.str_eq_of_lists h
theorem tl_app (x y : Str) : tl (x ++ y) = tl x ++ tl y := PyProof.Rows.cps_toList_append x y
/-- the pieces between the signs c -/
def pieces (c : Nat) : List Nat → List (List Nat)
  | [] => [[]]
  | x :: r => if x = c then [] :: pieces c r else match pieces c r with
    | [] => [[x]]
    | p :: ps => (x :: p) :: ps
theorem pieces_ne (c : Nat) : ∀ l, pieces c l ≠ []
  | [] => by simp [pieces]
  | x :: r => by
    unfold pieces
    split
    · simp
    · split <;> simp
def glue (c : Nat) : List (List Nat) → List Nat
  | [] => []
  | [p] => p
  | p :: q :: r => p ++ c :: glue c (q :: r)
theorem pieces_free {c : Nat} : ∀ {l : List Nat}, c ∉ l → pieces c l = [l]
  | [], _ => rfl
  | x :: r, h => by
    have h1 : x ≠ c := fun z => h (by rw [z]; exact List.mem_cons_self)
    have h2 : c ∉ r := fun z => h (List.mem_cons_of_mem _ z)
    unfold pieces
    rw [if_neg h1, pieces_free h2]
theorem pieces_app {c : Nat} : ∀ {l r : List Nat}, c ∉ l → pieces c (l ++ c :: r) = l :: pieces c r
  | [], r, _ => by
    show pieces c (c :: r) = _
    rw [pieces, if_pos rfl]
  | x :: l, r, h => by
    have h1 : x ≠ c := fun z => h (by rw [z]; exact List.mem_cons_self)
    have h2 : c ∉ l := fun z => h (List.mem_cons_of_mem _ z)
    show pieces c (x :: (l ++ c :: r)) = _
    rw [pieces, if_neg h1, pieces_app h2]
theorem pieces_glue {c : Nat} : ∀ {ps : List (List Nat)}, ps ≠ [] → (∀ p ∈ ps, c ∉ p) → pieces c (glue c ps) = ps
  | [], h, _ => absurd rfl h
  | [p], _, f => pieces_free (f p List.mem_cons_self)
  | p :: q :: r, _, f => by
    show pieces c (p ++ c :: glue c (q :: r)) = _
    rw [pieces_app (f p List.mem_cons_self), pieces_glue (by simp) fun z hz => f z (List.mem_cons_of_mem _ hz)]
theorem tl_join (c : Nat) : ∀ ts : List Str, tl (Str.join ⟨#[c]⟩ ts) = glue c (ts.map tl)
  | [] => rfl
  | [t] => rfl
  | t :: u :: r => by
    have ih := tl_join c (u :: r)
    show tl (t ++ ⟨#[c]⟩ ++ Str.join ⟨#[c]⟩ (u :: r)) = _
    rw [tl_app, tl_app, ih, List.append_assoc]
    rfl
theorem split_pieces (x : Str) (c : Nat) : (Txt.split x ⟨#[c]⟩).map tl = pieces c (tl x) := by
  have h1 := PySem.StrLaws.join_split x ⟨#[c]⟩
  have h2 := PySem.StrLaws.split_free x c
  have h3 := PyProof.Rows.split_pos x ⟨#[c]⟩
  have e := tl_join c (Txt.split x ⟨#[c]⟩)
  rw [h1] at e
  rw [e, pieces_glue]
  · intro z
    rw [List.map_eq_nil_iff] at z
    rw [z] at h3
    simp at h3
  · intro p hp
    obtain ⟨q, hq, rfl⟩ : ∃ q, _ := List.mem_map.mp hp
    exact h2 q hq
/-- the first sign c parts a text, if it is there -/
theorem part_cases (x : Str) (c : Nat) (hk : Builtin.Str.strKind ⟨#[c]⟩ = 1) : (c ∉ tl x ∧ Txt.partition x ⟨#[c]⟩ = (x, Str.empty, Str.empty)) ∨ ∃ a b : Str, c ∉ tl a ∧ tl x = tl a ++ c :: tl b ∧ Txt.partition x ⟨#[c]⟩ = (a, ⟨#[c]⟩, b) := by
  rcases PySem.StrLaws.occ_head x ⟨#[c]⟩ 1 (by omega) with ⟨h0, hn⟩ | ⟨i, r, h0, hi, hn⟩
  · left
    refine ⟨fun m => ?_, by unfold Txt.partition; rw [h0]⟩
    obtain ⟨j, hj⟩ := List.getElem?_of_mem m
    exact hn j ((PySem.StrLaws.subAt_one x c j).mpr hj)
  · right
    have at_ := (PySem.StrLaws.subAt_one x c i).mp hi
    have sum := PySem.StrLaws.partition_sum x ⟨#[c]⟩
    have e : Txt.partition x ⟨#[c]⟩ = (Builtin.Str.strSub x 0 i, ⟨#[c]⟩, Builtin.Str.strSub x (i + (⟨#[c]⟩ : Str).length) x.length) := by
      unfold Txt.partition
      rw [h0]
    rw [e] at sum
    refine ⟨_, _, fun m => ?_, ?_, e⟩
    · obtain ⟨j, hj⟩ := List.getElem?_of_mem m
      rw [show tl (Builtin.Str.strSub x 0 i) = _ from PySem.StrLaws.strSub_toList x 0 i, List.drop_zero, Nat.sub_zero] at hj
      rw [List.getElem?_take] at hj
      split at hj
      · rename_i lt
        exact hn j lt ((PySem.StrLaws.subAt_one x c j).mpr hj)
      · cases hj
    · conv => lhs; rw [← sum]
      rw [tl_app, tl_app, List.append_assoc]
      rfl
end K02

open PySem PySem.Spec
open PyProof.Rows L2
set_option Elab.async false
set_option linter.all false
set_option maxRecDepth 100000
set_option maxHeartbeats 0
namespace K02
open PV PySem.NumText
noncomputable section
/-! ### what _law_is_text tells of a text -/
theorem ok_sub {z p : Str} (h : PyData.strOk z = true) (s : ∀ c ∈ tl p, c ∈ tl z) : PyData.strOk p = true := by
  rw [strOk_list, List.all_eq_true] at h ⊢
  exact fun c hc => h c (s c hc)
theorem eqS_of {x y : Str} (hx : PyData.strOk x = true) (hy : PyData.strOk y = true) : gEq (.str x) (.str y) = some (.bl (x == y)) := by
  have e : eqD (.str x) (.str y) = (match PyData.strOk x, PyData.strOk y with
    | true, true => some (x == y)
    | _, _ => none) := rfl
  unfold gEq
  rw [e, hx, hy]
  rfl
theorem take_min {l : List Nat} {k : Nat} : l.take (min k l.length) = l.take k := by
  rw [List.take_eq_take_iff]
  omega
theorem len_tl (z : Str) : z.length = (tl z).length := by show z.cps.size = _; simp
theorem cut_to (z : Str) (k : Nat) : tl (cutS z none (some (k : Int))) = (tl z).take k := by
  show (cutS z none (some (k : Int))).cps.toList = _
  unfold cutS
  rw [HT.sIx_nat, HT.sIx_none, Nat.sub_zero, List.drop_zero, len_tl]
  exact take_min
theorem cut_from (z : Str) (k : Nat) : tl (cutS z (some (k : Int)) none) = (tl z).drop k := by
  show (cutS z (some (k : Int)) none).cps.toList = _
  unfold cutS
  rw [HT.sIx_nat, HT.sIx_none, len_tl]
  by_cases h : k ≤ (tl z).length
  · rw [Nat.min_eq_left h]
    exact List.take_of_length_le (Nat.le_of_eq (by simp))
  · rw [Nat.min_eq_right (by omega), List.drop_eq_nil_of_le (show (tl z).length ≤ k by omega)]
    simp
/-! lists of truths -/
theorem bls_map {α : Type} (b : α → Bool) : ∀ ds : List α, blsOf (ds.map fun d => D.bl (b d)) = some (ds.map b)
  | [] => rfl
  | d :: r => by
    have ih := bls_map b r
    show (blsOf (r.map fun d => D.bl (b d))).map (b d :: ·) = _
    rw [ih]
    rfl
theorem all_map {α : Type} (b : α → Bool) (ds : List α) : gAll (.lst (ds.map fun d => D.bl (b d))) = some (.bl (ds.all b)) := by
  show (blsOf (ds.map fun d => D.bl (b d))).map (fun bs => D.bl (bs.all id)) = _
  rw [bls_map, Option.map_some, List.all_map]
  rfl
theorem any_map {α : Type} (b : α → Bool) (ds : List α) : gAny (.lst (ds.map fun d => D.bl (b d))) = some (.bl (ds.any b)) := by
  show (blsOf (ds.map fun d => D.bl (b d))).map (fun bs => D.bl (bs.any id)) = _
  rw [bls_map, Option.map_some, List.any_map]
  rfl
theorem eOr_t {fa fb : M D} {ρ ρ1 : PV.Env} (h : fa ρ = .ok (.bl true, ρ1)) : eOr fa fb ρ = .ok (.bl true, ρ1) := by
  unfold eOr
  rw [M.bind_of h]
  rfl
theorem eOr_f {fa fb : M D} {ρ ρ1 ρ2 : PV.Env} {v : D} (h : fa ρ = .ok (.bl false, ρ1)) (k : fb ρ1 = .ok (v, ρ2)) : eOr fa fb ρ = .ok (v, ρ2) := by
  unfold eOr
  rw [M.bind_of h]
  exact k
theorem eNot_of {fa : M D} {ρ ρ1 : PV.Env} {b : Bool} (h : fa ρ = .ok (.bl b, ρ1)) : eNot fa ρ = .ok (.bl (!b), ρ1) := by
  exact e1_of h rfl
/-! the signs of a text -/
def dig (c : Nat) : Bool := decide (48 ≤ c ∧ c ≤ 57)
theorem in_digits (c : Nat) : gInT (.str ⟨#[c]⟩) (.str "0123456789") = some (.bl (dig c)) := by
  show some (D.bl (!(Builtin.Str.occurrences (Str.ofString "0123456789") ⟨#[c]⟩ 0 (Str.ofString "0123456789").length 1).isEmpty)) = _
  rw [PySem.StrLaws.found_one]
  have e : (Str.ofString "0123456789").cps.toList = [48, 49, 50, 51, 52, 53, 54, 55, 56, 57] := by decide
  rw [e]
  unfold dig
  congr 2
  rw [decide_eq_decide]
  simp only [List.mem_cons, List.not_mem_nil, or_false]
  omega
def sgns (p : Str) : List D := (tl p).map fun c => D.str ⟨#[c]⟩
theorem digs_of {p : Str} {ρ : PV.Env} {v w : Nat} (hp : look ρ v = some (.str p)) (hw : w < ρ.length) (hn : w ≠ v) (hl : p.length ≤ 100000) : e1L gAll (eLc [w] (iStrM (eVar v)) (tgName w) tTrue (e2 gInT (eVar w) (eC (.str "0123456789")))) ρ = .ok (.bl ((tl p).all dig), ρ) := by
  have it : iStrM (eVar v) ρ = .ok (sgns p, ρ) := by
    unfold iStrM
    rw [M.bind_of (var_of hp)]
    rfl
  refine e1L_of (eLc_map (v := w) (h := fun d => match d with
    | .str s => .bl (dig (s.cps.toList.headD 0))
    | _ => .non) it ?_ ?_) ?_
  · unfold sgns
    rw [List.length_map, ← len_tl]
    exact hl
  · intro d hd
    obtain ⟨c, hc, rfl⟩ := List.mem_map.mp hd
    have l : look (ρ.set w (some (.str ⟨#[c]⟩))) w = some (.str ⟨#[c]⟩) := by rw [look_set, if_pos rfl, if_pos hw]
    exact e2_of (var_of l) rfl (in_digits c)
  · unfold sgns
    rw [List.map_map]
    exact (all_map dig (tl p))
end
end K02

open PySem PySem.Spec
open PyProof.Rows L2
set_option Elab.async false
set_option linter.all false
set_option maxRecDepth 100000
set_option maxHeartbeats 0
namespace K02
open PV PySem.NumText
noncomputable section
def badP (p : Str) : Bool := (p == Str.ofString "") || !(tl p).all dig
def leadP (p : Str) : Bool := decide (1 < p.length) && ((tl p).head? == some 48)
def bodyS (z : Str) : Str := if (cutS z none (some ((1 : Nat) : Int)) == Str.ofString "-") = true then cutS z (some ((1 : Nat) : Int)) none else z
def partsS (z : Str) : List Str := Txt.split (bodyS z) ⟨#[47]⟩
def lastB (ps : List Str) : Bool := match ps with
  | [a, b] => decide (1 < digitsVal (tl b)) && decide (Nat.gcd (digitsVal (tl a)) (digitsVal (tl b)) = 1)
  | _ => false
def itx (z : Str) : Bool := if decide (400 < z.length) || (decide (2 < (partsS z).length) || (partsS z).any badP) then false
  else if (partsS z).any leadP || (cutS z none (some ((2 : Nat) : Int)) == Str.ofString "-0") then false
  else if (partsS z).length = 1 then true else lastB (partsS z)
theorem len_of {p : Str} {ρ : PV.Env} {v : Nat} (hp : look ρ v = some (.str p)) (hl : p.length ≤ 100000) : e1L gLen (eVar v) ρ = .ok (.int (p.length : Nat), ρ) := e1L_of (var_of hp) (if_pos (decide_eq_true hl))
theorem slash : Str.ofString "/" = ⟨#[47]⟩ := by decide
theorem empty_lit : PyData.strOk (Str.ofString "") = true := strOk_of ""
section
variable {ρ : PV.Env} {ps : List Str}
theorem seq_strs (h : look ρ 2 = some (.lst (ps.map .str))) : iSeqM (eVar 2) ρ = .ok (ps.map .str, ρ) := by
  unfold iSeqM
  rw [M.bind_of (var_of h)]
  rfl
theorem any_strs {f : M D} {b : Str → Bool} (h : look ρ 2 = some (.lst (ps.map .str))) (hl : ps.length ≤ 100000) (hf : ∀ p ∈ ps, f (ρ.set 3 (some (.str p))) = .ok (.bl (b p), ρ.set 3 (some (.str p)))) : e1L gAny (eLc [3] (iSeqM (eVar 2)) (tgName 3) tTrue f) ρ = .ok (.bl (ps.any b), ρ) := by
  refine e1L_of (eLc_map (v := 3) (h := fun d => match d with
    | .str s => .bl (b s)
    | _ => .non) (seq_strs h) (by rw [List.length_map]; exact hl) fun d hd => ?_) ?_
  · obtain ⟨p, hp, rfl⟩ := List.mem_map.mp hd
    exact hf p hp
  · rw [List.map_map]
    exact any_map b ps
theorem bad_of {p : Str} (hl : 4 < ρ.length) (hp : PyData.strOk p = true) (hs : p.length ≤ 100000) : eOr (e2 gEq (eVar 3) (eC (.str ""))) (eNot (e1L gAll (eLc [4] (iStrM (eVar 3)) (tgName 4) tTrue (e2 gInT (eVar 4) (eC (.str "0123456789")))))) (ρ.set 3 (some (.str p))) = .ok (.bl (badP p), ρ.set 3 (some (.str p))) := by
  have l3 : look (ρ.set 3 (some (.str p))) 3 = some (.str p) := by rw [look_set, if_pos rfl, if_pos (by omega)]
  have q := e2_of (var_of l3) (rfl : eC (.str "") _ = _) (eqS_of hp empty_lit)
  unfold badP
  cases e : (p == Str.ofString "") with
  | true =>
    rw [e] at q
    exact eOr_t q
  | false =>
    rw [e] at q
    exact eOr_f q (eNot_of (digs_of l3 (by rw [List.length_set]; exact hl) (by decide) hs))
theorem lead_of {p : Str} (hl : 4 < ρ.length) (hp : PyData.strOk p = true) (hs : p.length ≤ 100000) : eAnd (e2 gGt (e1L gLen (eVar 3)) (eC (.int 1))) (e2 gEq (e2 gIx (eVar 3) (eC (.int 0))) (eC (.str "0"))) (ρ.set 3 (some (.str p))) = .ok (.bl (leadP p), ρ.set 3 (some (.str p))) := by
  have l3 : look (ρ.set 3 (some (.str p))) 3 = some (.str p) := by rw [look_set, if_pos rfl, if_pos (by omega)]
  have g := gtI_of (len_of l3 hs) (rfl : eC (.int 1) _ = _)
  unfold leadP
  have zl := len_tl p
  by_cases h : 1 < p.length
  · rw [decide_eq_true (show (1 : Int) < ((p.length : Nat) : Int) by omega)] at g
    rw [decide_eq_true h, Bool.true_and]
    cases e : tl p with
    | nil => rw [e] at zl; simp at zl; omega
    | cons c r =>
      have ix : gIx (.str p) (.int 0) = some (.str ⟨#[c]⟩) := by
        show (if small p.length = true then (atI p.cps.toList 0).map fun n => D.str ⟨#[n]⟩ else none) = _
        rw [if_pos (show small p.length = true from decide_eq_true hs), show p.cps.toList = c :: r from e]
        simp [atI, ixN]
      have okc : PyData.strOk ⟨#[c]⟩ = true := ok_sub hp fun x hx => by
        rw [e]
        have : x = c := by simpa using hx
        rw [this]
        exact List.mem_cons_self
      refine (eAnd_t g (e2_of (e2_of (var_of l3) rfl ix) rfl (eqS_of okc (strOk_of "0")))).trans ?_
      have same : ((⟨#[c]⟩ : Str) == Str.ofString "0") = ((c :: r).head? == some 48) := by
        rw [show Str.ofString "0" = ⟨#[48]⟩ by decide]
        by_cases z : c = 48
        · rw [z]; simp
        · have ne : (⟨#[c]⟩ : Str) ≠ ⟨#[48]⟩ := fun w => z (by injection w with w; simpa using w)
          rw [beq_eq_false_iff_ne.mpr ne]
          simp [z]
      rw [same]
  · rw [decide_eq_false (show ¬ (1 : Int) < ((p.length : Nat) : Int) by omega)] at g
    rw [decide_eq_false h, Bool.false_and]
    exact eAnd_f g
end
end
end K02

open PySem PySem.Spec
open PyProof.Rows L2
set_option Elab.async false
set_option linter.all false
set_option maxRecDepth 100000
set_option maxHeartbeats 0
namespace K02
open PV PySem.NumText
noncomputable section
theorem tOr_of {t u : M Bool} {ρ : PV.Env} {b c : Bool} (h : t ρ = .ok (b, ρ)) (k : u ρ = .ok (c, ρ)) : PV.tOr t u ρ = .ok (b || c, ρ) := by
  cases b
  · exact tOr_f h k
  · unfold PV.tOr
    rw [M.bind_of h]
    rfl
theorem if_yes {t : M Bool} {ρ ρ1 : PV.Env} {v : D} (h : t ρ = .ok (true, ρ1)) : sIf t (sRet (eC v)) sNx ρ = .rt v ρ1 := by
  unfold sIf
  rw [sDo_of h]
  rfl
theorem seq_rt {s k : SM} {ρ ρ1 : PV.Env} {v : D} (h : s ρ = .rt v ρ1) : sSeq s k ρ = .rt v ρ1 := by
  unfold sSeq
  rw [h]
theorem run_rt {s : SM} {n : Nat} {ds : List D} {v : D} {ρ : PV.Env} (h : s (PV.envOf n ds) = .rt v ρ) : runF n 0 s ds = .ok v := by
  unfold runF
  rw [h]
theorem slS_of {fa : M D} {fl fh : M (Option Int)} {ρ : PV.Env} {z : Str} {l h : Option Int} (ha : fa ρ = .ok (.str z, ρ)) (hl : fl ρ = .ok (l, ρ)) (hh : fh ρ = .ok (h, ρ)) (hs : z.length ≤ 100000) : eSlS fa fl fh ρ = .ok (.str (cutS z l h), ρ) := by
  unfold eSlS
  rw [M.bind_of ha, M.bind_of hl, M.bind_of hh]
  show M.ofO (if small z.length = true then _ else _) ρ = _
  rw [if_pos (show small z.length = true from decide_eq_true hs)]
  rfl
theorem sm1_of {g : Str → D → Option D} {fo fe : M D} {ρ ρ1 ρ2 : PV.Env} {a : Str} {y v : D} (ho : fo ρ = .ok (.str a, ρ1)) (he : fe ρ1 = .ok (y, ρ2)) (hg : g a y = some v) : eSM1 g fo fe ρ = .ok (v, ρ2) := by
  unfold eSM1
  rw [M.bind_of ho]
  show (fe.bind fun y => M.ofO (g a y)) ρ1 = _
  rw [M.bind_of he, hg]
  rfl
theorem sub_body (z : Str) : ∀ c ∈ tl (bodyS z), c ∈ tl z := fun c hc => by
  unfold bodyS at hc
  split at hc
  · rw [cut_from] at hc
    exact List.mem_of_mem_drop hc
  · exact hc
theorem part_mem {x p : Str} {c : Nat} (h : p ∈ Txt.split x ⟨#[c]⟩) : ∀ d ∈ tl p, d ∈ tl x := fun d hd => by
  have e := PySem.StrLaws.join_split x ⟨#[c]⟩
  have m := (PyProof.Rows.mem_join ⟨#[c]⟩ d (Txt.split x ⟨#[c]⟩)).mpr (.inl ⟨p, h, hd⟩)
  rw [e] at m
  exact m
theorem body_len (z : Str) : (bodyS z).length ≤ z.length := by
  unfold bodyS
  split
  · exact cutS_length z _ _
  · exact Nat.le_refl _
theorem body_val {z : Str} {ρ : PV.Env} (h : look ρ 0 = some (.str z)) (hz : PyData.strOk z = true) (hl : z.length ≤ 90000) :
    eIf (PV.tB (e2 gEq (eSlS (eVar 0) (pNone) (pSome (eC (.int 1)))) (eC (.str "-")))) (eSlS (eVar 0) (pSome (eC (.int 1))) (pNone)) (eVar 0) ρ = .ok (.str (bodyS z), ρ) := by
  have okc : PyData.strOk (cutS z none (some ((1 : Nat) : Int))) = true := ok_sub hz fun c hc => by
    rw [cut_to] at hc
    exact List.mem_of_mem_take hc
  have t := tB_of (e2_of (slS_of (fl := pNone) (fh := pSome (eC (.int 1))) (l := none) (h := some ((1 : Nat) : Int)) (var_of h) rfl rfl (by omega)) (rfl : eC (.str "-") ρ = _) (eqS_of okc (strOk_of "-")))
  unfold bodyS
  cases e : (cutS z none (some ((1 : Nat) : Int)) == Str.ofString "-") with
  | true =>
    rw [e] at t
    rw [if_pos rfl]
    exact eIf_t t (slS_of (fl := pSome (eC (.int 1))) (fh := pNone) (l := some ((1 : Nat) : Int)) (h := none) (var_of h) rfl rfl (by omega))
  | false =>
    rw [e] at t
    rw [if_neg (by decide)]
    exact eIf_f t (var_of h)
theorem int_of {p : Str} (hd : AllDigits (tl p)) (hn : tl p ≠ []) (hl : p.length ≤ 400) : gIntT (.str p) = some (.int ((digitsVal (tl p) : Nat) : Int)) := by
  show (if p.length ≤ 640 then _ else _) = _
  rw [if_pos (by omega), intText_digits hd hn (by omega)]
  rfl
theorem dig_all {l : List Nat} (h : l.all dig = true) : AllDigits l := fun c hc => of_decide_eq_true (List.all_eq_true.mp h c hc)
end
end K02

open PySem PySem.Spec
open PyProof.Rows L2
set_option Elab.async false
set_option linter.all false
set_option maxRecDepth 100000
set_option maxHeartbeats 0
namespace K02
open PV PySem.NumText
noncomputable section
theorem fold_lt : ∀ (l : List Nat) (acc : Nat), AllDigits l → l.foldl (fun acc c => acc * 10 + (c - 48)) acc < (acc + 1) * 10 ^ l.length
  | [], acc, _ => by simp
  | c :: r, acc, h => by
    have hc := h c List.mem_cons_self
    have ih := fold_lt r (acc * 10 + (c - 48)) fun d hd => h d (List.mem_cons_of_mem _ hd)
    have up : (acc * 10 + (c - 48) + 1) * 10 ^ r.length ≤ ((acc + 1) * 10) * 10 ^ r.length := Nat.mul_le_mul_right _ (by omega)
    rw [List.foldl_cons, List.length_cons, Nat.pow_succ, Nat.mul_comm (10 ^ r.length) 10, ← Nat.mul_assoc]
    exact Nat.lt_of_lt_of_le ih up
theorem val_lt {l : List Nat} (h : AllDigits l) (hl : l.length ≤ 400) : digitsVal l < 10 ^ 400 := by
  have f := fold_lt l 0 h
  rw [Nat.zero_add, Nat.one_mul] at f
  exact Nat.lt_of_lt_of_le f (Nat.pow_le_pow_right (by decide) hl)
theorem istext_ok {z : Str} (hz : PyData.strOk z = true) (hl : z.length ≤ 90000) : m__law_is_text [.str z] = .ok (.bl (itx z)) := by
  have bl := body_len z
  have okb : PyData.strOk (bodyS z) = true := ok_sub hz (sub_body z)
  generalize hps : partsS z = ps
  have eps : Txt.split (bodyS z) ⟨#[47]⟩ = ps := hps
  have okp : ∀ p ∈ ps, PyData.strOk p = true ∧ p.length ≤ z.length := fun p hp => by
    rw [← eps] at hp
    exact ⟨ok_sub okb (part_mem hp), Nat.le_trans (PyProof.Rows.part_short hp) bl⟩
  have psl : ps.length ≤ 100000 := by
    have := PyProof.Rows.split_le (bodyS z) ⟨#[47]⟩
    rw [eps] at this
    omega
  have ps1 : 1 ≤ ps.length := by
    have := PyProof.Rows.split_pos (bodyS z) ⟨#[47]⟩
    rwa [eps] at this
  -- the two stores
  have s1 : sAsg 1 (eIf (PV.tB (e2 gEq (eSlS (eVar 0) (pNone) (pSome (eC (.int 1)))) (eC (.str "-")))) (eSlS (eVar 0) (pSome (eC (.int 1))) (pNone)) (eVar 0)) (PV.envOf 5 [.str z]) = .nx ((PV.envOf 5 [.str z]).set 1 (some (.str (bodyS z)))) := by
    rw [sAsg_def]
    exact sDo_of (body_val rfl hz hl)
  have s2 : sAsg 2 (eSM1 gSplit (eVar 1) (eC (.str "/"))) ((PV.envOf 5 [.str z]).set 1 (some (.str (bodyS z)))) = .nx (((PV.envOf 5 [.str z]).set 1 (some (.str (bodyS z)))).set 2 (some (.lst (ps.map .str)))) := by
    rw [sAsg_def]
    refine sDo_of (sm1_of (var_of rfl) rfl ?_)
    have e0 : gSplit (bodyS z) (.str (Str.ofString "/")) = some (.lst ((Txt.split (bodyS z) (Str.ofString "/")).map .str)) := if_pos ⟨by decide, decide_eq_true (by omega)⟩
    rw [e0, slash, eps]
  refine run_rt (ρ := ((PV.envOf 5 [.str z]).set 1 (some (.str (bodyS z)))).set 2 (some (.lst (ps.map .str)))) ?_
  unfold s__law_is_text
  rw [sSeq_of s1, sSeq_of s2]
  have l0 : look (((PV.envOf 5 [.str z]).set 1 (some (.str (bodyS z)))).set 2 (some (.lst (ps.map .str)))) 0 = some (.str z) := rfl
  have l2 : look (((PV.envOf 5 [.str z]).set 1 (some (.str (bodyS z)))).set 2 (some (.lst (ps.map .str)))) 2 = some (.lst (ps.map .str)) := rfl
  have len5 : 4 < (((PV.envOf 5 [.str z]).set 1 (some (.str (bodyS z)))).set 2 (some (.lst (ps.map .str)))).length := by
    rw [List.length_set, List.length_set]
    show 4 < 5
    decide
  generalize ((PV.envOf 5 [.str z]).set 1 (some (.str (bodyS z)))).set 2 (some (.lst (ps.map .str))) = ρ at *
  have lenps : e1L gLen (eVar 2) ρ = .ok (.int (ps.length : Nat), ρ) := e1L_of (var_of l2) (by show some (D.int ((ps.map D.str).length : Nat)) = _; rw [List.length_map])
  -- the first test
  have t1 := tOr_of (tB_of (gtI_of (len_of l0 (by omega)) (rfl : eC (.int 400) ρ = _))) (tOr_of (tB_of (gtI_of lenps (rfl : eC (.int 2) ρ = _))) (tB_of (any_strs (b := badP) l2 psl fun p hp => bad_of len5 (okp p hp).1 (by have := (okp p hp).2; omega))))
  have d1 : decide ((400 : Int) < ((z.length : Nat) : Int)) = decide (400 < z.length) := by rw [decide_eq_decide]; omega
  have d2 : decide ((2 : Int) < ((ps.length : Nat) : Int)) = decide (2 < ps.length) := by rw [decide_eq_decide]; omega
  rw [d1, d2] at t1
  unfold itx
  rw [hps]
  cases b1 : (decide (400 < z.length) || (decide (2 < ps.length) || ps.any badP)) with
  | true =>
    rw [b1] at t1
    rw [if_pos rfl]
    exact seq_rt (if_yes t1)
  | false =>
    rw [b1] at t1
    rw [if_neg (by decide), sSeq_of (if_no t1)]
    rw [Bool.or_eq_false_iff, Bool.or_eq_false_iff] at b1
    obtain ⟨c1, c2, c3⟩ := b1
    have c1 := of_decide_eq_false c1
    have c2 := of_decide_eq_false c2
    have ok2 : PyData.strOk (cutS z none (some ((2 : Nat) : Int))) = true := ok_sub hz fun c hc => by
      rw [cut_to] at hc
      exact List.mem_of_mem_take hc
    have t2 := tOr_of (tB_of (any_strs (b := leadP) l2 psl fun p hp => lead_of len5 (okp p hp).1 (by have := (okp p hp).2; omega))) (tB_of (e2_of (slS_of (fl := pNone) (fh := pSome (eC (.int 2))) (l := none) (h := some ((2 : Nat) : Int)) (var_of l0) rfl rfl (by omega)) (rfl : eC (.str "-0") ρ = _) (eqS_of ok2 (strOk_of "-0"))))
    cases b2 : (ps.any leadP || (cutS z none (some ((2 : Nat) : Int)) == Str.ofString "-0")) with
    | true =>
      rw [b2] at t2
      rw [if_pos rfl]
      exact seq_rt (if_yes t2)
    | false =>
      rw [b2] at t2
      rw [if_neg (by decide), sSeq_of (if_no t2)]
      have t3 := tB_of (eqI_of lenps (rfl : eC (.int 1) ρ = _))
      by_cases one : ps.length = 1
      · rw [decide_eq_true (show ((ps.length : Nat) : Int) = 1 by omega)] at t3
        rw [if_pos one]
        exact seq_rt (if_yes t3)
      · rw [decide_eq_false (show ¬ ((ps.length : Nat) : Int) = 1 by omega)] at t3
        rw [if_neg one, sSeq_of (if_no t3)]
        match ps, c2, ps1, one, c3, l2, okp with
        | [a, b], _, _, _, c3, l2, okp =>
          have fine : ∀ p ∈ [a, b], AllDigits (tl p) ∧ tl p ≠ [] ∧ p.length ≤ 400 := fun p hp => by
            have nb := List.any_eq_false.mp c3 p hp
            have lp := (okp p hp).2
            unfold badP at nb
            rw [Bool.not_eq_true, Bool.or_eq_false_iff, Bool.not_eq_false'] at nb
            refine ⟨dig_all nb.2, fun e => ?_, by omega⟩
            have : p = Str.ofString "" := str_ext (by rw [e]; decide)
            rw [this] at nb
            simp at nb
          obtain ⟨a1, a2, a3⟩ := fine a (by simp)
          obtain ⟨b1, b2, b3⟩ := fine b (by simp)
          have va : e1L gIntT (e2 gIx (eVar 2) (eC (.int 0))) ρ = .ok (.int ((digitsVal (tl a) : Nat) : Int), ρ) := e1L_of (e2_of (var_of l2) rfl rfl) (int_of a1 a2 a3)
          have vb : e1L gIntT (e2 gIx (eVar 2) (eC (.int 1))) ρ = .ok (.int ((digitsVal (tl b) : Nat) : Int), ρ) := e1L_of (e2_of (var_of l2) rfl rfl) (int_of b1 b2 b3)
          have small_ : digitsVal (tl b) < 2 ^ 2000 := Nat.lt_trans (val_lt b1 (by rw [← len_tl]; exact b3)) (by decide +kernel)
          have g := gtI_of vb (rfl : eC (.int 1) ρ = _)
          have cm : eCall m__law_common (aCons (e1L gIntT (e2 gIx (eVar 2) (eC (.int 0)))) (aCons (e1L gIntT (e2 gIx (eVar 2) (eC (.int 1)))) aNil)) ρ = .ok (.int ((Nat.gcd (digitsVal (tl a)) (digitsVal (tl b)) : Nat) : Int), ρ) := call_of (two_of va vb) (lcommon_big _ _ small_)
          have q := eqI_of cm (rfl : eC (.int 1) ρ = _)
          unfold sRet
          refine sDo_of ?_
          show _ = R.ok (D.bl (decide (1 < digitsVal (tl b)) && decide (Nat.gcd (digitsVal (tl a)) (digitsVal (tl b)) = 1)), ρ)
          have dq : decide (((Nat.gcd (digitsVal (tl a)) (digitsVal (tl b)) : Nat) : Int) = 1) = decide (Nat.gcd (digitsVal (tl a)) (digitsVal (tl b)) = 1) := by rw [decide_eq_decide]; omega
          rw [dq] at q
          by_cases h : 1 < digitsVal (tl b)
          · rw [decide_eq_true (show (1 : Int) < ((digitsVal (tl b) : Nat) : Int) by omega)] at g
            rw [decide_eq_true h, Bool.true_and]
            exact eAnd_t g q
          · rw [decide_eq_false (show ¬ (1 : Int) < ((digitsVal (tl b) : Nat) : Int) by omega)] at g
            rw [decide_eq_false h, Bool.false_and]
            exact eAnd_f g
        | [], _, h, _, _, _, _ => exact absurd h (by decide)
        | [_], _, _, h, _, _, _ => exact absurd rfl h
        | _ :: _ :: _ :: _, h, _, _, _, _, _ => exact absurd h (by simp)
end
end K02

open PySem PySem.Spec
open PyProof.Rows L2
set_option Elab.async false
set_option linter.all false
set_option maxRecDepth 100000
set_option maxHeartbeats 0
namespace K02
open PV PySem.NumText
noncomputable section
/-! ### what read_ratio makes of a text -/
theorem dash : Str.ofString "-" = ⟨#[45]⟩ := by decide
theorem head_cut (z : Str) : (cutS z none (some ((1 : Nat) : Int)) == Str.ofString "-") = decide ((tl z).head? = some 45) := by
  have e := cut_to z 1
  rw [dash]
  cases h : tl z with
  | nil =>
    rw [h] at e
    have ne : cutS z none (some ((1 : Nat) : Int)) ≠ ⟨#[45]⟩ := fun w => by
      rw [w] at e
      simp at e
    rw [beq_eq_false_iff_ne.mpr ne]
    rfl
  | cons c r =>
    rw [h] at e
    by_cases hc : c = 45
    · have eq : cutS z none (some ((1 : Nat) : Int)) = ⟨#[45]⟩ := str_ext (by rw [e, hc]; rfl)
      rw [eq, hc]
      rfl
    · have ne : cutS z none (some ((1 : Nat) : Int)) ≠ ⟨#[45]⟩ := fun w => by
        rw [w] at e
        have e : [45] = [c] := e
        injection e with e
        exact hc e.symm
      rw [beq_eq_false_iff_ne.mpr ne]
      simp [hc]
theorem tl_body (z : Str) : tl (bodyS z) = if (tl z).head? = some 45 then (tl z).drop 1 else tl z := by
  unfold bodyS
  rw [head_cut]
  by_cases h : (tl z).head? = some 45
  · rw [decide_eq_true h, if_pos rfl, if_pos h, cut_from]
  · rw [decide_eq_false h, if_neg (by decide), if_neg h]
theorem body_pre (z : Str) : Txt.removeprefix z (Str.ofString "-") = bodyS z := by
  apply str_ext
  rw [tl_body, dash, PySem.StrLaws.removeprefix_eq]
  have one : (0 + (⟨#[45]⟩ : Str).length ≤ z.length ∧ Builtin.Str.subAt z ⟨#[45]⟩ 0 = true) ↔ z.cps.toList[0]? = some 45 := PySem.StrLaws.subAt_one z 45 0
  have hd : z.cps.toList[0]? = (tl z).head? := List.head?_eq_getElem?.symm
  rw [hd] at one
  by_cases h : (tl z).head? = some 45
  · obtain ⟨o1, o2⟩ := one.mpr h
    rw [if_pos h, if_pos (by rw [Bool.and_eq_true, decide_eq_true_eq]; exact ⟨o1, o2⟩)]
    show ((z.cps.toList.drop 1).take (z.length - 1)) = _
    rw [List.take_of_length_le]
    rw [List.length_drop, len_tl]
    exact Nat.le_refl _
  · rw [if_neg h, if_neg]
    rw [Bool.and_eq_true, decide_eq_true_eq]
    exact fun w => h (one.mp w)
theorem starts_dash (z : Str) : Txt.startswith z (Str.ofString "-") = decide ((tl z).head? = some 45) := by
  have one : (0 + (⟨#[45]⟩ : Str).length ≤ z.length ∧ Builtin.Str.subAt z ⟨#[45]⟩ 0 = true) ↔ z.cps.toList[0]? = some 45 := PySem.StrLaws.subAt_one z 45 0
  have hd : z.cps.toList[0]? = (tl z).head? := List.head?_eq_getElem?.symm
  rw [hd] at one
  rw [dash]
  unfold Txt.startswith
  by_cases h : (tl z).head? = some 45
  · obtain ⟨o1, o2⟩ := one.mpr h
    rw [decide_eq_true h, decide_eq_true o1, o2]
    rfl
  · rw [decide_eq_false h, Bool.and_eq_false_iff, decide_eq_false_iff_not]
    by_cases o1 : 0 + (⟨#[45]⟩ : Str).length ≤ z.length
    · right
      cases q : Builtin.Str.subAt z ⟨#[45]⟩ 0 with
      | false => rfl
      | true => exact absurd (one.mp ⟨o1, q⟩) h
    · exact .inl o1
/-- "0" <= c <= "9" -/
theorem chain_dig {c v : Nat} {ρ : PV.Env} (h : look ρ v = some (.str ⟨#[c]⟩)) : e3c gLeT gLeT (eC (.str "0")) (eVar v) (eC (.str "9")) ρ = .ok (.bl (dig c), ρ) := by
  have g1 : gLeT (.str "0") (.str ⟨#[c]⟩) = some (.bl (decide (48 ≤ c))) := by
    show some (D.bl (!decide ([c] < (Str.ofString "0").cps.toList))) = _
    rw [show (Str.ofString "0").cps.toList = [48] by decide, ← decide_not]
    congr 2
    rw [decide_eq_decide, List.cons_lt_cons_iff]
    simp
  have g2 : gLeT (.str ⟨#[c]⟩) (.str "9") = some (.bl (decide (c ≤ 57))) := by
    show some (D.bl (!decide ((Str.ofString "9").cps.toList < [c]))) = _
    rw [show (Str.ofString "9").cps.toList = [57] by decide, ← decide_not]
    congr 2
    rw [decide_eq_decide, List.cons_lt_cons_iff]
    simp
  unfold e3c
  rw [M.bind_of (a := .str "0") (ρ1 := ρ) rfl, M.bind_of (var_of h), g1]
  show (chK gLeT (eC (.str "9")) (.str ⟨#[c]⟩) (.bl (decide (48 ≤ c)))) ρ = _
  unfold dig
  by_cases q : 48 ≤ c
  · rw [decide_eq_true q]
    show (M.bind (eC (.str "9")) fun w => M.ofO (gLeT (.str ⟨#[c]⟩) w)) ρ = _
    rw [M.bind_of (a := .str "9") (ρ1 := ρ) rfl, g2]
    show R.ok (D.bl (decide (c ≤ 57)), ρ) = _
    simp [q]
  · rw [decide_eq_false q]
    show R.ok (D.bl false, ρ) = _
    simp [q]
end
end K02

open PySem PySem.Spec
open PyProof.Rows L2
set_option Elab.async false
set_option linter.all false
set_option maxRecDepth 100000
set_option maxHeartbeats 0
namespace K02
open PV PySem.NumText
noncomputable section
/-! ### read_ratio: the pieces must be digits -/
theorem digs2_of {p : Str} {ρ : PV.Env} {v w : Nat} (hp : look ρ v = some (.str p)) (hw : w < ρ.length) (hl : p.length ≤ 100000) : e1L gAll (eLc [w] (iStrM (eVar v)) (tgName w) tTrue (e3c gLeT gLeT (eC (.str "0")) (eVar w) (eC (.str "9")))) ρ = .ok (.bl ((tl p).all dig), ρ) := by
  have it : iStrM (eVar v) ρ = .ok (sgns p, ρ) := by
    unfold iStrM
    rw [M.bind_of (var_of hp)]
    rfl
  refine e1L_of (eLc_map (v := w) (h := fun d => match d with
    | .str s => .bl (dig (s.cps.toList.headD 0))
    | _ => .non) it ?_ ?_) ?_
  · unfold sgns
    rw [List.length_map, ← len_tl]
    exact hl
  · intro d hd
    obtain ⟨c, hc, rfl⟩ := List.mem_map.mp hd
    have l : look (ρ.set w (some (.str ⟨#[c]⟩))) w = some (.str ⟨#[c]⟩) := by rw [look_set, if_pos rfl, if_pos hw]
    exact chain_dig l
  · unfold sgns
    rw [List.map_map]
    exact (all_map dig (tl p))
def pB : SM := sIf (PV.tOr (PV.tB (e2 gEq (eVar 4) (eC (.str "")))) (PV.tNot (PV.tB (e1L gAll (eLc [6] (iStrM (eVar 4)) (tgName 6) (tTrue) (e3c gLeT gLeT (eC (.str "0")) (eVar 6) (eC (.str "9")))))))) (sRaiseE .note (eC (.int 0))) (sNx)
theorem pB_of {p : Str} {ρ : PV.Env} (h : look ρ 4 = some (.str p)) (hl : 6 < ρ.length) (hp : PyData.strOk p = true) (hs : p.length ≤ 100000) : pB ρ = if badP p = true then .exc (.note (.int 0)) else .nx ρ := by
  have t := tOr_of (tB_of (e2_of (var_of h) (rfl : eC (.str "") ρ = _) (eqS_of hp empty_lit))) (tNot_of (tB_of (digs2_of h hl hs)))
  unfold pB
  have e : ((p == Str.ofString "") || !(tl p).all dig) = badP p := rfl
  rw [e] at t
  cases b : badP p with
  | true =>
    rw [b] at t
    unfold sIf
    rw [sDo_of t]
    rfl
  | false =>
    rw [b] at t
    exact if_no t
theorem pieces_loop {p q : Str} {ρ : PV.Env} (hl : ρ.length = 7) (hp : PyData.strOk p = true) (hq : PyData.strOk q = true) (lp : p.length ≤ 100000) (lq : q.length ≤ 100000) :
    forN (tgName 4) pB [.str p, .str q] ρ = if (badP p || badP q) = true then .exc (.note (.int 0)) else .nx (ρ.set 4 (some (.str q))) := by
  have l1 : look (ρ.set 4 (some (.str p))) 4 = some (.str p) := by rw [look_set, if_pos rfl, if_pos (by omega)]
  have l2 : look ((ρ.set 4 (some (.str p))).set 4 (some (.str q))) 4 = some (.str q) := by rw [look_set, if_pos rfl, if_pos (by rw [List.length_set]; omega)]
  have e1 := pB_of l1 (by rw [List.length_set]; omega) hp lp
  have e2 := pB_of l2 (by rw [List.length_set, List.length_set]; omega) hq lq
  rw [tgName_def]
  show sSeq pB (forN (fun d ρ => some (ρ.set 4 (some d))) pB [.str q]) (ρ.set 4 (some (.str p))) = _
  cases b1 : badP p with
  | true =>
    rw [b1, if_pos rfl] at e1
    unfold sSeq
    rw [e1]
    rfl
  | false =>
    rw [b1, if_neg (by decide)] at e1
    rw [sSeq_of e1]
    show sSeq pB (fun ρ => .nx ρ) ((ρ.set 4 (some (.str p))).set 4 (some (.str q))) = _
    rw [List.set_set] at e2 ⊢
    cases b2 : badP q with
    | true =>
      rw [b2, if_pos rfl] at e2
      unfold sSeq
      rw [e2]
      rfl
    | false =>
      rw [b2, if_neg (by decide)] at e2
      rw [sSeq_of e2]
      rfl
end
end K02

open PySem PySem.Spec
open PyProof.Rows L2
set_option Elab.async false
set_option linter.all false
set_option maxRecDepth 100000
set_option maxHeartbeats 0
namespace K02
open PV PySem.NumText
noncomputable section
theorem run_exc {s : SM} {n : Nat} {ds : List D} {x : Exn} (h : s (PV.envOf n ds) = .exc x) : runF n 0 s ds = .exc x := by
  unfold runF
  rw [h]
theorem seq_exc {s k : SM} {ρ : PV.Env} {x : Exn} (h : s ρ = .exc x) : sSeq s k ρ = .exc x := by
  unfold sSeq
  rw [h]
theorem if_exc {t : M Bool} {ρ ρ1 : PV.Env} (h : t ρ = .ok (true, ρ1)) : sIf t (sRaiseE .note (eC (.int 0))) sNx ρ = .exc (.note (.int 0)) := by
  unfold sIf
  rw [sDo_of h]
  rfl
theorem neg_low {N E : Int} (g : Int.gcd N E = 1) (p : 1 ≤ E) (s : E.natAbs < 2 ^ 2000) : mk (-N) E = .ok (rat (-N) E) := by
  obtain ⟨N2, E2, l, e⟩ := mk_big (-N) E (by omega) s
  obtain ⟨e1, e2⟩ := low_one (N1 := N2) (d1 := E2) (N2 := -N) (d2 := E) l.pos p l.low (by rw [Int.neg_gcd]; exact g) l.same
  rw [e, e1, e2]
/-- a long text is refused -/
theorem read_long {z : Str} (h : 400 < z.length) (hl : z.length ≤ 100000) : m_read_ratio [.str z] = .exc (.note (.int 0)) := by
  refine run_exc ?_
  unfold s_read_ratio
  have t := tOr_of (tNot_of (tB_of (e1_of (var_of (i := 0) (ρ := PV.envOf 7 [.str z]) rfl) (show gIsT .str (.str z) = some (.bl true) from rfl)))) (tB_of (gtI_of (len_of (v := 0) (ρ := PV.envOf 7 [.str z]) rfl hl) (rfl : eC (.int 400) _ = _)))
  rw [decide_eq_true (show (400 : Int) < ((z.length : Nat) : Int) by omega)] at t
  exact seq_exc (if_exc t)
/-- what is read of the three parts -/
def lowS (isS : Bool) (low : Str) : Str := if isS = true then low else Str.ofString "1"
def topV (neg : Bool) (top : Str) : Int := if neg = true then -((digitsVal (tl top) : Nat) : Int) else ((digitsVal (tl top) : Nat) : Int)
/-- what follows the pieces -/
def tailS : SM := sSeq (sIf (PV.tAnd (PV.tB (e2 gEq (eVar 2) (eC (.str "/")))) (PV.tB (e2 gEq (e1L gIntT (eVar 3)) (eC (.int 0))))) (sRaiseE .note (eC (.int 0))) (sNx))
  (sSeq (sAsg 5 (eMake "Ratio" m_Ratio___init__ [] (aCons (e1L gIntT (eVar 1)) (aCons (eIf (PV.tB (e2 gEq (eVar 2) (eC (.str "/")))) (e1L gIntT (eVar 3)) (eC (.int 1))) (aNil)))))
  (sSeq (sAsg 5 (eIf (PV.tB (eSM1 gStarts (eVar 0) (eC (.str "-")))) (e1X "Ratio" m_Ratio___neg__ (eVar 5)) (eVar 5)))
  (sSeq (sIf (PV.tB (e2 gNe (eStrX "Ratio" m_Ratio___str__ (eVar 5)) (eVar 0))) (sRaiseE .note (eC (.int 0))) (sNx))
  (sRet (eVar 5)))))
theorem read_parts {z top sl low : Str} {isS : Bool} (hz : PyData.strOk z = true) (hl : z.length ≤ 400) (hp : Txt.partition (bodyS z) ⟨#[47]⟩ = (top, sl, low)) (hs : (sl == Str.ofString "/") = isS) (okt : PyData.strOk top = true) (oks : PyData.strOk sl = true) (okl : PyData.strOk low = true) (lt : top.length ≤ 400) (ll : low.length ≤ 400) :
    ∃ ρ : PV.Env, ρ.length = 7 ∧ look ρ 0 = some (.str z) ∧ look ρ 1 = some (.str top) ∧ look ρ 2 = some (.str sl) ∧ look ρ 3 = some (.str low) ∧ s_read_ratio (PV.envOf 7 [.str z]) = if (badP top || badP (lowS isS low)) = true then .exc (.note (.int 0)) else tailS ρ := by
  have bl := body_len z
  · unfold s_read_ratio
    have l0 : look (PV.envOf 7 [.str z]) 0 = some (.str z) := rfl
    have t := tOr_of (tNot_of (tB_of (e1_of (var_of l0) (show gIsT .str (.str z) = some (.bl true) from rfl)))) (tB_of (gtI_of (len_of l0 (by omega)) (rfl : eC (.int 400) _ = _)))
    rw [decide_eq_false (show ¬ (400 : Int) < ((z.length : Nat) : Int) by omega)] at t
    rw [sSeq_of (if_no t)]
    have r1 : eSM1 gRmPre (eVar 0) (eC (.str "-")) (PV.envOf 7 [.str z]) = .ok (.str (bodyS z), PV.envOf 7 [.str z]) := by
      refine sm1_of (var_of l0) rfl ?_
      have q : gRmPre z (.str (Str.ofString "-")) = some (.str (Txt.removeprefix z (Str.ofString "-"))) := if_pos (decide_eq_true (show z.length ≤ 100000 by omega))
      rw [q, body_pre]
    have r2 : eSM1 gParts (eSM1 gRmPre (eVar 0) (eC (.str "-"))) (eC (.str "/")) (PV.envOf 7 [.str z]) = .ok (.tup [.str top, .str sl, .str low], PV.envOf 7 [.str z]) := by
      refine sm1_of r1 rfl ?_
      have q : gParts (bodyS z) (.str (Str.ofString "/")) = some (.tup [.str (Txt.partition (bodyS z) (Str.ofString "/")).1, .str (Txt.partition (bodyS z) (Str.ofString "/")).2.1, .str (Txt.partition (bodyS z) (Str.ofString "/")).2.2]) := if_pos ⟨by decide, decide_eq_true (show (bodyS z).length ≤ 100000 by omega)⟩
      rw [q, slash, hp]
    have s2 : sUnp (eSM1 gParts (eSM1 gRmPre (eVar 0) (eC (.str "-"))) (eC (.str "/"))) (tgTup (tgCons (tgName 1) (tgCons (tgName 2) (tgCons (tgName 3) (tgNil)))) 3) (PV.envOf 7 [.str z]) = .nx ((((PV.envOf 7 [.str z]).set 1 (some (.str top))).set 2 (some (.str sl))).set 3 (some (.str low))) := by
      unfold sUnp
      refine (sDo_of r2).trans ?_
      simp only [tgName_def]
      rfl
    rw [sSeq_of s2]
    have l00 : look ((((PV.envOf 7 [.str z]).set 1 (some (.str top))).set 2 (some (.str sl))).set 3 (some (.str low))) 0 = some (.str z) := rfl
    have l1 : look ((((PV.envOf 7 [.str z]).set 1 (some (.str top))).set 2 (some (.str sl))).set 3 (some (.str low))) 1 = some (.str top) := rfl
    have l2 : look ((((PV.envOf 7 [.str z]).set 1 (some (.str top))).set 2 (some (.str sl))).set 3 (some (.str low))) 2 = some (.str sl) := rfl
    have l3 : look ((((PV.envOf 7 [.str z]).set 1 (some (.str top))).set 2 (some (.str sl))).set 3 (some (.str low))) 3 = some (.str low) := rfl
    have len7 : ((((PV.envOf 7 [.str z]).set 1 (some (.str top))).set 2 (some (.str sl))).set 3 (some (.str low))).length = 7 := by
      rw [List.length_set, List.length_set, List.length_set]
      rfl
    generalize (((PV.envOf 7 [.str z]).set 1 (some (.str top))).set 2 (some (.str sl))).set 3 (some (.str low)) = ρ at *
    have ts := tB_of (e2_of (var_of l2) (rfl : eC (.str "/") ρ = _) (eqS_of oks (strOk_of "/")))
    rw [hs] at ts
    have ev : eIf (PV.tB (e2 gEq (eVar 2) (eC (.str "/")))) (eVar 3) (eC (.str "1")) ρ = .ok (.str (lowS isS low), ρ) := by
      unfold lowS
      cases isS
      · exact eIf_f ts rfl
      · exact eIf_t ts (var_of l3)
    have it : iSeqM (eTup (aCons (eVar 1) (aCons (eIf (PV.tB (e2 gEq (eVar 2) (eC (.str "/")))) (eVar 3) (eC (.str "1"))) (aNil)))) ρ = .ok ([.str top, .str (lowS isS low)], ρ) := by
      unfold iSeqM
      rw [M.bind_of (tup_of (two_of (var_of l1) ev) (by simp))]
      rfl
    have okl' : PyData.strOk (lowS isS low) = true := by
      unfold lowS
      cases isS
      · exact strOk_of "1"
      · exact okl
    have ll' : (lowS isS low).length ≤ 400 := by
      unfold lowS
      cases isS
      · show (Str.ofString "1").length ≤ 400
        decide
      · exact ll
    have lp := pieces_loop (ρ := ρ) len7 okt okl' (by omega) (by omega)
    refine ⟨ρ.set 4 (some (.str (lowS isS low))), by rw [List.length_set]; exact len7, by rw [look_set, if_neg (by decide)]; exact l00, by rw [look_set, if_neg (by decide)]; exact l1, by rw [look_set, if_neg (by decide)]; exact l2, by rw [look_set, if_neg (by decide)]; exact l3, ?_⟩
    have lp : sFor (iSeqM (eTup (aCons (eVar 1) (aCons (eIf (PV.tB (e2 gEq (eVar 2) (eC (.str "/")))) (eVar 3) (eC (.str "1"))) (aNil))))) (tgName 4) pB ρ = if (badP top || badP (lowS isS low)) = true then .exc (.note (.int 0)) else .nx (ρ.set 4 (some (.str (lowS isS low)))) := by
      unfold sFor
      exact (sDo_of it).trans lp
    cases b : (badP top || badP (lowS isS low)) with
    | true =>
      rw [b, if_pos rfl] at lp
      rw [if_pos rfl]
      exact seq_exc lp
    | false =>
      rw [b, if_neg (by decide)] at lp
      rw [if_neg (by decide)]
      exact sSeq_of lp
end
end K02

open PySem PySem.Spec
open PyProof.Rows L2
set_option Elab.async false
set_option linter.all false
set_option maxRecDepth 100000
set_option maxHeartbeats 0
namespace K02
open PV PySem.NumText
noncomputable section
theorem neS_of {x y : Str} (hx : PyData.strOk x = true) (hy : PyData.strOk y = true) : gNe (.str x) (.str y) = some (.bl (!(x == y))) := by
  have e : eqD (.str x) (.str y) = (match PyData.strOk x, PyData.strOk y with
    | true, true => some (x == y)
    | _, _ => none) := rfl
  unfold gNe
  rw [e, hx, hy]
  rfl
theorem log_of {n : Nat} (h : n < 10 ^ 400) : n.log2 < 1920 := by
  by_cases z : n = 0
  · rw [z]; decide
  · exact (Nat.log2_lt z).mpr (Nat.lt_trans h (by decide +kernel))
theorem low_neg {n d N E : Int} (l : Low n d N E) : Low (-n) d (-N) E := ⟨l.pos, l.small, by rw [Int.neg_gcd]; exact l.low, by have := l.same; grind, by rw [Int.natAbs_neg, Int.natAbs_neg]; exact l.top⟩
def lowV (isS : Bool) (low : Str) : Nat := if isS = true then digitsVal (tl low) else 1
theorem tail_ok {z top sl low : Str} {isS : Bool} {ρ : PV.Env} (len7 : ρ.length = 7) (l0 : look ρ 0 = some (.str z)) (l1 : look ρ 1 = some (.str top)) (l2 : look ρ 2 = some (.str sl)) (l3 : look ρ 3 = some (.str low)) (hz : PyData.strOk z = true) (hs : (sl == Str.ofString "/") = isS) (oks : PyData.strOk sl = true)
    (dt : AllDigits (tl top)) (nt : tl top ≠ []) (lt : top.length ≤ 400) (dlw : isS = true → AllDigits (tl low) ∧ tl low ≠ []) (ll : low.length ≤ 400) :
    (lowV isS low = 0 ∧ tailS ρ = .exc (.note (.int 0))) ∨ (lowV isS low ≠ 0 ∧ ∃ N E, Low (topV (decide ((tl z).head? = some 45)) top) (lowV isS low) N E ∧ N.natAbs.log2 < 1920 ∧ E.natAbs.log2 < 1920 ∧ ∃ ρ', tailS ρ = if (rtx N E == z) = true then .rt (rat N E) ρ' else .exc (.note (.int 0))) := by
  have ts := tB_of (e2_of (var_of l2) (rfl : eC (.str "/") ρ = _) (eqS_of oks (strOk_of "/")))
  rw [hs] at ts
  have vt : e1L gIntT (eVar 1) ρ = .ok (.int ((digitsVal (tl top) : Nat) : Int), ρ) := e1L_of (var_of l1) (int_of dt nt lt)
  have bt : digitsVal (tl top) < 10 ^ 400 := val_lt dt (by rw [← len_tl]; exact lt)
  have vl : isS = true → e1L gIntT (eVar 3) ρ = .ok (.int ((digitsVal (tl low) : Nat) : Int), ρ) := fun h => e1L_of (var_of l3) (int_of (dlw h).1 (dlw h).2 ll)
  have bL : lowV isS low < 10 ^ 400 := by
    unfold lowV
    cases isS
    · show 1 < 10 ^ 400
      decide +kernel
    · exact val_lt (dlw rfl).1 (by rw [← len_tl]; exact ll)
  have el : eIf (PV.tB (e2 gEq (eVar 2) (eC (.str "/")))) (e1L gIntT (eVar 3)) (eC (.int 1)) ρ = .ok (.int ((lowV isS low : Nat) : Int), ρ) := by
    unfold lowV
    cases isS
    · exact eIf_f ts rfl
    · exact eIf_t ts (vl rfl)
  have t0 : PV.tAnd (PV.tB (e2 gEq (eVar 2) (eC (.str "/")))) (PV.tB (e2 gEq (e1L gIntT (eVar 3)) (eC (.int 0)))) ρ = .ok (decide (lowV isS low = 0), ρ) := by
    unfold lowV
    cases isS
    · exact tAnd_f ts
    · refine (tAnd_t ts (tB_of (eqI_of (vl rfl) (rfl : eC (.int 0) ρ = _)))).trans ?_
      have e : decide (((digitsVal (tl low) : Nat) : Int) = 0) = decide (digitsVal (tl low) = 0) := by rw [decide_eq_decide]; omega
      rw [e]
      rfl
  unfold tailS
  by_cases h0 : lowV isS low = 0
  · rw [decide_eq_true h0] at t0
    exact .inl ⟨h0, seq_exc (if_exc t0)⟩
  · rw [decide_eq_false h0] at t0
    right
    refine ⟨h0, ?_⟩
    rw [sSeq_of (if_no t0)]
    have big : (((lowV isS low : Nat) : Int)).natAbs < 2 ^ 2000 := by
      rw [Int.natAbs_natCast]
      exact Nat.lt_trans bL (by decide +kernel)
    obtain ⟨N, E, l, hm⟩ := mk_big ((digitsVal (tl top) : Nat) : Int) ((lowV isS low : Nat) : Int) (by omega) big
    have m1 : eMake "Ratio" m_Ratio___init__ [] (aCons (e1L gIntT (eVar 1)) (aCons (eIf (PV.tB (e2 gEq (eVar 2) (eC (.str "/")))) (e1L gIntT (eVar 3)) (eC (.int 1))) (aNil))) ρ = .ok (rat N E, ρ) := (make_of (two_of vt el) rfl).trans (by rw [hm]; rfl)
    rw [sSeq_of (ρ1 := ρ.set 5 (some (rat N E))) (by rw [sAsg_def]; exact sDo_of m1)]
    have k5 : look (ρ.set 5 (some (rat N E))) 5 = some (rat N E) := by rw [look_set, if_pos rfl, if_pos (by omega)]
    have k0 : look (ρ.set 5 (some (rat N E))) 0 = some (.str z) := by rw [look_set, if_neg (by decide)]; exact l0
    have st := tB_of (sm1_of (var_of k0) (rfl : eC (.str "-") (ρ.set 5 (some (rat N E))) = _) (show gStarts z (.str (Str.ofString "-")) = some (.bl (Txt.startswith z (Str.ofString "-"))) from rfl))
    rw [starts_dash] at st
    generalize decide ((tl z).head? = some 45) = nb at st ⊢
    have Ebig : E.natAbs < 2 ^ 2000 := Nat.lt_of_le_of_lt l.small big
    obtain ⟨N', l', m2⟩ : ∃ N', Low (topV nb top) (lowV isS low) N' E ∧ eIf (PV.tB (eSM1 gStarts (eVar 0) (eC (.str "-")))) (e1X "Ratio" m_Ratio___neg__ (eVar 5)) (eVar 5) (ρ.set 5 (some (rat N E))) = .ok (rat N' E, ρ.set 5 (some (rat N E))) := by
      unfold topV
      cases nb with
      | false => exact ⟨N, l, eIf_f st (var_of k5)⟩
      | true =>
        refine ⟨-N, low_neg l, eIf_t st ((e1x_of (fs := [("n", .int N), ("d", .int E)]) (var_of k5)).trans ?_)⟩
        show upM _ (m_Ratio___neg__ [rat N E]) = _
        rw [neg_ok, neg_low l.low l.pos Ebig]
        rfl
    rw [sSeq_of (ρ1 := (ρ.set 5 (some (rat N E))).set 5 (some (rat N' E))) (by rw [sAsg_def]; exact sDo_of m2), List.set_set]
    have j5 : look (ρ.set 5 (some (rat N' E))) 5 = some (rat N' E) := by rw [look_set, if_pos rfl, if_pos (by omega)]
    have j0 : look (ρ.set 5 (some (rat N' E))) 0 = some (.str z) := by rw [look_set, if_neg (by decide)]; exact l0
    have lN : N'.natAbs.log2 < 1920 := log_of (by
      refine Nat.lt_of_le_of_lt l'.top ?_
      unfold topV
      split
      · rw [Int.natAbs_neg, Int.natAbs_natCast]; exact bt
      · rw [Int.natAbs_natCast]; exact bt)
    have lE : E.natAbs.log2 < 1920 := log_of (Nat.lt_of_le_of_lt l.small (by rw [Int.natAbs_natCast]; exact bL))
    refine ⟨N', E, l', lN, lE, ρ.set 5 (some (rat N' E)), ?_⟩
    have t1 := tB_of (e2_of (strx_of (fs := [("n", .int N'), ("d", .int E)]) (var_of j5) (strM_ok lN lE)) (var_of j0) (neS_of rtx_ok hz))
    cases q : (rtx N' E == z) with
    | true =>
      rw [q] at t1
      rw [if_pos rfl, sSeq_of (if_no t1)]
      unfold sRet
      exact sDo_of (var_of j5)
    | false =>
      rw [q] at t1
      rw [if_neg (by decide)]
      exact seq_exc (if_exc t1)
end
end K02

open PySem PySem.Spec
open PyProof.Rows L2
set_option Elab.async false
set_option linter.all false
set_option maxRecDepth 100000
set_option maxHeartbeats 0
namespace K02
open PV PySem.NumText
noncomputable section
/-! ### both readings agree -/
theorem tl_z (z : Str) : tl z = (if (tl z).head? = some 45 then [45] else []) ++ tl (bodyS z) := by
  rw [tl_body]
  by_cases h : (tl z).head? = some 45
  · rw [if_pos h, if_pos h]
    cases e : tl z with
    | nil => rw [e] at h; cases h
    | cons c r =>
      rw [e] at h
      have hc : c = 45 := by simpa using h
      rw [hc]
      rfl
  · rw [if_neg h, if_neg h]
    rfl
/-- an int's text, by its sign -/
theorem text_sgn (neg : Bool) (n : Nat) : tl (Str.ofString (toString (if neg = true then -(n : Int) else (n : Int)))) = (if neg = true ∧ n ≠ 0 then [45] else []) ++ dl n := by
  cases neg with
  | false =>
    rw [if_neg (by decide), if_neg (by simp)]
    exact text_nat n
  | true =>
    rw [if_pos rfl]
    by_cases z : n = 0
    · rw [z, if_neg (by simp)]
      exact text_nat 0
    · rw [if_pos ⟨rfl, z⟩]
      exact text_neg z
theorem not_bad {p : Str} (h : badP p = false) : AllDigits (tl p) ∧ tl p ≠ [] := by
  unfold badP at h
  rw [Bool.or_eq_false_iff, Bool.not_eq_false'] at h
  refine ⟨dig_all h.2, fun e => ?_⟩
  have : p = Str.ofString "" := str_ext (by rw [e]; decide)
  rw [this] at h
  simp at h
/-- no 0 ahead of others: as _law_is_text asks it -/
theorem lead_good {p : Str} (d : AllDigits (tl p)) (n : tl p ≠ []) : leadP p = false ↔ Good (tl p) := by
  unfold leadP
  rw [len_tl, Bool.and_eq_false_iff, decide_eq_false_iff_not]
  constructor
  · rintro (h | h)
    · refine ⟨d, n, fun z => ?_⟩
      cases e : tl p with
      | nil => exact absurd e n
      | cons c r =>
        rw [e] at h z
        cases r with
        | nil =>
          have : c = 48 := by simpa using z
          rw [this]
        | cons x y => simp at h
    · exact ⟨d, n, fun z => by rw [z] at h; simp at h⟩
  · intro g
    by_cases z : (tl p).head? = some 48
    · left
      rw [g.lead z]
      decide
    · right
      simpa using z
/-- the first two signs -0 -/
theorem cut2 (z : Str) : (cutS z none (some ((2 : Nat) : Int)) == Str.ofString "-0") = decide ((tl z).head? = some 45 ∧ (tl (bodyS z)).head? = some 48) := by
  have e := cut_to z 2
  have lit : Str.ofString "-0" = ⟨#[45, 48]⟩ := by decide
  rw [lit]
  have both : cutS z none (some ((2 : Nat) : Int)) = ⟨#[45, 48]⟩ ↔ (tl z).take 2 = [45, 48] := ⟨fun w => by rw [← e, w], fun w => str_ext (by rw [e, w])⟩
  have split_ : (tl z).take 2 = [45, 48] ↔ (tl z).head? = some 45 ∧ (tl (bodyS z)).head? = some 48 := by
    rw [tl_body]
    cases q : tl z with
    | nil => simp
    | cons c r =>
      cases r with
      | nil => 
        by_cases hc : c = 45
        · simp [hc]
        · simp [hc]
      | cons x y =>
        by_cases hc : c = 45
        · simp [hc]
        · simp [hc]
  by_cases h : (tl z).head? = some 45 ∧ (tl (bodyS z)).head? = some 48
  · rw [decide_eq_true h, both.mpr (split_.mpr h)]
    simp
  · rw [decide_eq_false h, beq_eq_false_iff_ne]
    exact fun w => h (split_.mp (both.mp w))
end
end K02

open PySem PySem.Spec
open PyProof.Rows L2
set_option Elab.async false
set_option linter.all false
set_option maxRecDepth 100000
set_option maxHeartbeats 0
namespace K02
open PV PySem.NumText
noncomputable section
/-! ### which texts are texts of Ratios -/
def tailL (E : Int) : List Nat := if E = 1 then [] else 47 :: dl E.natAbs
theorem tl_str (s : String) : tl (Str.ofString s) = (Str.ofString s).cps.toList := rfl
theorem text_int (N : Int) : tl (Str.ofString (toString N)) = (if N < 0 then [45] else []) ++ dl N.natAbs := by
  by_cases h : N < 0
  · rw [if_pos h]
    have e : N = -((N.natAbs : Nat) : Int) := by omega
    have t := text_neg (n := N.natAbs) (by omega)
    rw [← e] at t
    exact t
  · rw [if_neg h]
    have e : N = ((N.natAbs : Nat) : Int) := by omega
    have t := text_nat N.natAbs
    rw [← e] at t
    exact t
theorem tl_rtx {N E : Int} (h : 1 ≤ E) : tl (rtx N E) = (if N < 0 then [45] else []) ++ (dl N.natAbs ++ tailL E) := by
  unfold rtx tailL
  by_cases e : E = 1
  · rw [if_pos e, if_pos e, List.append_nil]
    exact text_int N
  · rw [if_neg e, if_neg e, tl_app, tl_app, text_int, text_int, if_neg (show ¬ E < 0 by omega), slash, List.append_assoc]
    rfl
theorem dl_head (n : Nat) (r : List Nat) : ∃ c, 48 ≤ c ∧ c ≤ 57 ∧ (dl n ++ r).head? = some c ∧ (dl n).head? = some c := by
  obtain ⟨g, _, _⟩ := dl_ok n
  cases e : dl n with
  | nil => exact absurd e g.ne
  | cons c s =>
    have d := g.dig c (by rw [e]; exact List.mem_cons_self)
    exact ⟨c, d.1, d.2, rfl, rfl⟩
theorem dl_no {c : Nat} (h : c < 48 ∨ 57 < c) (n : Nat) : c ∉ dl n := fun m => by
  have d := (dl_ok n).1.dig c m
  omega
theorem head_rtx {N E : Int} (h : 1 ≤ E) : ((tl (rtx N E)).head? = some 45 ↔ N < 0) ∧ tl (bodyS (rtx N E)) = dl N.natAbs ++ tailL E := by
  rw [tl_body, tl_rtx h]
  obtain ⟨c, c1, c2, hc, _⟩ := dl_head N.natAbs (tailL E)
  by_cases n : N < 0
  · rw [if_pos n]
    exact ⟨⟨fun _ => n, fun _ => rfl⟩, if_pos rfl⟩
  · rw [if_neg n, List.nil_append, hc]
    refine ⟨⟨fun w => ?_, fun w => absurd w n⟩, if_neg fun w => ?_⟩
    · injection w with w; omega
    · injection w with w; omega
theorem parts_rtx {N E : Int} (h : 1 ≤ E) : (partsS (rtx N E)).map tl = if E = 1 then [dl N.natAbs] else [dl N.natAbs, dl E.natAbs] := by
  unfold partsS
  rw [split_pieces, (head_rtx h).2]
  unfold tailL
  by_cases e : E = 1
  · rw [if_pos e, if_pos e, List.append_nil, pieces_free (dl_no (.inl (by decide)) _)]
  · rw [if_neg e, if_neg e, pieces_app (dl_no (.inl (by decide)) _), pieces_free (dl_no (.inl (by decide)) _)]
theorem bad_dl {p : Str} {n : Nat} (h : tl p = dl n) : badP p = false ∧ leadP p = false := by
  obtain ⟨g, _, _⟩ := dl_ok n
  rw [← h] at g
  refine ⟨?_, (lead_good g.dig g.ne).mpr g⟩
  unfold badP
  rw [Bool.or_eq_false_iff, Bool.not_eq_false']
  refine ⟨beq_eq_false_iff_ne.mpr fun w => g.ne (by rw [w]; decide), List.all_eq_true.mpr fun c hc => ?_⟩
  exact decide_eq_true (g.dig c hc)
theorem dl_zero {n : Nat} (h : (dl n).head? = some 48) : n = 0 := by
  obtain ⟨_, _, z⟩ := dl_ok n
  exact Classical.byContradiction fun w => z w h
theorem val_dl (n : Nat) : digitsVal (dl n) = n := (dl_ok n).2.1
theorem itx_rtx {N E : Int} (h : 1 ≤ E) (g : Int.gcd N E = 1) (hl : (rtx N E).length ≤ 400) : itx (rtx N E) = true := by
  have p := parts_rtx (N := N) h
  have c2 : (cutS (rtx N E) none (some ((2 : Nat) : Int)) == Str.ofString "-0") = false := by
    rw [cut2, decide_eq_false_iff_not]
    rintro ⟨a, b⟩
    obtain ⟨c, c1, c2, hc, hd⟩ := dl_head N.natAbs (tailL E)
    rw [(head_rtx h).2, hc] at b
    have n := (head_rtx h).1.mp a
    rw [b] at hd
    have := dl_zero hd
    omega
  unfold itx
  rw [c2, decide_eq_false (show ¬ 400 < (rtx N E).length by omega)]
  generalize partsS (rtx N E) = ps at *
  by_cases e : E = 1
  · rw [if_pos e] at p
    match ps, p with
    | [], p => simp at p
    | _ :: _ :: _, p => simp at p
    | [a], p =>
      have pa : tl a = dl N.natAbs := by simpa using p
      obtain ⟨b1, b2⟩ := bad_dl pa
      simp [b1, b2]
  · rw [if_neg e] at p
    match ps, p with
    | [], p => simp at p
    | [_], p => simp at p
    | _ :: _ :: _ :: _, p => simp at p
    | [a, b], p =>
      have pa : tl a = dl N.natAbs ∧ tl b = dl E.natAbs := by simpa using p
      obtain ⟨b1, b2⟩ := bad_dl pa.1
      obtain ⟨d1, d2⟩ := bad_dl pa.2
      have gg : Nat.gcd N.natAbs E.natAbs = 1 := g
      simp [b1, b2, d1, d2, lastB, pa.1, pa.2, val_dl, gg]
      omega
theorem itx_form {z : Str} (h : itx z = true) : z.length ≤ 400 ∧ ∃ N E : Int, 1 ≤ E ∧ Int.gcd N E = 1 ∧ rtx N E = z := by
  have pz := split_pieces (bodyS z) 47
  have jn := PySem.StrLaws.join_split (bodyS z) ⟨#[47]⟩
  have tj := tl_join 47 (Txt.split (bodyS z) ⟨#[47]⟩)
  rw [jn] at tj
  have hz := tl_z z
  have c2 := cut2 z
  have ep : partsS z = Txt.split (bodyS z) ⟨#[47]⟩ := rfl
  unfold itx at h
  rw [ep, c2] at h
  generalize Txt.split (bodyS z) ⟨#[47]⟩ = ps at *
  cases q : (decide (400 < z.length) || (decide (2 < ps.length) || ps.any badP)) with
  | true => rw [q, if_pos rfl] at h; cases h
  | false =>
    rw [q, if_neg (by decide)] at h
    rw [Bool.or_eq_false_iff, Bool.or_eq_false_iff] at q
    obtain ⟨q1, q2, q3⟩ := q
    have q1 := of_decide_eq_false q1
    have q2 := of_decide_eq_false q2
    refine ⟨by omega, ?_⟩
    cases r : (ps.any leadP || decide ((tl z).head? = some 45 ∧ (tl (bodyS z)).head? = some 48)) with
    | true => rw [r, if_pos rfl] at h; cases h
    | false =>
      rw [r, if_neg (by decide)] at h
      rw [Bool.or_eq_false_iff] at r
      obtain ⟨r1, r2⟩ := r
      have r2 := of_decide_eq_false r2
      have fine : ∀ p ∈ ps, Good (tl p) := fun p hp => by
        have b := List.any_eq_false.mp q3 p hp
        have l := List.any_eq_false.mp r1 p hp
        obtain ⟨d, n⟩ := not_bad (by simpa using b)
        exact (lead_good d n).mp (by simpa using l)
      -- the sign, and a number
      have sgn : ∀ (a : Str) (E : Int) (t : List Nat), 1 ≤ E → a ∈ ps → tl (bodyS z) = tl a ++ t → t = tailL E → ∃ N : Int, N.natAbs = digitsVal (tl a) ∧ rtx N E = z := fun a E t hE ha hb ht => by
        have ga := fine a ha
        have da := good_dl _ (tl a) rfl ga
        by_cases n : (tl z).head? = some 45
        · refine ⟨-((digitsVal (tl a) : Nat) : Int), by omega, str_ext ?_⟩
          have nz : digitsVal (tl a) ≠ 0 := fun w => r2 ⟨n, by
            rw [hb]
            rw [w] at da
            rw [← da]
            rfl⟩
          rw [tl_rtx hE, if_pos (by omega), hz, if_pos n, hb, ht, Int.natAbs_neg, Int.natAbs_natCast, da]
        · refine ⟨((digitsVal (tl a) : Nat) : Int), by omega, str_ext ?_⟩
          rw [tl_rtx hE, if_neg (by omega), hz, if_neg n, hb, ht, Int.natAbs_natCast, da]
      match ps, q2, h, tj, fine, sgn with
      | [], _, h, _, _, _ => simp [lastB] at h
      | [a], _, _, tj, _, sgn =>
        obtain ⟨N, _, e⟩ := sgn a 1 [] (by decide) (by simp) (by rw [tj]; simp [glue]) rfl
        exact ⟨N, 1, by decide, by simp [Int.gcd], e⟩
      | [a, b], _, h, tj, fine, sgn =>
        rw [if_neg (by simp)] at h
        unfold lastB at h
        rw [Bool.and_eq_true, decide_eq_true_eq, decide_eq_true_eq] at h
        have gb := good_dl _ (tl b) rfl (fine b (by simp))
        obtain ⟨N, e1, e⟩ := sgn a ((digitsVal (tl b) : Nat) : Int) (47 :: tl b) (by omega) (by simp) (by rw [tj]; rfl) (by unfold tailL; rw [if_neg (by omega), Int.natAbs_natCast, gb])
        exact ⟨N, _, by omega, by rw [Int.gcd, e1, Int.natAbs_natCast]; exact h.2, e⟩
      | _ :: _ :: _ :: _, q2, _, _, _, _ => exact absurd q2 (by simp)
end
end K02

open PySem PySem.Spec
open PyProof.Rows L2
set_option Elab.async false
set_option linter.all false
set_option maxRecDepth 100000
set_option maxHeartbeats 0
namespace K02
open PV PySem.NumText
noncomputable section
/-! ### read_ratio tells every text of a Ratio, and refuses every other -/
structure Rt (N E : Int) : Prop where
  pos : 1 ≤ E
  low : Int.gcd N E = 1
theorem occ_uniq {a b c d : List Nat} {x : Nat} (h : a ++ x :: b = c ++ x :: d) (ha : x ∉ a) (hc : x ∉ c) : a = c ∧ b = d := by
  have e := congrArg (pieces x) h
  rw [pieces_app ha, pieces_app hc] at e
  have e1 : a = c := by injection e
  subst e1
  exact ⟨rfl, by simpa using h⟩
theorem slash_kind : Builtin.Str.strKind ⟨#[47]⟩ = 1 := by decide +kernel
theorem ok_empty : PyData.strOk Str.empty = true := by decide +kernel
theorem ok_slash : PyData.strOk ⟨#[47]⟩ = true := by rw [← slash]; exact strOk_of "/"
/-- the parts at the first slash, with what they are -/
theorem part_of (z : Str) (hz : PyData.strOk z = true) : ∃ top sl low isS, Txt.partition (bodyS z) ⟨#[47]⟩ = (top, sl, low) ∧ (sl == Str.ofString "/") = isS ∧ PyData.strOk top = true ∧ PyData.strOk sl = true ∧ PyData.strOk low = true ∧ top.length ≤ z.length ∧ low.length ≤ z.length ∧ 47 ∉ tl top ∧ tl (bodyS z) = tl top ++ (if isS = true then 47 :: tl low else []) := by
  have okb : PyData.strOk (bodyS z) = true := ok_sub hz (sub_body z)
  have bl := body_len z
  rcases part_cases (bodyS z) 47 slash_kind with ⟨n, e⟩ | ⟨a, b, n, e, p⟩
  · refine ⟨_, _, _, false, e, by decide, okb, ok_empty, ok_empty, bl, Nat.zero_le _, n, ?_⟩
    simp
  · have sa : ∀ c ∈ tl a, c ∈ tl (bodyS z) := fun c hc => by rw [e]; exact List.mem_append.mpr (.inl hc)
    have sb : ∀ c ∈ tl b, c ∈ tl (bodyS z) := fun c hc => by rw [e]; exact List.mem_append.mpr (.inr (List.mem_cons_of_mem _ hc))
    have ll : (tl (bodyS z)).length = (tl a).length + ((tl b).length + 1) := by rw [e, List.length_append, List.length_cons]
    rw [← len_tl, ← len_tl, ← len_tl] at ll
    refine ⟨_, _, _, true, p, by decide, ok_sub okb sa, ok_slash, ok_sub okb sb, by omega, by omega, n, ?_⟩
    rw [if_pos rfl, e]
theorem bad_one : badP (Str.ofString "1") = false := by decide
/-- what read_ratio does at a text that is not too long -/
theorem read_way {z : Str} (hz : PyData.strOk z = true) (hl : z.length ≤ 400) : ∃ top low isS, tl (bodyS z) = tl top ++ (if isS = true then 47 :: tl low else []) ∧ 47 ∉ tl top ∧
    (((badP top || badP (lowS isS low)) = true ∧ m_read_ratio [.str z] = .exc (.note (.int 0))) ∨ (lowV isS low = 0 ∧ m_read_ratio [.str z] = .exc (.note (.int 0))) ∨
     ∃ N E, Low (topV (decide ((tl z).head? = some 45)) top) (lowV isS low) N E ∧ N.natAbs.log2 < 1920 ∧ E.natAbs.log2 < 1920 ∧ m_read_ratio [.str z] = if (rtx N E == z) = true then .ok (rat N E) else .exc (.note (.int 0))) := by
  obtain ⟨top, sl, low, isS, hp, hs, okt, oks, okl, lt, ll, n47, eb⟩ := part_of z hz
  obtain ⟨ρ, len7, l0, l1, l2, l3, e⟩ := read_parts hz hl hp hs okt oks okl (by omega) (by omega)
  refine ⟨top, low, isS, eb, n47, ?_⟩
  cases b : (badP top || badP (lowS isS low)) with
  | true =>
    rw [b, if_pos rfl] at e
    exact .inl ⟨rfl, run_exc e⟩
  | false =>
    rw [b, if_neg (by decide)] at e
    rw [Bool.or_eq_false_iff] at b
    obtain ⟨dt, nt⟩ := not_bad b.1
    have dw : isS = true → AllDigits (tl low) ∧ tl low ≠ [] := fun h => by
      have b2 := b.2
      unfold lowS at b2
      rw [if_pos h] at b2
      exact not_bad b2
    rcases tail_ok len7 l0 l1 l2 l3 hz hs oks dt nt (by omega) dw (by omega) with ⟨v0, x⟩ | ⟨_, N, E, l, lN, lE, ρ', x⟩
    · exact .inr (.inl ⟨v0, run_exc (e.trans x)⟩)
    · refine .inr (.inr ⟨N, E, l, lN, lE, ?_⟩)
      rw [x] at e
      cases q : (rtx N E == z) with
      | true =>
        rw [q, if_pos rfl] at e
        rw [if_pos rfl]
        exact run_rt e
      | false =>
        rw [q, if_neg (by decide)] at e
        rw [if_neg (by decide)]
        exact run_exc e
theorem read_rtx {N E : Int} (r : Rt N E) (hl : (rtx N E).length ≤ 400) : m_read_ratio [.str (rtx N E)] = .ok (rat N E) := by
  obtain ⟨top, low, isS, eb, n47, w⟩ := read_way (z := rtx N E) rtx_ok hl
  obtain ⟨hd, hb⟩ := head_rtx (N := N) r.pos
  rw [hb] at eb
  have key : tl top = dl N.natAbs ∧ isS = decide (E ≠ 1) ∧ (isS = true → tl low = dl E.natAbs) := by
    unfold tailL at eb
    by_cases e : E = 1
    · rw [if_pos e, List.append_nil] at eb
      cases isS with
      | true =>
        have m : 47 ∈ dl N.natAbs := by rw [eb]; simp
        exact absurd m (dl_no (.inl (by decide)) _)
      | false =>
        rw [if_neg (by decide), List.append_nil] at eb
        exact ⟨eb.symm, by simp [e], fun h => by cases h⟩
    · rw [if_neg e] at eb
      cases isS with
      | true =>
        rw [if_pos rfl] at eb
        obtain ⟨e1, e2⟩ := occ_uniq eb (dl_no (.inl (by decide)) _) n47
        exact ⟨e1.symm, by simp [e], fun _ => e2.symm⟩
      | false =>
        rw [if_neg (by decide), List.append_nil] at eb
        exact absurd (show 47 ∈ tl top by rw [← eb]; simp) n47
  obtain ⟨et, es, el⟩ := key
  have bt := (bad_dl et).1
  have bw : badP (lowS isS low) = false := by
    unfold lowS
    cases isS with
    | true => exact (bad_dl (el rfl)).1
    | false => exact bad_one
  have vE : ((lowV isS low : Nat) : Int) = E := by
    have p := r.pos
    unfold lowV
    cases isS with
    | true =>
      rw [if_pos rfl, el rfl, val_dl]
      omega
    | false =>
      rw [if_neg (by decide)]
      by_cases e : E = 1
      · rw [e]; rfl
      · simp [e] at es
  have vN : topV (decide ((tl (rtx N E)).head? = some 45)) top = N := by
    unfold topV
    rw [et, val_dl]
    by_cases n : N < 0
    · rw [decide_eq_true (hd.mpr n), if_pos rfl]
      omega
    · rw [decide_eq_false fun x => n (hd.mp x), if_neg (by decide)]
      omega
  rcases w with ⟨b, _⟩ | ⟨v0, _⟩ | ⟨N1, E1, l, _, _, e⟩
  · rw [bt, bw] at b
    cases b
  · have p := r.pos
    omega
  · rw [vN, vE] at l
    obtain ⟨e1, e2⟩ := low_one (N1 := N1) (d1 := E1) (N2 := N) (d2 := E) l.pos r.pos l.low r.low l.same
    rw [e1, e2] at e
    rw [e, if_pos (by simp)]
/-- at every text: told just if it is a text of a Ratio -/
theorem read_ok {z : Str} (hz : PyData.strOk z = true) (hl : z.length ≤ 90000) : (itx z = true ∧ ∃ N E, Rt N E ∧ N.natAbs.log2 < 1920 ∧ E.natAbs.log2 < 1920 ∧ rtx N E = z ∧ m_read_ratio [.str z] = .ok (rat N E)) ∨ (itx z = false ∧ m_read_ratio [.str z] = .exc (.note (.int 0))) := by
  by_cases long : 400 < z.length
  · right
    refine ⟨?_, read_long long (by omega)⟩
    cases q : itx z with
    | false => rfl
    | true => exact absurd (itx_form q).1 (by omega)
  · obtain ⟨top, low, isS, _, _, w⟩ := read_way hz (by omega)
    cases q : itx z with
    | true =>
      left
      obtain ⟨_, N, E, p, g, e⟩ := itx_form q
      have rd := read_rtx (N := N) (E := E) ⟨p, g⟩ (by rw [e]; omega)
      rw [e] at rd
      refine ⟨rfl, ?_⟩
      rcases w with ⟨_, x⟩ | ⟨_, x⟩ | ⟨N1, E1, l, lN, lE, x⟩
      · rw [rd] at x; cases x
      · rw [rd] at x; cases x
      · rw [rd] at x
        cases y : (rtx N1 E1 == z) with
        | false => rw [y, if_neg (by decide)] at x; cases x
        | true =>
          rw [y, if_pos rfl] at x
          exact ⟨N1, E1, ⟨l.pos, l.low⟩, lN, lE, by simpa using y, rd.trans x⟩
    | false =>
      right
      refine ⟨rfl, ?_⟩
      rcases w with ⟨_, x⟩ | ⟨_, x⟩ | ⟨N1, E1, l, lN, lE, x⟩
      · exact x
      · exact x
      · cases y : (rtx N1 E1 == z) with
        | false => rw [y, if_neg (by decide)] at x; exact x
        | true =>
          have e : rtx N1 E1 = z := by simpa using y
          have t := itx_rtx l.pos l.low (by rw [e]; omega)
          rw [e, q] at t
          cases t
end
end K02

open PySem PySem.Spec
open PyProof.Rows L2
set_option Elab.async false
set_option linter.all false
set_option maxRecDepth 100000
set_option maxHeartbeats 0
namespace K02
open PV PySem.NumText
noncomputable section
/-! ### drawn rows of Ratios -/
theorem t_take : m__law_take = mTake := rfl
theorem t_state : m__law_state = mState := rfl
structure Sm (p : Int × Int) : Prop where
  rt : Rt p.1 p.2
  n : p.1.natAbs ≤ 6
  e : p.2.natAbs ≤ 3
abbrev rt (p : Int × Int) : D := rat p.1 p.2
abbrev rts (ps : List (Int × Int)) : List D := ps.map rt
abbrev takeM (j : Nat) (f : M D) : M D := eCallIO j [.io j, .val (.rd 0)] (m__law_take) (aIo j (aCons f (aNil)))
theorem draw {j n : Nat} {L : List (Nat × D)} {Q : D → Prop} {f : M D} {m : Int} (hf : Dw j n L f fun d => d = .int m) (hj : L.lookup j = none) (h0 : 0 < m) (h1 : m.natAbs < 1073741824) (q : ∀ v : Int, 0 ≤ v → v < m → Q (.int v)) : Dw j n L (takeM j f) Q := by
  unfold takeM
  rw [t_take]
  exact dw_take hf h0 h1 hj q
/-- a drawn thing whose maker only reads what it is given -/
theorem dw_make {j n : Nat} {L : List (Nat × D)} {Q : D → Prop} {fa : M (List D)} (h : DwL j n L fa fun ds => ∃ a d N E : Int, ds = [.int a, .int d] ∧ mk a d = .ok (rat N E) ∧ Q (rat N E)) : Dw j n L (eMake "Ratio" m_Ratio___init__ [] fa) Q := fun ρ A => by
  obtain ⟨ds, ρ1, e1, ⟨a, d, N, E, rfl, hm, q⟩, A1⟩ := h ρ A
  refine ⟨rat N E, ρ1, ?_, q, A1⟩
  rw [make_of e1 rfl, hm]
  rfl
theorem runB_io {s : M D} {Q : D → Prop} {n : Nat} {ps : List Pm} {more : List D} {x y : Int} (hp : ps = .io 1 :: more.map fun _ => Pm.sh) (hA : ∀ A : Ag 0 n [] (PV.envOf n (.lst [.int x, .int y] :: more)), Dw 0 n [] s Q) (A : Ag 0 n [] (PV.envOf n (.lst [.int x, .int y] :: more))) :
    ∃ d x' y', Q d ∧ runB n ps 0 (sRet s) (.lst [.int x, .int y] :: more) = .ok (d, [.lst [.int x', .int y']]) := by
  obtain ⟨d, ρ', e, q, A'⟩ := hA A _ A
  obtain ⟨x', y', st⟩ := A'.st
  refine ⟨d, x', y', q, ?_⟩
  have rest : ∀ (l : List D) (i : Nat), outsOf (l.map fun _ => Pm.sh) i ρ' = some [] := fun l => by
    induction l with
    | nil => intro i; rfl
    | cons _ _ ih => intro i; exact ih (i + 1)
  unfold runB sRet
  rw [sDo_of e]
  show endR ps d ρ' = _
  unfold endR
  rw [hp]
  unfold outsOf
  rw [st, rest]
theorem num_ok (x y : Int) : ∃ (p : Int × Int) (x' y' : Int), Sm p ∧ m__law_num [.lst [.int x, .int y]] = .ok (rt p, [.lst [.int x', .int y']]) := by
  have A : Ag 0 1 [] (PV.envOf 1 [.lst [.int x, .int y]]) := ⟨rfl, ⟨x, y, rfl⟩, fun _ _ h => nomatch h⟩
  have key : Dw 0 1 [] (eMake "Ratio" m_Ratio___init__ [] (aCons (e2 PV.gSub (takeM 0 (eC (.int 13))) (eC (.int 6))) (aCons (e2 gAdd (eC (.int 1)) (takeM 0 (eC (.int 3)))) (aNil)))) fun d => ∃ p : Int × Int, d = rt p ∧ Sm p := by
    refine dw_make (dwl_cons (dw_e2 (draw (dw_c rfl) rfl (by decide) (by decide) fun v v0 v1 => dw_c ⟨.int (v - 6), rfl, dwl_cons (dw_e2 (dw_c (draw (dw_c rfl) rfl (by decide) (by decide) fun u u0 u1 => ⟨.int (1 + u), rfl, dwl_nil ?_⟩)))⟩)))
    obtain ⟨N, E, l, hm⟩ := mk_ok (v - 6) (1 + u) (by omega) (by omega)
    have t := l.top
    have s := l.small
    exact ⟨_, _, N, E, rfl, hm, (N, E), rfl, ⟨l.pos, l.low⟩, by show N.natAbs ≤ 6; omega, by show E.natAbs ≤ 3; omega⟩
  obtain ⟨d, x', y', ⟨p, rfl, sp⟩, e⟩ := runB_io (more := []) (ps := [.io 1]) rfl (fun _ => key) A
  exact ⟨p, x', y', sp, e⟩
/-- a call that draws -/
theorem dw_io {j n : Nat} {L : List (Nat × D)} {Q : D → Prop} {mm : List D → R (D × List D)} {ms : List Am} {f : M (List D)} {more : List D} (hms : ∀ x, fill1 x (.io j :: ms) (.non :: more) = x :: more) (hj : L.lookup j = none)
    (hf : DwL j n L f fun ds => ds = more) (h : ∀ x y : Int, ∃ d x' y', Q d ∧ mm (.lst [.int x, .int y] :: more) = .ok (d, [.lst [.int x', .int y']])) : Dw j n L (eCallIO j (.io j :: ms) mm (aIo j f)) Q := fun ρ a => by
  obtain ⟨x0, y0, s0⟩ := a.st
  obtain ⟨ds, ρ1, e1, rfl, a1⟩ := hf ρ a
  obtain ⟨x1, y1, s1⟩ := a1.st
  obtain ⟨d, x', y', q, em⟩ := h x1 y1
  refine ⟨d, ρ1.set j (some (.lst [.int x', .int y'])), ?_, q, ⟨by rw [List.length_set]; exact a1.len, ⟨x', y', by rw [look_set, if_pos rfl, if_pos (look_lt s1)]⟩, fun i e hi => ?_⟩⟩
  · rw [eCallIO_def]
    have ea : aIo j f ρ = .ok (.non :: ds, ρ1) := by
      unfold aIo
      rw [s0]
      show M.bind (eC D.non) _ ρ = _
      rw [M.bind_of (a := D.non) (ρ1 := ρ) rfl, M.bind_of e1]
      rfl
    rw [M.bind_of ea, s1]
    dsimp only
    rw [hms, em]
  · by_cases z : i = j
    · subst z
      rw [hj] at hi
      cases hi
    · rw [look_set, if_neg z]
      exact a1.at_ i e hi
theorem rows_of : ∀ {ys : List D}, (∀ y ∈ ys, ∃ p : Int × Int, y = rt p ∧ Sm p) → ∃ ps : List (Int × Int), ys = rts ps ∧ ∀ p ∈ ps, Sm p
  | [], _ => ⟨[], rfl, fun _ h => nomatch h⟩
  | y :: ys, h => by
    obtain ⟨p, e, s⟩ := h y List.mem_cons_self
    obtain ⟨ps, e2, s2⟩ := rows_of fun z hz => h z (List.mem_cons_of_mem _ hz)
    exact ⟨p :: ps, by rw [e, e2]; rfl, fun q hq => (List.mem_cons.mp hq).elim (fun z => by rw [z]; exact s) (s2 q)⟩
theorem numrow_ok (x y k : Int) (k0 : 0 ≤ k) (k1 : k ≤ 1000) : ∃ (ps : List (Int × Int)) (x' y' : Int), (ps.length : Int) = k ∧ (∀ p ∈ ps, Sm p) ∧ m__law_num_row [.lst [.int x, .int y], .int k] = .ok (.tup (rts ps), [.lst [.int x', .int y']]) := by
  have A : Ag 0 3 [(1, .int k)] (PV.envOf 3 [.lst [.int x, .int y], .int k]) := ⟨rfl, ⟨x, y, rfl⟩, fun i d h => by
    rw [List.lookup_cons] at h
    cases e : i == 1 with
    | true => rw [e] at h; cases h; rw [eq_of_beq e]; rfl
    | false => rw [e] at h; cases h⟩
  have key : Dw 0 3 [(1, .int k)] (eLc [2] (iRg rg1 (aCons (eVar 1) (aNil))) (tgName 2) (tTrue) (eCallIO 0 [.io 0] (m__law_num) (aIo 0 (aNil)))) fun d => ∃ ps : List (Int × Int), d = .lst (rts ps) ∧ (ps.length : Int) = k ∧ ∀ p ∈ ps, Sm p := by
    refine dw_lc (Q := fun d => ∃ p : Int × Int, d = rt p ∧ Sm p) (by decide) (by decide) rfl (dw_io (more := []) (fun _ => rfl) rfl (dwl_nil rfl) fun x y => ?_) (dwl_rg1 (dw_var rfl ⟨k, rfl, k0, by omega, by rw [rgD_len]; omega, fun ys hl hq => ?_⟩))
    · obtain ⟨p, x', y', s, e⟩ := num_ok x y
      exact ⟨rt p, x', y', ⟨p, rfl, s⟩, e⟩
    · obtain ⟨ps, rfl, s⟩ := rows_of hq
      refine ⟨ps, rfl, ?_, s⟩
      rw [List.length_map, rgD_len] at hl
      omega
  obtain ⟨d, ρ', e, ⟨ps, rfl, hk, hs⟩, A'⟩ := key _ A
  obtain ⟨x', y', st⟩ := A'.st
  refine ⟨ps, x', y', hk, hs, ?_⟩
  unfold m__law_num_row runB s__law_num_row sRet
  rw [sDo_of (e1L_of (g := gTuple) (w := .tup (rts ps)) e rfl)]
  show endR _ _ _ = _
  unfold endR outsOf
  rw [st]
  rfl
end
end K02

open PySem PySem.Spec
open PyProof.Rows L2
set_option Elab.async false
set_option linter.all false
set_option maxRecDepth 100000
set_option maxHeartbeats 0
namespace K02
open PV PySem.NumText
noncomputable section
/-! ### sums and products as plain functions -/
def lowP (n d : Int) : Int × Int := (if 0 < d then n.fdiv (Int.gcd n d) else (-n).fdiv (Int.gcd n d), (if d < 0 then -d else d).fdiv (Int.gcd n d))
theorem mk_low {n d : Int} (h : d ≠ 0) (hs : d.natAbs < 2 ^ 100) : mk n d = .ok (rt (lowP n d)) ∧ Low n d (lowP n d).1 (lowP n d).2 := by
  have l := low_ex n d h
  refine ⟨?_, l⟩
  obtain ⟨N, E, l2, e⟩ := mk_big n d h (Nat.lt_of_lt_of_le hs (Nat.pow_le_pow_right (by decide) (by decide)))
  have same : N * (lowP n d).2 = (lowP n d).1 * E := by
    have a := l.same
    have b := l2.same
    have : d * (N * (lowP n d).2) = d * ((lowP n d).1 * E) := by
      have a' : (lowP n d).1 * d = n * (lowP n d).2 := a
      grind
    exact Int.eq_of_mul_eq_mul_left h this
  obtain ⟨e1, e2⟩ := low_one l2.pos l.pos l2.low l.low same
  rw [e]
  show R.ok (rat N E) = _
  rw [e1, e2]
  rfl
def addP (p q : Int × Int) : Int × Int := lowP (p.1 * q.2 + q.1 * p.2) (p.2 * q.2)
def mulP (p q : Int × Int) : Int × Int := lowP (p.1 * q.1) (p.2 * q.2)
/-- a Ratio with a small number below -/
structure Bd (b : Nat) (p : Int × Int) : Prop where
  rt : Rt p.1 p.2
  e : p.2.natAbs ≤ b
theorem Sm.bd {p : Int × Int} (s : Sm p) : Bd 9 p := ⟨s.rt, Nat.le_trans s.e (by decide)⟩
theorem big_lt {b c : Nat} {x y : Int} (hx : x.natAbs ≤ b) (hy : y.natAbs ≤ c) (h : b * c < 2 ^ 60) : (x * y).natAbs < 2 ^ 100 := by
  rw [Int.natAbs_mul]
  exact Nat.lt_of_le_of_lt (Nat.mul_le_mul hx hy) (Nat.lt_trans h (by decide))
section
variable {p q : Int × Int} {b c : Nat}
theorem low_bd {n d : Int} {m : Nat} (h : d ≠ 0) (hs : d.natAbs ≤ m) : Bd m (lowP n d) := by
  have l := low_ex n d h
  exact ⟨⟨l.pos, l.low⟩, Nat.le_trans l.small hs⟩
theorem Bd.nz (hp : Bd b p) (hq : Bd c q) : p.2 * q.2 ≠ 0 := Int.mul_ne_zero (by have := hp.rt.pos; omega) (by have := hq.rt.pos; omega)
theorem Bd.pr (hp : Bd b p) (hq : Bd c q) : (p.2 * q.2).natAbs ≤ b * c := by
  rw [Int.natAbs_mul]
  exact Nat.mul_le_mul hp.e hq.e
theorem Bd.add (hp : Bd b p) (hq : Bd c q) : Bd (b * c) (addP p q) := low_bd (hp.nz hq) (hp.pr hq)
theorem Bd.mul (hp : Bd b p) (hq : Bd c q) : Bd (b * c) (mulP p q) := low_bd (hp.nz hq) (hp.pr hq)
theorem mulR' {x y : Int} (h : y.natAbs ≤ c) (hc : c < 2 ^ 60) : mulOk x y = true := mulOk_r (by omega)
theorem addM_ok (hp : Bd b p) (hq : Bd c q) (hb : b < 2 ^ 60) (hc : c < 2 ^ 60) (h : b * c < 2 ^ 60) : m_Ratio___add__ [rt p, rt q] = .ok (rt (addP p q)) :=
  (bin_ret (make_of (two_of (add_of (mul_of (fld_n rfl) (fld_d rfl) (mulR' hq.e hc)) (mul_of (fld_n rfl) (fld_d rfl) (mulR' hp.e hb))) (mul_of (fld_d rfl) (fld_d rfl) (mulR' hq.e hc))) rfl)).trans (mk_low (hp.nz hq) (big_lt hp.e hq.e h)).1
theorem mulM_ok' (hp : Bd b p) (hq : Bd c q) (sq : q.1.natAbs ≤ 2 ^ 60) (hc : c < 2 ^ 60) (h : b * c < 2 ^ 60) : m_Ratio___mul__ [rt p, rt q] = .ok (rt (mulP p q)) :=
  (bin_ret (make_of (two_of (mul_of (fld_n rfl) (fld_n rfl) (mulOk_r (by omega))) (mul_of (fld_d rfl) (fld_d rfl) (mulR' hq.e hc))) rfl)).trans (mk_low (hp.nz hq) (big_lt hp.e hq.e h)).1
end
theorem make1_of {fa : M D} {ρ ρ1 : PV.Env} {n : Int} (h : fa ρ = .ok (.int n, ρ1)) : eMake "Ratio" m_Ratio___init__ [.int 1] (aCons fa aNil) ρ = .ok (rt (lowP n 1), ρ1) := by
  rw [make_of (cons_of h nil_of) (n := n) (d := 1) rfl, (mk_low (by decide) (by decide)).1]
  rfl
theorem low_01 : lowP 0 1 = (0, 1) := by decide
theorem low_11 : lowP 1 1 = (1, 1) := by decide
theorem opr_of {mm : List D → R D} {g : D → D → Option D} {fa fb : M D} {ρ ρ1 ρ2 : PV.Env} {p q r : Int × Int} (ha : fa ρ = .ok (rt p, ρ1)) (hb : fb ρ1 = .ok (rt q, ρ2)) (h : mm [rt p, rt q] = .ok (rt r)) : eOpX "Ratio" mm g fa fb ρ = .ok (rt r, ρ2) :=
  (opx_of ha hb rfl).trans (by show upM ρ2 (mm [rt p, rt q]) = _; rw [h]; rfl)
/-- the folds of ratio_sum and ratio_product -/
theorem fold_run {mm : List D → R D} {g : D → D → Option D} {f : Int × Int → Int × Int → Int × Int} {x : D} (hb : ∀ {k a p}, Bd k a → Bd 9 p → Bd (k * 9) (f a p)) (hm : ∀ {k a p}, Bd k a → Bd 9 p → k * 9 < 2 ^ 60 → p.1.natAbs ≤ 2 ^ 60 → mm [rt a, rt p] = .ok (rt (f a p))) :
    ∀ (ps : List (Int × Int)) (k : Nat) (a : Int × Int) (c : Option D), Bd k a → k * 9 ^ ps.length < 2 ^ 60 → (∀ p ∈ ps, Bd 9 p ∧ p.1.natAbs ≤ 2 ^ 60) → ∃ c', forN (tgName 2) (sAsg 1 (eOpX "Ratio" mm g (eVar 1) (eVar 2))) (rts ps) [some x, some (rt a), c] = .nx [some x, some (rt (ps.foldl f a)), c']
  | [], _, a, c, _, _, _ => ⟨c, rfl⟩
  | p :: r, k, a, c, ba, hk, hp => by
    obtain ⟨bp, sp⟩ := hp p List.mem_cons_self
    have hk' : k * 9 * 9 ^ r.length < 2 ^ 60 := by
      rw [List.length_cons, Nat.pow_succ] at hk
      rw [Nat.mul_assoc, Nat.mul_comm 9]
      exact hk
    have k1 : k * 9 < 2 ^ 60 := Nat.lt_of_le_of_lt (Nat.le_mul_of_pos_right _ (Nat.pow_pos (by decide))) hk'
    obtain ⟨c', e⟩ := fold_run hb hm r (k * 9) (f a p) (some (rt p)) (hb ba bp) hk' fun q hq => hp q (List.mem_cons_of_mem _ hq)
    refine ⟨c', ?_⟩
    rw [show rts (p :: r) = rt p :: rts r from rfl, forN_cons, tgName_def]
    show sSeq (sAsg 1 (eOpX "Ratio" mm g (eVar 1) (eVar 2))) (forN (fun d ρ => some (ρ.set 2 (some d))) (sAsg 1 (eOpX "Ratio" mm g (eVar 1) (eVar 2))) (rts r)) [some x, some (rt a), some (rt p)] = _
    rw [sSeq_of (ρ1 := [some x, some (rt (f a p)), some (rt p)]), ← tgName_def]
    · exact e
    · rw [sAsg_def]
      exact sDo_of (opr_of (var_of rfl) (var_of rfl) (hm ba bp k1 sp))
def isRow1 (x : D) (ps : List (Int × Int)) : Prop := x = .tup (rts ps) ∨ x = .lst (rts ps)
theorem seq_of {x : D} {ps : List (Int × Int)} {i : Nat} {ρ : PV.Env} (hx : isRow1 x ps) (h : look ρ i = some x) : iSeqM (eVar i) ρ = .ok (rts ps, ρ) := by
  unfold iSeqM
  rw [M.bind_of (var_of h)]
  rcases hx with rfl | rfl <;> rfl
theorem sum_ok {x : D} {ps : List (Int × Int)} (hx : isRow1 x ps) (hl : ps.length ≤ 5) (hp : ∀ p ∈ ps, Bd 9 p ∧ p.1.natAbs ≤ 2 ^ 60) : m_ratio_sum [x] = .ok (rt (ps.foldl addP (0, 1))) := by
  have pw : (1 : Nat) * 9 ^ ps.length < 2 ^ 60 := Nat.lt_of_le_of_lt (by rw [Nat.one_mul]; exact Nat.pow_le_pow_right (by decide) hl) (show 9 ^ 5 < 2 ^ 60 by decide)
  obtain ⟨c', e⟩ := fold_run (mm := m_Ratio___add__) (g := gAdd) (f := addP) (x := x) (fun a b => a.add b) (fun a b h _ => addM_ok a b (Nat.lt_of_le_of_lt (Nat.le_mul_of_pos_right _ (by decide)) h) (by decide) h) ps 1 (0, 1) none ⟨⟨by decide, by decide⟩, by decide⟩ pw hp
  have e0 : sAsg 1 (eMake "Ratio" m_Ratio___init__ [.int 1] (aCons (eC (.int 0)) (aNil))) (PV.envOf 3 [x]) = .nx [some x, some (rt (0, 1)), none] := by
    rw [sAsg_def]
    refine sDo_of (a := rt (0, 1)) (ρ1 := PV.envOf 3 [x]) ((make1_of (fa := eC (.int 0)) (n := 0) rfl).trans (by rw [low_01]))
  unfold m_ratio_sum runF s_ratio_sum
  rw [sSeq_of e0, sSeq_of (ρ1 := [some x, some (rt (ps.foldl addP (0, 1))), c'])]
  · rfl
  · unfold sFor
    exact (sDo_of (seq_of hx rfl)).trans e
theorem product_ok {x : D} {ps : List (Int × Int)} (hx : isRow1 x ps) (hl : ps.length ≤ 5) (hp : ∀ p ∈ ps, Bd 9 p ∧ p.1.natAbs ≤ 2 ^ 60) : m_ratio_product [x] = .ok (rt (ps.foldl mulP (1, 1))) := by
  have pw : (1 : Nat) * 9 ^ ps.length < 2 ^ 60 := Nat.lt_of_le_of_lt (by rw [Nat.one_mul]; exact Nat.pow_le_pow_right (by decide) hl) (show 9 ^ 5 < 2 ^ 60 by decide)
  obtain ⟨c', e⟩ := fold_run (mm := m_Ratio___mul__) (g := gMul) (f := mulP) (x := x) (fun a b => a.mul b) (fun a b h s => mulM_ok' a b s (by decide) h) ps 1 (1, 1) none ⟨⟨by decide, by decide⟩, by decide⟩ pw hp
  have e0 : sAsg 1 (eMake "Ratio" m_Ratio___init__ [.int 1] (aCons (eC (.int 1)) (aNil))) (PV.envOf 3 [x]) = .nx [some x, some (rt (1, 1)), none] := by
    rw [sAsg_def]
    refine sDo_of (a := rt (1, 1)) (ρ1 := PV.envOf 3 [x]) ((make1_of (fa := eC (.int 1)) (n := 1) rfl).trans (by rw [low_11]))
  unfold m_ratio_product runF s_ratio_product
  rw [sSeq_of e0, sSeq_of (ρ1 := [some x, some (rt (ps.foldl mulP (1, 1))), c'])]
  · rfl
  · unfold sFor
    exact (sDo_of (seq_of hx rfl)).trans e
def mulsP (ps qs : List (Int × Int)) : List (Int × Int) := (ps.zip qs).map fun z => mulP z.1 z.2
theorem zip_rts : ∀ ps qs : List (Int × Int), zipD (rts ps) (rts qs) = (ps.zip qs).map fun z => .tup [rt z.1, rt z.2]
  | [], _ => by cases ‹List (Int × Int)› <;> rfl
  | _ :: _, [] => rfl
  | p :: ps, q :: qs => by
    show D.tup [rt p, rt q] :: zipD (rts ps) (rts qs) = _
    rw [zip_rts ps qs]
    rfl
theorem dot_ok {ps qs : List (Int × Int)} (hl : ps.length ≤ 5) (hp : ∀ p ∈ ps, Sm p) (hq : ∀ p ∈ qs, Sm p) : m_dot [.tup (rts ps), .tup (rts qs)] = .ok (rt ((mulsP ps qs).foldl addP (0, 1))) := by
  have zl : (ps.zip qs).length ≤ 5 := by rw [List.length_zip]; omega
  have each : ∀ z ∈ ps.zip qs, Sm z.1 ∧ Sm z.2 := fun z hz => ⟨hp _ (List.of_mem_zip hz).1, hq _ (List.of_mem_zip hz).2⟩
  have ml : (mulsP ps qs).length ≤ 5 := by unfold mulsP; rw [List.length_map]; exact zl
  have mb : ∀ r ∈ mulsP ps qs, Bd 9 r ∧ r.1.natAbs ≤ 2 ^ 60 := fun r hr => by
    unfold mulsP at hr
    obtain ⟨z, hz, rfl⟩ := List.mem_map.mp hr
    obtain ⟨s1, s2⟩ := each z hz
    have nz : z.1.2 * z.2.2 ≠ 0 := s1.bd.nz s2.bd
    have l := low_ex (z.1.1 * z.2.1) (z.1.2 * z.2.2) nz
    refine ⟨⟨⟨l.pos, l.low⟩, Nat.le_trans l.small ?_⟩, Nat.le_trans l.top ?_⟩
    · rw [Int.natAbs_mul]; exact Nat.mul_le_mul s1.e s2.e
    · rw [Int.natAbs_mul]; exact Nat.le_trans (Nat.mul_le_mul s1.n s2.n) (by decide)
  refine ret_of ?_
  have ec : eLc [2, 3] (iRg zipM (aCons (eVar 0) (aCons (eVar 1) (aNil)))) (tgTup (tgCons (tgName 2) (tgCons (tgName 3) (tgNil))) 2) (tTrue) (eOpX "Ratio" m_Ratio___mul__ gMul (eVar 2) (eVar 3)) (PV.envOf 4 [.tup (rts ps), .tup (rts qs)]) = .ok (.lst (rts (mulsP ps qs)), PV.envOf 4 [.tup (rts ps), .tup (rts qs)]) := by
    refine (eLc_gen (ds := (ps.zip qs).map fun z => D.tup [rt z.1, rt z.2]) (h := fun d => match d with | .tup [.obj _ [(_, .int a), (_, .int b)], .obj _ [(_, .int c), (_, .int d)]] => rt (mulP (a, b) (c, d)) | _ => .non) ?_ (by rw [List.length_map]; omega) ?_).trans ?_
    · rw [← zip_rts]
      unfold iRg
      rw [M.bind_of (two_of (var_of rfl) (var_of rfl))]
      rfl
    · intro d hd
      obtain ⟨z, hz, rfl⟩ := List.mem_map.mp hd
      obtain ⟨s1, s2⟩ := each z hz
      refine ⟨[some (.tup (rts ps)), some (.tup (rts qs)), some (rt z.1), some (rt z.2)], rfl, rfl, ?_⟩
      exact opr_of (var_of rfl) (var_of rfl) (mulM_ok' s1.bd s2.bd (Nat.le_trans s2.n (by decide)) (by decide) (by decide))
    · rw [List.map_map]
      unfold mulsP rts
      rw [List.map_map]
      rfl
  rw [call_up (cons_of ec nil_of), sum_ok (.inr rfl) ml mb]
end
end K02

open PySem PySem.Spec
open PyProof.Rows L2
set_option Elab.async false
set_option linter.all false
set_option maxRecDepth 100000
set_option maxHeartbeats 0
namespace K02
open PV PySem.NumText
noncomputable section
/-! ### rows read -/
theorem comma : Str.ofString "," = ⟨#[44]⟩ := by decide
theorem comma_len : ((⟨#[44]⟩ : Str).length == 0) = false := by decide
def readE : M D := eCall (m_read_ratio) (aCons (eVar 1) (aNil))
theorem set_wipe {ρ ρ' : PV.Env} (e : wipeG ρ' [1] = wipeG ρ [1]) (d : D) : (wipeG ρ' [1]).set 1 (some d) = ρ.set 1 (some d) := by
  rw [e, wipeG_cons]
  show (ρ.set 1 none).set 1 (some d) = _
  rw [List.set_set]
theorem wiped {ρ : PV.Env} (d : D) : wipeG (ρ.set 1 (some d)) [1] = wipeG ρ [1] := wipeG_set (by simp)
theorem readE_ok {ρ : PV.Env} (hl : 1 < ρ.length) {z : Str} {v : D} (h : m_read_ratio [.str z] = .ok v) : readE (ρ.set 1 (some (.str z))) = .ok (v, ρ.set 1 (some (.str z))) :=
  call_of (cons_of (var_of (by rw [look_set, if_pos rfl, if_pos hl])) nil_of) h
theorem readE_bad {ρ : PV.Env} (hl : 1 < ρ.length) {z : Str} {x : Exn} (h : m_read_ratio [.str z] = .exc x) : readE (ρ.set 1 (some (.str z))) = .exc x := by
  unfold readE
  rw [call_up (cons_of (var_of (v := .str z) (by rw [look_set, if_pos rfl, if_pos hl])) nil_of), h]
  rfl
theorem lcX_step {ρ ρ' : PV.Env} {f : M D} {d : D} {r : List D} (e : wipeG ρ' [1] = wipeG ρ [1]) : lcX [1] (tgName 1) f (d :: r) ρ' = match f (ρ.set 1 (some d)) with
    | .ok (y, ρ2) => match lcX [1] (tgName 1) f r ρ2 with
      | .ok (ys, ρ3) => .ok (y :: ys, ρ3)
      | .exc x => .exc x
      | .fail => .fail
    | .exc x => .exc x
    | .fail => .fail := by
  rw [lcX_cons, tgName_def]
  dsimp only
  rw [set_wipe e]
  all_goals rfl
theorem all_read {α : Type} (tx : α → Str) (r : α → D) {ρ : PV.Env} (hl : 1 < ρ.length) : ∀ (as : List α) (ρ' : PV.Env), wipeG ρ' [1] = wipeG ρ [1] → (∀ a ∈ as, m_read_ratio [.str (tx a)] = .ok (r a)) → ∃ ρ2, lcX [1] (tgName 1) readE (as.map fun a => .str (tx a)) ρ' = .ok (as.map r, ρ2) ∧ wipeG ρ2 [1] = wipeG ρ [1]
  | [], ρ', e, _ => ⟨ρ', rfl, e⟩
  | a :: as, ρ', e, h => by
    obtain ⟨ρ2, q, e2⟩ := all_read tx r hl as _ (wiped (ρ := ρ) (.str (tx a))) fun b hb => h b (List.mem_cons_of_mem _ hb)
    refine ⟨ρ2, ?_, e2⟩
    rw [List.map_cons, lcX_step e, readE_ok hl (h a List.mem_cons_self)]
    dsimp only
    rw [q]
    rfl
theorem some_read {ρ : PV.Env} (hl : 1 < ρ.length) : ∀ (ps : List Str) (ρ' : PV.Env), wipeG ρ' [1] = wipeG ρ [1] → (∀ p ∈ ps, PyData.strOk p = true ∧ p.length ≤ 90000) →
    (ps.all itx = true ∧ ∃ ds ρ2, lcX [1] (tgName 1) readE (ps.map .str) ρ' = .ok (ds, ρ2) ∧ wipeG ρ2 [1] = wipeG ρ [1]) ∨ (ps.all itx = false ∧ lcX [1] (tgName 1) readE (ps.map .str) ρ' = .exc (.note (.int 0)))
  | [], ρ', e, _ => .inl ⟨rfl, [], ρ', rfl, e⟩
  | p :: ps, ρ', e, h => by
    obtain ⟨hp, lp⟩ := h p List.mem_cons_self
    rw [List.map_cons, lcX_step e, List.all_cons]
    rcases read_ok hp lp with ⟨t, N, E, _, _, _, _, m⟩ | ⟨t, m⟩
    · rw [readE_ok hl m, t, Bool.true_and]
      dsimp only
      rcases some_read hl ps _ (wiped (ρ := ρ) (.str p)) fun b hb => h b (List.mem_cons_of_mem _ hb) with ⟨t2, ds, ρ2, q, e2⟩ | ⟨t2, q⟩
      · left
        rw [q]
        exact ⟨t2, _, ρ2, rfl, e2⟩
      · right
        rw [q]
        exact ⟨t2, rfl⟩
    · right
      rw [readE_bad hl m, t]
      exact ⟨rfl, rfl⟩
def commas (z : Str) : List Str := Txt.split z ⟨#[44]⟩
/-- the parts of a text are no longer than it -/
theorem glue_len {c : Nat} {l : List Nat} : ∀ {ps : List (List Nat)}, l ∈ ps → l.length ≤ (glue c ps).length
  | [p], h => by
    have : l = p := by simpa using h
    rw [this]
    exact Nat.le_refl _
  | p :: q :: r, h => by
    rcases (List.mem_cons.mp h : l = p ∨ _) with e | e
    · rw [e]
      show p.length ≤ (p ++ c :: glue c (q :: r)).length
      rw [List.length_append]
      omega
    · have := glue_len (c := c) e
      show l.length ≤ (p ++ c :: glue c (q :: r)).length
      rw [List.length_append, List.length_cons]
      omega
theorem part_len {z p : Str} (h : p ∈ commas z) : p.length ≤ z.length := by
  have jn := PySem.StrLaws.join_split z ⟨#[44]⟩
  have tj := tl_join 44 (Txt.split z ⟨#[44]⟩)
  rw [jn] at tj
  rw [len_tl, len_tl, tj]
  exact glue_len (List.mem_map.mpr ⟨p, h, rfl⟩)
theorem part_ok {z p : Str} (hz : PyData.strOk z = true) (h : p ∈ commas z) : PyData.strOk p = true := ok_sub hz (part_mem h)
theorem glue_count {c : Nat} : ∀ {ps : List (List Nat)}, ps.length ≤ (glue c ps).length + 1
  | [] => Nat.zero_le _
  | [_] => by simp [glue]
  | p :: q :: r => by
    have := glue_count (c := c) (ps := q :: r)
    show (p :: q :: r).length ≤ (p ++ c :: glue c (q :: r)).length + 1
    rw [List.length_append, List.length_cons, List.length_cons (as := glue c (q :: r))]
    omega
theorem parts_count (z : Str) : (commas z).length ≤ z.length + 1 := by
  have jn := PySem.StrLaws.join_split z ⟨#[44]⟩
  have tj := tl_join 44 (Txt.split z ⟨#[44]⟩)
  rw [jn] at tj
  rw [len_tl, tj]
  have := glue_count (c := 44) (ps := (commas z).map tl)
  rw [List.length_map] at this
  exact this
theorem split_of {fo : M D} {ρ : PV.Env} {z : Str} (ho : fo ρ = .ok (.str z, ρ)) (hl : z.length ≤ 90000) : iSeqM (eSM1 gSplit fo (eC (.str ","))) ρ = .ok ((commas z).map .str, ρ) := by
  have e : eSM1 gSplit fo (eC (.str ",")) ρ = .ok (.lst ((commas z).map .str), ρ) := by
    refine sm1_of ho rfl ?_
    show (if _ then _ else _) = _
    rw [comma, if_pos ⟨comma_len, decide_eq_true (by omega)⟩]
    rfl
  unfold iSeqM
  rw [M.bind_of e]
  rfl
/-- past the first two tests of read_ratios -/
theorem reads_pre {z : Str} (hz : PyData.strOk z = true) (nd : (z == Str.ofString "-") = false) : m_read_ratios [.str z] = runF 2 0 (sRet (e1L gTuple (eLcX [1] (iSeqM (eSM1 gSplit (eVar 0) (eC (.str ",")))) (tgName 1) readE))) [.str z] := by
  unfold m_read_ratios s_read_ratios
  refine (seq_run (if_no (nope (e1_of (var_of (v := .str z) rfl) rfl)))).trans ((seq_run (if_no (tB_of (b := false) (e2_of (var_of (v := .str z) rfl) rfl ?_)))).trans rfl)
  rw [eqS_of hz (strOk_of _), nd]
theorem lcx_of {fi : M (List D)} {f : M D} {ds : List D} {ρ : PV.Env} (hi : fi ρ = .ok (ds, ρ)) (hl : ds.length ≤ 100000) : eLcX [1] fi (tgName 1) f ρ = match lcX [1] (tgName 1) f ds ρ with
    | .ok (ys, ρ2) => .ok (.lst ys, restE ρ [1] ρ2)
    | .exc x => .exc x
    | .fail => .fail := by
  unfold eLcX
  rw [M.bind_of hi, if_pos hl]
  all_goals rfl
theorem tupL_of {f : M D} {ρ ρ1 : PV.Env} {ds : List D} (h : f ρ = .ok (.lst ds, ρ1)) : e1L gTuple f ρ = .ok (.tup ds, ρ1) := e1L_of h rfl
theorem tupL_exc {f : M D} {ρ : PV.Env} {x : Exn} (h : f ρ = .exc x) : e1L gTuple f ρ = .exc x := by
  unfold e1L eL aCons
  simp [M.bind, h]
theorem reads_row {α : Type} (tx : α → Str) (r : α → D) {z : Str} {as : List α} (hz : PyData.strOk z = true) (hl : z.length ≤ 90000) (nd : (z == Str.ofString "-") = false) (hp : commas z = as.map tx) (h : ∀ a ∈ as, m_read_ratio [.str (tx a)] = .ok (r a)) : m_read_ratios [.str z] = .ok (.tup (as.map r)) := by
  rw [reads_pre hz nd]
  refine ret_of ?_
  obtain ⟨ρ2, e, w⟩ := all_read tx r (ρ := PV.envOf 2 [.str z]) (Nat.lt_succ_self 1) as _ rfl h
  have c := parts_count z
  refine tupL_of (ρ1 := PV.envOf 2 [.str z]) ((lcx_of (split_of (var_of (v := .str z) rfl) hl) (by rw [List.length_map]; omega)).trans ?_)
  rw [hp, List.map_map]
  show (match lcX [1] (tgName 1) readE (as.map fun a => .str (tx a)) (PV.envOf 2 [.str z]) with
    | .ok (ys, ρ2) => R.ok (D.lst ys, restE (PV.envOf 2 [.str z]) [1] ρ2)
    | .exc x => .exc x
    | .fail => .fail) = _
  rw [e]
  dsimp only
  rw [restE_wipe w]
theorem reads_ok {z : Str} (hz : PyData.strOk z = true) (hl : z.length ≤ 90000) (nd : (z == Str.ofString "-") = false) :
    ((commas z).all itx = true ∧ ∃ ds, m_read_ratios [.str z] = .ok (.tup ds)) ∨ ((commas z).all itx = false ∧ m_read_ratios [.str z] = .exc (.note (.int 0))) := by
  rw [reads_pre hz nd]
  have c := parts_count z
  have e1 := lcx_of (f := readE) (split_of (fo := eVar 0) (ρ := PV.envOf 2 [.str z]) (var_of (v := .str z) rfl) hl) (by rw [List.length_map]; omega)
  rcases some_read (ρ := PV.envOf 2 [.str z]) (Nat.lt_succ_self 1) (commas z) _ rfl fun p hp => ⟨part_ok hz hp, Nat.le_trans (part_len hp) hl⟩ with ⟨t, ds, ρ2, e, w⟩ | ⟨t, e⟩
  · left
    refine ⟨t, ds, ret_of (tupL_of (ρ1 := PV.envOf 2 [.str z]) (e1.trans ?_))⟩
    rw [e]
    dsimp only
    rw [restE_wipe w]
  · right
    refine ⟨t, ret_of (tupL_exc (e1.trans ?_))⟩
    rw [e]
/-! what the law makes of them -/
def readR : R D → R D
  | .exc (.note d) => .ok (.tup [.str "text", d])
  | .exc _ => .fail
  | r => r
theorem result1 {x : Str} {m : List D → R D} (h : held x = some (1, m)) (v : D) : m__law_result [.fn x, .tup [v]] = told (m [v]) := result_run (T := held) h rfl (by decide) (by decide)
theorem lread_ok {x : Str} {m : List D → R D} (h : held x = some (1, m)) (v : D) : m__law_read [.fn x, v] = readR (told (m [v])) := by
  have e := result1 h v
  unfold m__law_read runF s__law_read sTryN sRet
  have ea : aCons (eVar 0) (aCons (eTup (aCons (eVar 1) (aNil))) (aNil)) (PV.envOf 3 [.fn x, v]) = .ok ([.fn x, .tup [v]], PV.envOf 3 [.fn x, v]) := two_of (var_of rfl) (tup_of (cons_of (var_of rfl) nil_of) (by simp))
  unfold sDo
  rw [call_up ea, e]
  cases told (m [v]) with
  | ok d => rfl
  | fail => rfl
  | exc q =>
    cases q with
    | mal => rfl
    | refu d => rfl
    | note d =>
      rfl
end
end K02

open PySem PySem.Spec
open PyProof.Rows L2
set_option Elab.async false
set_option linter.all false
set_option maxRecDepth 100000
set_option maxHeartbeats 0
namespace K02
open PV PySem.NumText
noncomputable section
/-! ### the law's parts, one by one -/
theorem par_of {j n : Nat} {is : List Nat} {f : M (List D)} {ds : List D} {L : List (Nat × D)} {ρ : PV.Env} (h : f ρ = .ok (ds, ρ)) (A : Ag j n L ρ) (hi : ∀ i ∈ is, i < n ∧ i ≠ j) (hl : is.length = ds.length) : ∃ ρ', Ag j n ((is.zip ds).reverse ++ L) ρ' ∧ sPar is f ρ = .nx ρ' :=
  ⟨setAll is ds ρ, A.all is ds hi hl, sDo_of h⟩
theorem asg_of {j n i : Nat} {f : M D} {d : D} {L : List (Nat × D)} {ρ : PV.Env} (h : f ρ = .ok (d, ρ)) (A : Ag j n L ρ) (hi : i < n) (hj : i ≠ j) : ∃ ρ', Ag j n ((i, d) :: L) ρ' ∧ ∀ k, seqL [sAsg i f] k ρ = k ρ' :=
  ⟨ρ.set i (some d), A.cons hi hj, fun k => sSeq_of (by rw [sAsg_def]; exact sDo_of h)⟩
theorem no_of {s : SM} {ρ : PV.Env} (h : s ρ = .nx ρ) : ∀ k, seqL [s] k ρ = k ρ := fun k => sSeq_of h
/-- the rows -/
structure Rows (ps qs : List (Int × Int)) : Prop where
  l1 : 1 ≤ ps.length
  l5 : ps.length ≤ 5
  q5 : qs.length ≤ 5
  p : ∀ p ∈ ps, Sm p
  q : ∀ p ∈ qs, Sm p
abbrev LR (ps qs : List (Int × Int)) : List (Nat × D) := [(4, .tup (rts qs)), (3, .tup (rts ps))]
theorem p0 (ns : List Int) : ∃ ρ, Ag 1 23 [] ρ ∧ ∀ k, seqL [g0] k (PV.envOf 23 [.scr ns]) = k ρ := by
  obtain ⟨a, b, e⟩ := state_ok ns
  refine ⟨(PV.envOf 23 [.scr ns]).set 1 (some (.lst [.int a, .int b])), ⟨by rw [List.length_set]; rfl, ⟨a, b, by rw [look_set]; rfl⟩, fun i d h => by cases h⟩, fun k => sSeq_of ?_⟩
  unfold g0
  rw [sAsg_def]
  exact sDo_of (call_of (cons_of (v := .scr ns) rfl nil_of) (by rw [t_state]; exact e))
theorem p1 {ρ : PV.Env} (A : Ag 1 23 [] ρ) : ∃ (m : Int) (ρ' : PV.Env), 1 ≤ m ∧ m ≤ 5 ∧ Ag 1 23 [(2, .int m)] ρ' ∧ ∀ k, seqL [g1] k ρ = k ρ' := by
  obtain ⟨d, ρ', ⟨m, rfl, m1, m5⟩, A', e⟩ := dw_asg (i := 2) (f := e2 gAdd (eC (.int 1)) (takeM 1 (eC (.int 5)))) (Q := fun d => ∃ m : Int, d = .int m ∧ 1 ≤ m ∧ m ≤ 5) (dw_e2 (dw_c (draw (dw_c rfl) rfl (by decide) (by decide) fun v v0 v1 => ⟨.int (1 + v), rfl, 1 + v, rfl, by omega, by omega⟩))) (by decide) (by decide) A
  exact ⟨m, ρ', m1, m5, A', fun k => e k⟩
theorem drow {m : Int} (m1 : 1 ≤ m) (m5 : m ≤ 5) : Dw 1 23 [(2, .int m)] (eCallIO 1 [.io 1, .val (.rd 0)] (m__law_num_row) (aIo 1 (aCons (eVar 2) (aNil)))) fun d => ∃ ps : List (Int × Int), d = .tup (rts ps) ∧ (ps.length : Int) = m ∧ ∀ p ∈ ps, Sm p :=
  dw_io (more := [.int m]) (fun _ => rfl) rfl (dwl_cons (dw_var rfl (dwl_nil rfl))) fun x y => by
    obtain ⟨ps, x', y', l, s, e⟩ := numrow_ok x y m (by omega) (by omega)
    exact ⟨_, x', y', ⟨ps, rfl, l, s⟩, e⟩
theorem p2 {m : Int} {ρ : PV.Env} (m1 : 1 ≤ m) (m5 : m ≤ 5) (A : Ag 1 23 [(2, .int m)] ρ) : ∃ (ps qs : List (Int × Int)) (ρ' : PV.Env), Rows ps qs ∧ ps.length = qs.length ∧ Ag 1 23 (LR ps qs) ρ' ∧ ∀ k, seqL [g2] k ρ = k ρ' := by
  obtain ⟨ds, ρ', ⟨ps, qs, rfl, r, el⟩, A', e⟩ := dw_par (is := [3, 4]) (Q := fun ds => ∃ ps qs : List (Int × Int), ds = [.tup (rts ps), .tup (rts qs)] ∧ Rows ps qs ∧ ps.length = qs.length)
    (dwl_cons ((drow m1 m5).imp fun x ⟨ps, ex, lx, sx⟩ => dwl_cons ((drow m1 m5).imp fun y ⟨qs, ey, ly, sy⟩ => dwl_nil ⟨ps, qs, by rw [ex, ey], ⟨by omega, by omega, by omega, sx, sy⟩, by omega⟩))) (by decide) (fun ds ⟨_, _, e, _⟩ => by rw [e]; rfl) A
  exact ⟨ps, qs, ρ', r, el, ag_sub A' (by (repeat refine each_cons rfl ?_); exact each_nil), fun k => e k⟩
section
variable {ps qs : List (Int × Int)} {ρ : PV.Env}
abbrev LS (ps qs : List (Int × Int)) (a b c : Int × Int) : List (Nat × D) := (7, rt c) :: (6, rt b) :: (5, rt a) :: LR ps qs
theorem make_lit {n : Int} {p : Int × Int} (h : lowP n 1 = p) : eMake "Ratio" m_Ratio___init__ [.int 1] (aCons (eC (.int n)) (aNil)) ρ = .ok (rt p, ρ) := (make1_of (fa := eC (.int n)) (ρ := ρ) rfl).trans (by rw [h])
theorem p3 (A : Ag 1 23 (LR ps qs) ρ) : ∃ ρ', Ag 1 23 (LS ps qs (0, 1) (1, 1) (0, 1)) ρ' ∧ ∀ k, seqL [g3] k ρ = k ρ' := by
  obtain ⟨ρ', A', e⟩ := par_of (is := [5, 6, 7]) (ds := [rt (0, 1), rt (1, 1), rt (0, 1)]) (cons_of (make_lit low_01) (cons_of (make_lit low_11) (cons_of (make_lit low_01) nil_of))) A (by decide) rfl
  exact ⟨ρ', A', fun k => sSeq_of e⟩
def accB : SM := sPar [5, 6, 7] (aCons (eOpX "Ratio" m_Ratio___add__ gAdd (eVar 5) (eVar 8)) (aCons (eOpX "Ratio" m_Ratio___mul__ gMul (eVar 6) (eVar 8)) (aCons (eOpX "Ratio" m_Ratio___add__ gAdd (eVar 7) (eOpX "Ratio" m_Ratio___mul__ gMul (eVar 8) (eVar 9))) (aNil))))
def tg2 : D → PV.Env → Option PV.Env := tgTup (tgCons (tgName 8) (tgCons (tgName 9) (tgNil))) 2
theorem Sm.n60 {p : Int × Int} (s : Sm p) : p.1.natAbs ≤ 2 ^ 60 := Nat.le_trans s.n (by decide)
theorem mul_bd {p q : Int × Int} (s : Sm p) (t : Sm q) : Bd 9 (mulP p q) := by
  have l := low_ex (p.1 * q.1) (p.2 * q.2) (s.bd.nz t.bd)
  exact ⟨⟨l.pos, l.low⟩, Nat.le_trans l.small (by rw [Int.natAbs_mul]; exact Nat.mul_le_mul s.e t.e)⟩
theorem acc_loop : ∀ (zs : List ((Int × Int) × (Int × Int))) (k : Nat) (a b c : Int × Int) (ρ : PV.Env), (∀ z ∈ zs, Sm z.1 ∧ Sm z.2) → Bd k a → Bd k b → Bd k c → k * 9 ^ zs.length < 2 ^ 60 → Ag 1 23 (LS ps qs a b c) ρ →
    ∃ ρ', forN tg2 accB (zs.map fun z => .tup [rt z.1, rt z.2]) ρ = .nx ρ' ∧ Ag 1 23 (LS ps qs ((zs.map Prod.fst).foldl addP a) ((zs.map Prod.fst).foldl mulP b) ((zs.map fun z => mulP z.1 z.2).foldl addP c)) ρ'
  | [], _, a, b, c, ρ, _, _, _, _, _, A => ⟨ρ, rfl, A⟩
  | z :: zs, k, a, b, c, ρ, hz, ba, bb, bc, hk, A => by
    obtain ⟨s1, s2⟩ := hz z List.mem_cons_self
    have hk' : k * 9 * 9 ^ zs.length < 2 ^ 60 := by
      rw [List.length_cons, Nat.pow_succ] at hk
      rw [Nat.mul_assoc, Nat.mul_comm 9]
      exact hk
    have k1 : k * 9 < 2 ^ 60 := Nat.lt_of_le_of_lt (Nat.le_mul_of_pos_right _ (Nat.pow_pos (by decide))) hk'
    have k0 : k < 2 ^ 60 := Nat.lt_of_le_of_lt (Nat.le_mul_of_pos_right _ (by decide)) k1
    have A2 := (A.cons (i := 8) (d := rt z.1) (by decide) (by decide)).cons (i := 9) (d := rt z.2) (by decide) (by decide)
    obtain ⟨ρ1, A3, e1⟩ := par_of (is := [5, 6, 7]) (ds := [rt (addP a z.1), rt (mulP b z.1), rt (addP c (mulP z.1 z.2))])
      (cons_of (opr_of (g := gAdd) (var_of (A2.at_ 5 _ rfl)) (var_of (A2.at_ 8 _ rfl)) (addM_ok ba s1.bd k0 (by decide) k1)) (cons_of (opr_of (g := gMul) (var_of (A2.at_ 6 _ rfl)) (var_of (A2.at_ 8 _ rfl)) (mulM_ok' bb s1.bd s1.n60 (by decide) k1))
        (cons_of (opr_of (g := gAdd) (var_of (A2.at_ 7 _ rfl)) (opr_of (g := gMul) (var_of (A2.at_ 8 _ rfl)) (var_of (A2.at_ 9 _ rfl)) (mulM_ok' s1.bd s2.bd s2.n60 (by decide) (by decide))) (addM_ok bc (mul_bd s1 s2) k0 (by decide) k1)) nil_of))) A2 (by decide) rfl
    obtain ⟨ρ', e, A'⟩ := acc_loop zs (k * 9) _ _ _ ρ1 (fun y hy => hz y (List.mem_cons_of_mem _ hy)) (ba.add s1.bd) (bb.mul s1.bd) (bc.add (mul_bd s1 s2)) hk' (ag_sub A3 (by (repeat refine each_cons rfl ?_); exact each_nil))
    refine ⟨ρ', ?_, A'⟩
    rw [List.map_cons, forN_cons]
    have et : tg2 (.tup [rt z.1, rt z.2]) ρ = some ((ρ.set 8 (some (rt z.1))).set 9 (some (rt z.2))) := by
      unfold tg2
      simp only [tgName_def]
      rfl
    rw [et]
    exact (sSeq_of e1).trans e
theorem p4 (r : Rows ps qs) (hl : ps.length = qs.length) (A : Ag 1 23 (LS ps qs (0, 1) (1, 1) (0, 1)) ρ) : ∃ ρ', Ag 1 23 (LS ps qs (ps.foldl addP (0, 1)) (ps.foldl mulP (1, 1)) ((mulsP ps qs).foldl addP (0, 1))) ρ' ∧ ∀ k, seqL [g4] k ρ = k ρ' := by
  have zl : (ps.zip qs).length ≤ 5 := by rw [List.length_zip]; have := r.l5; omega
  obtain ⟨ρ', e, A'⟩ := acc_loop (ps.zip qs) 1 (0, 1) (1, 1) (0, 1) ρ (fun z hz => ⟨r.p _ (List.of_mem_zip hz).1, r.q _ (List.of_mem_zip hz).2⟩) ⟨⟨by decide, by decide⟩, by decide⟩ ⟨⟨by decide, by decide⟩, by decide⟩ ⟨⟨by decide, by decide⟩, by decide⟩
    (Nat.lt_of_le_of_lt (by rw [Nat.one_mul]; exact Nat.pow_le_pow_right (by decide) zl) (show 9 ^ 5 < 2 ^ 60 by decide)) A
  rw [List.map_fst_zip (by omega)] at A'
  refine ⟨ρ', A', fun k => sSeq_of ?_⟩
  show sDo _ _ ρ = _
  refine (sDo_of (a := (ps.zip qs).map fun z : (Int × Int) × (Int × Int) => D.tup [rt z.1, rt z.2]) (ρ1 := ρ) ?_).trans e
  rw [← zip_rts]
  unfold iRg
  rw [M.bind_of (two_of (var_of (A.at_ 3 (.tup (rts ps)) rfl)) (var_of (A.at_ 4 (.tup (rts qs)) rfl)))]
  rfl
/-! rows of Ratios are alike to themselves -/
theorem rt_alike (f : D → D → Bool) (p : Int × Int) : oneAlike "Ratio" m_Ratio___eq__ f (rt p) (rt p) = true := by
  have e : m_Ratio___eq__ [rt p, rt p] = .ok (.bl true) := eqM_ok.trans (by rw [decide_eq_true ⟨rfl, rfl⟩])
  unfold oneAlike
  unfold rt rat at *
  simp [e]
theorem eqR_self {f : D → D → Bool} : ∀ {ds : List D}, (∀ d ∈ ds, f d d = true) → eqR f ds ds = true
  | [], _ => rfl
  | d :: ds, h => by
    rw [eqR_cons, h d List.mem_cons_self, eqR_self fun x hx => h x (List.mem_cons_of_mem _ hx)]
    rfl
theorem ne_lst {fa fb : M D} {rs : List (Int × Int)} (ha : fa ρ = .ok (.lst (rts rs), ρ)) (hb : fb ρ = .ok (.lst (rts rs), ρ)) : e2 (gNeX "Ratio" m_Ratio___eq__) fa fb ρ = .ok (.bl false, ρ) := by
  refine e2_of ha hb ?_
  unfold gNeX
  rw [if_pos]
  refine eqR_self fun d hd => ?_
  obtain ⟨p, _, rfl⟩ := List.mem_map.mp hd
  exact rt_alike _ p
theorem ne_tup {fa fb : M D} {rs : List (Int × Int)} (ha : fa ρ = .ok (.tup (rts rs), ρ)) (hb : fb ρ = .ok (.tup (rts rs), ρ)) : e2 (gNeX "Ratio" m_Ratio___eq__) fa fb ρ = .ok (.bl false, ρ) := by
  refine e2_of ha hb ?_
  unfold gNeX
  rw [if_pos]
  refine eqR_self fun d hd => ?_
  obtain ⟨p, _, rfl⟩ := List.mem_map.mp hd
  exact rt_alike _ p
theorem p5 (r : Rows ps qs) (A : Ag 1 23 (LS ps qs (ps.foldl addP (0, 1)) (ps.foldl mulP (1, 1)) ((mulsP ps qs).foldl addP (0, 1))) ρ) : g5 ρ = .nx ρ := by
  unfold g5
  have v3 := var_of (A.at_ 3 (.tup (rts ps)) rfl)
  have v4 := var_of (A.at_ 4 (.tup (rts qs)) rfl)
  have hp : ∀ p ∈ ps, Bd 9 p ∧ p.1.natAbs ≤ 2 ^ 60 := fun p h => ⟨(r.p p h).bd, (r.p p h).n60⟩
  refine if_no (tB_of (ne_lst (rs := [ps.foldl addP (0, 1), ps.foldl addP (0, 1), ps.foldl mulP (1, 1), (mulsP ps qs).foldl addP (0, 1), (0, 1), (1, 1)]) ?_ ?_))
  · refine lst_of (cons_of (call_of (cons_of v3 nil_of) (sum_ok (.inl rfl) r.l5 hp)) (cons_of (call_of (cons_of (e1L_of (g := gList) (w := .lst (rts ps)) v3 rfl) nil_of) (sum_ok (.inr rfl) r.l5 hp)) (cons_of (call_of (cons_of v3 nil_of) (product_ok (.inl rfl) r.l5 hp)) (cons_of (call_of (two_of v3 v4) (dot_ok r.l5 r.p r.q))
      (cons_of (call_of (cons_of (tup_of nil_of (by simp)) nil_of) (sum_ok (ps := []) (.inl rfl) (by simp) (fun _ h => nomatch h))) (cons_of (call_of (cons_of (tup_of nil_of (by simp)) nil_of) (product_ok (ps := []) (.inl rfl) (by simp) (fun _ h => nomatch h))) nil_of)))))) (by simp)
  · exact lst_of (cons_of (var_of (A.at_ 5 _ rfl)) (cons_of (var_of (A.at_ 5 _ rfl)) (cons_of (var_of (A.at_ 6 _ rfl)) (cons_of (var_of (A.at_ 7 _ rfl)) (cons_of (make_lit low_01) (cons_of (make_lit low_11) nil_of)))))) (by simp)
end
end
end K02

open PySem PySem.Spec
open PyProof.Rows L2
set_option Elab.async false
set_option linter.all false
set_option maxRecDepth 100000
set_option maxHeartbeats 0
namespace K02
open PV PySem.NumText
noncomputable section
/-! ### the law's parts, further -/
def kb (d : D) : Bool := match gIsK "Ratio" d with
  | some (.bl b) => b
  | _ => false
def goodV : D → Bool
  | .tup ds => ds.all kb
  | _ => false
structure OkV (v : D) : Prop where
  ex : (∃ ds, v = .tup ds ∧ ds.length ≤ 100000 ∧ ∀ d ∈ ds, ∃ b, gIsK "Ratio" d = some (.bl b)) ∨ (gIsT .tup v = some (.bl false) ∧ goodV v = false)
theorem kb_of {d : D} (h : ∃ b, gIsK "Ratio" d = some (.bl b)) : gIsK "Ratio" d = some (.bl (kb d)) := by
  obtain ⟨b, e⟩ := h
  unfold kb
  rw [e]
theorem good_of {v : D} {i w : Nat} {ρ : PV.Env} (h : look ρ i = some v) (hw : w < ρ.length) (ok : OkV v) : eAnd (e1 (gIsT .tup) (eVar i)) (e1L gAll (eLc [w] (iSeqM (eVar i)) (tgName w) (tTrue) (e1 (gIsK "Ratio") (eVar w)))) ρ = .ok (.bl (goodV v), ρ) := by
  rcases ok.ex with ⟨ds, rfl, hl, hd⟩ | ⟨n, g⟩
  · refine eAnd_t (e1_of (var_of h) rfl) (e1L_of (eLc_map (h := fun d => .bl (kb d)) (ds := ds) ?_ hl ?_) (all_map kb ds))
    · unfold iSeqM
      rw [M.bind_of (var_of h)]
      rfl
    · intro d hd'
      exact e1_of (var_of (by rw [look_set, if_pos rfl, if_pos hw])) (kb_of (hd d hd'))
  · rw [g]
    exact eAnd_f (e1_of (var_of h) n)
theorem isrow_ok {v : D} (ok : OkV v) : m_is_ratio_row [v] = .ok (.bl (goodV v)) := ret_of (good_of (i := 0) (w := 1) rfl (Nat.lt_succ_self 1) ok)
def valB : SM := sSeq (sAsg 11 (eAnd (e1 (gIsT .tup) (eVar 10)) (e1L gAll (eLc [8] (iSeqM (eVar 10)) (tgName 8) (tTrue) (e1 (gIsK "Ratio") (eVar 8))))))
  (sIf (PV.tNot (PV.tB (eCall (m__law_says) (aCons (eCall (m_is_ratio_row) (aCons (eVar 10) (aNil))) (aCons (eVar 11) (aNil)))))) (sRet (eC (.bl false))) (sNx))
section
variable {ps qs : List (Int × Int)} {ρ : PV.Env}
theorem ag_at {L : List (Nat × D)} {i : Nat} {d : D} (A : Ag 1 23 L ρ) (hi : i < 23) (hj : i ≠ 1) (no : L.lookup i = none) : Ag 1 23 L (ρ.set i (some d)) := (A.cons (d := d) hi hj).sub fun k x h => by
  rw [List.lookup_cons]
  have : (k == i) = false := by
    cases q : k == i with
    | false => rfl
    | true =>
      rw [eq_of_beq q, no] at h
      cases h
  rw [this]
  exact h
theorem val_loop : ∀ (ds : List D) (ρ : PV.Env), (∀ v ∈ ds, OkV v) → Ag 1 23 (LR ps qs) ρ → ∃ ρ', forN (tgName 10) valB ds ρ = .nx ρ' ∧ Ag 1 23 (LR ps qs) ρ'
  | [], ρ, _, A => ⟨ρ, rfl, A⟩
  | v :: r, ρ, h, A => by
    have A1 := A.cons (i := 10) (d := v) (by decide) (by decide)
    have ok := h v List.mem_cons_self
    obtain ⟨ρ2, A2, e2⟩ := asg_of (i := 11) (good_of (A1.at_ 10 v rfl) (w := 8) (by rw [A1.len]; decide) ok) A1 (by decide) (by decide)
    obtain ⟨ρ', e, A'⟩ := val_loop r ρ2 (fun x hx => h x (List.mem_cons_of_mem _ hx)) (ag_sub A2 (by (repeat refine each_cons rfl ?_); exact each_nil))
    refine ⟨ρ', ?_, A'⟩
    rw [forN_cons, tgName_def]
    show sSeq valB (forN (fun d ρ => some (ρ.set 10 (some d))) valB r) (ρ.set 10 (some v)) = _
    have eb : valB (ρ.set 10 (some v)) = .nx ρ2 := by
      refine (e2 _).trans (if_no (nope (call_of (two_of (call_of (cons_of (var_of (A2.at_ 10 v rfl)) nil_of) (isrow_ok ok)) (var_of (A2.at_ 11 _ rfl))) ((says_ok _ _).trans (by rw [decide_eq_true rfl])))))
    rw [sSeq_of eb, ← tgName_def]
    exact e
theorem rt_is (p : Int × Int) : ∃ b, gIsK "Ratio" (rt p) = some (.bl b) := ⟨true, isK_ok _ _⟩
theorem seqL_of {fa : M (List D)} {ds : List D} (h : fa ρ = .ok (ds, ρ)) (hl : ds.length ≤ 100000) : iSeqM (eLst fa) ρ = .ok (ds, ρ) := by
  unfold iSeqM
  rw [M.bind_of (lst_of h hl)]
  rfl
theorem seqT_of {fa : M (List D)} {ds : List D} (h : fa ρ = .ok (ds, ρ)) (hl : ds.length ≤ 100000) : iSeqM (eTup fa) ρ = .ok (ds, ρ) := by
  unfold iSeqM
  rw [M.bind_of (tup_of h hl)]
  rfl
theorem p6 (r : Rows ps qs) (A : Ag 1 23 (LR ps qs) ρ) : ∃ ρ', Ag 1 23 (LR ps qs) ρ' ∧ ∀ k, seqL [g6] k ρ = k ρ' := by
  have v3 := var_of (A.at_ 3 (.tup (rts ps)) rfl)
  have l5 := r.l5
  have all : ∀ v ∈ ([.tup (rts ps), .lst (rts ps), .tup [], .tup [rt (1, 1), .int 1], .tup [.non], .non, .int 5, .str "x", .tup [.tup (rts ps)]] : List D), OkV v := by
    intro v hv
    simp only [List.mem_cons, List.not_mem_nil, or_false] at hv
    have nil : OkV (.tup []) := ⟨.inl ⟨[], rfl, by simp, fun _ h => absurd h List.not_mem_nil⟩⟩
    have one : ∀ d b, gIsK "Ratio" d = some (.bl b) → OkV (.tup [d]) := fun d b e => ⟨.inl ⟨[d], rfl, by simp, fun x hx => by
      rw [List.mem_singleton] at hx
      rw [hx]
      exact ⟨b, e⟩⟩⟩
    rcases hv with rfl | rfl | rfl | rfl | rfl | rfl | rfl | rfl | rfl
    · refine ⟨.inl ⟨rts ps, rfl, by rw [List.length_map]; omega, fun d hd => ?_⟩⟩
      obtain ⟨p, _, rfl⟩ := List.mem_map.mp hd
      exact rt_is p
    · exact ⟨.inr ⟨rfl, rfl⟩⟩
    · exact nil
    · refine ⟨.inl ⟨_, rfl, by simp, fun d hd => ?_⟩⟩
      simp only [List.mem_cons, List.not_mem_nil, or_false] at hd
      rcases hd with rfl | rfl
      · exact rt_is _
      · exact ⟨false, rfl⟩
    · exact one _ false rfl
    · exact ⟨.inr ⟨rfl, rfl⟩⟩
    · exact ⟨.inr ⟨rfl, rfl⟩⟩
    · exact ⟨.inr ⟨rfl, rfl⟩⟩
    · exact one _ false rfl
  obtain ⟨ρ', e, A'⟩ := val_loop [.tup (rts ps), .lst (rts ps), .tup [], .tup [rt (1, 1), .int 1], .tup [.non], .non, .int 5, .str "x", .tup [.tup (rts ps)]] ρ all A
  refine ⟨ρ', A', fun k => sSeq_of ?_⟩
  show sDo _ _ ρ = _
  refine (sDo_of (seqL_of ?_ (by simp))).trans e
  exact cons_of v3 (cons_of (e1L_of (g := gList) (w := .lst (rts ps)) v3 rfl) (cons_of (tup_of nil_of (by simp)) (cons_of (tup_of (two_of (make_lit low_11) rfl) (by simp)) (cons_of (tup_of (cons_of rfl nil_of) (by simp)) (cons_of rfl (cons_of rfl (cons_of rfl (cons_of (tup_of (cons_of v3 nil_of) (by simp)) nil_of))))))))
/-! mixed rows -/
def cvt : D → D
  | .int n => rt (lowP n 1)
  | d => d
def convE : M D := eIf (PV.tB (e1 (gIsK "Ratio") (eVar 1))) (eVar 1) (eMake "Ratio" m_Ratio___init__ [.int 1] (aCons (eVar 1) (aNil)))
theorem ratios_ok {x : D} {ds : List D} (hx : x = .lst ds ∨ x = .tup ds) (hl : ds.length ≤ 100000) (hd : ∀ d ∈ ds, (∃ p : Int × Int, d = rt p) ∨ ∃ n : Int, d = .int n) : m_ratios [x] = .ok (.tup (ds.map cvt)) := by
  have t : e1 (gIsTs [.lst, .tup]) (eVar 0) (PV.envOf 2 [x]) = .ok (.bl true, PV.envOf 2 [x]) := e1_of (var_of (v := x) rfl) (by rcases hx with rfl | rfl <;> rfl)
  refine (seq_run (if_no (nope t))).trans (ret_of (tupL_of (ρ1 := PV.envOf 2 [x]) (eLcX_map (f := convE) (h := cvt) (ds := ds) ?_ hl fun d h => ?_)))
  · unfold iSeqM
    rw [M.bind_of (var_of (v := x) rfl)]
    rcases hx with rfl | rfl <;> rfl
  · rcases hd d h with ⟨p, rfl⟩ | ⟨n, rfl⟩
    · exact eIf_t (tB_of (e1_of (var_of rfl) (isK_ok _ _))) (var_of rfl)
    · exact eIf_f (tB_of (e1_of (var_of rfl) (by rfl))) (make1_of (var_of rfl))
abbrev LM (ps qs : List (Int × Int)) (m : Int) (p : Int × Int) : List (Nat × D) := (12, .lst [.int m, rt p, .int 0]) :: LR ps qs
theorem p7 {p : Int × Int} (A : Ag 1 23 (LR (p :: ps) qs) ρ) : ∃ (m : Int) (ρ' : PV.Env), Ag 1 23 (LM (p :: ps) qs m p) ρ' ∧ ∀ k, seqL [g7] k ρ = k ρ' := by
  obtain ⟨d, ρ', ⟨m, rfl⟩, A', e⟩ := dw_asg (i := 12) (f := eLst (aCons (e2 PV.gSub (takeM 1 (eC (.int 9))) (eC (.int 4))) (aCons (e2 gIx (eVar 3) (eC (.int 0))) (aCons (eC (.int 0)) (aNil))))) (Q := fun d => ∃ m : Int, d = .lst [.int m, rt p, .int 0]) (fun ρ A => by
    obtain ⟨d, ρ1, e, ⟨m, rfl⟩, A1⟩ := (dw_e2 (Q := fun d => ∃ m : Int, d = .int m) (draw (m := 9) (dw_c rfl) rfl (by decide) (by decide) fun v v0 v1 => dw_c ⟨.int (v - 4), rfl, _, rfl⟩) : Dw 1 23 (LR (p :: ps) qs) (e2 PV.gSub (takeM 1 (eC (.int 9))) (eC (.int 4))) _) ρ A
    exact ⟨_, ρ1, lst_of (cons_of e (cons_of (ix0_of (t := D.tup) (d := rt p) (ds := rts ps) (var_of (A1.at_ 3 _ rfl)) (.inl rfl)) (cons_of rfl nil_of))) (by simp), ⟨m, rfl⟩, A1⟩) (by decide) (by decide) A
  exact ⟨m, ρ', A', fun k => e k⟩
theorem p8 {p : Int × Int} {m : Int} (A : Ag 1 23 (LM (p :: ps) qs m p) ρ) : g8 ρ = .nx ρ := by
  have v3 := var_of (A.at_ 3 (.tup (rts (p :: ps))) rfl)
  have v12 := var_of (A.at_ 12 (.lst [.int m, rt p, .int 0]) rfl)
  have all : ∀ d ∈ [D.int m, rt p, .int 0], (∃ p : Int × Int, d = rt p) ∨ ∃ n : Int, d = .int n := fun d hd => by
    simp only [List.mem_cons, List.not_mem_nil, or_false] at hd
    rcases hd with rfl | rfl | rfl
    · exact .inr ⟨_, rfl⟩
    · exact .inl ⟨_, rfl⟩
    · exact .inr ⟨_, rfl⟩
  have res : ∀ {fa : M D} {x : D}, fa ρ = .ok (x, ρ) → (x = .lst [.int m, rt p, .int 0] ∨ x = .tup [.int m, rt p, .int 0]) → eCall m_ratios (aCons fa aNil) ρ = .ok (.tup (rts [lowP m 1, p, (0, 1)]), ρ) := fun ha hx => call_of (cons_of ha nil_of) ((ratios_ok hx (by simp) all).trans (by rw [← low_01]; rfl))
  unfold g8
  refine if_no (tOr_f (tB_of (ne_tup (rs := [lowP m 1, p, (0, 1)]) (res v12 (.inl rfl)) (tup_of (cons_of (make1_of (ix0_of (t := D.lst) (d := .int m) v12 (.inr rfl))) (cons_of (ix0_of (t := D.tup) (d := rt p) (ds := rts ps) v3 (.inl rfl)) (cons_of (make_lit low_01) nil_of))) (by simp))))
    (tOr_f (tB_of (ne_tup (rs := [lowP m 1, p, (0, 1)]) (res (e1L_of (g := gTuple) (w := .tup [.int m, rt p, .int 0]) v12 rfl) (.inr rfl)) (res v12 (.inl rfl)))) (tB_of (e2_of (call_of (cons_of (tup_of nil_of (by simp)) nil_of) (ratios_ok (ds := []) (.inr rfl) (by simp) (fun _ h => absurd h List.not_mem_nil))) (tup_of nil_of (by simp)) rfl))))
def badsL : List D := [.non, .int 5, .tup [.non], .tup [.bl true], .tup [.str "1"], .dct [(.int 1, .int 2)]]
theorem bad_ok : ∀ v ∈ badsL, m__law_result [.fn "ratios", .tup [v]] = .ok (.tup [.str "malformed", .non]) := by
  intro v hv
  simp only [badsL, List.mem_cons, List.not_mem_nil, or_false] at hv
  rcases hv with rfl | rfl | rfl | rfl | rfl | rfl <;> with_unfolding_all rfl
theorem p9 (hl : ρ.length = 23) : g9 ρ = .nx ρ := by
  unfold g9
  refine if_no (tB_of (e2_of (v := .lst [.str "malformed", .str "malformed", .str "malformed", .str "malformed", .str "malformed", .str "malformed"]) (eLc_map (h := fun _ => .str "malformed") (ds := badsL) ?_ (by decide) ?_) (e2_of (lst_of (cons_of rfl nil_of) (by decide)) rfl rfl) (by with_unfolding_all rfl)))
  · exact seqT_of (cons_of rfl (cons_of rfl (cons_of (tup_of (cons_of rfl nil_of) (by decide)) (cons_of (tup_of (cons_of rfl nil_of) (by decide)) (cons_of (tup_of (cons_of rfl nil_of) (by decide)) (cons_of rfl nil_of)))))) (by decide)
  · intro v hv
    have k : look (ρ.set 20 (some v)) 20 = some v := by rw [look_set, if_pos rfl, if_pos (by rw [hl]; decide)]
    exact e2_of (call_of (two_of rfl (tup_of (cons_of (var_of k) nil_of) (by simp))) (bad_ok v hv)) rfl rfl
end
end
end K02

open PySem PySem.Spec
open PyProof.Rows L2
set_option Elab.async false
set_option linter.all false
set_option maxRecDepth 100000
set_option maxHeartbeats 0
namespace K02
open PV PySem.NumText
noncomputable section
/-! ### texts of rows -/
def tx (p : Int × Int) : Str := rtx p.1 p.2
def tex (ps : List (Int × Int)) : Str := Str.join ⟨#[44]⟩ (ps.map tx)
theorem dl_one {n : Nat} (h : n < 10) : (dl n).length = 1 := by rw [dl_small h]; rfl
theorem tx_len {p : Int × Int} (s : Sm p) : (tx p).length ≤ 4 := by
  have n := s.n
  have e := s.e
  have h1 := dl_one (n := p.1.natAbs) (by omega)
  have h2 := dl_one (n := p.2.natAbs) (by omega)
  unfold tx
  rw [len_tl, tl_rtx s.rt.pos, List.length_append, List.length_append, h1]
  unfold tailL
  split <;> split <;> simp [h2]
theorem tx_ok (p : Int × Int) : PyData.strOk (tx p) = true := rtx_ok
theorem log_s {n : Nat} (h : n ≤ 6) : n.log2 < 1920 := log_of (Nat.lt_of_le_of_lt h (by decide +kernel))
theorem isObj_self {k : Str} {fs : List (Str × D)} : isObj k (.obj k fs) = true := decide_eq_true rfl
theorem strA_of {fa : M D} {ρ ρ1 : PV.Env} {N E : Int} (ha : fa ρ = .ok (rat N E, ρ1)) (hN : N.natAbs.log2 < 1920) (hE : E.natAbs.log2 < 1920) : eStrA "Ratio" m_Ratio___str__ fa ρ = .ok (.str (rtx N E), ρ1) := by
  unfold eStrA
  have io : isObj "Ratio" (rat N E) = true := isObj_self
  rw [M.bind_of ha, if_pos io]
  have e : M.lift m_Ratio___str__ (M.pure [rat N E]) ρ1 = .ok (.str (rtx N E), ρ1) := by
    unfold M.lift
    rw [M.bind_of (a := [rat N E]) (ρ1 := ρ1) rfl, strM_ok hN hE]
  rw [M.bind_of e]
  rfl
theorem Sm.logs {p : Int × Int} (s : Sm p) : p.1.natAbs.log2 < 1920 ∧ p.2.natAbs.log2 < 1920 := ⟨log_s s.n, log_s (Nat.le_trans s.e (by decide))⟩
theorem no44 {p : Int × Int} (h : 1 ≤ p.2) : 44 ∉ tl (tx p) := by
  unfold tx
  rw [tl_rtx h]
  intro m
  rcases List.mem_append.mp m with m | m
  · split at m <;> simp at m
  · rcases List.mem_append.mp m with m | m
    · exact dl_no (.inl (by decide)) _ m
    · unfold tailL at m
      split at m
      · simp at m
      · rcases List.mem_cons.mp m with z | m
        · cases z
        · exact dl_no (.inl (by decide)) _ m
theorem map_tl_inj : ∀ {a b : List Str}, a.map tl = b.map tl → a = b
  | [], [], _ => rfl
  | [], _ :: _, h => by cases h
  | _ :: _, [], h => by cases h
  | x :: a, y :: b, h => by
    rw [List.map_cons, List.map_cons (f := tl)] at h
    injection h with h1 h2
    rw [str_ext h1, map_tl_inj h2]
theorem commas_tex {ps : List (Int × Int)} (ne : ps ≠ []) (h : ∀ p ∈ ps, Sm p) : commas (tex ps) = ps.map tx := by
  refine map_tl_inj ?_
  unfold commas tex
  rw [split_pieces, tl_join, pieces_glue]
  · intro z
    exact ne (List.map_eq_nil_iff.mp (List.map_eq_nil_iff.mp z))
  · intro l hl
    obtain ⟨z, hz, rfl⟩ := List.mem_map.mp hl
    obtain ⟨p, hp, rfl⟩ := List.mem_map.mp hz
    exact no44 (h p hp).rt.pos
theorem glue_mem {c d : Nat} : ∀ {ps : List (List Nat)}, d ∈ glue c ps → d = c ∨ ∃ p ∈ ps, d ∈ p
  | [], h => by cases h
  | [p], h => .inr ⟨p, List.mem_singleton.mpr rfl, h⟩
  | p :: q :: r, h => by
    rcases List.mem_append.mp (show d ∈ p ++ c :: glue c (q :: r) from h) with m | m
    · exact .inr ⟨p, List.mem_cons_self, m⟩
    · rcases List.mem_cons.mp m with m | m
      · exact .inl m
      · rcases glue_mem m with z | ⟨x, hx, hm⟩
        · exact .inl z
        · exact .inr ⟨x, List.mem_cons_of_mem _ hx, hm⟩
theorem glue_le {c k : Nat} : ∀ {ps : List (List Nat)}, (∀ p ∈ ps, p.length ≤ k) → (glue c ps).length ≤ (k + 1) * ps.length
  | [], _ => Nat.zero_le _
  | [p], h => by
    have := h p List.mem_cons_self
    show p.length ≤ _
    simp
    omega
  | p :: q :: r, h => by
    have h1 := h p List.mem_cons_self
    have h2 := glue_le (c := c) (ps := q :: r) fun x hx => h x (List.mem_cons_of_mem _ hx)
    show (p ++ c :: glue c (q :: r)).length ≤ _
    rw [List.length_append, List.length_cons, List.length_cons (as := q :: r), Nat.mul_succ]
    omega
theorem tex_len {ps : List (Int × Int)} (l5 : ps.length ≤ 5) (h : ∀ p ∈ ps, Sm p) : (tex ps).length ≤ 25 := by
  unfold tex
  rw [len_tl, tl_join]
  have := glue_le (c := 44) (k := 4) (ps := (ps.map tx).map tl) fun l hl => by
    obtain ⟨z, hz, rfl⟩ := List.mem_map.mp hl
    obtain ⟨p, hp, rfl⟩ := List.mem_map.mp hz
    rw [← len_tl]
    exact tx_len (h p hp)
  rw [List.length_map, List.length_map] at this
  omega
theorem tex_ok (ps : List (Int × Int)) : PyData.strOk (tex ps) = true := by
  rw [strOk_list, List.all_eq_true]
  intro d hd
  unfold tex at hd
  have hd : d ∈ tl (Str.join ⟨#[44]⟩ (ps.map tx)) := hd
  rw [tl_join] at hd
  rcases glue_mem hd with z | ⟨l, hl, m⟩
  · rw [z]; decide
  · obtain ⟨z, hz, rfl⟩ := List.mem_map.mp hl
    obtain ⟨p, hp, rfl⟩ := List.mem_map.mp hz
    have := tx_ok p
    rw [strOk_list, List.all_eq_true] at this
    exact this d m
theorem itx_tx {p : Int × Int} (s : Sm p) : itx (tx p) = true := itx_rtx s.rt.pos s.rt.low (Nat.le_trans (tx_len s) (by decide))
theorem itx_dash : itx (Str.ofString "-") = false := by decide +kernel
theorem tex_nd {ps : List (Int × Int)} (ne : ps ≠ []) (h : ∀ p ∈ ps, Sm p) : (tex ps == Str.ofString "-") = false := by
  rw [beq_eq_false_iff_ne]
  intro z
  have c := commas_tex ne h
  rw [z] at c
  have d : commas (Str.ofString "-") = [Str.ofString "-"] := by decide +kernel
  rw [d] at c
  match ps, c with
  | [], c => exact ne rfl
  | [p], c =>
    have e : Str.ofString "-" = tx p := by simpa using c
    have := itx_tx (h p List.mem_cons_self)
    rw [← e, itx_dash] at this
    cases this
  | _ :: _ :: _, c => simp at c
theorem strs_map : ∀ zs : List Str, strsOf (zs.map .str) = some zs
  | [] => rfl
  | z :: zs => by
    show (strsOf (zs.map .str)).map (z :: ·) = _
    rw [strs_map zs]
    rfl
theorem sum_le {k : Nat} : ∀ {l : List Nat}, (∀ x ∈ l, x ≤ k) → l.sum ≤ k * l.length
  | [], _ => Nat.zero_le _
  | x :: l, h => by
    have h1 := h x List.mem_cons_self
    have h2 := sum_le fun y hy => h y (List.mem_cons_of_mem _ hy)
    rw [List.sum_cons, List.length_cons, Nat.mul_succ]
    omega
theorem join_of {i w : Nat} {ρ : PV.Env} {ps : List (Int × Int)} (hi : look ρ i = some (.tup (rts ps))) (hw : w < ρ.length) (l5 : ps.length ≤ 5) (h : ∀ p ∈ ps, Sm p) : eM1 gJoin (eC (.str ",")) (eLc [w] (iSeqM (eVar i)) (tgName w) (tTrue) (eStrA "Ratio" m_Ratio___str__ (eVar w))) ρ = .ok (.str (tex ps), ρ) := by
  have e : eLc [w] (iSeqM (eVar i)) (tgName w) (tTrue) (eStrA "Ratio" m_Ratio___str__ (eVar w)) ρ = .ok (.lst ((ps.map tx).map .str), ρ) := by
    refine (eLc_map (h := fun d => match d with | .obj _ [(_, .int N), (_, .int E)] => .str (rtx N E) | _ => .non) (ds := rts ps) ?_ (by rw [List.length_map]; omega) fun d hd => ?_).trans ?_
    · unfold iSeqM
      rw [M.bind_of (var_of hi)]
      rfl
    · obtain ⟨p, hp, rfl⟩ := List.mem_map.mp hd
      obtain ⟨a, b⟩ := (h p hp).logs
      exact strA_of (var_of (by rw [look_set, if_pos rfl, if_pos hw])) a b
    · rw [List.map_map, List.map_map]
      rfl
  unfold eM1
  rw [M.bind_of (a := .str ",") (ρ1 := ρ) rfl, if_pos (show isStr (.str ",") = true from rfl), M.bind_of e]
  have g : gJoin (.str ",") (.lst ((ps.map tx).map .str)) = some (.str (tex ps)) := by
    show (match strsOf ((ps.map tx).map .str) with | some ys => _ | none => _) = _
    rw [strs_map]
    have s := sum_le (k := 4) (l := (ps.map tx).map (·.length)) fun x hx => by
      obtain ⟨z, hz, rfl⟩ := List.mem_map.mp hx
      obtain ⟨p, hp, rfl⟩ := List.mem_map.mp hz
      exact tx_len (h p hp)
    rw [List.length_map, List.length_map] at s
    show (if _ then _ else _) = _
    rw [if_pos, comma]
    · show some (D.str (Builtin.Str.glued ⟨#[44]⟩ (ps.map tx))) = _
      rw [PySem.StrLaws.glued_eq_join]
      rfl
    · have c1 : (Str.ofString ",").length = 1 := by decide
      rw [c1, List.length_map]
      omega
  rw [g]
  rfl
theorem rtext_ok {ps : List (Int × Int)} (l1 : 1 ≤ ps.length) (l5 : ps.length ≤ 5) (h : ∀ p ∈ ps, Sm p) : m_ratios_text [.tup (rts ps)] = .ok (.str (tex ps)) := by
  refine ret_of (eIf_t (tB_of ((gtI_of (y := 0) (e1L_of (g := gLen) (w := .int (ps.length : Nat)) (var_of (v := .tup (rts ps)) rfl) ?_) rfl).trans (by rw [decide_eq_true (by omega)]))) (join_of (i := 0) rfl (Nat.lt_succ_self 1) l5 h))
  show some (D.int ((rts ps).length : Nat)) = _
  rw [List.length_map]
section
variable {ps qs : List (Int × Int)} {ρ : PV.Env}
theorem ne_told {fa fb : M D} {rs : List (Int × Int)} (ha : fa ρ = .ok (.tup [.str "told", .tup (rts rs)], ρ)) (hb : fb ρ = .ok (.tup [.str "told", .tup (rts rs)], ρ)) : e2 (gNeX "Ratio" m_Ratio___eq__) fa fb ρ = .ok (.bl false, ρ) := by
  refine e2_of ha hb ?_
  unfold gNeX
  rw [if_pos]
  have inner : alike "Ratio" m_Ratio___eq__ 2 (.tup (rts rs)) (.tup (rts rs)) = true := eqR_self fun d hd => by
    obtain ⟨p, _, rfl⟩ := List.mem_map.mp hd
    exact rt_alike _ p
  show eqR (alike "Ratio" m_Ratio___eq__ 2) [D.str "told", .tup (rts rs)] [D.str "told", .tup (rts rs)] = true
  rw [eqR_cons, eqR_cons, inner]
  decide +kernel
abbrev LT (ps qs : List (Int × Int)) : List (Nat × D) := (13, .str (tex ps)) :: LR ps qs
theorem p10 (r : Rows ps qs) (A : Ag 1 23 (LR ps qs) ρ) : ∃ ρ', Ag 1 23 (LT ps qs) ρ' ∧ ∀ k, seqL [g10] k ρ = k ρ' :=
  asg_of (join_of (A.at_ 3 (.tup (rts ps)) rfl) (by rw [A.len]; decide) r.l5 r.p) A (by decide) (by decide)
theorem held_rs : held "read_ratios" = some (1, m_read_ratios) := by with_unfolding_all rfl
theorem held_r : held "read_ratio" = some (1, m_read_ratio) := by with_unfolding_all rfl
theorem held_x : held "ratios" = some (1, m_ratios) := by with_unfolding_all rfl
theorem lread_tex (r : Rows ps qs) : m__law_read [.fn "read_ratios", .str (tex ps)] = .ok (.tup [.str "told", .tup (rts ps)]) := by
  have ne : ps ≠ [] := fun z => by have := r.l1; rw [z] at this; cases this
  rw [lread_ok held_rs, reads_row tx rt (tex_ok ps) (Nat.le_trans (tex_len r.l5 r.p) (by decide)) (tex_nd ne r.p) (commas_tex ne r.p) fun p hp => read_rtx (r.p p hp).rt (Nat.le_trans (tx_len (r.p p hp)) (by decide))]
  rfl
theorem dash_read : m__law_read [.fn "read_ratios", .str "-"] = .ok (.tup [.str "told", .tup []]) := by with_unfolding_all rfl
theorem empty_text : m_ratios_text [.tup []] = .ok (.str "-") := by with_unfolding_all rfl
theorem p11 (r : Rows ps qs) (A : Ag 1 23 (LT ps qs) ρ) : g11 ρ = .nx ρ := by
  have v3 := var_of (A.at_ 3 (.tup (rts ps)) rfl)
  have v13 := var_of (A.at_ 13 (.str (tex ps)) rfl)
  unfold g11
  refine if_no (tOr_f (nope (call_of (two_of (call_of (cons_of v3 nil_of) (rtext_ok r.l1 r.l5 r.p)) v13) (same_str (tex_ok ps))))
    (tOr_f (tB_of (e2_of (call_of (cons_of (tup_of nil_of (by simp)) nil_of) empty_text) rfl (by with_unfolding_all rfl)))
    (tOr_f (tB_of (ne_told (rs := ps) (call_of (two_of rfl v13) (lread_tex r)) (tup_of (two_of rfl v3) (by simp)))) (tB_of (e2_of (call_of (two_of rfl rfl) dash_read) (tup_of (two_of rfl (tup_of nil_of (by simp))) (by simp)) (by with_unfolding_all rfl))))))
abbrev LO (ps qs : List (Int × Int)) (own : Str) : List (Nat × D) := (14, .str own) :: LT ps qs
theorem p12 {p : Int × Int} (s : Sm p) (A : Ag 1 23 (LT (p :: ps) qs) ρ) : ∃ ρ', Ag 1 23 (LO (p :: ps) qs (tx p)) ρ' ∧ ∀ k, seqL [g12] k ρ = k ρ' :=
  asg_of (strA_of (ix0_of (t := D.tup) (d := rt p) (ds := rts ps) (var_of (A.at_ 3 _ rfl)) (.inl rfl)) s.logs.1 s.logs.2) A (by decide) (by decide)
theorem mark_of {v : Int} (h0 : 0 ≤ v) (h1 : v < 9) : ∃ m : Str, gIx (.str "019-/,. x") (.int v) = some (.str m) ∧ PyData.strOk m = true ∧ m.length = 1 := by
  have c : v = 0 ∨ v = 1 ∨ v = 2 ∨ v = 3 ∨ v = 4 ∨ v = 5 ∨ v = 6 ∨ v = 7 ∨ v = 8 := by omega
  rcases c with rfl | rfl | rfl | rfl | rfl | rfl | rfl | rfl | rfl <;> exact ⟨_, by with_unfolding_all rfl, by decide +kernel, by decide +kernel⟩
abbrev LB (ps qs : List (Int × Int)) (own mark : Str) (k : Nat) : List (Nat × D) := (16, .str mark) :: (15, .int (k : Int)) :: LO ps qs own
theorem p13 {own : Str} (hl : own.length ≤ 4) (A : Ag 1 23 (LO ps qs own) ρ) : ∃ (mark : Str) (k : Nat) (ρ' : PV.Env), PyData.strOk mark = true ∧ mark.length = 1 ∧ k ≤ 4 ∧ Ag 1 23 (LB ps qs own mark k) ρ' ∧ ∀ kk, seqL [g13] kk ρ = kk ρ' := by
  obtain ⟨ds, ρ', ⟨mark, k, rfl, h1, h2, h3⟩, A', e⟩ := dw_par (is := [15, 16]) (L := LO ps qs own) (f := aCons (takeM 1 (e2 gAdd (e1L gLen (eVar 14)) (eC (.int 1)))) (aCons (e2 gIx (eC (.str "019-/,. x")) (takeM 1 (eC (.int 9)))) aNil)) (Q := fun ds => ∃ (mark : Str) (k : Nat), ds = [.int (k : Int), .str mark] ∧ PyData.strOk mark = true ∧ mark.length = 1 ∧ k ≤ 4)
    (dwl_cons (draw (m := (own.length : Int) + 1) (fun ρ A => ⟨_, ρ, add_of (len_of (A.at_ 14 (.str own) rfl) (by omega)) rfl, rfl, A⟩) rfl (by omega) (by omega) fun v v0 v1 => dwl_cons (dw_e2 (dw_c (draw (dw_c rfl) rfl (by decide) (by decide) fun u u0 u1 => by
      obtain ⟨m, e, h1, h2⟩ := mark_of u0 u1
      exact ⟨.str m, e, dwl_nil ⟨m, v.toNat, by rw [Int.toNat_of_nonneg v0], h1, h2, by omega⟩⟩))))) (by decide) (fun ds ⟨_, _, e, _⟩ => by rw [e]; rfl) A
  exact ⟨mark, k, ρ', h1, h2, h3, A', fun kk => e kk⟩
end
end
end K02

open PySem PySem.Spec
open PyProof.Rows L2
set_option Elab.async false
set_option linter.all false
set_option maxRecDepth 100000
set_option maxHeartbeats 0
namespace K02
open PV PySem.NumText
noncomputable section
/-! ### the bent texts -/
structure Bent (z : Str) : Prop where
  ok : PyData.strOk z = true
  len : z.length ≤ 500
def b1 : SM := sAsg 11 (eCall (m__law_is_text) (aCons (eVar 17) (aNil)))
def b2 : SM := sAsg 18 (eCall (m__law_read) (aCons (eC (.fn "read_ratio")) (aCons (eVar 17) (aNil))))
def b3 : SM := sIf (PV.tOr (PV.tB (e2 gNe (e2 gIx (eVar 18) (eC (.int 0))) (eIf (PV.tB (eVar 11)) (eC (.str "told")) (eC (.str "text"))))) (PV.tOr (PV.tAnd (PV.tNot (PV.tB (eVar 11))) (PV.tB (e2 gNe (e2 gIx (eVar 18) (eC (.int 1))) (eC (.int 0))))) (PV.tAnd (PV.tB (eVar 11)) (PV.tB (e2 gNe (eStrA "Ratio" m_Ratio___str__ (e2 gIx (eVar 18) (eC (.int 1)))) (eVar 17)))))) (sRet (eC (.bl false))) (sNx)
def b4 : SM := sAsg 19 (e2 gAdd (e2 gAdd (eVar 13) (eC (.str ","))) (eVar 17))
def b5 : SM := sIf (PV.tB (e2 gNe (e2 gIx (eCall (m__law_read) (aCons (eC (.fn "read_ratios")) (aCons (eVar 19) (aNil)))) (eC (.int 0))) (eIf (PV.tB (e1L gAll (eLc [21] (iSeqM (eSM1 gSplit (eVar 19) (eC (.str ",")))) (tgName 21) (tTrue) (eCall (m__law_is_text) (aCons (eVar 21) (aNil)))))) (eC (.str "told")) (eC (.str "text"))))) (sRet (eC (.bl false))) (sNx)
def bentB : SM := sSeq b1 (sSeq b2 (sSeq b3 (sSeq b4 b5)))
section
variable {ps qs : List (Int × Int)} {ρ : PV.Env}
def toldD (z : Str) (d : D) : D := if itx z = true then .tup [.str "told", d] else .tup [.str "text", .int 0]
theorem addT_of {fa fb : M D} {ρ1 ρ2 : PV.Env} {a b : Str} (ha : fa ρ = .ok (.str a, ρ1)) (hb : fb ρ1 = .ok (.str b, ρ2)) (h : a.length + b.length ≤ 100000) : e2 gAdd fa fb ρ = .ok (.str (a ++ b), ρ2) := e2_of ha hb (if_pos (decide_eq_true h))
def lineS (ps : List (Int × Int)) (z : Str) : Str := tex ps ++ Str.ofString "," ++ z
theorem line_ok {z : Str} (b : Bent z) : PyData.strOk (lineS ps z) = true := strOk_app (strOk_app (tex_ok ps) (strOk_of _)) b.ok
theorem line_len {z : Str} (b : Bent z) (l : (tex ps).length ≤ 25) : (lineS ps z).length ≤ 600 := by
  have c1 : (Str.ofString ",").length = 1 := by decide
  have := b.len
  unfold lineS
  rw [strLen_append, strLen_append, c1]
  omega
theorem line_nd {z : Str} : (lineS ps z == Str.ofString "-") = false := by
  rw [beq_eq_false_iff_ne]
  intro e
  have m : 44 ∈ tl (lineS ps z) := by
    unfold lineS
    rw [tl_app, tl_app, comma]
    simp
  rw [e] at m
  revert m
  decide
theorem itxs_of {z : Str} (h : look ρ 19 = some (.str z)) (hl : 21 < ρ.length) (ok : PyData.strOk z = true) (len : z.length ≤ 90000) : e1L gAll (eLc [21] (iSeqM (eSM1 gSplit (eVar 19) (eC (.str ",")))) (tgName 21) (tTrue) (eCall (m__law_is_text) (aCons (eVar 21) (aNil)))) ρ = .ok (.bl ((commas z).all itx), ρ) := by
  have c := parts_count z
  have e : eLc [21] (iSeqM (eSM1 gSplit (eVar 19) (eC (.str ",")))) (tgName 21) (tTrue) (eCall (m__law_is_text) (aCons (eVar 21) (aNil))) ρ = .ok (.lst ((commas z).map fun p => .bl (itx p)), ρ) := by
    refine (eLc_map (h := fun d => match d with | .str p => .bl (itx p) | _ => .non) (ds := (commas z).map .str) (split_of (var_of h) len) (by rw [List.length_map]; omega) fun d hd => ?_).trans (by rw [List.map_map]; rfl)
    obtain ⟨p, hp, rfl⟩ := List.mem_map.mp hd
    exact call_of (cons_of (var_of (by rw [look_set, if_pos rfl, if_pos hl])) nil_of) (istext_ok (part_ok ok hp) (Nat.le_trans (part_len hp) len))
  exact e1L_of e (all_map itx (commas z))
abbrev LD (ps qs : List (Int × Int)) (z : Str) (d : D) : List (Nat × D) := (18, toldD z d) :: (11, .bl (itx z)) :: (17, .str z) :: LT ps qs
theorem bent_ok {z : Str} (r : Rows ps qs) (b : Bent z) (A : Ag 1 23 ((17, .str z) :: LT ps qs) ρ) : ∃ ρ', bentB ρ = .nx ρ' ∧ Ag 1 23 (LT ps qs) ρ' := by
  have bl := b.len
  obtain ⟨ρ1, A1, e1⟩ := asg_of (i := 11) (call_of (cons_of (var_of (A.at_ 17 _ rfl)) nil_of) (istext_ok b.ok (by omega))) A (by decide) (by decide)
  have rd : ∃ d, m__law_read [.fn "read_ratio", .str z] = .ok (toldD z d) ∧ (itx z = true → ∃ N E, d = rat N E ∧ N.natAbs.log2 < 1920 ∧ E.natAbs.log2 < 1920 ∧ rtx N E = z) := by
    rw [lread_ok held_r]
    rcases read_ok b.ok (by omega) with ⟨t, N, E, _, lN, lE, e, m⟩ | ⟨t, m⟩
    · refine ⟨rat N E, ?_, fun _ => ⟨N, E, rfl, lN, lE, e⟩⟩
      rw [m]
      unfold toldD
      rw [if_pos t]
      rfl
    · refine ⟨.non, ?_, fun h => by rw [t] at h; cases h⟩
      rw [m]
      unfold toldD
      rw [t, if_neg (by decide)]
      rfl
  obtain ⟨d, hd, hN⟩ := rd
  obtain ⟨ρ2, A2, e2⟩ := asg_of (i := 18) (call_of (two_of (fa := eC (.fn "read_ratio")) rfl (var_of (A1.at_ 17 _ rfl))) hd) A1 (by decide) (by decide)
  have v18 := var_of (A2.at_ 18 (toldD z d) rfl)
  have v11 := var_of (A2.at_ 11 (.bl (itx z)) rfl)
  have v17 := var_of (A2.at_ 17 (.str z) rfl)
  have e3 : b3 ρ2 = .nx ρ2 := by
    unfold b3
    cases t : itx z with
    | true =>
      obtain ⟨N, E, rfl, lN, lE, e⟩ := hN t
      unfold toldD at v18
      rw [t, if_pos rfl] at v18
      rw [t] at v11
      refine if_no (tOr_f (tB_of (e2_of (e2_of v18 rfl rfl) (eIf_t (tB_of v11) rfl) (by with_unfolding_all rfl))) (tOr_f (tAnd_f (tNot_of (tB_of v11))) (tAnd_t (tB_of v11) (tB_of (b := false) (e2_of (strA_of (e2_of v18 rfl rfl) lN lE) v17 ?_)))))
      rw [neS_of rtx_ok b.ok, e]
      simp
    | false =>
      unfold toldD at v18
      rw [t, if_neg (by decide)] at v18
      rw [t] at v11
      exact if_no (tOr_f (tB_of (e2_of (e2_of v18 rfl rfl) (eIf_f (tB_of v11) rfl) (by with_unfolding_all rfl))) (tOr_f (tAnd_t (tNot_of (tB_of v11)) (tB_of (e2_of (v := .int 0) (w := .int 0) (e2_of v18 rfl rfl) rfl rfl))) (tAnd_f (tB_of v11))))
  have tl25 := tex_len r.l5 r.p
  have c1 : (Str.ofString ",").length = 1 := by decide
  obtain ⟨ρ4, A4, e4⟩ := asg_of (i := 19) (d := .str (lineS ps z)) (addT_of (addT_of (var_of (A2.at_ 13 (.str (tex ps)) rfl)) (fb := eC (.str ",")) (b := Str.ofString ",") rfl (by rw [c1]; omega)) v17 (by rw [strLen_append, c1]; omega)) A2 (by decide) (by decide)
  have lo := line_ok (ps := ps) b
  have ll := line_len b tl25
  have al := itxs_of (A4.at_ 19 _ rfl) (by rw [A4.len]; decide) lo (by omega)
  have v19 := var_of (A4.at_ 19 (.str (lineS ps z)) rfl)
  have e5 : b5 ρ4 = .nx ρ4 := by
    unfold b5
    have rr := lread_ok held_rs (.str (lineS ps z))
    rcases reads_ok lo (by omega) line_nd with ⟨t, ds, m⟩ | ⟨t, m⟩
    · rw [m] at rr
      rw [t] at al
      exact if_no (tB_of (e2_of (e2_of (call_of (two_of rfl v19) rr) rfl rfl) (eIf_t (tB_of al) rfl) (by with_unfolding_all rfl)))
    · rw [m] at rr
      rw [t] at al
      exact if_no (tB_of (e2_of (e2_of (call_of (two_of rfl v19) rr) rfl rfl) (eIf_f (tB_of al) rfl) (by with_unfolding_all rfl)))
  refine ⟨ρ4, ?_, ag_sub A4 (by (repeat refine each_cons rfl ?_); exact each_nil)⟩
  unfold bentB
  exact (e1 _).trans ((e2 _).trans ((sSeq_of e3).trans ((e4 _).trans e5)))
theorem bent_loop (r : Rows ps qs) : ∀ (zs : List Str) (ρ : PV.Env), (∀ z ∈ zs, Bent z) → Ag 1 23 (LT ps qs) ρ → ∃ ρ', forN (tgName 17) bentB (zs.map .str) ρ = .nx ρ' ∧ Ag 1 23 (LT ps qs) ρ'
  | [], ρ, _, A => ⟨ρ, rfl, A⟩
  | z :: zs, ρ, h, A => by
    obtain ⟨ρ2, e2, A2⟩ := bent_ok r (h z List.mem_cons_self) (A.cons (i := 17) (d := .str z) (by decide) (by decide))
    obtain ⟨ρ', e, A'⟩ := bent_loop r zs ρ2 (fun x hx => h x (List.mem_cons_of_mem _ hx)) A2
    refine ⟨ρ', ?_, A'⟩
    rw [List.map_cons, forN_cons, tgName_def]
    show sSeq bentB (forN (fun d ρ => some (ρ.set 17 (some d))) bentB (zs.map .str)) (ρ.set 17 (some (.str z))) = _
    rw [sSeq_of e2, ← tgName_def]
    exact e
theorem cut_sub {z : Str} {l h : Option Int} (k : Nat) (e : (l = none ∧ h = some (k : Int)) ∨ (l = some (k : Int) ∧ h = none)) : (∀ c ∈ tl (cutS z l h), c ∈ tl z) ∧ (cutS z l h).length ≤ z.length := by
  rw [len_tl, len_tl]
  rcases e with ⟨rfl, rfl⟩ | ⟨rfl, rfl⟩
  · rw [cut_to]
    exact ⟨fun c hc => List.mem_of_mem_take hc, by rw [List.length_take]; omega⟩
  · rw [cut_from]
    exact ⟨fun c hc => List.mem_of_mem_drop hc, by rw [List.length_drop]; omega⟩
theorem lit_bent (s : String) (h : (Str.ofString s).length ≤ 500) : Bent (Str.ofString s) := ⟨strOk_of s, h⟩
theorem ones_bent : ∃ z, gMulT (.str "1") (.int 401) = some (.str z) ∧ Bent z := ⟨_, by with_unfolding_all rfl, by decide +kernel, by decide +kernel⟩
theorem p14 (r : Rows ps qs) {own mark : Str} {k : Nat} (oo : PyData.strOk own = true) (ol : own.length ≤ 4) (mo : PyData.strOk mark = true) (ml : mark.length = 1) (k4 : k ≤ 4) (A : Ag 1 23 (LB ps qs own mark k) ρ) : ∃ ρ', Ag 1 23 (LT ps qs) ρ' ∧ ∀ kk, seqL [g14] kk ρ = kk ρ' := by
  have v14 := var_of (A.at_ 14 (.str own) rfl)
  have v15 := var_of (A.at_ 15 (.int (k : Int)) rfl)
  have v16 := var_of (A.at_ 16 (.str mark) rfl)
  obtain ⟨z11, e11, b11⟩ := ones_bent
  have ps_ : ∀ {f : M D} {i : Int}, f ρ = .ok (.int i, ρ) → pSome f ρ = .ok (some i, ρ) := fun h => by
    unfold pSome
    rw [M.bind_of h]
    rfl
  have lo : ∀ {f : M (Option Int)} {h : Nat}, f ρ = .ok (some (h : Int), ρ) → eSlS (eVar 14) pNone f ρ = .ok (.str (cutS own none (some (h : Int))), ρ) := fun h => slS_of v14 rfl h (by omega)
  have hi : ∀ {f : M (Option Int)} {h : Nat}, f ρ = .ok (some (h : Int), ρ) → eSlS (eVar 14) f pNone ρ = .ok (.str (cutS own (some (h : Int)) none), ρ) := fun h => slS_of v14 h rfl (by omega)
  have k1 : e2 gAdd (eVar 15) (eC (.int 1)) ρ = .ok (.int ((k + 1 : Nat) : Int), ρ) := (add_of (y := 1) v15 rfl).trans (by rw [show (k : Int) + 1 = ((k + 1 : Nat) : Int) by omega])
  obtain ⟨s1, n1⟩ := cut_sub (z := own) k (.inl ⟨rfl, rfl⟩)
  obtain ⟨s2, n2⟩ := cut_sub (z := own) k (.inr ⟨rfl, rfl⟩)
  obtain ⟨s3, n3⟩ := cut_sub (z := own) (k + 1) (.inr ⟨rfl, rfl⟩)
  have o1 := ok_sub oo s1
  have o2 := ok_sub oo s2
  have o3 := ok_sub oo s3
  have l0 : (Str.ofString "0").length = 1 := by decide
  have l1 : (Str.ofString "/1").length = 2 := by decide
  have l2 : (Str.ofString "-").length = 1 := by decide
  have all : ∀ z ∈ [own, cutS own none (some (k : Int)) ++ mark ++ cutS own (some (k : Int)) none, cutS own none (some (k : Int)) ++ cutS own (some ((k + 1 : Nat) : Int)) none, Str.ofString "0" ++ own, own ++ Str.ofString "/1", Str.ofString "-" ++ own, Str.ofString "2/4", Str.ofString "1/0", Str.ofString "", Str.ofString "-", Str.ofString "0/5", z11], Bent z := by
    intro z hz
    simp only [List.mem_cons, List.not_mem_nil, or_false] at hz
    rcases hz with rfl | rfl | rfl | rfl | rfl | rfl | rfl | rfl | rfl | rfl | rfl | rfl
    · exact ⟨oo, by omega⟩
    · exact ⟨strOk_app (strOk_app o1 mo) o2, by rw [strLen_append, strLen_append]; omega⟩
    · exact ⟨strOk_app o1 o3, by rw [strLen_append]; omega⟩
    · exact ⟨strOk_app (strOk_of _) oo, by rw [strLen_append]; omega⟩
    · exact ⟨strOk_app oo (strOk_of _), by rw [strLen_append]; omega⟩
    · exact ⟨strOk_app (strOk_of _) oo, by rw [strLen_append]; omega⟩
    · exact lit_bent _ (by decide)
    · exact lit_bent _ (by decide)
    · exact lit_bent _ (by decide)
    · exact lit_bent _ (by decide)
    · exact lit_bent _ (by decide)
    · exact b11
  obtain ⟨ρ', e, A'⟩ := bent_loop r _ ρ all (ag_sub A (by (repeat refine each_cons rfl ?_); exact each_nil))
  refine ⟨ρ', A', fun kk => sSeq_of ?_⟩
  show sDo _ _ ρ = _
  refine (sDo_of (seqT_of ?_ (by simp))).trans e
  refine cons_of v14 (cons_of (addT_of (addT_of (lo (ps_ v15)) v16 (by omega)) (hi (ps_ v15)) (by rw [strLen_append]; omega)) (cons_of (addT_of (lo (ps_ v15)) (hi (ps_ k1)) (by omega)) (cons_of (addT_of (a := Str.ofString "0") rfl v14 (by omega)) (cons_of (addT_of v14 (b := Str.ofString "/1") rfl (by omega)) (cons_of (addT_of (a := Str.ofString "-") rfl v14 (by omega))
    (cons_of rfl (cons_of rfl (cons_of rfl (cons_of rfl (cons_of rfl (cons_of (e2_of rfl rfl e11) nil_of)))))))))))
def lastL : List D := [.tup [.fn "read_ratio", .non], .tup [.fn "read_ratios", .non], .tup [.fn "read_ratio", .int 5], .tup [.fn "read_ratios", .tup [.str "1"]]]
theorem last_ok : ∀ v ∈ lastL, ∃ a b, v = .tup [a, b] ∧ m__law_read [a, b] = .ok (.tup [.str "text", .int 0]) := by
  intro v hv
  simp only [lastL, List.mem_cons, List.not_mem_nil, or_false] at hv
  rcases hv with rfl | rfl | rfl | rfl <;> exact ⟨_, _, rfl, by with_unfolding_all rfl⟩
theorem p15 (hl : ρ.length = 23) : g15 ρ = .rt (.bl true) ρ := by
  unfold g15 sRet
  refine sDo_of (e2_of (v := .lst [.tup [.str "text", .int 0], .tup [.str "text", .int 0], .tup [.str "text", .int 0], .tup [.str "text", .int 0]]) (eLc_gen (h := fun _ => .tup [.str "text", .int 0]) (ds := lastL) ?_ (by decide) ?_) (e2_of (lst_of (cons_of (tup_of (two_of rfl rfl) (by decide)) nil_of) (by decide)) rfl rfl) (by with_unfolding_all rfl))
  · exact seqT_of (cons_of (tup_of (two_of rfl rfl) (by decide)) (cons_of (tup_of (two_of rfl rfl) (by decide)) (cons_of (tup_of (two_of rfl rfl) (by decide)) (cons_of (tup_of (two_of rfl (tup_of (cons_of rfl nil_of) (by decide))) (by decide)) nil_of)))) (by decide)
  · intro v hv
    obtain ⟨a, b, rfl, m⟩ := last_ok v hv
    have len : (wipeG ρ [22, 20]).length = 23 := by rw [wipeG_len]; exact hl
    refine ⟨((wipeG ρ [22, 20]).set 22 (some a)).set 20 (some b), ?_, ?_, ?_⟩
    · simp only [tgName_def]
      rfl
    · rw [wipeG_set (by simp), wipeG_set (by simp)]
      exact wipeG_twice _ _ _ fun _ h => h
    · refine call_of (two_of (var_of (v := a) ?_) (var_of (v := b) ?_)) m
      · simp [look_set, len]
      · simp [look_set, len]
end
theorem law_true (ns : List Int) (hl : ns.length ≤ 63) (hb : ∀ z ∈ ns, Builtin.Int.intBits z ≤ 1048576) : m_law [.scr ns] = .ok (.bl true) := by
  have key : ∃ ρ, s_law (PV.envOf 23 [.scr ns]) = .rt (.bl true) ρ := by
    rw [law_parts]
    obtain ⟨r0, A0, e0⟩ := p0 ns
    obtain ⟨m, r1, m1, m5, A1, e1⟩ := p1 A0
    obtain ⟨ps, qs, r2, R, L, A2, e2⟩ := p2 m1 m5 A1
    obtain ⟨r3, A3, e3⟩ := p3 A2
    obtain ⟨r4, A4, e4⟩ := p4 R L A3
    have e5 := no_of (p5 R A4)
    obtain ⟨r6, A6, e6⟩ := p6 R (ag_sub A4 (by (repeat refine each_cons rfl ?_); exact each_nil))
    match ps, R with
    | [], R => exact absurd R.l1 (by decide)
    | p :: ps, R =>
      obtain ⟨m, r7, A7, e7⟩ := p7 A6
      have e8 := no_of (p8 A7)
      have e9 := no_of (p9 A7.len)
      obtain ⟨r10, A10, e10⟩ := p10 R (ag_sub A7 (by (repeat refine each_cons rfl ?_); exact each_nil))
      have e11 := no_of (p11 R A10)
      have s := R.p p List.mem_cons_self
      obtain ⟨r12, A12, e12⟩ := p12 s A10
      obtain ⟨mark, k, r13, mo, ml, k4, A13, e13⟩ := p13 (tx_len s) A12
      obtain ⟨r14, A14, e14⟩ := p14 R (tx_ok p) (tx_len s) mo ml k4 A13
      exact ⟨r14, (e0 _).trans ((e1 _).trans ((e2 _).trans ((e3 _).trans ((e4 _).trans ((e5 _).trans ((e6 _).trans ((e7 _).trans ((e8 _).trans ((e9 _).trans ((e10 _).trans ((e11 _).trans ((e12 _).trans ((e13 _).trans ((e14 _).trans (p15 A14.len)))))))))))))))⟩
  obtain ⟨ρ, e⟩ := key
  show (match s_law (PV.envOf 23 [.scr ns]) with
    | .nx _ => if (0 : Nat) = 0 then R.ok D.non else .fail
    | .rt d _ => .ok d
    | .exc x => .exc x
    | .fail => .fail) = _
  rw [e]
end
end K02

open PySem PySem.W
open PyProof.Rows
set_option maxRecDepth 100000
set_option maxHeartbeats 0 in
theorem PySem.Challenge.cw_surfaceroads_k02_whole_rows_and_texts_of_holds : PySem.Challenge.rw_surfaceroads_k02_whole_rows_and_texts_of.Holds := by
  w_on
  o_law
  k_head
  case hw => w_witness2
  k_fill
  refine L2.walk_ofB (l := PySem.Challenge.rw_surfaceroads_k02_whole_rows_and_texts_of) (n := 63) (k := 43) (x := "script") (CX := fun w => L2.CX (PySem.Challenge.rw_surfaceroads_k02_whole_rows_and_texts_of).prog w) (sp := fun w => PV.spEnd _) rfl (by decide) rfl ⟨rfl, by decide, by decide⟩ (fun w h Y => PySem.W.kIn_of Y) ?F (fun w H a ns hl hb ho hS => ⟨a, ns, rfl, hS, hl, hb, fun _ => rfl⟩) (fun w H s e s' h => PV.cx_end _ w H s e s' h)
  case F =>
    intro w mg fa h KX G hmg
    exact K02.fin KX G hmg (by kernel_rfl) (by kernel_rfl) (by kernel_rfl) (by kernel_rfl) (by kernel_rfl) (by kernel_rfl) K02.law_true

