import PyProof.Rows.All
import Wide.All
import OpenK.AllK
import Wide.FinOn
import HandS.ForMost
import HandS.Exc
import HandS.ExcOwn
import HandS.WordsExc
import HandS.IsInst
import HandS.TupAny
import HandS.TupLen
import HandS.Conv
import HandS.Deep
import HandS.SortInts
import KE.KTupSum
import HandS.Zip
import HandS.Comp
import PyProof.AutoSeq1
import HandS.ExcField
import HandS.CallLocal
import HandS.EndBits
import HandS.HeadHook1
import HandS.SetFor
import KE.GoesEnum
import HandS.DictComp
import HandS.ExcInit
import KE.KOpsOwn
import KE.KCallOwn
import HandS.Defaults
import HandS.FStr
import HandS.HeadHook2
import HandS.Style
import PySem.Challenge.RW_surfaceroads_k01_whole_ratios_of_counts
import PyProof.FitsInt
set_option Elab.async false
set_option linter.all false
set_option maxRecDepth 100000
set_option maxHeartbeats 0
namespace PV
open PySem PySem.Spec
open PyProof.Rows L2

/-! ## 1. plain values -/
/-- a plain value -/
inductive D where
  | non | bl (b : Bool) | int (i : Int) | str (x : Str) | fn (x : Str)
  | tup (ds : List D) | lst (ds : List D) | dct (kvs : List (D × D)) | dcT (kvs : List (D × D)) | obj (c : Str) (fs : List (Str × D)) | scr (is : List Int)
/-- how an exception of the program looks -/
inductive Exn where
  | mal | refu (d : D) | note (d : D)
/-- a result: a value, an exception, or nothing is said -/
inductive R (α : Type) where
  | ok (a : α) | exc (x : Exn) | fail
abbrev Env := List (Option D)
abbrev M (α : Type) := Env → R (α × Env)
def R.bind {α β : Type} (r : R α) (f : α → R β) : R β := match r with
  | .ok a => f a
  | .exc x => .exc x
  | .fail => .fail
def M.bind {α β : Type} (m : M α) (f : α → M β) : M β := fun ρ => match m ρ with
  | .ok (a, ρ') => f a ρ'
  | .exc x => .exc x
  | .fail => .fail
def M.pure {α : Type} (a : α) : M α := fun ρ => .ok (a, ρ)
/-- what must hold so that r ends as told -/
def Wp {α : Type} (r : R α) (P : α → Prop) (N : Exn → Prop) : Prop := match r with
  | .ok a => P a
  | .exc x => N x
  | .fail => False
theorem Wp.imp {α : Type} {r : R α} {P P' : α → Prop} {N N' : Exn → Prop} (h : Wp r P N) (hp : ∀ a, P a → P' a) (hn : ∀ x, N x → N' x) : Wp r P' N' := by
  cases r with
  | ok a => exact hp _ h
  | exc x => exact hn _ h
  | fail => exact h
theorem Wp.bindM {α β : Type} {m : M α} {f : α → M β} {ρ : PV.Env} {P : β × PV.Env → Prop} {N : Exn → Prop} (h : Wp (m ρ) (fun p => Wp (f p.1 p.2) P N) N) : Wp (M.bind m f ρ) P N := by
  unfold M.bind
  cases e : m ρ with
  | ok p => rw [e] at h; exact h
  | exc x => rw [e] at h; exact h
  | fail => rw [e] at h; exact h
theorem Wp.ofBindM {α β : Type} {m : M α} {f : α → M β} {ρ : PV.Env} {P : β × PV.Env → Prop} {N : Exn → Prop} (h : Wp (M.bind m f ρ) P N) : Wp (m ρ) (fun p => Wp (f p.1 p.2) P N) N := by
  unfold M.bind at h
  cases e : m ρ with
  | ok p => rw [e] at h; exact h
  | exc x => rw [e] at h; exact h
  | fail => rw [e] at h; exact h

/-! ## 2. what a value of the machine stands for -/
def keyD : Key → D
  | .inl i => .int i
  | .inr x => .str x
section
variable (K : PySem.W.Frag) (mg : Str → Option Value)
mutual
inductive Rp (H : Hp) : V → D → Prop
  | non : Rp H .non .non
  | bl (b : Bool) : Rp H (.bl b) (.bl b)
  | int (i : Int) : Rp H (.int i) (.int i)
  | str (x : Str) : Rp H (.str x) (.str x)
  | fn {a : Addr} {x : Str} : mg x = some (.ref a) → Rp H (.ref a) (.fn x)
  | tup {a : Addr} {vs : List V} {ds : List D} : H a = some (.tup vs) → RpL H vs ds → Rp H (.ref a) (.tup ds)
  | lst {a : Addr} {vs : List V} {ds : List D} : H a = some (.lst vs) → RpL H vs ds → Rp H (.ref a) (.lst ds)
  | scr {a : Addr} {is : List Int} : SqL K H a (is.map V.int) → Rp H (.ref a) (.scr is)
  | dctK {a : Addr} {kvs : List (Key × V)} {ds : List (D × D)} : H a = some (.dK kvs) → kvs.map (fun p => keyD p.1) = ds.map (fun p => p.1) → RpL H (kvs.map (fun p => p.2)) (ds.map (fun p => p.2)) → Rp H (.ref a) (.dct ds)
  | dctT {a : Addr} {kvs : List (List Key × V)} {ds : List (D × D)} : H a = some (.dT kvs) → kvs.map (fun p => D.tup (p.1.map keyD)) = ds.map (fun p => p.1) → RpL H (kvs.map (fun p => p.2)) (ds.map (fun p => p.2)) → Rp H (.ref a) (.dcT ds)
  | obj {a C dx : Addr} {c : Str} {fs : List (Str × V)} {ds : List (Str × D)} : H a = some (.ins C dx fs) → mg c = some (.ref C) → fs.map (fun p => p.1) = ds.map (fun p => p.1) → RpL H (fs.map (fun p => p.2)) (ds.map (fun p => p.2)) → Rp H (.ref a) (.obj c ds)
inductive RpL (H : Hp) : List V → List D → Prop
  | nil : RpL H [] []
  | cons {v : V} {vs : List V} {d : D} {ds : List D} : Rp H v d → RpL H vs ds → RpL H (v :: vs) (d :: ds)
end
end
section
variable {K : PySem.W.Frag} {mg : Str → Option Value} {H H' : Hp}
theorem same_upd {p : Addr} {o : HO} (h : H p = none) : Same H (upd H p o) := fun b x e => by
  rw [upd_ne (ne_of_none e h)]
  exact e
mutual
theorem Rp.mono (s : Same H H') : ∀ {v : V} {d : D}, Rp K mg H v d → Rp K mg H' v d
  | _, _, .non => .non
  | _, _, .bl b => .bl b
  | _, _, .int i => .int i
  | _, _, .str x => .str x
  | _, _, .fn h => .fn h
  | _, _, .tup h r => .tup (s _ _ h) (RpL.mono s r)
  | _, _, .lst h r => .lst (s _ _ h) (RpL.mono s r)
  | _, _, .scr h => .scr (s.seq h)
  | _, _, .dctK h e r => .dctK (s _ _ h) e (RpL.mono s r)
  | _, _, .dctT h e r => .dctT (s _ _ h) e (RpL.mono s r)
  | _, _, .obj h c e r => .obj (s _ _ h) c e (RpL.mono s r)
theorem RpL.mono (s : Same H H') : ∀ {vs : List V} {ds : List D}, RpL K mg H vs ds → RpL K mg H' vs ds
  | _, _, .nil => .nil
  | _, _, .cons h r => .cons (Rp.mono s h) (RpL.mono s r)
end
theorem Rp.tup_inv {v : V} {ds : List D} (h : Rp K mg H v (.tup ds)) : ∃ a vs, v = .ref a ∧ H a = some (.tup vs) ∧ RpL K mg H vs ds := by
  cases h with
  | tup h r => exact ⟨_, _, rfl, h, r⟩
theorem Rp.lst_inv {v : V} {ds : List D} (h : Rp K mg H v (.lst ds)) : ∃ a vs, v = .ref a ∧ H a = some (.lst vs) ∧ RpL K mg H vs ds := by
  cases h with
  | lst h r => exact ⟨_, _, rfl, h, r⟩
theorem Rp.dct_inv {v : V} {ds : List (D × D)} (h : Rp K mg H v (.dct ds)) : ∃ a kvs, v = .ref a ∧ H a = some (.dK kvs) ∧ kvs.map (fun p => keyD p.1) = ds.map (fun p => p.1) ∧ RpL K mg H (kvs.map (fun p => p.2)) (ds.map (fun p => p.2)) := by
  cases h with
  | dctK h e r => exact ⟨_, _, rfl, h, e, r⟩
theorem Rp.dcT_inv {v : V} {ds : List (D × D)} (h : Rp K mg H v (.dcT ds)) : ∃ a kvs, v = .ref a ∧ H a = some (.dT kvs) ∧ kvs.map (fun p => D.tup (p.1.map keyD)) = ds.map (fun p => p.1) ∧ RpL K mg H (kvs.map (fun p => p.2)) (ds.map (fun p => p.2)) := by
  cases h with
  | dctT h e r => exact ⟨_, _, rfl, h, e, r⟩
theorem RpL.length : ∀ {vs : List V} {ds : List D}, RpL K mg H vs ds → vs.length = ds.length
  | _, _, .nil => rfl
  | _, _, .cons _ r => by rw [List.length_cons, List.length_cons, RpL.length r]
theorem RpL.get : ∀ {vs : List V} {ds : List D} {i : Nat} {v : V}, RpL K mg H vs ds → vs[i]? = some v → ∃ d, ds[i]? = some d ∧ Rp K mg H v d
  | _, _, _, _, .nil, e => by rw [List.getElem?_nil] at e; exact nomatch e
  | _, _, 0, _, .cons h _, e => by simp at e; subst e; exact ⟨_, rfl, h⟩
  | _, _, i + 1, v, .cons _ r, e => by
    obtain ⟨d, h1, h2⟩ := RpL.get (i := i) (v := v) r (by simpa using e)
    exact ⟨d, by simpa using h1, h2⟩
theorem RpL.getD : ∀ {vs : List V} {ds : List D} {i : Nat} {d : D}, RpL K mg H vs ds → ds[i]? = some d → ∃ v, vs[i]? = some v ∧ Rp K mg H v d
  | _, _, _, _, .nil, e => by rw [List.getElem?_nil] at e; exact nomatch e
  | _, _, 0, _, .cons h _, e => by simp at e; subst e; exact ⟨_, rfl, h⟩
  | _, _, i + 1, v, .cons _ r, e => by
    obtain ⟨d, h1, h2⟩ := RpL.getD (i := i) (d := v) r (by simpa using e)
    exact ⟨d, by simpa using h1, h2⟩
theorem RpL.append : ∀ {vs us : List V} {ds es : List D}, RpL K mg H vs ds → RpL K mg H us es → RpL K mg H (vs ++ us) (ds ++ es)
  | _, _, _, _, .nil, q => q
  | _, _, _, _, .cons h r, q => .cons h (RpL.append r q)
theorem RpL.take : ∀ {vs : List V} {ds : List D} (n : Nat), RpL K mg H vs ds → RpL K mg H (vs.take n) (ds.take n)
  | _, _, 0, _ => .nil
  | _, _, _ + 1, .nil => .nil
  | _, _, n + 1, .cons h r => .cons h (RpL.take n r)
theorem RpL.drop : ∀ {vs : List V} {ds : List D} (n : Nat), RpL K mg H vs ds → RpL K mg H (vs.drop n) (ds.drop n)
  | _, _, 0, r => r
  | _, _, _ + 1, .nil => .nil
  | _, _, n + 1, .cons _ r => RpL.drop n r
theorem RpL.reverse : ∀ {vs : List V} {ds : List D}, RpL K mg H vs ds → RpL K mg H vs.reverse ds.reverse
  | _, _, .nil => .nil
  | _, _, .cons h r => by
    simp only [List.reverse_cons]
    exact RpL.append (RpL.reverse r) (.cons h .nil)
theorem RpL.set : ∀ {vs : List V} {ds : List D} (i : Nat) {v : V} {d : D}, RpL K mg H vs ds → Rp K mg H v d → RpL K mg H (vs.set i v) (ds.set i d)
  | _, _, _, _, _, .nil, _ => .nil
  | _, _, 0, _, _, .cons _ r, q => .cons q r
  | _, _, i + 1, _, _, .cons h r, q => .cons h (RpL.set i r q)
theorem RpL.dropLast : ∀ {vs : List V} {ds : List D}, RpL K mg H vs ds → RpL K mg H vs.dropLast ds.dropLast := fun {vs ds} r => by
  rw [List.dropLast_eq_take, List.dropLast_eq_take, r.length]
  exact r.take _
theorem RpL.eraseIdx : ∀ {vs : List V} {ds : List D} (i : Nat), RpL K mg H vs ds → RpL K mg H (vs.eraseIdx i) (ds.eraseIdx i)
  | _, _, _, .nil => .nil
  | _, _, 0, .cons _ r => r
  | _, _, i + 1, .cons h r => .cons h (RpL.eraseIdx i r)
theorem RpL.ints : ∀ {vs : List V} {is : List Int}, RpL K mg H vs (is.map D.int) → vs = is.map V.int
  | _, [], .nil => rfl
  | _, _ :: _, .cons (.int _) r => by rw [List.map_cons, RpL.ints r]
theorem RpL.bls : ∀ {vs : List V} {is : List Bool}, RpL K mg H vs (is.map D.bl) → vs = is.map V.bl
  | _, [], .nil => rfl
  | _, _ :: _, .cons (.bl _) r => by rw [List.map_cons, RpL.bls r]
theorem RpL.strs : ∀ {vs : List V} {is : List Str}, RpL K mg H vs (is.map D.str) → vs = is.map V.str
  | _, [], .nil => rfl
  | _, _ :: _, .cons (.str _) r => by rw [List.map_cons, RpL.strs r]
theorem RpL.ofInts : ∀ (is : List Int), RpL K mg H (is.map V.int) (is.map D.int)
  | [] => .nil
  | i :: r => .cons (.int i) (RpL.ofInts r)
theorem Rp.scr_inv {v : V} {is : List Int} (h : Rp K mg H v (.scr is)) {G : Hp} : ∃ a vs, v = .ref a ∧ SqL K H a vs ∧ RpL K mg G vs (is.map D.int) := by
  cases h with
  | scr h => exact ⟨_, _, rfl, h, .ofInts is⟩
end

/-! ## 3. owned values -/
/-- d is told by v, the objects at fp being its own -/
inductive OwnL (Q : D → V → List Addr → Prop) : List D → List V → List Addr → Prop
  | nil : OwnL Q [] [] []
  | cons {d : D} {v : V} {fp : List Addr} {ds : List D} {vs : List V} {fps : List Addr} : Q d v fp → OwnL Q ds vs fps → OwnL Q (d :: ds) (v :: vs) (fp ++ fps)
theorem OwnL.imp {Q Q' : D → V → List Addr → Prop} : ∀ {ds : List D} {vs : List V} {fp : List Addr}, OwnL Q ds vs fp → (∀ d v f, (∀ a ∈ f, a ∈ fp) → Q d v f → Q' d v f) → OwnL Q' ds vs fp
  | _, _, _, .nil, _ => .nil
  | _, _, _, .cons h r, k => .cons (k _ _ _ (fun a ha => List.mem_append_left _ ha) h) (OwnL.imp r fun d v f hf q => k d v f (fun a ha => List.mem_append_right _ (hf a ha)) q)
theorem OwnL.rpl {K : PySem.W.Frag} {mg : Str → Option Value} {H : Hp} {Q : D → V → List Addr → Prop} : ∀ {ds : List D} {vs : List V} {fp : List Addr}, OwnL Q ds vs fp → (∀ d v f, (∀ a ∈ f, a ∈ fp) → Q d v f → Rp K mg H v d) → RpL K mg H vs ds
  | _, _, _, .nil, _ => .nil
  | _, _, _, .cons h r, k => .cons (k _ _ _ (fun a ha => List.mem_append_left _ ha) h) (OwnL.rpl r fun d v f hf q => k d v f (fun a ha => List.mem_append_right _ (hf a ha)) q)
theorem OwnL.length {Q : D → V → List Addr → Prop} : ∀ {ds : List D} {vs : List V} {fp : List Addr}, OwnL Q ds vs fp → vs.length = ds.length
  | _, _, _, .nil => rfl
  | _, _, _, .cons _ r => by rw [List.length_cons, List.length_cons, OwnL.length r]
theorem OwnL.append {Q : D → V → List Addr → Prop} : ∀ {ds : List D} {vs : List V} {fp : List Addr} {ds' : List D} {vs' : List V} {fp' : List Addr}, OwnL Q ds vs fp → OwnL Q ds' vs' fp' → OwnL Q (ds ++ ds') (vs ++ vs') (fp ++ fp')
  | _, _, _, _, _, _, .nil, q => q
  | _, _, _, _, _, _, .cons h r, q => by
    rw [List.append_assoc]
    exact .cons h (OwnL.append r q)
/-- at a stands a container d: its parts, as they are told, as they stand -/
def Cont (mg : Str → Option Value) (H : Hp) (a : Addr) (d : D) (ds : List D) (vs : List V) : Prop :=
  (d = .lst ds ∧ H a = some (.lst vs)) ∨
  (∃ es kvs, d = .dct es ∧ H a = some (.dK kvs) ∧ kvs.map (fun p => keyD p.1) = es.map (fun p => p.1) ∧ ds = es.map (fun p => p.2) ∧ vs = kvs.map (fun p => p.2)) ∨
  (∃ es kvs, d = .dcT es ∧ H a = some (.dT kvs) ∧ kvs.map (fun p => D.tup (p.1.map keyD)) = es.map (fun p => p.1) ∧ ds = es.map (fun p => p.2) ∧ vs = kvs.map (fun p => p.2)) ∨
  (∃ c C dx es us, d = .obj c es ∧ H a = some (.ins C dx us) ∧ mg c = some (.ref C) ∧ us.map (fun p => p.1) = es.map (fun p => p.1) ∧ ds = es.map (fun p => p.2) ∧ vs = us.map (fun p => p.2))
section
variable {K : PySem.W.Frag} {mg : Str → Option Value} {H H' : Hp} {a : Addr} {d : D} {ds : List D} {vs : List V}
theorem Cont.live (c : Cont mg H a d ds vs) : H a ≠ none := by
  rcases c with ⟨_, e⟩ | ⟨_, _, _, e, _⟩ | ⟨_, _, _, e, _⟩ | ⟨_, _, _, _, _, _, e, _⟩ <;> (rw [e]; exact fun z => nomatch z)
theorem Cont.keep (c : Cont mg H a d ds vs) (k : ∀ o, H a = some o → H' a = some o) : Cont mg H' a d ds vs := by
  rcases c with ⟨e1, e⟩ | ⟨es, kvs, e1, e, r⟩ | ⟨es, kvs, e1, e, r⟩ | ⟨c, C, dx, es, us, e1, e, r⟩
  · exact .inl ⟨e1, k _ e⟩
  · exact .inr (.inl ⟨es, kvs, e1, k _ e, r⟩)
  · exact .inr (.inr (.inl ⟨es, kvs, e1, k _ e, r⟩))
  · exact .inr (.inr (.inr ⟨c, C, dx, es, us, e1, k _ e, r⟩))
theorem Cont.rp (c : Cont mg H a d ds vs) (r : RpL K mg H vs ds) : Rp K mg H (.ref a) d := by
  rcases c with ⟨rfl, e⟩ | ⟨es, kvs, rfl, e, ks, rfl, rfl⟩ | ⟨es, kvs, rfl, e, ks, rfl, rfl⟩ | ⟨c, C, dx, es, us, rfl, e, g, ks, rfl, rfl⟩
  · exact .lst e r
  · exact .dctK e ks r
  · exact .dctT e ks r
  · exact .obj e g ks r
theorem Cont.lst {es : List D} (c : Cont mg H a (.lst es) ds vs) : ds = es ∧ H a = some (.lst vs) := by
  rcases c with ⟨z, e⟩ | ⟨_, _, z, _⟩ | ⟨_, _, z, _⟩ | ⟨_, _, _, _, _, z, _⟩ <;> first | (cases z; exact ⟨rfl, e⟩) | cases z
theorem Cont.dct {es : List (D × D)} (c : Cont mg H a (.dct es) ds vs) : ∃ kvs, H a = some (.dK kvs) ∧ kvs.map (fun p => keyD p.1) = es.map (fun p => p.1) ∧ ds = es.map (fun p => p.2) ∧ vs = kvs.map (fun p => p.2) := by
  rcases c with ⟨z, _⟩ | ⟨_, kvs, z, r⟩ | ⟨_, _, z, _⟩ | ⟨_, _, _, _, _, z, _⟩ <;> first | (cases z; exact ⟨kvs, r⟩) | cases z
theorem Cont.dcT {es : List (D × D)} (c : Cont mg H a (.dcT es) ds vs) : ∃ kvs, H a = some (.dT kvs) ∧ kvs.map (fun p => D.tup (p.1.map keyD)) = es.map (fun p => p.1) ∧ ds = es.map (fun p => p.2) ∧ vs = kvs.map (fun p => p.2) := by
  rcases c with ⟨z, _⟩ | ⟨_, _, z, _⟩ | ⟨_, kvs, z, r⟩ | ⟨_, _, _, _, _, z, _⟩ <;> first | (cases z; exact ⟨kvs, r⟩) | cases z
theorem Cont.obj {c : Str} {es : List (Str × D)} (q : Cont mg H a (.obj c es) ds vs) : ∃ C dx us, H a = some (.ins C dx us) ∧ mg c = some (.ref C) ∧ us.map (fun p => p.1) = es.map (fun p => p.1) ∧ ds = es.map (fun p => p.2) ∧ vs = us.map (fun p => p.2) := by
  rcases q with ⟨z, _⟩ | ⟨_, _, z, _⟩ | ⟨_, _, z, _⟩ | ⟨_, C, dx, _, us, z, r⟩ <;> first | (cases z; exact ⟨C, dx, us, r⟩) | cases z
/-- what is no container -/
def isCont : D → Bool
  | .lst _ => true
  | .dct _ => true
  | .dcT _ => true
  | .obj _ _ => true
  | _ => false
theorem Cont.is (c : Cont mg H a d ds vs) : isCont d = true := by
  rcases c with ⟨rfl, _⟩ | ⟨_, _, rfl, _⟩ | ⟨_, _, rfl, _⟩ | ⟨_, _, _, _, _, rfl, _⟩ <;> rfl
end
section
variable (K : PySem.W.Frag) (mg : Str → Option Value)
def Own (G H : Hp) : Nat → D → V → List Addr → Prop
  | 0, d, v, fp => Rp K mg G v d ∧ fp = []
  | n + 1, d, v, fp => ∃ a rest ds vs, v = .ref a ∧ fp = a :: rest ∧ Cont mg H a d ds vs ∧ OwnL (Own G H n) ds vs rest
end
section
variable {K : PySem.W.Frag} {mg : Str → Option Value} {G H G' H' : Hp}
theorem Own.rp (s : Same G H) : ∀ {n : Nat} {d : D} {v : V} {fp : List Addr}, Own K mg G H n d v fp → Rp K mg H v d
  | 0, _, _, _, ⟨h, _⟩ => h.mono s
  | n + 1, _, _, _, ⟨a, rest, ds, vs, rfl, _, c, hl⟩ => c.rp (hl.rpl fun _ _ _ _ q => Own.rp s q)
/-- what is not touched stays -/
theorem Own.frame (s : Same G G') : ∀ {n : Nat} {d : D} {v : V} {fp : List Addr}, (∀ a ∈ fp, ∀ o, H a = some o → H' a = some o) → Own K mg G H n d v fp → Own K mg G' H' n d v fp
  | 0, _, _, _, _, ⟨h, e⟩ => ⟨h.mono s, e⟩
  | n + 1, _, _, _, k, ⟨a, rest, ds, vs, e1, e2, c, hl⟩ => by
    subst e2
    exact ⟨a, rest, ds, vs, e1, rfl, c.keep (k a List.mem_cons_self), hl.imp fun _ _ _ hf q => Own.frame s (fun b hb o => k b (List.mem_cons_of_mem _ (hf b hb)) o) q⟩
theorem OwnL.dom {Q : D → V → List Addr → Prop} {P : Addr → Prop} : ∀ {ds : List D} {vs : List V} {fp : List Addr}, OwnL Q ds vs fp → (∀ d v f, Q d v f → ∀ a ∈ f, P a) → ∀ a ∈ fp, P a
  | _, _, _, .nil, _, _, h => nomatch h
  | _, _, _, .cons h r, k, a, ha => (List.mem_append.mp ha).elim (k _ _ _ h a) (OwnL.dom r k a)
theorem Own.dom : ∀ {n : Nat} {d : D} {v : V} {fp : List Addr}, Own K mg G H n d v fp → ∀ a ∈ fp, H a ≠ none
  | 0, _, _, _, ⟨_, e⟩, a, ha => by rw [e] at ha; cases ha
  | n + 1, _, _, _, ⟨a, rest, ds, vs, _, e, c, hl⟩, b, hb => by
    subst e
    rcases List.mem_cons.1 hb with rfl | hb
    · exact c.live
    · exact hl.dom (fun _ _ _ q => Own.dom q) b hb
/-- frozen: the own objects join the shared part -/
def join (G H : Hp) (fp : List Addr) : Hp := fun a => if a ∈ fp then H a else G a
theorem join_same {fp : List Addr} (h : ∀ a ∈ fp, G a = none) : Same G (join G H fp) := fun a o e => by
  unfold join
  rw [if_neg (fun z => by rw [h a z] at e; cases e)]
  exact e
theorem join_sub {fp : List Addr} (s : Same G H) : Same (join G H fp) H := fun a o e => by
  unfold join at e
  by_cases z : a ∈ fp
  · rw [if_pos z] at e; exact e
  · rw [if_neg z] at e; exact s _ _ e
theorem Own.frozen (s : Same G G') : ∀ {n : Nat} {d : D} {v : V} {fp : List Addr}, (∀ a ∈ fp, ∀ o, H a = some o → G' a = some o) → Own K mg G H n d v fp → Rp K mg G' v d
  | 0, _, _, _, _, ⟨h, _⟩ => h.mono s
  | n + 1, _, _, _, k, ⟨a, rest, ds, vs, e1, e2, c, hl⟩ => by
    subst e1
    subst e2
    exact (c.keep (k a List.mem_cons_self)).rp (hl.rpl fun _ _ _ hf q => Own.frozen s (fun b hb o => k b (List.mem_cons_of_mem _ (hf b hb)) o) q)
end

/-! ### read for a while: to a depth the objects may change later, below they are shared -/
inductive All2 (Q : D → V → Prop) : List D → List V → Prop
  | nil : All2 Q [] []
  | cons {d : D} {v : V} {ds : List D} {vs : List V} : Q d v → All2 Q ds vs → All2 Q (d :: ds) (v :: vs)
theorem All2.imp {Q Q' : D → V → Prop} : ∀ {ds : List D} {vs : List V}, All2 Q ds vs → (∀ d v, Q d v → Q' d v) → All2 Q' ds vs
  | _, _, .nil, _ => .nil
  | _, _, .cons h r, k => .cons (k _ _ h) (All2.imp r k)
theorem All2.length {Q : D → V → Prop} : ∀ {ds : List D} {vs : List V}, All2 Q ds vs → vs.length = ds.length
  | _, _, .nil => rfl
  | _, _, .cons _ r => by rw [List.length_cons, List.length_cons, All2.length r]
theorem All2.getD {Q : D → V → Prop} : ∀ {ds : List D} {vs : List V} {i : Nat} {d : D}, All2 Q ds vs → ds[i]? = some d → ∃ v, vs[i]? = some v ∧ Q d v
  | _, _, _, _, .nil, e => by rw [List.getElem?_nil] at e; exact nomatch e
  | _, _, 0, _, .cons h _, e => by simp at e; subst e; exact ⟨_, rfl, h⟩
  | _, _, i + 1, d, .cons _ r, e => by
    obtain ⟨v, h1, h2⟩ := All2.getD (i := i) (d := d) r (by simpa using e)
    exact ⟨v, by simpa using h1, h2⟩
theorem OwnL.all2 {Q : D → V → List Addr → Prop} {Q' : D → V → Prop} : ∀ {ds : List D} {vs : List V} {fp : List Addr}, OwnL Q ds vs fp → (∀ d v f, Q d v f → Q' d v) → All2 Q' ds vs
  | _, _, _, .nil, _ => .nil
  | _, _, _, .cons h r, k => .cons (k _ _ _ h) (OwnL.all2 r k)
section
variable (K : PySem.W.Frag) (mg : Str → Option Value)
theorem All2.rpl {H : Hp} {Q : D → V → Prop} : ∀ {ds : List D} {vs : List V}, All2 Q ds vs → (∀ d v, Q d v → Rp K mg H v d) → RpL K mg H vs ds
  | _, _, .nil, _ => .nil
  | _, _, .cons h r, k => .cons (k _ _ h) (All2.rpl r k)
theorem All2.ofRpl {H : Hp} {Q : D → V → Prop} : ∀ {ds : List D} {vs : List V}, RpL K mg H vs ds → (∀ d v, Rp K mg H v d → Q d v) → All2 Q ds vs
  | _, _, .nil, _ => .nil
  | _, _, .cons h r, k => .cons (k _ _ h) (All2.ofRpl r k)
def RdV (G H : Hp) : Nat → D → V → Prop
  | 0, d, v => Rp K mg G v d
  | n + 1, d, v => Rp K mg G v d ∨ ∃ a ds vs, v = .ref a ∧ Cont mg H a d ds vs ∧ All2 (RdV G H n) ds vs
end
section
variable {K : PySem.W.Frag} {mg : Str → Option Value} {G H G' H' : Hp}
theorem RdV.ofRp {d : D} {v : V} (h : Rp K mg G v d) : ∀ {n : Nat}, RdV K mg G H n d v
  | 0 => h
  | _ + 1 => .inl h
theorem RdV.up : ∀ {n : Nat} {d : D} {v : V}, RdV K mg G H n d v → RdV K mg G H (n + 1) d v
  | 0, _, _, h => .inl h
  | n + 1, _, _, h => h.imp id fun ⟨a, ds, vs, e, c, hl⟩ => ⟨a, ds, vs, e, c, hl.imp fun _ _ q => RdV.up q⟩
theorem RdV.mono (sg : Same G G') (sh : Same H H') : ∀ {n : Nat} {d : D} {v : V}, RdV K mg G H n d v → RdV K mg G' H' n d v
  | 0, _, _, h => Rp.mono sg h
  | n + 1, _, _, h => h.imp (fun r => r.mono sg) fun ⟨a, ds, vs, e, c, hl⟩ => ⟨a, ds, vs, e, c.keep (sh a), hl.imp fun _ _ q => RdV.mono sg sh q⟩
theorem RdV.rp (s : Same G H) : ∀ {n : Nat} {d : D} {v : V}, RdV K mg G H n d v → Rp K mg H v d
  | 0, _, _, h => Rp.mono s h
  | n + 1, _, _, h => by
    rcases h with h | ⟨a, ds, vs, rfl, c, hl⟩
    · exact h.mono s
    · exact c.rp (hl.rpl _ _ fun _ _ q => RdV.rp s q)
theorem Own.rd : ∀ {n : Nat} {d : D} {v : V} {fp : List Addr}, Own K mg G H n d v fp → RdV K mg G H n d v
  | 0, _, _, _, ⟨h, _⟩ => h
  | n + 1, _, _, _, ⟨a, rest, ds, vs, e, _, c, hl⟩ => .inr ⟨a, ds, vs, e, c, hl.all2 fun _ _ _ q => Own.rd q⟩
/-- what is no container is shared -/
theorem RdV.plain {d : D} (z : isCont d = false) : ∀ {n : Nat} {v : V}, RdV K mg G H n d v → Rp K mg G v d
  | 0, _, h => h
  | _ + 1, _, h => h.elim id fun ⟨_, _, _, _, c, _⟩ => by rw [c.is] at z; cases z
theorem RdV.lst_inv (s : Same G H) {n : Nat} {es : List D} {v : V} (h : RdV K mg G H (n + 1) (.lst es) v) : ∃ a vs, v = .ref a ∧ H a = some (.lst vs) ∧ All2 (RdV K mg G H n) es vs := by
  rcases h with h | ⟨a, ds, vs, rfl, c, hl⟩
  · obtain ⟨a, vs, rfl, ha, r⟩ := h.lst_inv
    exact ⟨a, vs, rfl, s _ _ ha, All2.ofRpl K mg r fun _ _ q => RdV.ofRp q⟩
  · obtain ⟨rfl, ha⟩ := c.lst
    exact ⟨a, vs, rfl, ha, hl⟩
theorem RdV.dct_inv (s : Same G H) {n : Nat} {es : List (D × D)} {v : V} (h : RdV K mg G H (n + 1) (.dct es) v) : ∃ a kvs, v = .ref a ∧ H a = some (.dK kvs) ∧ kvs.map (fun p => keyD p.1) = es.map (fun p => p.1) ∧ All2 (RdV K mg G H n) (es.map fun p => p.2) (kvs.map fun p => p.2) := by
  rcases h with h | ⟨a, ds, vs, rfl, c, hl⟩
  · obtain ⟨a, kvs, rfl, ha, ks, r⟩ := h.dct_inv
    exact ⟨a, kvs, rfl, s _ _ ha, ks, All2.ofRpl K mg r fun _ _ q => RdV.ofRp q⟩
  · obtain ⟨kvs, ha, ks, rfl, rfl⟩ := c.dct
    exact ⟨a, kvs, rfl, ha, ks, hl⟩
theorem RdV.dcT_inv (s : Same G H) {n : Nat} {es : List (D × D)} {v : V} (h : RdV K mg G H (n + 1) (.dcT es) v) : ∃ a kvs, v = .ref a ∧ H a = some (.dT kvs) ∧ kvs.map (fun p => D.tup (p.1.map keyD)) = es.map (fun p => p.1) ∧ All2 (RdV K mg G H n) (es.map fun p => p.2) (kvs.map fun p => p.2) := by
  rcases h with h | ⟨a, ds, vs, rfl, c, hl⟩
  · obtain ⟨a, kvs, rfl, ha, ks, r⟩ := h.dcT_inv
    exact ⟨a, kvs, rfl, s _ _ ha, ks, All2.ofRpl K mg r fun _ _ q => RdV.ofRp q⟩
  · obtain ⟨kvs, ha, ks, rfl, rfl⟩ := c.dcT
    exact ⟨a, kvs, rfl, ha, ks, hl⟩
theorem Own.lst_inv {n : Nat} {es : List D} {v : V} {fp : List Addr} (h : Own K mg G H (n + 1) (.lst es) v fp) : ∃ a rest vs, v = .ref a ∧ fp = a :: rest ∧ H a = some (.lst vs) ∧ OwnL (Own K mg G H n) es vs rest := by
  obtain ⟨a, rest, ds, vs, e1, e2, c, hl⟩ := h
  obtain ⟨rfl, ha⟩ := c.lst
  exact ⟨a, rest, vs, e1, e2, ha, hl⟩
theorem Own.mkL {n : Nat} {es : List D} {a : Addr} {rest : List Addr} {vs : List V} (ha : H a = some (.lst vs)) (hl : OwnL (Own K mg G H n) es vs rest) : Own K mg G H (n + 1) (.lst es) (.ref a) (a :: rest) := ⟨a, rest, es, vs, rfl, rfl, .inl ⟨rfl, ha⟩, hl⟩
theorem Own.mkK {n : Nat} {es : List (D × D)} {a : Addr} {rest : List Addr} {kvs : List (Key × V)} (ha : H a = some (.dK kvs)) (ks : kvs.map (fun p => keyD p.1) = es.map (fun p => p.1)) (hl : OwnL (Own K mg G H n) (es.map fun p => p.2) (kvs.map fun p => p.2) rest) :
    Own K mg G H (n + 1) (.dct es) (.ref a) (a :: rest) := ⟨a, rest, _, _, rfl, rfl, .inr (.inl ⟨es, kvs, rfl, ha, ks, rfl, rfl⟩), hl⟩
theorem Own.mkT {n : Nat} {es : List (D × D)} {a : Addr} {rest : List Addr} {kvs : List (List Key × V)} (ha : H a = some (.dT kvs)) (ks : kvs.map (fun p => D.tup (p.1.map keyD)) = es.map (fun p => p.1)) (hl : OwnL (Own K mg G H n) (es.map fun p => p.2) (kvs.map fun p => p.2) rest) :
    Own K mg G H (n + 1) (.dcT es) (.ref a) (a :: rest) := ⟨a, rest, _, _, rfl, rfl, .inr (.inr (.inl ⟨es, kvs, rfl, ha, ks, rfl, rfl⟩)), hl⟩
theorem Own.mkO {n : Nat} {c : Str} {C dx : Addr} {es : List (Str × D)} {a : Addr} {rest : List Addr} {us : List (Str × V)} (ha : H a = some (.ins C dx us)) (g : mg c = some (.ref C)) (ks : us.map (fun p => p.1) = es.map (fun p => p.1)) (hl : OwnL (Own K mg G H n) (es.map fun p => p.2) (us.map fun p => p.2) rest) :
    Own K mg G H (n + 1) (.obj c es) (.ref a) (a :: rest) := ⟨a, rest, _, _, rfl, rfl, .inr (.inr (.inr ⟨c, C, dx, es, us, rfl, ha, g, ks, rfl, rfl⟩)), hl⟩
end

/-! ## 4. the state of a def's frame -/
/-- how a slot is held: read alone; owned to a depth (0: shared, never to change) -/
inductive Kd where
  | rd (n : Nat) | own (n : Nat)
/-- what is fixed for a def: how each slot is held; the slots whose object the caller will see changed; what stood at the entry -/
structure Fc where
  Γ : List Kd
  io : List (Nat × V)
  B : Hp
def Fc.kd (c : Fc) (i : Nat) : Kd := c.Γ.getD i (.own 0)
def Slt (K : PySem.W.Frag) (mg : Str → Option Value) (k : Kd) (G F H : Hp) (d : D) (v : V) (fp : List Addr) : Prop := match k with
  | .rd n => RdV K mg G F n d v ∧ fp = []
  | .own n => Own K mg G H n d v fp
/-- G: what is shared; F: what is kept; H: all. T: own objects of values that are under way -/
structure Ok (K : PySem.W.Frag) (mg : Str → Option Value) (c : Fc) (T : List Addr) (G F H : Hp) (σ : L2.St) (ρ : PV.Env) : Prop where
  gf : Same G F
  fh : Same F H
  bf : Same c.B F
  len : ρ.length = σ.length
  io : ∀ p ∈ c.io, σ[p.1]? = some (some p.2)
  slt : ∃ fps : Nat → List Addr, (∀ (i : Nat) (d : D), ρ[i]? = some (some d) → ∃ v, σ[i]? = some (some v) ∧ Slt K mg (c.kd i) G c.B H d v (fps i)) ∧
    (∀ i, (¬ ∃ d, ρ[i]? = some (some d)) → fps i = []) ∧ (∀ i, ∀ a ∈ fps i, F a = none) ∧ (∀ i, (fps i).Nodup) ∧ (∀ i j a, i ≠ j → a ∈ fps i → a ∉ fps j) ∧ T.Nodup ∧ (∀ a ∈ T, F a = none) ∧ ∀ i a, a ∈ fps i → a ∉ T
/-- from G, F on -/
structure Ext (G F G' F' : Hp) : Prop where
  g : Same G G'
  f : Same F F'
  n : ∀ a, G a = none → F a ≠ none → G' a = none
theorem Ext.refl (G F : Hp) : Ext G F G F := ⟨.refl _, .refl _, fun _ h _ => h⟩
theorem _root_.L2.Same.nn {H H' : Hp} (s : Same H H') {a : Addr} (h : H a ≠ none) : H' a ≠ none := by
  cases e : H a with
  | none => exact absurd e h
  | some o => rw [s a o e]; intro z; cases z
theorem Ext.trans {G F G1 F1 G2 F2 : Hp} (a : Ext G F G1 F1) (b : Ext G1 F1 G2 F2) : Ext G F G2 F2 := ⟨a.g.trans b.g, a.f.trans b.f, fun x h1 h2 => b.n x (a.n x h1 h2) (a.f.nn h2)⟩
section
variable {K : PySem.W.Frag} {mg : Str → Option Value} {c : Fc} {T : List Addr} {G F H G' F' H' : Hp} {σ : L2.St} {ρ : PV.Env}
theorem Ok.gh (o : Ok K mg c T G F H σ ρ) : Same G H := o.gf.trans o.fh
theorem Ok.drop (o : Ok K mg c T G F H σ ρ) : Ok K mg c [] G F H σ ρ := by
  obtain ⟨fps, h1, h0, h2, h3, h4, _, _, _⟩ := o.slt
  exact ⟨o.gf, o.fh, o.bf, o.len, o.io, fps, h1, h0, h2, h3, h4, List.nodup_nil, fun _ h => (nomatch h), fun _ _ _ h => (nomatch h)⟩
theorem Ok.dom (o : Ok K mg c T G F H σ ρ) {i : Nat} {d : D} (e : ρ[i]? = some (some d)) : ∃ v, σ[i]? = some (some v) ∧ Rp K mg H v d := by
  obtain ⟨fps, h1, _⟩ := o.slt
  obtain ⟨v, e1, h⟩ := h1 i d e
  refine ⟨v, e1, ?_⟩
  unfold Slt at h
  split at h
  · exact (h.1.mono (.refl _) (o.bf.trans o.fh)).rp o.gh
  · exact h.rp o.gh
theorem Slt.dom {B : Hp} {k : Kd} {d : D} {v : V} {fp : List Addr} (h : Slt K mg k G B H d v fp) : ∀ a ∈ fp, H a ≠ none := by
  unfold Slt at h
  split at h
  · intro a ha
    rw [h.2] at ha
    cases ha
  · exact h.dom
theorem Slt.frame {B : Hp} {k : Kd} {d : D} {v : V} {fp : List Addr} (x : Ext G F G' F') (hk : ∀ a ∈ fp, ∀ o, H a = some o → H' a = some o) (h : Slt K mg k G B H d v fp) : Slt K mg k G' B H' d v fp := by
  unfold Slt at h ⊢
  split
  · exact ⟨h.1.mono x.g (.refl _), h.2⟩
  · exact h.frame x.g hk
/-- the heap grows: what is new was not there -/
theorem Ok.grow (o : Ok K mg c T G F H σ ρ) (x : Ext G F G' F') (g' : Same G' F') (f' : Same F' H') (h' : Same H H') (n : ∀ a, F a = none → F' a ≠ none → H a = none) (hT : ∀ a ∈ T, H a ≠ none) : Ok K mg c T G' F' H' σ ρ := by
  obtain ⟨fps, h1, h0, h2, h3, h4, h5, h6, h7⟩ := o.slt
  have fr : ∀ a, F a = none → H a ≠ none → F' a = none := fun a e1 e2 => by
    cases q : F' a with
    | none => rfl
    | some u => exact absurd (n a e1 (by rw [q]; intro z; cases z)) e2
  have live : ∀ i a, a ∈ fps i → H a ≠ none := fun i a ha => by
    by_cases z : ∃ d, ρ[i]? = some (some d)
    · obtain ⟨d, e⟩ := z
      obtain ⟨v, _, h⟩ := h1 i d e
      exact h.dom a ha
    · rw [h0 i z] at ha
      cases ha
  refine ⟨g', f', o.bf.trans x.f, o.len, o.io, fps, fun i d e => ?_, h0, fun i a ha => fr a (h2 i a ha) (live i a ha), h3, h4, h5, fun a ha => fr a (h6 a ha) (hT a ha), h7⟩
  obtain ⟨v, e1, h⟩ := h1 i d e
  exact ⟨v, e1, h.frame x fun a _ o q => h' a o q⟩
end

/-! ## 5. the judgements -/
/-- how a value is handed on: it may be read just now (0: it is shared for good); it is owned to a depth from 1 on -/
inductive Md where
  | rd (n : Nat) | own (n : Nat)
def Val (K : PySem.W.Frag) (mg : Str → Option Value) (m : Md) (G H : Hp) (d : D) (v : V) (fp : List Addr) : Prop := match m with
  | .rd n => RdV K mg G H n d v ∧ fp = []
  | .own n => Own K mg G H n d v fp
def XRep (K : PySem.W.Frag) (mg : Str → Option Value) (G H : Hp) (x : Exn) (cls : Value) (dd : Option Addr) : Prop := match x with
  | .mal => ∃ C, mg "Malformed" = some (.ref C) ∧ cls = .ref C ∧ dd = none
  | .refu d => ∃ C a v, mg "Refused" = some (.ref C) ∧ cls = .ref C ∧ dd = some a ∧ H a = some (.xd [(("reason" : Str), v)]) ∧ Rp K mg G v d
  | .note d => ∃ C a v, mg "NoText" = some (.ref C) ∧ cls = .ref C ∧ dd = some a ∧ H a = some (.xd [(("at" : Str), v)]) ∧ Rp K mg G v d
/-- what must hold when x leaves -/
def Nx (K : PySem.W.Frag) (mg : Str → Option Value) (W : WX) (σ : L2.St) (G F : Hp) (x : Exn) : Prop :=
  ∀ cls dd G' F' H', Ext G F G' F' → Same G' F' → Same F' H' → XRep K mg G' H' x cls dd → W cls dd σ H'
theorem Nx.ext {K : PySem.W.Frag} {mg : Str → Option Value} {W : WX} {σ : L2.St} {G F G1 F1 : Hp} (e : Ext G F G1 F1) {x : Exn} (h : Nx K mg W σ G F x) : Nx K mg W σ G1 F1 x :=
  fun cls dd G' F' H' q => h cls dd G' F' H' (e.trans q)
/-- what the context gives: exceptions are taken as W says; loops may be left by them; nothing is being handled -/
structure Cok (X : Cx) (W : WX) : Prop where
  tk : Takes X W
  calm : X.calm = true
abbrev Pso (X : Cx) : Prop := PassesOwn (model X.prog X.w) X.A X.env X.xe
section
variable (X : Cx) (W : WX) (c : Fc)
def EX (p : Bool) (m : Md) (e : Expr) (f : M D) : Prop :=
  ∃ te, PE X e te ∧ ∀ (σ : L2.St) (ρ : PV.Env) (G F H : Hp) (Q : VK), Ok X.K X.mg c [] G F H σ ρ →
    Wp (f ρ) (fun r => ∀ v G' F' H' fp, Ext G F G' F' → Ok X.K X.mg c fp G' F' H' σ r.2 → Val X.K X.mg m G' H' r.1 v fp → (p = true → r.2 = ρ ∧ Same H H') → Q v H') (Nx X.K X.mg W σ G F) → te σ H Q
/-- a test -/
def TX (p : Bool) (e : Expr) (f : M Bool) : Prop :=
  ∃ tt, PT X e tt ∧ ∀ (σ : L2.St) (ρ : PV.Env) (G F H : Hp) (Q : Bool → Hp → Prop), Ok X.K X.mg c [] G F H σ ρ →
    Wp (f ρ) (fun r => ∀ G' F' H', Ext G F G' F' → Ok X.K X.mg c [] G' F' H' σ r.2 → (p = true → r.2 = ρ ∧ Same H H') → Q r.1 H') (Nx X.K X.mg W σ G F) → tt σ H Q
/-- .. whatever its whole is (and, or) -/
def TW (p : Bool) (e : Expr) (f : M Bool) : Prop :=
  ∃ tt, PW X e tt ∧ ∀ (σ : L2.St) (ρ : PV.Env) (G F H : Hp) (Q : Bool → Hp → Prop), Ok X.K X.mg c [] G F H σ ρ →
    Wp (f ρ) (fun r => ∀ G' F' H', Ext G F G' F' → Ok X.K X.mg c [] G' F' H' σ r.2 → (p = true → r.2 = ρ ∧ Same H H') → Q r.1 H') (Nx X.K X.mg W σ G F) → tt σ H Q
/-- how an argument is handed on: as a value; or the slot itself, whose object may be changed -/
inductive Am where
  | val (m : Md) | io (i : Nat)
inductive ValL (K : PySem.W.Frag) (mg : Str → Option Value) (G H : Hp) (σ : L2.St) : List Am → List D → List V → Prop
  | nil : ValL K mg G H σ [] [] []
  | val {m : Md} {ms : List Am} {d : D} {v : V} {fp : List Addr} {ds : List D} {vs : List V} : Val K mg m G H d v fp → ValL K mg G H σ ms ds vs → ValL K mg G H σ (.val m :: ms) (d :: ds) (v :: vs)
  | io {i : Nat} {ms : List Am} {v : V} {ds : List D} {vs : List V} : σ[i]? = some (some v) → ValL K mg G H σ ms ds vs → ValL K mg G H σ (.io i :: ms) (.non :: ds) (v :: vs)
def AX (p : Bool) (ms : List Am) (es : List Expr) (f : M (List D)) : Prop :=
  ∃ ta, PA X es ta ∧ ∀ (σ : L2.St) (ρ : PV.Env) (G F H : Hp) (Q : List V → Hp → Prop), Ok X.K X.mg c [] G F H σ ρ →
    Wp (f ρ) (fun r => ∀ vs G' F' H', Ext G F G' F' → Ok X.K X.mg c [] G' F' H' σ r.2 → ValL X.K X.mg G' H' σ ms r.1 vs → (p = true → r.2 = ρ ∧ Same H H') → Q vs H') (Nx X.K X.mg W σ G F) → ta σ H Q
end
/-- how a statement ends -/
inductive SR where
  | nx (ρ : PV.Env) | rt (d : D) (ρ : PV.Env) | exc (x : Exn) | fail
abbrev SM := PV.Env → SR
def WpS (r : SR) (P : PV.Env → Prop) (Q : D → PV.Env → Prop) (N : Exn → Prop) : Prop := match r with
  | .nx ρ => P ρ
  | .rt d ρ => Q d ρ
  | .exc x => N x
  | .fail => False
theorem WpS.imp {r : SR} {P P' : PV.Env → Prop} {Q Q' : D → PV.Env → Prop} {N N' : Exn → Prop} (h : WpS r P Q N) (hp : ∀ ρ, P ρ → P' ρ) (hq : ∀ d ρ, Q d ρ → Q' d ρ) (hn : ∀ x, N x → N' x) : WpS r P' Q' N' := by
  cases r with
  | nx ρ => exact hp _ h
  | rt d ρ => exact hq _ _ h
  | exc x => exact hn _ h
  | fail => exact h
/-- x leaves, whatever the slots are -/
def NxS (K : PySem.W.Frag) (mg : Str → Option Value) (W : WX) (n : Nat) (G F : Hp) (x : Exn) : Prop := ∀ σ : L2.St, σ.length = n → Nx K mg W σ G F x
section
variable (X : Cx) (W : WX) (c : Fc) (rk : Nat)
def StP (t : TS) (f : SM) : Prop :=
  ∀ (D : Ends) (σ : L2.St) (ρ : PV.Env) (G F H : Hp), Ok X.K X.mg c [] G F H σ ρ →
    WpS (f ρ) (fun ρ' => ∀ σ' G' F' H', Ext G F G' F' → Ok X.K X.mg c [] G' F' H' σ' ρ' → σ'.length = σ.length → D.nx σ' H')
      (fun d ρ' => ∀ σ' v G' F' H' fp, Ext G F G' F' → Ok X.K X.mg c fp G' F' H' σ' ρ' → Own X.K X.mg G' H' rk d v fp → D.rt v H') (NxS X.K X.mg W σ.length G F) → t D σ H
def SX (st : Stmt) (f : SM) : Prop := ∃ t, PS X st t ∧ StP X W c rk t f
def SXs (st : List Stmt) (f : SM) : Prop := ∃ t, PSs X st t ∧ StP X W c rk t f
end
end PV

set_option Elab.async false
set_option linter.all false
set_option maxRecDepth 100000
set_option maxHeartbeats 0
namespace PV
noncomputable section
open PySem PySem.Spec
open PyProof.Rows L2

/-! ## 6. plain machinery of the mirrors -/
/-- (by recursors: the kernel is to work with them) -/
noncomputable def look (ρ : PV.Env) : Nat → Option D := List.rec (motive := fun _ => Nat → Option D) (fun _ => none) (fun d _ ih i => Nat.rec (motive := fun _ => Option D) d (fun n _ => ih n) i) ρ
theorem look_nil (i : Nat) : look [] i = none := rfl
theorem look_zero (d : Option D) (r : PV.Env) : look (d :: r) 0 = d := rfl
theorem look_succ (d : Option D) (r : PV.Env) (n : Nat) : look (d :: r) (n + 1) = look r n := rfl
theorem look_eq : ∀ {ρ : PV.Env} {i : Nat} {d : D}, look ρ i = some d ↔ ρ[i]? = some (some d)
  | [], i, d => by simp [look_nil]
  | x :: r, 0, d => by simp [look_zero]
  | x :: r, i + 1, d => by simp [look_succ, look_eq (ρ := r) (i := i) (d := d)]
noncomputable def put {α : Type} (ρ : List α) : Nat → α → List α := List.rec (motive := fun _ => Nat → α → List α) (fun _ _ => []) (fun d r ih i x => Nat.rec (motive := fun _ => List α) (x :: r) (fun n _ => d :: ih n x) i) ρ
theorem put_eq {α : Type} : ∀ (ρ : List α) (i : Nat) (x : α), put ρ i x = ρ.set i x
  | [], _, _ => rfl
  | _ :: _, 0, _ => rfl
  | d :: r, i + 1, x => congrArg (d :: ·) (put_eq r i x)
def M.ofO {α : Type} (o : Option α) : M α := fun ρ => match o with
  | some a => .ok (a, ρ)
  | none => .fail
def eVar (i : Nat) : M D := fun ρ => match look ρ i with
  | some d => .ok (d, ρ)
  | none => .fail
def eC (d : D) : M D := fun ρ => .ok (d, ρ)
def e1 (g : D → Option D) (fa : M D) : M D := fa.bind fun x => M.ofO (g x)
def e2 (g : D → D → Option D) (fa fb : M D) : M D := fa.bind fun x => fb.bind fun y => M.ofO (g x y)
def aNil : M (List D) := fun ρ => .ok ([], ρ)
def aCons (fa : M D) (fr : M (List D)) : M (List D) := fa.bind fun x => fr.bind fun xs => M.pure (x :: xs)
def aIo (i : Nat) (g : M (List D)) : M (List D) := fun ρ => match look ρ i with
  | some _ => aCons (eC .non) g ρ
  | none => .fail
def eL (g : List D → Option D) (fa : M (List D)) : M D := fa.bind fun xs => M.ofO (g xs)
def asBl : D → Option Bool
  | .bl b => some b
  | _ => none
def tB (fa : M D) : M Bool := fa.bind fun x => M.ofO (asBl x)
def tAnd (a b : M Bool) : M Bool := a.bind fun x => if x = true then b else M.pure false
def tOr (a b : M Bool) : M Bool := a.bind fun x => if x = true then M.pure true else b
def tNot (a : M Bool) : M Bool := a.bind fun x => M.pure (!x)
def eB (a : M Bool) : M D := a.bind fun x => M.pure (.bl x)
def eIf (t : M Bool) (a b : M D) : M D := t.bind fun x => if x = true then a else b

/-! ## 7. growth of the heap -/
structure Grow (G F H G' F' H' : Hp) (fp : List Addr) : Prop where
  x : Ext G F G' F'
  gf : Same G' F'
  fh : Same F' H'
  hh : Same H H'
  n : ∀ a, F a = none → F' a ≠ none → H a = none
  nd : fp.Nodup
  fF : ∀ a ∈ fp, F' a = none
  fH : ∀ a ∈ fp, H a = none
theorem Grow.refl {G F H : Hp} (gf : Same G F) (fh : Same F H) : Grow G F H G F H [] := ⟨.refl _ _, gf, fh, .refl _, fun a h1 h2 => absurd h1 h2, List.nodup_nil, fun _ h => (nomatch h), fun _ h => (nomatch h)⟩
/-- a new shared object -/
theorem Grow.sh {G F H : Hp} {p : Addr} {o : HO} (gf : Same G F) (fh : Same F H) (hp : H p = none) : Grow G F H (upd G p o) (upd F p o) (upd H p o) [] := by
  have fp : F p = none := fh.free hp
  have gp : G p = none := gf.free fp
  have up : ∀ {A B : Hp}, Same A B → Same (upd A p o) (upd B p o) := fun s b x e => by
    by_cases z : b = p
    · subst z; rw [upd_same] at e ⊢; exact e
    · rw [upd_ne z] at e ⊢; exact s b x e
  refine ⟨⟨same_upd gp, same_upd fp, fun a h1 h2 => ?_⟩, up gf, up fh, same_upd hp, fun a h1 h2 => ?_, List.nodup_nil, fun _ h => (nomatch h), fun _ h => (nomatch h)⟩
  · rw [upd_ne (fun z => h2 (by rw [z]; exact fp))]; exact h1
  · by_cases z : a = p
    · rw [z]; exact hp
    · rw [upd_ne z] at h2; exact absurd h1 h2
/-- a new own object -/
theorem Grow.own {G F H : Hp} {p : Addr} {o : HO} (gf : Same G F) (fh : Same F H) (hp : H p = none) : Grow G F H G F (upd H p o) [p] := by
  have fp : F p = none := fh.free hp
  refine ⟨.refl _ _, gf, fh.trans (same_upd hp), same_upd hp, fun a h1 h2 => absurd h1 h2, by simp, fun a h => ?_, fun a h => ?_⟩
  · rw [List.mem_singleton.mp h]; exact fp
  · rw [List.mem_singleton.mp h]; exact hp
section
variable {K : PySem.W.Frag} {mg : Str → Option Value} {c : Fc} {T : List Addr} {G F H G' F' H' : Hp} {σ : L2.St} {ρ : PV.Env} {fp : List Addr}
theorem Ok.grown (o : Ok K mg c [] G F H σ ρ) (g : Grow G F H G' F' H' fp) : Ok K mg c fp G' F' H' σ ρ := by
  have o' := o.grow g.x g.gf g.fh g.hh g.n (fun _ h => (nomatch h))
  obtain ⟨fps, h1, h0, h2, h3, h4, _, _, _⟩ := o'.slt
  obtain ⟨fps0, k1, k0, k2, k3, k4, _, _, _⟩ := o.slt
  -- the slots' own objects stood in H, the new ones not
  have live : ∀ i a, a ∈ fps0 i → H a ≠ none := fun i a ha => by
    by_cases z : ∃ d, ρ[i]? = some (some d)
    · obtain ⟨d, e⟩ := z
      obtain ⟨v, _, h⟩ := k1 i d e
      exact h.dom a ha
    · rw [k0 i z] at ha
      cases ha
  have fr : ∀ a, F a = none → H a ≠ none → F' a = none := fun a e1 e2 => by
    cases q : F' a with
    | none => rfl
    | some u => exact absurd (g.n a e1 (by rw [q]; intro z; cases z)) e2
  refine ⟨g.gf, g.fh, o.bf.trans g.x.f, o.len, o.io, fps0, fun i d e => ?_, k0, fun i a ha => fr a (k2 i a ha) (live i a ha), k3, k4, g.nd, g.fF, fun i a ha hb => live i a ha (g.fH a hb)⟩
  obtain ⟨v, e1, h⟩ := k1 i d e
  exact ⟨v, e1, h.frame g.x fun a _ o q => g.hh a o q⟩
theorem Ok.freeze (o : Ok K mg c fp G F H σ ρ) : Ok K mg c [] (join G H fp) (join F H fp) H σ ρ ∧ Ext G F (join G H fp) (join F H fp) := by
  obtain ⟨fps, h1, h0, h2, h3, h4, h5, h6, h7⟩ := o.slt
  have gn : ∀ a ∈ fp, G a = none := fun a ha => o.gf.free (h6 a ha)
  have x : Ext G F (join G H fp) (join F H fp) := ⟨join_same gn, join_same h6, fun a e1 e2 => by
    unfold join
    rw [if_neg (fun z => e2 (h6 a z))]
    exact e1⟩
  refine ⟨⟨fun a u e => ?_, join_sub o.fh, o.bf.trans x.f, o.len, o.io, fps, fun i d e => ?_, h0, fun i a ha => ?_, h3, h4, List.nodup_nil, fun _ h => (nomatch h), fun _ _ _ h => (nomatch h)⟩, x⟩
  · unfold join at e ⊢
    by_cases z : a ∈ fp
    · rw [if_pos z] at e ⊢; exact e
    · rw [if_neg z] at e ⊢; exact o.gf a u e
  · obtain ⟨v, e1, h⟩ := h1 i d e
    exact ⟨v, e1, h.frame x fun a _ o q => q⟩
  · unfold join
    rw [if_neg (h7 i a ha)]
    exact h2 i a ha
/-- a value that may wait while the next part runs -/
def Waits (m : Md) (p : Bool) : Prop := m = .rd 0 ∨ ((∃ n, m = .rd n) ∧ p = true)
theorem Val.wait {m : Md} {p : Bool} {d : D} {v : V} (w : Waits m p) (h : Val K mg m G H d v fp) (hg : Same G G') (hh : p = true → Same H H') : Val K mg m G' H' d v [] := by
  rcases w with rfl | ⟨⟨n, rfl⟩, hp⟩
  · exact ⟨Rp.mono hg h.1, rfl⟩
  · exact ⟨h.1.mono hg (hh hp), rfl⟩
theorem Val.rp {m : Md} {d : D} {v : V} (s : Same G H) (h : Val K mg m G H d v fp) : Rp K mg H v d := by
  cases m with
  | rd n => exact h.1.rp s
  | own n => exact Own.rp s h
end

/-! ## 8. expressions -/
section
variable {X : Cx} {W : WX} {c : Fc}
abbrev EPost (X : Cx) (c : Fc) (p : Bool) (m : Md) (σ : L2.St) (ρ : PV.Env) (G F H : Hp) (Q : VK) : D × PV.Env → Prop :=
  fun r => ∀ v G' F' H' fp, Ext G F G' F' → Ok X.K X.mg c fp G' F' H' σ r.2 → Val X.K X.mg m G' H' r.1 v fp → (p = true → r.2 = ρ ∧ Same H H') → Q v H'
/-- the part's end is handed on -/
theorem EX.use (te : TE) {p : Bool} {m : Md} {f : M D} {σ : L2.St} {ρ : PV.Env} {G F H : Hp} {Q : VK}
    (h : ∀ (σ : L2.St) (ρ : PV.Env) (G F H : Hp) (Q : VK), Ok X.K X.mg c [] G F H σ ρ → Wp (f ρ) (EPost X c p m σ ρ G F H Q) (Nx X.K X.mg W σ G F) → te σ H Q)
    (o : Ok X.K X.mg c [] G F H σ ρ) {P : D × PV.Env → Prop} {N : Exn → Prop} (w : Wp (f ρ) P N)
    (k : ∀ r, P r → ∀ v G' F' H' fp, Ext G F G' F' → Ok X.K X.mg c fp G' F' H' σ r.2 → Val X.K X.mg m G' H' r.1 v fp → (p = true → r.2 = ρ ∧ Same H H') → Q v H') (kn : ∀ x, N x → Nx X.K X.mg W σ G F x) : te σ H Q :=
  h σ ρ G F H Q o (w.imp k kn)
def mdOf : Kd → Md
  | .own n => .rd n
  | .rd n => .rd n
theorem ex_var (i : Nat) {x : Str} {pos : Pos} {k : Kd} (hk : c.kd i = k := by rfl) (hN : X.N[i]? = some x := by rfl) (hv : Vis X.env.scope x := by first | exact Or.inl rfl | exact Or.inr (Or.inl rfl) | exact Or.inr (Or.inr rfl))
    (hd : (x == ("__debug__" : Str)) = false := by decide) (hcd : (x == ("__classdict__" : Str)) = false := by decide) : EX X W c true (mdOf k) (.Name x pos) (eVar i) := by
  refine ⟨_, pe_var hN hv hd hcd, fun σ ρ G F H Q o w => ?_⟩
  unfold eVar at w
  split at w
  · rename_i d e
    obtain ⟨fps, h1, _⟩ := o.slt
    obtain ⟨v, e1, q⟩ := h1 i d (look_eq.mp e)
    refine ⟨v, e1, w v G F H [] (.refl _ _) o ?_ fun _ => ⟨rfl, .refl _⟩⟩
    subst hk
    unfold Slt at q
    unfold mdOf
    split
    · rename_i hz
      rw [hz] at q
      exact ⟨q.rd, rfl⟩
    · rename_i hz
      rw [hz] at q
      exact ⟨q.1.mono (.refl _) (o.bf.trans o.fh), rfl⟩
  · exact w.elim
/-- a value that needs no heap -/
theorem ex_c {e : Expr} {v : V} {d : D} (h : PE X e (tC v)) (r : ∀ H, Rp X.K X.mg H v d) : EX X W c true (.rd 0) e (eC d) :=
  ⟨_, h, fun σ ρ G F H Q o w => w v G F H [] (.refl _ _) o ⟨r G, rfl⟩ fun _ => ⟨rfl, .refl _⟩⟩
theorem ex_int {i : Int} {j pos} : EX X W c true (.rd 0) (.Constant (.int i) j pos) (eC (.int i)) := ex_c pe_int fun _ => .int i
theorem ex_bl {b : Bool} {j pos} : EX X W c true (.rd 0) (.Constant (.bool b) j pos) (eC (.bl b)) := ex_c pe_bl fun _ => .bl b
theorem ex_non {j pos} : EX X W c true (.rd 0) (.Constant .none j pos) (eC .non) := ex_c pe_non fun _ => .non
theorem ex_str {x : Str} {j pos} : EX X W c true (.rd 0) (.Constant (.str x) j pos) (eC (.str x)) := ex_c pe_str fun _ => .str x
/-- a def of the module as a value -/
theorem ex_fn {x : Str} {a : Addr} {pos : Pos} (hm : X.mg x = some (.ref a)) (hg : Gl X x := by rfl) (hd : (x == ("__debug__" : Str)) = false := by decide) : EX X W c true (.rd 0) (.Name x pos) (eC (.fn x)) :=
  ex_c (pe_glob hg hm (v := .ref a) rfl hd) fun _ => .fn hm
/-- read just now -/
theorem ex_rd {p : Bool} {n : Nat} {e : Expr} {f : M D} (h : EX X W c p (.own n) e f) : EX X W c p (.rd n) e f := by
  obtain ⟨te, h1, h2⟩ := h
  refine ⟨te, h1, fun σ ρ G F H Q o w => EX.use te h2 o w (fun r hr v G' F' H' fp x o' q hp => ?_) fun _ z => z⟩
  exact hr v G' F' H' [] x o'.drop ⟨Own.rd q, rfl⟩ hp
theorem ex_up {p : Bool} {n : Nat} {e : Expr} {f : M D} (h : EX X W c p (.rd n) e f) : EX X W c p (.rd (n + 1)) e f := by
  obtain ⟨te, h1, h2⟩ := h
  refine ⟨te, h1, fun σ ρ G F H Q o w => EX.use te h2 o w (fun r hr v G' F' H' fp x o' q hp => ?_) fun _ z => z⟩
  exact hr v G' F' H' fp x o' ⟨q.1.up, q.2⟩ hp
/-- its own objects join the shared ones -/
theorem ex_sh {p : Bool} {n : Nat} {e : Expr} {f : M D} (h : EX X W c p (.own n) e f) : EX X W c p (.rd 0) e f := by
  obtain ⟨te, h1, h2⟩ := h
  refine ⟨te, h1, fun σ ρ G F H Q o w => EX.use te h2 o w (fun r hr v G' F' H' fp x o' q hp => ?_) fun _ z => z⟩
  obtain ⟨o2, x2⟩ := o'.freeze
  exact hr v _ _ H' [] (x.trans x2) o2 ⟨Own.frozen (G' := join G' H' fp) x2.g (fun a ha u e => by unfold join; rw [if_pos ha]; exact e) q, rfl⟩ hp
/-- less is said -/
theorem ex_np {p : Bool} {m : Md} {e : Expr} {f : M D} (h : EX X W c p m e f) : EX X W c false m e f := by
  obtain ⟨te, h1, h2⟩ := h
  exact ⟨te, h1, fun σ ρ G F H Q o w => EX.use te h2 o w (fun r hr v G' F' H' fp x o' q hp => hr v G' F' H' fp x o' q (fun z => nomatch z)) fun _ z => z⟩

/-! ### two parts in a row -/
def Op2S (K : PySem.W.Frag) (mg : Str → Option Value) (m1 m2 mo : Md) (r : R2) (g : D → D → Option D) : Prop :=
  ∀ (G F H : Hp) (d e : D) (v u : V) (z : D) (Q : VK), Same G F → Same F H → Val K mg m1 G H d v [] → Val K mg m2 G H e u [] → g d e = some z →
    (∀ w G' F' H' fr, Grow G F H G' F' H' fr → Val K mg mo G' H' z w fr → Q w H') → r v u H Q
theorem Wp.nxExt {α : Type} {K : PySem.W.Frag} {mg : Str → Option Value} {σ : L2.St} {G F G' F' : Hp} {r : R α} {P : α → Prop} (x : Ext G F G' F') (h : Wp r P (Nx K mg W σ G F)) : Wp r P (Nx K mg W σ G' F') := h.imp (fun _ z => z) fun _ z => z.ext x
theorem val_flat {K : PySem.W.Frag} {mg : Str → Option Value} {m : Md} {G H : Hp} {d : D} {v : V} {fp : List Addr} {p : Bool} (w : Waits m p) (h : Val K mg m G H d v fp) : Val K mg m G H d v [] := by
  rcases w with rfl | ⟨⟨n, rfl⟩, _⟩
  · exact ⟨h.1, rfl⟩
  · exact ⟨h.1, rfl⟩
theorem ex_2 {p1 p2 : Bool} {m1 m2 mo : Md} {a b e : Expr} {fa fb : M D} {r : R2} {g : D → D → Option D} (hpe : ∀ {ta tb}, PE X a ta → PE X b tb → PE X e (tOp r ta tb)) (hr : Op2S X.K X.mg m1 m2 mo r g)
    (ha : EX X W c p1 m1 a fa) (hb : EX X W c p2 m2 b fb) (w1 : Waits m1 p2) (w2 : Waits m2 true) : EX X W c (p1 && p2) mo e (e2 g fa fb) := by
  obtain ⟨ta, a1, a2⟩ := ha
  obtain ⟨tb, b1, b2⟩ := hb
  refine ⟨_, hpe a1 b1, fun σ ρ G F H Q o w => ?_⟩
  refine EX.use ta a2 o (Wp.ofBindM w) (fun r1 h1 v1 G1 F1 H1 fp1 x1 o1 q1 hp1 => ?_) fun _ z => z
  refine EX.use tb b2 o1.drop (Wp.nxExt x1 (Wp.ofBindM h1)) (fun r2 h2 v2 G2 F2 H2 fp2 x2 o2 q2 hp2 => ?_) fun _ z => z
  unfold M.ofO at h2
  split at h2
  · rename_i z hz
    refine hr G2 F2 H2 r1.1 r2.1 v1 v2 z Q o2.gf o2.fh (q1.wait w1 x2.g fun hp => (hp2 hp).2) (val_flat w2 q2) hz fun wv G3 F3 H3 fr g3 q3 => ?_
    refine h2 wv G3 F3 H3 fr ((x1.trans x2).trans g3.x) (o2.drop.grown g3) q3 fun hp => ?_
    rw [Bool.and_eq_true] at hp
    exact ⟨(hp2 hp.2).1.trans (hp1 hp.1).1, ((hp1 hp.1).2.trans (hp2 hp.2).2).trans g3.hh⟩
  · exact h2.elim
theorem ex_1 {p1 : Bool} {m1 mo : Md} {a e : Expr} {fa : M D} {r : V → Hp → VK → Prop} {g : D → Option D} (hpe : ∀ {ta}, PE X a ta → PE X e (tUn r ta))
    (hr : ∀ (G F H : Hp) (d : D) (v : V) (z : D) (Q : VK), Same G F → Same F H → Val X.K X.mg m1 G H d v [] → g d = some z → (∀ w G' F' H' fr, Grow G F H G' F' H' fr → Val X.K X.mg mo G' H' z w fr → Q w H') → r v H Q)
    (ha : EX X W c p1 m1 a fa) (w1 : Waits m1 true) : EX X W c p1 mo e (e1 g fa) := by
  obtain ⟨ta, a1, a2⟩ := ha
  refine ⟨_, hpe a1, fun σ ρ G F H Q o w => ?_⟩
  refine EX.use ta a2 o (Wp.ofBindM w) (fun r1 h1 v1 G1 F1 H1 fp1 x1 o1 q1 hp1 => ?_) fun _ z => z
  unfold M.ofO at h1
  split at h1
  · rename_i z hz
    refine hr G1 F1 H1 r1.1 v1 z Q o1.gf o1.fh (val_flat w1 q1) hz fun wv G3 F3 H3 fr g3 q3 => ?_
    exact h1 wv G3 F3 H3 fr (x1.trans g3.x) (o1.drop.grown g3) q3 fun hp => ⟨(hp1 hp).1, (hp1 hp).2.trans g3.hh⟩
  · exact h1.elim

/-! ### tests -/
theorem tx_val {p : Bool} {e : Expr} {f : M D} (h : EX X W c p (.rd 0) e f) (he : ∀ whole, isTrue e X.env whole = (do let v ← whole; standAt e.pos; holding [v] (truthy v)) := by intro _; rfl) : TX X W c p e (tB f) := by
  obtain ⟨te, h1, h2⟩ := h
  refine ⟨_, pt_val h1 he, fun σ ρ G F H Q o w => ?_⟩
  refine EX.use te h2 o (Wp.ofBindM w) (fun r hr v G' F' H' fp x o' q hp => ?_) fun _ z => z
  unfold M.ofO at hr
  split at hr
  · rename_i b hb
    obtain ⟨d, ρ'⟩ := r
    cases d <;> first | (cases hb; done) | skip
    cases hb
    obtain ⟨q, _⟩ := q
    cases q
    exact ⟨_, rfl, hr G' F' H' x o'.drop hp⟩
  · exact hr.elim
theorem tx_cmp {op : CmpOp} {p1 p2 : Bool} {m1 m2 : Md} {a b : Expr} {fa fb : M D} {r : R2} {g : D → D → Option D} {pos : Pos} (ho : OpR X (compareOp op) r) (hr : Op2S X.K X.mg m1 m2 (.rd 0) r g)
    (ha : EX X W c p1 m1 a fa) (hb : EX X W c p2 m2 b fb) (w1 : Waits m1 p2) (w2 : Waits m2 true) (hm : behindInMarks op b = false) : TX X W c (p1 && p2) (.Compare a [op] [b] pos) (tB (e2 g fa fb)) := by
  obtain ⟨ta, a1, a2⟩ := ha
  obtain ⟨tb, b1, b2⟩ := hb
  refine ⟨_, pt_cmpR ho a1 b1 hm, fun σ ρ G F H Q o w => ?_⟩
  have w' := Wp.ofBindM w
  refine EX.use ta a2 o (Wp.ofBindM w') (fun r1 h1 v1 G1 F1 H1 fp1 x1 o1 q1 hp1 => ?_) fun _ z => z
  refine EX.use tb b2 o1.drop (Wp.nxExt x1 (Wp.ofBindM h1)) (fun r2 h2 v2 G2 F2 H2 fp2 x2 o2 q2 hp2 => ?_) fun _ z => z
  unfold M.ofO at h2
  split at h2
  · rename_i z hz
    refine hr G2 F2 H2 r1.1 r2.1 v1 v2 z _ o2.gf o2.fh (q1.wait w1 x2.g fun hp => (hp2 hp).2) (val_flat w2 q2) hz fun wv G3 F3 H3 fr g3 q3 => ?_
    have h2' : Wp (M.ofO (asBl z) r2.2) _ _ := h2
    unfold M.ofO at h2'
    split at h2'
    · rename_i b hb
      cases z <;> first | (cases hb; done) | skip
      cases hb
      obtain ⟨q3, _⟩ := q3
      cases q3
      refine ⟨_, rfl, h2' G3 F3 H3 ((x1.trans x2).trans g3.x) (o2.drop.grown g3).drop fun hp => ?_⟩
      rw [Bool.and_eq_true] at hp
      exact ⟨(hp2 hp.2).1.trans (hp1 hp.1).1, ((hp1 hp.1).2.trans (hp2 hp.2).2).trans g3.hh⟩
    · exact h2'.elim
  · exact h2.elim
theorem tw_tx {p : Bool} {e : Expr} {f : M Bool} (h : TW X W c p e f) : TX X W c p e f := let ⟨t, h1, h2⟩ := h; ⟨t, h1.pt, h2⟩
abbrev TPost (X : Cx) (c : Fc) (p : Bool) (σ : L2.St) (ρ : PV.Env) (G F H : Hp) (Q : Bool → Hp → Prop) : Bool × PV.Env → Prop :=
  fun r => ∀ G' F' H', Ext G F G' F' → Ok X.K X.mg c [] G' F' H' σ r.2 → (p = true → r.2 = ρ ∧ Same H H') → Q r.1 H'
theorem TX.use (tt : TT) {p : Bool} {f : M Bool} {σ : L2.St} {ρ : PV.Env} {G F H : Hp} {Q : Bool → Hp → Prop}
    (h : ∀ (σ : L2.St) (ρ : PV.Env) (G F H : Hp) (Q : Bool → Hp → Prop), Ok X.K X.mg c [] G F H σ ρ → Wp (f ρ) (TPost X c p σ ρ G F H Q) (Nx X.K X.mg W σ G F) → tt σ H Q)
    (o : Ok X.K X.mg c [] G F H σ ρ) {P : Bool × PV.Env → Prop} {N : Exn → Prop} (w : Wp (f ρ) P N)
    (k : ∀ r, P r → ∀ G' F' H', Ext G F G' F' → Ok X.K X.mg c [] G' F' H' σ r.2 → (p = true → r.2 = ρ ∧ Same H H') → Q r.1 H') (kn : ∀ x, N x → Nx X.K X.mg W σ G F x) : tt σ H Q :=
  h σ ρ G F H Q o (w.imp k kn)
theorem tx_not {p : Bool} {a : Expr} {f : M Bool} {pos : Pos} (h : TX X W c p a f) : TX X W c p (.UnaryOp .Not a pos) (tNot f) := by
  obtain ⟨t, h1, h2⟩ := h
  refine ⟨_, pt_not h1, fun σ ρ G F H Q o w => ?_⟩
  exact TX.use t h2 o (Wp.ofBindM w) (fun r hr G' F' H' x o' hp => hr G' F' H' x o' hp) fun _ z => z
theorem tw_and1 {p : Bool} {a : Expr} {f : M Bool} {pos : Pos} (h : TX X W c p a f) : TW X W c p (.BoolOp .And [a] pos) f := let ⟨_, h1, h2⟩ := h; ⟨_, pw_and1 h1, h2⟩
theorem tw_or1 {p : Bool} {a : Expr} {f : M Bool} {pos : Pos} (h : TX X W c p a f) : TW X W c p (.BoolOp .Or [a] pos) f := let ⟨_, h1, h2⟩ := h; ⟨_, pw_or1 h1, h2⟩
theorem tw_and {p q : Bool} {a b : Expr} {rest : List Expr} {f g : M Bool} {pos : Pos} (h : TX X W c p a f) (k : TW X W c q (.BoolOp .And (b :: rest) pos) g) : TW X W c (p && q) (.BoolOp .And (a :: b :: rest) pos) (tAnd f g) := by
  obtain ⟨t, h1, h2⟩ := h
  obtain ⟨u, k1, k2⟩ := k
  refine ⟨_, pw_and h1 k1, fun σ ρ G F H Q o w => ?_⟩
  refine TX.use t h2 o (Wp.ofBindM w) (fun r hr G1 F1 H1 x1 o1 hp1 => ?_) fun _ z => z
  obtain ⟨b, ρ1⟩ := r
  cases b with
  | true =>
    refine TX.use u k2 o1 (Wp.nxExt x1 hr) (fun r2 hr2 G2 F2 H2 x2 o2 hp2 => hr2 G2 F2 H2 (x1.trans x2) o2 fun hp => ?_) fun _ z => z
    rw [Bool.and_eq_true] at hp
    exact ⟨(hp2 hp.2).1.trans (hp1 hp.1).1, (hp1 hp.1).2.trans (hp2 hp.2).2⟩
  | false =>
    exact hr G1 F1 H1 x1 o1 fun hp => by
      rw [Bool.and_eq_true] at hp
      exact hp1 hp.1
theorem tw_or {p q : Bool} {a b : Expr} {rest : List Expr} {f g : M Bool} {pos : Pos} (h : TX X W c p a f) (k : TW X W c q (.BoolOp .Or (b :: rest) pos) g) : TW X W c (p && q) (.BoolOp .Or (a :: b :: rest) pos) (tOr f g) := by
  obtain ⟨t, h1, h2⟩ := h
  obtain ⟨u, k1, k2⟩ := k
  refine ⟨_, pw_or h1 k1, fun σ ρ G F H Q o w => ?_⟩
  refine TX.use t h2 o (Wp.ofBindM w) (fun r hr G1 F1 H1 x1 o1 hp1 => ?_) fun _ z => z
  obtain ⟨b, ρ1⟩ := r
  cases b with
  | false =>
    refine TX.use u k2 o1 (Wp.nxExt x1 hr) (fun r2 hr2 G2 F2 H2 x2 o2 hp2 => hr2 G2 F2 H2 (x1.trans x2) o2 fun hp => ?_) fun _ z => z
    rw [Bool.and_eq_true] at hp
    exact ⟨(hp2 hp.2).1.trans (hp1 hp.1).1, (hp1 hp.1).2.trans (hp2 hp.2).2⟩
  | true =>
    exact hr G1 F1 H1 x1 o1 fun hp => by
      rw [Bool.and_eq_true] at hp
      exact hp1 hp.1

/-! ### and, or, not, if as values -/
def eAnd (a b : M D) : M D := a.bind fun x => match x with
  | .bl true => b
  | .bl false => M.pure (.bl false)
  | _ => fun _ => .fail
def eOr (a b : M D) : M D := a.bind fun x => match x with
  | .bl true => M.pure (.bl true)
  | .bl false => b
  | _ => fun _ => .fail
theorem ex_one {p : Bool} {m : Md} {op} {a : Expr} {f : M D} {pos : Pos} (h : EX X W c p m a f) : EX X W c p m (.BoolOp op [a] pos) f := let ⟨_, h1, h2⟩ := h; ⟨_, pe_one h1, h2⟩
theorem ex_and {p q : Bool} {a b : Expr} {rest : List Expr} {f g : M D} {pos : Pos} (h : EX X W c p (.rd 0) a f) (k : EX X W c q (.rd 0) (.BoolOp .And (b :: rest) pos) g) : EX X W c (p && q) (.rd 0) (.BoolOp .And (a :: b :: rest) pos) (eAnd f g) := by
  obtain ⟨t, h1, h2⟩ := h
  obtain ⟨u, k1, k2⟩ := k
  refine ⟨_, pe_and h1 k1, fun σ ρ G F H Q o w => ?_⟩
  refine EX.use t h2 o (Wp.ofBindM w) (fun r hr v G1 F1 H1 fp x1 o1 q1 hp1 => ?_) fun _ z => z
  obtain ⟨d, ρ1⟩ := r
  cases d <;> first | exact hr.elim | skip
  rename_i b
  obtain ⟨q1, _⟩ := q1
  cases q1
  refine ⟨b, rfl, ?_⟩
  cases b with
  | true =>
    refine EX.use u k2 o1.drop (Wp.nxExt x1 hr) (fun r2 hr2 v2 G2 F2 H2 fp2 x2 o2 q2 hp2 => hr2 v2 G2 F2 H2 fp2 (x1.trans x2) o2 q2 fun hp => ?_) fun _ z => z
    rw [Bool.and_eq_true] at hp
    exact ⟨(hp2 hp.2).1.trans (hp1 hp.1).1, (hp1 hp.1).2.trans (hp2 hp.2).2⟩
  | false =>
    exact hr (.bl false) G1 F1 H1 [] x1 o1.drop ⟨.bl _, rfl⟩ fun hp => by
      rw [Bool.and_eq_true] at hp
      exact hp1 hp.1
theorem ex_or {p q : Bool} {a b : Expr} {rest : List Expr} {f g : M D} {pos : Pos} (h : EX X W c p (.rd 0) a f) (k : EX X W c q (.rd 0) (.BoolOp .Or (b :: rest) pos) g) : EX X W c (p && q) (.rd 0) (.BoolOp .Or (a :: b :: rest) pos) (eOr f g) := by
  obtain ⟨t, h1, h2⟩ := h
  obtain ⟨u, k1, k2⟩ := k
  refine ⟨_, pe_or h1 k1, fun σ ρ G F H Q o w => ?_⟩
  refine EX.use t h2 o (Wp.ofBindM w) (fun r hr v G1 F1 H1 fp x1 o1 q1 hp1 => ?_) fun _ z => z
  obtain ⟨d, ρ1⟩ := r
  cases d <;> first | exact hr.elim | skip
  rename_i b
  obtain ⟨q1, _⟩ := q1
  cases q1
  refine ⟨b, rfl, ?_⟩
  cases b with
  | false =>
    refine EX.use u k2 o1.drop (Wp.nxExt x1 hr) (fun r2 hr2 v2 G2 F2 H2 fp2 x2 o2 q2 hp2 => hr2 v2 G2 F2 H2 fp2 (x1.trans x2) o2 q2 fun hp => ?_) fun _ z => z
    rw [Bool.and_eq_true] at hp
    exact ⟨(hp2 hp.2).1.trans (hp1 hp.1).1, (hp1 hp.1).2.trans (hp2 hp.2).2⟩
  | true =>
    exact hr (.bl true) G1 F1 H1 [] x1 o1.drop ⟨.bl _, rfl⟩ fun hp => by
      rw [Bool.and_eq_true] at hp
      exact hp1 hp.1
def eNot (a : M D) : M D := e1 (fun x => (asBl x).map fun b => .bl (!b)) a
theorem ex_not {p : Bool} {a : Expr} {f : M D} {pos : Pos} (h : EX X W c p (.rd 0) a f) : EX X W c p (.rd 0) (.UnaryOp .Not a pos) (eNot f) := by
  refine ex_1 (r := fun x H1 Q => ∃ c, x = .bl c ∧ Q (.bl (!c)) H1) (fun ha => pe_not ha) (fun G F H d v z Q gf fh q hz k => ?_) h (.inl rfl)
  cases d <;> first | (cases hz; done) | skip
  cases hz
  obtain ⟨q, _⟩ := q
  cases q
  exact ⟨_, rfl, k _ G F H [] (.refl gf fh) ⟨.bl _, rfl⟩⟩
theorem ex_if {p q r : Bool} {m : Md} {t a b : Expr} {ft : M Bool} {fa fb : M D} {pos : Pos} (ht : TX X W c p t ft) (ha : EX X W c q m a fa) (hb : EX X W c r m b fb) : EX X W c (p && (q && r)) m (.IfExp t a b pos) (eIf ft fa fb) := by
  obtain ⟨t, h1, h2⟩ := ht
  obtain ⟨ta, a1, a2⟩ := ha
  obtain ⟨tb, b1, b2⟩ := hb
  refine ⟨_, pe_ifExp h1 a1 b1, fun σ ρ G F H Q o w => ?_⟩
  refine TX.use t h2 o (Wp.ofBindM w) (fun s hr G1 F1 H1 x1 o1 hp1 => ?_) fun _ z => z
  obtain ⟨b, ρ1⟩ := s
  cases b with
  | true =>
    refine EX.use ta a2 o1 (Wp.nxExt x1 hr) (fun r2 hr2 v2 G2 F2 H2 fp2 x2 o2 q2 hp2 => hr2 v2 G2 F2 H2 fp2 (x1.trans x2) o2 q2 fun hp => ?_) fun _ z => z
    rw [Bool.and_eq_true, Bool.and_eq_true] at hp
    exact ⟨(hp2 hp.2.1).1.trans (hp1 hp.1).1, (hp1 hp.1).2.trans (hp2 hp.2.1).2⟩
  | false =>
    refine EX.use tb b2 o1 (Wp.nxExt x1 hr) (fun r2 hr2 v2 G2 F2 H2 fp2 x2 o2 q2 hp2 => hr2 v2 G2 F2 H2 fp2 (x1.trans x2) o2 q2 fun hp => ?_) fun _ z => z
    rw [Bool.and_eq_true, Bool.and_eq_true] at hp
    exact ⟨(hp2 hp.2.2).1.trans (hp1 hp.1).1, (hp1 hp.1).2.trans (hp2 hp.2.2).2⟩

/-! ### argument lists, displays -/
theorem ValL.vals {K : PySem.W.Frag} {mg : Str → Option Value} {G G' H H' : Hp} {σ : L2.St} : ∀ {ms : List Am} {ds : List D} {vs : List V}, (∀ m ∈ ms, ∀ k, m = .val k → k = .rd 0 ∨ ((∃ n, k = .rd n) ∧ Same H H')) → Same G G' → ValL K mg G H σ ms ds vs → ValL K mg G' H' σ ms ds vs
  | _, _, _, _, _, .nil => .nil
  | _, _, _, k, s, .val h r => by
    refine ValL.val (fp := []) ?_ (ValL.vals (fun m hm => k m (List.mem_cons_of_mem _ hm)) s r)
    rcases k _ List.mem_cons_self _ rfl with rfl | ⟨⟨n, rfl⟩, hh⟩
    · exact ⟨Rp.mono s h.1, rfl⟩
    · exact ⟨h.1.mono s hh, rfl⟩
  | _, _, _, k, s, .io h r => .io h (ValL.vals (fun m hm => k m (List.mem_cons_of_mem _ hm)) s r)
theorem ax_nil : AX X W c true [] [] aNil := ⟨_, pa_nil, fun σ ρ G F H Q o w => w [] G F H (.refl _ _) o .nil fun _ => ⟨rfl, .refl _⟩⟩
theorem ax_cons {p q : Bool} {m : Md} {ms : List Am} {e : Expr} {es : List Expr} {f : M D} {g : M (List D)} (h : EX X W c p m e f) (k : AX X W c q ms es g) (w1 : Waits m q) (hs : starEach (e :: es) X.env = (false, eval e X.env) :: starEach es X.env := by rfl) :
    AX X W c (p && q) (.val m :: ms) (e :: es) (aCons f g) := by
  obtain ⟨t, h1, h2⟩ := h
  obtain ⟨u, k1, k2⟩ := k
  refine ⟨_, pa_cons h1 k1 hs, fun σ ρ G F H Q o w => ?_⟩
  refine EX.use t h2 o (Wp.ofBindM w) (fun r hr v G1 F1 H1 fp x1 o1 q1 hp1 => ?_) fun _ z => z
  refine k2 σ r.2 G1 F1 H1 _ o1.drop ((Wp.nxExt x1 (Wp.ofBindM hr)).imp (fun r2 hr2 => ?_) fun _ z => z)
  intro vs G2 F2 H2 x2 o2 q2 hp2
  refine hr2 (v :: vs) G2 F2 H2 (x1.trans x2) o2 (ValL.val (fp := []) (q1.wait w1 x2.g fun z => (hp2 z).2) q2) fun hp => ?_
  rw [Bool.and_eq_true] at hp
  exact ⟨(hp2 hp.2).1.trans (hp1 hp.1).1, (hp1 hp.1).2.trans (hp2 hp.2).2⟩
/-- the slot itself: its object may be changed by the callee -/
theorem ax_io (i : Nat) {q : Bool} {ms : List Am} {x : Str} {pos : Pos} {es : List Expr} {g : M (List D)} (k : AX X W c q ms es g) (hN : X.N[i]? = some x := by rfl)
    (hv : Vis X.env.scope x := by first | exact Or.inl rfl | exact Or.inr (Or.inl rfl) | exact Or.inr (Or.inr rfl)) (hd : (x == ("__debug__" : Str)) = false := by decide) (hcd : (x == ("__classdict__" : Str)) = false := by decide)
    (hs : starEach (.Name x pos :: es) X.env = (false, eval (.Name x pos) X.env) :: starEach es X.env := by rfl) :
    AX X W c q (.io i :: ms) (.Name x pos :: es) (aIo i g) := by
  obtain ⟨u, k1, k2⟩ := k
  refine ⟨_, pa_cons (pe_var hN hv hd hcd) k1 hs, fun σ ρ G F H Q o w => ?_⟩
  unfold aIo at w
  split at w
  · rename_i d e
    obtain ⟨v, e1, _⟩ := o.dom (look_eq.mp e)
    refine ⟨v, e1, ?_⟩
    refine k2 σ ρ G F H _ o ((Wp.ofBindM (m := g) (Wp.ofBindM (m := eC D.non) w)).imp (fun r2 hr2 => ?_) fun _ z => z)
    intro vs G2 F2 H2 x2 o2 q2 hp2
    exact hr2 (v :: vs) G2 F2 H2 x2 o2 (ValL.io e1 q2) hp2
  · exact w.elim
theorem ValL.sh {K : PySem.W.Frag} {mg : Str → Option Value} {G H : Hp} {σ : L2.St} : ∀ {ms : List Am} {ds : List D} {vs : List V}, (∀ m ∈ ms, m = .val (.rd 0)) → ValL K mg G H σ ms ds vs → RpL K mg G vs ds
  | _, _, _, _, .nil => .nil
  | _, _, _, k, .val h r => by
    have e := k _ List.mem_cons_self
    cases e
    exact .cons h.1 (ValL.sh (fun m hm => k m (List.mem_cons_of_mem _ hm)) r)
  | _, _, _, k, .io h r => by
    have e := k _ List.mem_cons_self
    cases e
/-- all arguments are shared values -/
def allSh : List Am → Bool
  | [] => true
  | .val (.rd 0) :: r => allSh r
  | _ => false
theorem allSh_mem : ∀ {ms : List Am}, allSh ms = true → ∀ m ∈ ms, m = .val (.rd 0)
  | [], _, _, h => nomatch h
  | .val (.rd 0) :: r, h, m, hm => by
    rcases List.mem_cons.1 hm with rfl | hm
    · rfl
    · exact allSh_mem (ms := r) h m hm
  | .val (.rd (_ + 1)) :: r, h, _, _ => nomatch h
  | .val (.own _) :: r, h, _, _ => nomatch h
  | .io _ :: r, h, _, _ => nomatch h
def eTup (fa : M (List D)) : M D := eL (fun xs => if xs.length ≤ 100000 then some (.tup xs) else none) fa
def eLst (fa : M (List D)) : M D := eL (fun xs => if xs.length ≤ 100000 then some (.lst xs) else none) fa
theorem szl {n : Nat} (h : n ≤ 100000) : n ≤ sizeLine := Nat.le_trans h (by decide)
theorem ownL_sh {K : PySem.W.Frag} {mg : Str → Option Value} {G H : Hp} : ∀ {vs : List V} {ds : List D}, RpL K mg G vs ds → OwnL (Own K mg G H 0) ds vs []
  | _, _, .nil => .nil
  | _, _, .cons h r => OwnL.cons (fp := []) ⟨h, rfl⟩ (ownL_sh r)
theorem OwnL.sh {K : PySem.W.Frag} {mg : Str → Option Value} {G H : Hp} : ∀ {vs : List V} {ds : List D} {fp : List Addr}, OwnL (Own K mg G H 0) ds vs fp → RpL K mg G vs ds ∧ fp = []
  | _, _, _, .nil => ⟨.nil, rfl⟩
  | _, _, _, .cons h r => by
    obtain ⟨q, e⟩ := OwnL.sh r
    obtain ⟨h, rfl⟩ := h
    subst e
    exact ⟨.cons h q, rfl⟩
theorem ex_tup {p : Bool} {ms : List Am} {es : List Expr} {f : M (List D)} {x1 pos} (h : AX X W c p ms es f) (hm : allSh ms = true := by rfl) : EX X W c p (.rd 0) (.Tuple es x1 pos) (eTup f) := by
  obtain ⟨t, h1, h2⟩ := h
  refine ⟨_, pe_tup h1, fun σ ρ G F H Q o w => ?_⟩
  refine h2 σ ρ G F H _ o ((Wp.ofBindM w).imp (fun r hr => ?_) fun _ z => z)
  intro vs G1 F1 H1 x1 o1 q1 hp1
  have q2 := ValL.sh (allSh_mem hm) q1
  unfold M.ofO at hr
  split at hr
  · rename_i z hz
    have hz : (if _ then _ else _) = _ := hz
    split at hz
    · rename_i hl
      cases hz
      refine ⟨by rw [q2.length]; exact szl hl, fun a ha => ?_⟩
      have g := Grow.sh (o := .tup vs) o1.gf o1.fh ha
      exact hr _ _ _ _ _ (x1.trans g.x) (o1.grown g) ⟨.tup upd_same (q2.mono g.x.g), rfl⟩ fun hp => ⟨(hp1 hp).1, (hp1 hp).2.trans g.hh⟩
    · cases hz
  · exact hr.elim
theorem ex_lst {p : Bool} {ms : List Am} {es : List Expr} {f : M (List D)} {pos} (h : AX X W c p ms es f) (hm : allSh ms = true := by rfl) : EX X W c p (.own 1) (.List es pos) (eLst f) := by
  obtain ⟨t, h1, h2⟩ := h
  refine ⟨_, pe_lst h1, fun σ ρ G F H Q o w => ?_⟩
  refine h2 σ ρ G F H _ o ((Wp.ofBindM w).imp (fun r hr => ?_) fun _ z => z)
  intro vs G1 F1 H1 x1 o1 q1 hp1
  have q2 := ValL.sh (allSh_mem hm) q1
  unfold M.ofO at hr
  split at hr
  · rename_i z hz
    have hz : (if _ then _ else _) = _ := hz
    split at hz
    · rename_i hl
      cases hz
      refine ⟨by rw [q2.length]; exact szl hl, fun a ha => ?_⟩
      have g := Grow.own (o := .lst vs) o1.gf o1.fh ha
      exact hr _ _ _ _ _ (x1.trans g.x) (o1.grown g) (Own.mkL upd_same (ownL_sh q2)) fun hp => ⟨(hp1 hp).1, (hp1 hp).2.trans g.hh⟩
    · cases hz
  · exact hr.elim
end
end
end PV

set_option Elab.async false
set_option linter.all false
set_option maxRecDepth 100000
set_option maxHeartbeats 0
namespace PV
noncomputable section
open PySem PySem.Spec
open PyProof.Rows L2

/-! ## 9. operations on plain values -/
def small (n : Nat) : Bool := decide (n ≤ 100000)
def mulOk (i j : Int) : Bool := decide (i.natAbs < 2 ^ 64) || (decide (j.natAbs < 2 ^ 64) || decide (i.natAbs.log2 + j.natAbs.log2 < 100000000))
def gAdd : D → D → Option D
  | .int i, .int j => some (.int (i + j))
  | .str a, .str b => if small (a.length + b.length) = true then some (.str (a ++ b)) else none
  | .tup a, .tup b => if small (a.length + b.length) = true then some (.tup (a ++ b)) else none
  | _, _ => none
def gSub : D → D → Option D
  | .int i, .int j => some (.int (i - j))
  | _, _ => none
def gMul : D → D → Option D
  | .int i, .int j => if mulOk i j = true then some (.int (i * j)) else none
  | _, _ => none
def gDiv : D → D → Option D
  | .int i, .int j => if j = 0 then none else if j.natAbs < 1073741824 then some (.int (i.fdiv j)) else if 0 < j ∧ j.natAbs.log2 < 9000 then some (.int (i.fdiv j)) else none
  | _, _ => none
def gMod : D → D → Option D
  | .int i, .int j => if j = 0 then none else some (.int (i.fmod j))
  | _, _ => none
def gLt : D → D → Option D
  | .int i, .int j => some (.bl (decide (i < j)))
  | _, _ => none
def gLe : D → D → Option D
  | .int i, .int j => some (.bl (decide (i ≤ j)))
  | _, _ => none
def gGt : D → D → Option D
  | .int i, .int j => some (.bl (decide (j < i)))
  | _, _ => none
def gGe : D → D → Option D
  | .int i, .int j => some (.bl (decide (j ≤ i)))
  | _, _ => none
def gIsN : D → Option D
  | .non => some (.bl true)
  | _ => some (.bl false)
/-! data alone -/
mutual
def toP : D → Option PyData
  | .non => some .none
  | .bl b => some (.bool b)
  | .int i => some (.int i)
  | .str x => some (.str x)
  | .tup ds => (toPs ds).map PyData.tuple
  | .lst ds => (toPs ds).map PyData.list
  | .fn _ => none
  | .dct _ => none
  | .dcT _ => none
  | .obj _ _ => none
  | .scr _ => none
def toPs : List D → Option (List PyData)
  | [] => some []
  | d :: r => match toP d, toPs r with
    | some x, some xs => some (x :: xs)
    | _, _ => none
end
def eqS (x y : D) : Option Bool := match toP x, toP y with
  | some p, some q => if SeqAt.shaped p = true ∧ SeqAt.shaped q = true then some (PyData.eqv p q) else none
  | _, _ => none
/-! the same for the kernel to work with: data of at most n levels -/
def allR (f : D → Bool) (ds : List D) : Bool := List.rec (motive := fun _ => Bool) true (fun d _ ih => Bool.rec (motive := fun _ => Bool) false ih (f d)) ds
def eqR (f : D → D → Bool) (ds : List D) : List D → Bool := List.rec (motive := fun _ => List D → Bool) (fun es => List.rec (motive := fun _ => Bool) true (fun _ _ _ => false) es)
  (fun d _ ih es => List.rec (motive := fun _ => Bool) false (fun e r _ => Bool.rec (motive := fun _ => Bool) false (ih r) (f d e)) es) ds
def ok1 (f : D → Bool) : D → Bool
  | .non => true
  | .bl _ => true
  | .int _ => true
  | .str x => PyData.strOk x
  | .tup ds => allR f ds
  | .lst ds => allR f ds
  | _ => false
def eq1 (f : D → D → Bool) : D → D → Bool
  | .non, .non => true
  | .bl a, .bl b => a == b
  | .bl a, .int j => decide ((if a then 1 else 0) = j)
  | .int i, .bl b => decide (i = (if b then 1 else 0))
  | .int i, .int j => decide (i = j)
  | .str x, .str y => x == y
  | .lst xs, .lst ys => eqR f xs ys
  | .tup xs, .tup ys => eqR f xs ys
  | _, _ => false
def okF (n : Nat) : D → Bool := Nat.rec (motive := fun _ => D → Bool) (ok1 fun _ => false) (fun _ f => ok1 f) n
def eqF (n : Nat) : D → D → Bool := Nat.rec (motive := fun _ => D → D → Bool) (eq1 fun _ _ => false) (fun _ f => eq1 f) n
def eqD (x y : D) : Option Bool := match okF 50 x, okF 50 y with
  | true, true => some (eqF 50 x y)
  | _, _ => none
theorem allR_cons (f : D → Bool) (d : D) (ds : List D) : allR f (d :: ds) = (f d && allR f ds) := by
  show Bool.rec (motive := fun _ => Bool) false (allR f ds) (f d) = _
  cases f d <;> rfl
theorem eqR_cons (f : D → D → Bool) (d e : D) (ds es : List D) : eqR f (d :: ds) (e :: es) = (f d e && eqR f ds es) := by
  show Bool.rec (motive := fun _ => Bool) false (eqR f ds es) (f d e) = _
  cases f d e <;> rfl
theorem all_toP {n : Nat} {f : D → Bool} (h : ∀ d, f d = true → ∃ p, toP d = some p ∧ p.canLay0 = true ∧ p.depth ≤ n) : ∀ ds : List D, allR f ds = true → ∃ ps, toPs ds = some ps ∧ PyData.canLayAll0 ps = true ∧ PyData.depthAll ps ≤ n
  | [], _ => ⟨[], by simp [toPs], by simp [PyData.canLayAll0], by simp [PyData.depthAll]⟩
  | d :: r, q => by
    rw [allR_cons, Bool.and_eq_true] at q
    obtain ⟨p, h1, h2, h3⟩ := h d q.1
    obtain ⟨ps, k1, k2, k3⟩ := all_toP h r q.2
    exact ⟨p :: ps, by simp [toPs, h1, k1], by simp [PyData.canLayAll0, h2, k2], by simp only [PyData.depthAll]; omega⟩
theorem ok1_toP {n : Nat} {f : D → Bool} (h : ∀ ds : List D, allR f ds = true → ∃ ps, toPs ds = some ps ∧ PyData.canLayAll0 ps = true ∧ PyData.depthAll ps ≤ n) : ∀ d, ok1 f d = true → ∃ p, toP d = some p ∧ p.canLay0 = true ∧ p.depth ≤ n + 1
  | .non, _ => ⟨.none, by simp [toP], by simp [PyData.canLay0], by simp [PyData.depth]⟩
  | .bl b, _ => ⟨.bool b, by simp [toP], by simp [PyData.canLay0], by simp [PyData.depth]⟩
  | .int b, _ => ⟨.int b, by simp [toP], by simp [PyData.canLay0], by simp [PyData.depth]⟩
  | .str x, q => ⟨.str x, by simp [toP], by simp only [PyData.canLay0]; exact q, by simp [PyData.depth]⟩
  | .tup ds, q => by
    obtain ⟨ps, k1, k2, k3⟩ := h ds q
    exact ⟨.tuple ps, by simp [toP, k1], by simp [PyData.canLay0, k2], by simp only [PyData.depth]; omega⟩
  | .lst ds, q => by
    obtain ⟨ps, k1, k2, k3⟩ := h ds q
    exact ⟨.list ps, by simp [toP, k1], by simp [PyData.canLay0, k2], by simp only [PyData.depth]; omega⟩
  | .fn _, q => by cases q
  | .dct _, q => by cases q
  | .dcT _, q => by cases q
  | .obj _ _, q => by cases q
  | .scr _, q => by cases q
theorem allR_false : ∀ ds : List D, allR (fun _ => false) ds = true → ds = []
  | [], _ => rfl
  | d :: r, q => by
    rw [allR_cons] at q
    cases q
theorem okF_toP : ∀ (n : Nat) (d : D), okF n d = true → ∃ p, toP d = some p ∧ p.canLay0 = true ∧ p.depth ≤ n + 1
  | 0, d, q => ok1_toP (n := 0) (fun ds q => by
    have := allR_false ds q
    subst this
    exact ⟨[], by simp [toPs], by simp [PyData.canLayAll0], by simp [PyData.depthAll]⟩) d q
  | n + 1, d, q => ok1_toP (n := n + 1) (all_toP (okF_toP n)) d q
theorem eqR_toP {f : D → D → Bool} {g : D → Bool} (hf : ∀ d e p q, g d = true → g e = true → toP d = some p → toP e = some q → f d e = PyData.eqv p q) : ∀ (ds es : List D) (ps qs : List PyData), allR g ds = true → allR g es = true → toPs ds = some ps → toPs es = some qs → eqR f ds es = PyData.eqvAll ps qs
  | [], [], ps, qs, _, _, h1, h2 => by
    simp only [toPs, Option.some.injEq] at h1 h2
    subst h1 h2
    simp [eqR, PyData.eqvAll]
  | [], e :: es, ps, qs, _, _, h1, h2 => by
    simp only [toPs, Option.some.injEq] at h1 h2
    subst h1
    split at h2
    · cases h2
      simp [eqR, PyData.eqvAll]
    · cases h2
  | d :: ds, [], ps, qs, _, _, h1, h2 => by
    simp only [toPs, Option.some.injEq] at h1 h2
    subst h2
    split at h1
    · cases h1
      simp [eqR, PyData.eqvAll]
    · cases h1
  | d :: ds, e :: es, ps, qs, a1, a2, h1, h2 => by
    rw [allR_cons, Bool.and_eq_true] at a1 a2
    simp only [toPs] at h1 h2
    split at h1
    · rename_i p ps' e1 e2
      split at h2
      · rename_i q qs' e3 e4
        cases h1
        cases h2
        rw [eqR_cons, hf d e p q a1.1 a2.1 e1 e3, eqR_toP hf ds es ps' qs' a1.2 a2.2 e2 e4]
        simp [PyData.eqvAll]
      · cases h2
    · cases h1
theorem map_tup {o : Option (List PyData)} {f : List PyData → PyData} {p : PyData} (h : o.map f = some p) : ∃ ps, o = some ps ∧ p = f ps := by
  cases o with
  | none => cases h
  | some ps => cases h; exact ⟨ps, rfl, rfl⟩
theorem beq_dec (i j : Int) : (i == j) = decide (i = j) := by
  by_cases h : i = j <;> simp [h]
theorem eq1_toP {f : D → D → Bool} {g : D → Bool} (hf : ∀ (ds es : List D) (ps qs : List PyData), allR g ds = true → allR g es = true → toPs ds = some ps → toPs es = some qs → eqR f ds es = PyData.eqvAll ps qs) (d e : D) (p q : PyData) (k1 : ok1 g d = true) (k2 : ok1 g e = true) (h1 : toP d = some p) (h2 : toP e = some q) : eq1 f d e = PyData.eqv p q := by
  cases d <;> first | (cases k1; done) | skip
  all_goals (cases e <;> first | (cases k2; done) | skip)
  all_goals simp only [toP, Option.some.injEq] at h1 h2
  all_goals first
    | (subst h1; subst h2; simp [eq1, PyData.eqv]; done)
    | (obtain ⟨ps, e1, rfl⟩ := map_tup h1; subst h2; simp [eq1, PyData.eqv]; done)
    | (obtain ⟨qs, e2, rfl⟩ := map_tup h2; subst h1; simp [eq1, PyData.eqv]; done)
    | (obtain ⟨ps, e1, rfl⟩ := map_tup h1; obtain ⟨qs, e2, rfl⟩ := map_tup h2; first | (simp [eq1, PyData.eqv]; done) | (simp only [eq1, PyData.eqv]; exact hf _ _ _ _ k1 k2 e1 e2))
    | (subst h1; subst h2; simp only [eq1, PyData.eqv]; exact (beq_dec _ _).symm)
theorem eqF_toP : ∀ (n : Nat) (d e : D) (p q : PyData), okF n d = true → okF n e = true → toP d = some p → toP e = some q → eqF n d e = PyData.eqv p q
  | 0, d, e, p, q, k1, k2, h1, h2 => eq1_toP (g := fun _ => false) (fun ds es ps qs a1 a2 t1 t2 => eqR_toP (fun _ _ _ _ z => by cases z) ds es ps qs a1 a2 t1 t2) d e p q k1 k2 h1 h2
  | n + 1, d, e, p, q, k1, k2, h1, h2 => eq1_toP (g := okF n) (fun ds es ps qs a1 a2 t1 t2 => eqR_toP (eqF_toP n) ds es ps qs a1 a2 t1 t2) d e p q k1 k2 h1 h2
theorem eqD_eqS {x y : D} {b : Bool} (h : eqD x y = some b) : eqS x y = some b := by
  unfold eqD at h
  split at h
  · rename_i k1 k2
    cases h
    obtain ⟨p, t1, c1, d1⟩ := okF_toP 50 x k1
    obtain ⟨q, t2, c2, d2⟩ := okF_toP 50 y k2
    unfold eqS
    rw [t1, t2]
    have s1 : SeqAt.shaped p = true := by unfold SeqAt.shaped; rw [c1, Bool.true_and]; exact decide_eq_true (by omega)
    have s2 : SeqAt.shaped q = true := by unfold SeqAt.shaped; rw [c2, Bool.true_and]; exact decide_eq_true (by omega)
    simp only [s1, s2, and_self, if_true]
    rw [eqF_toP 50 x y p q k1 k2 t1 t2]
  · cases h
def gEq (x y : D) : Option D := (eqD x y).map .bl
def gNe (x y : D) : Option D := (eqD x y).map fun b => .bl (!b)
section
variable {K : PySem.W.Frag} {mg : Str → Option Value} {H : Hp}
mutual
theorem dp_of : ∀ {v : V} {d : D} {p : PyData}, Rp K mg H v d → toP d = some p → Dp K H v p
  | _, _, _, .non, e => by simp only [toP, Option.some.injEq] at e; subst e; exact .non
  | _, _, _, .bl b, e => by simp only [toP, Option.some.injEq] at e; subst e; exact .bl b
  | _, _, _, .int i, e => by simp only [toP, Option.some.injEq] at e; subst e; exact .int i
  | _, _, _, .str x, e => by simp only [toP, Option.some.injEq] at e; subst e; exact .str x
  | _, _, _, .fn _, e => by simp only [toP] at e; cases e
  | _, _, _, .tup h r, e => by
    simp only [toP] at e
    obtain ⟨ps, e1, rfl⟩ := Option.map_eq_some_iff.mp e
    exact .tup (.of h) (dps_of r e1)
  | _, _, _, .lst h r, e => by
    simp only [toP] at e
    obtain ⟨ps, e1, rfl⟩ := Option.map_eq_some_iff.mp e
    exact .lst (.of h) (dps_of r e1)
  | _, _, _, .scr _, e => by simp only [toP] at e; cases e
  | _, _, _, .dctK _ _ _, e => by simp only [toP] at e; cases e
  | _, _, _, .dctT _ _ _, e => by simp only [toP] at e; cases e
  | _, _, _, .obj _ _ _ _, e => by simp only [toP] at e; cases e
theorem dps_of : ∀ {vs : List V} {ds : List D} {ps : List PyData}, RpL K mg H vs ds → toPs ds = some ps → DpAll K H vs ps
  | _, _, _, .nil, e => by simp only [toPs, Option.some.injEq] at e; subst e; exact .nil
  | _, _, ps, .cons h r, e => by
    simp only [toPs] at e
    split at e
    · rename_i x xs e1 e2
      cases e
      exact .cons (dp_of h e1) (dps_of r e2)
    · cases e
end
end
section
variable {X : Cx} {W : WX} {c : Fc}
theorem OpR.imp {f : Value → Value → Sem Value} {r r' : R2} (h : OpR X f r) (k : ∀ x y H Q, r' x y H Q → r x y H Q) : OpR X f r' := fun pins s σ H x y v u Q I rx ry q => h pins s σ H x y v u Q I rx ry (k _ _ _ _ q)
/-- an operation on ints -/
theorem op2_int {K : PySem.W.Frag} {mg : Str → Option Value} {C : Int → Int → Prop} {f : Int → Int → V} {g : D → D → Option D} {k : Int → Int → D} {n m : Nat}
    (hg : ∀ x y z, g x y = some z → ∃ i j, x = .int i ∧ y = .int j ∧ C i j ∧ z = k i j) (hf : ∀ i j H, Rp K mg H (f i j) (k i j)) : Op2S K mg (.rd n) (.rd m) (.rd 0) (rI C f) g := by
  intro G F H d e v u z Q gf fh q1 q2 hz kk
  obtain ⟨i, j, rfl, rfl, hc, rfl⟩ := hg _ _ _ hz
  have r1 := q1.1.rp (gf.trans fh)
  have r2 := q2.1.rp (gf.trans fh)
  cases r1
  cases r2
  exact ⟨i, j, rfl, rfl, hc, kk _ G F H [] (.refl gf fh) ⟨hf i j G, rfl⟩⟩
theorem rI0_I {g : Int → Int → V} : ∀ x y H Q, rI (fun _ _ => True) g x y H Q → rI0 g x y H Q := fun _ _ _ _ ⟨i, j, h1, h2, _, q⟩ => ⟨i, j, h1, h2, q⟩
theorem int_inv {g : Int → Int → Option D} {x y z : D} (h : (match x, y with | .int i, .int j => g i j | _, _ => none) = some z) : ∃ i j, x = .int i ∧ y = .int j ∧ g i j = some z := by
  cases x <;> first | (cases h; done) | skip
  cases y <;> first | (cases h; done) | skip
  exact ⟨_, _, rfl, rfl, h⟩
variable {p1 p2 : Bool} {n m : Nat} {a b : Expr} {fa fb : M D} {pos : Pos}
theorem ex_sub (ha : EX X W c p1 (.rd n) a fa) (hb : EX X W c p2 (.rd m) b fb) (w1 : Waits (.rd n) p2) : EX X W c (p1 && p2) (.rd 0) (.BinOp a .Sub b pos) (e2 gSub fa fb) := by
  refine ex_2 (r := rI (fun _ _ => True) fun i j => .int (i - j)) (fun h1 h2 => pe_op (OpR.imp op_sub rI0_I) h1 h2) (op2_int (k := fun i j => .int (i - j)) (fun x y z h => ?_) fun i j _ => .int _) ha hb w1 (.inr ⟨⟨m, rfl⟩, rfl⟩)
  obtain ⟨i, j, rfl, rfl, h⟩ := int_inv (g := fun i j => some (.int (i - j))) h
  cases h
  exact ⟨i, j, rfl, rfl, trivial, rfl⟩
theorem mul_wide : OpR X (binaryOp .Mult) (rI (fun i j => mulOk i j = true) fun i j => .int (i * j)) := opI fun i j _ _ _ _ _ hc q => mul_int q (by
  unfold mulOk at hc
  simp only [Bool.or_eq_true, decide_eq_true_eq] at hc
  rcases hc with h | h | h
  · exact CMul.ok (.inl ⟨by omega, by omega⟩)
  · exact CMul.ok (.inr ⟨by omega, by omega⟩)
  · have b : ∀ x : Int, Builtin.Int.intBits x ≤ x.natAbs.log2 + 1 := fun x => by
      unfold Builtin.Int.intBits
      split <;> omega
    have h1 := b i
    have h2 := b j
    unfold IntMulOk
    intro z
    rw [Bool.and_eq_true] at z
    have far := z.right
    simp only [Builtin.Int.intTooBig, decide_eq_true_eq, show bitsLine = 134217728 from by decide] at far
    omega)
theorem ex_mul (ha : EX X W c p1 (.rd n) a fa) (hb : EX X W c p2 (.rd m) b fb) (w1 : Waits (.rd n) p2) : EX X W c (p1 && p2) (.rd 0) (.BinOp a .Mult b pos) (e2 gMul fa fb) := by
  refine ex_2 (fun h1 h2 => pe_op mul_wide h1 h2) (op2_int (k := fun i j => .int (i * j)) (fun x y z h => ?_) fun i j _ => .int _) ha hb w1 (.inr ⟨⟨m, rfl⟩, rfl⟩)
  obtain ⟨i, j, rfl, rfl, h1⟩ := int_inv (g := fun i j => if mulOk i j = true then some (.int (i * j)) else none) h
  split at h1
  · rename_i hc
    cases h1
    exact ⟨i, j, rfl, rfl, hc, rfl⟩
  · cases h1
theorem op_fdivA : OpR X (binaryOp .FloorDiv) (rI (fun i j => (j ≠ 0 ∧ j.natAbs < 1073741824) ∨ (0 < j ∧ j.natAbs.log2 < 9000)) fun i j => .int (i.fdiv j)) := by
  rintro pins s σ H _ _ v u Q I rx ry ⟨i, j, rfl, rfl, few | ⟨up, bits⟩, q⟩
  · exact op_fdivN pins s σ H _ _ v u Q I rx ry ⟨i, j, rfl, rfl, few, q⟩
  · rcases rx with ⟨t1, rfl⟩
    rcases ry with ⟨t2, rfl⟩
    exact floordiv_int (Int.ne_of_gt up) ⟨.int (i.fdiv j), H, I.tok _, ⟨_, rfl⟩, q⟩ (.inl (PyProof.noPylong_of_log2 bits))
theorem ex_div (ha : EX X W c p1 (.rd n) a fa) (hb : EX X W c p2 (.rd m) b fb) (w1 : Waits (.rd n) p2) : EX X W c (p1 && p2) (.rd 0) (.BinOp a .FloorDiv b pos) (e2 gDiv fa fb) := by
  refine ex_2 (fun h1 h2 => pe_op op_fdivA h1 h2) (op2_int (k := fun i j => .int (i.fdiv j)) (fun x y z h => ?_) fun i j _ => .int _) ha hb w1 (.inr ⟨⟨m, rfl⟩, rfl⟩)
  obtain ⟨i, j, rfl, rfl, h1⟩ := int_inv (g := fun i j => if j = 0 then none else if j.natAbs < 1073741824 then some (.int (i.fdiv j)) else if 0 < j ∧ j.natAbs.log2 < 9000 then some (.int (i.fdiv j)) else none) h
  split at h1
  · cases h1
  · rename_i hj
    split at h1
    · rename_i hc
      cases h1
      exact ⟨i, j, rfl, rfl, .inl ⟨hj, hc⟩, rfl⟩
    · split at h1
      · rename_i hc
        cases h1
        exact ⟨i, j, rfl, rfl, .inr hc, rfl⟩
      · cases h1
theorem ex_mod (ha : EX X W c p1 (.rd n) a fa) (hb : EX X W c p2 (.rd m) b fb) (w1 : Waits (.rd n) p2) : EX X W c (p1 && p2) (.rd 0) (.BinOp a .Mod b pos) (e2 gMod fa fb) := by
  refine ex_2 (fun h1 h2 => pe_op op_modN h1 h2) (op2_int (k := fun i j => .int (i.fmod j)) (fun x y z h => ?_) fun i j _ => .int _) ha hb w1 (.inr ⟨⟨m, rfl⟩, rfl⟩)
  obtain ⟨i, j, rfl, rfl, h1⟩ := int_inv (g := fun i j => if j = 0 then none else some (.int (i.fmod j))) h
  split at h1
  · cases h1
  · rename_i hc
    cases h1
    exact ⟨i, j, rfl, rfl, hc, rfl⟩
theorem lt_S {K : PySem.W.Frag} {mg : Str → Option Value} : Op2S K mg (.rd n) (.rd m) (.rd 0) (rI0 fun i j => .bl (decide (i < j))) gLt := fun G F H d e v u z Q gf fh q1 q2 hz k =>
  rI0_I _ _ _ _ (op2_int (C := fun _ _ => True) (f := fun i j => .bl (decide (i < j))) (k := fun i j => .bl (decide (i < j))) (fun x y z h => by
    obtain ⟨i, j, rfl, rfl, h⟩ := int_inv (g := fun i j => some (.bl (decide (i < j)))) h
    cases h
    exact ⟨i, j, rfl, rfl, trivial, rfl⟩) (fun i j _ => .bl _) G F H d e v u z Q gf fh q1 q2 hz k)
theorem le_S {K : PySem.W.Frag} {mg : Str → Option Value} : Op2S K mg (.rd n) (.rd m) (.rd 0) (rI0 fun i j => .bl (decide (i ≤ j))) gLe := fun G F H d e v u z Q gf fh q1 q2 hz k =>
  rI0_I _ _ _ _ (op2_int (C := fun _ _ => True) (f := fun i j => .bl (decide (i ≤ j))) (k := fun i j => .bl (decide (i ≤ j))) (fun x y z h => by
    obtain ⟨i, j, rfl, rfl, h⟩ := int_inv (g := fun i j => some (.bl (decide (i ≤ j)))) h
    cases h
    exact ⟨i, j, rfl, rfl, trivial, rfl⟩) (fun i j _ => .bl _) G F H d e v u z Q gf fh q1 q2 hz k)
theorem gt_S {K : PySem.W.Frag} {mg : Str → Option Value} : Op2S K mg (.rd n) (.rd m) (.rd 0) (rI0 fun i j => .bl (decide (j < i))) gGt := fun G F H d e v u z Q gf fh q1 q2 hz k =>
  rI0_I _ _ _ _ (op2_int (C := fun _ _ => True) (f := fun i j => .bl (decide (j < i))) (k := fun i j => .bl (decide (j < i))) (fun x y z h => by
    obtain ⟨i, j, rfl, rfl, h⟩ := int_inv (g := fun i j => some (.bl (decide (j < i)))) h
    cases h
    exact ⟨i, j, rfl, rfl, trivial, rfl⟩) (fun i j _ => .bl _) G F H d e v u z Q gf fh q1 q2 hz k)
theorem ge_S {K : PySem.W.Frag} {mg : Str → Option Value} : Op2S K mg (.rd n) (.rd m) (.rd 0) (rI0 fun i j => .bl (decide (j ≤ i))) gGe := fun G F H d e v u z Q gf fh q1 q2 hz k =>
  rI0_I _ _ _ _ (op2_int (C := fun _ _ => True) (f := fun i j => .bl (decide (j ≤ i))) (k := fun i j => .bl (decide (j ≤ i))) (fun x y z h => by
    obtain ⟨i, j, rfl, rfl, h⟩ := int_inv (g := fun i j => some (.bl (decide (j ≤ i)))) h
    cases h
    exact ⟨i, j, rfl, rfl, trivial, rfl⟩) (fun i j _ => .bl _) G F H d e v u z Q gf fh q1 q2 hz k)
theorem eq_S {K : PySem.W.Frag} {mg : Str → Option Value} : Op2S K mg (.rd n) (.rd m) (.rd 0) (rEqD K) gEq := by
  intro G F H d e v u z Q gf fh q1 q2 hz k
  unfold gEq at hz
  obtain ⟨b0, hz0, hz⟩ := Option.map_eq_some_iff.mp hz
  have hz1 := eqD_eqS hz0
  unfold eqS at hz1
  split at hz1
  · rename_i x y e1 e2
    split at hz1
    · rename_i hs
      cases hz1
      cases hz
      exact ⟨x, y, dp_of (q1.1.rp (gf.trans fh)) e1, dp_of (q2.1.rp (gf.trans fh)) e2, hs.1, hs.2, k _ G F H [] (.refl gf fh) ⟨.bl _, rfl⟩⟩
    · cases hz1
  · cases hz1
theorem ne_S {K : PySem.W.Frag} {mg : Str → Option Value} : Op2S K mg (.rd n) (.rd m) (.rd 0) (rNeD K) gNe := by
  intro G F H d e v u z Q gf fh q1 q2 hz k
  unfold gNe at hz
  obtain ⟨b0, hz0, hz⟩ := Option.map_eq_some_iff.mp hz
  have hz1 := eqD_eqS hz0
  unfold eqS at hz1
  split at hz1
  · rename_i x y e1 e2
    split at hz1
    · rename_i hs
      cases hz1
      cases hz
      exact ⟨x, y, dp_of (q1.1.rp (gf.trans fh)) e1, dp_of (q2.1.rp (gf.trans fh)) e2, hs.1, hs.2, k _ G F H [] (.refl gf fh) ⟨.bl _, rfl⟩⟩
    · cases hz1
  · cases hz1
/-- room for one call more, as the rules of data ask -/
structure Rm (X : Cx) : Prop where
  ex : ∃ k, Room k X.A
theorem Rm.u64 (h : Rm X) : X.A.units + 64 < cLine := let ⟨_, r⟩ := h.ex; r.units
theorem Rm.u65 (h : Rm X) : X.A.units + 65 < cLine := let ⟨_, r⟩ := h.ex; by have := r.un; omega
theorem Rm.u1 (h : Rm X) : X.A.units + 1 < cLine := let ⟨_, r⟩ := h.ex; hu_of r
abbrev W2 (m1 m2 : Md) (p2 : Bool) : Prop := Waits m1 p2 ∧ Waits m2 true
theorem w00 {q : Bool} : Waits (.rd 0) q := .inl rfl
theorem wrd {n : Nat} : Waits (.rd n) true := .inr ⟨⟨n, rfl⟩, rfl⟩
/-- the comparisons, as tests and as values -/
theorem tx_lt (ha : EX X W c p1 (.rd n) a fa) (hb : EX X W c p2 (.rd m) b fb) (w1 : Waits (.rd n) p2) : TX X W c (p1 && p2) (.Compare a [.Lt] [b] pos) (tB (e2 gLt fa fb)) := tx_cmp op_lt lt_S ha hb w1 wrd (nomark b)
theorem tx_le (ha : EX X W c p1 (.rd n) a fa) (hb : EX X W c p2 (.rd m) b fb) (w1 : Waits (.rd n) p2) : TX X W c (p1 && p2) (.Compare a [.LtE] [b] pos) (tB (e2 gLe fa fb)) := tx_cmp op_le le_S ha hb w1 wrd (nomark b)
theorem tx_gt (ha : EX X W c p1 (.rd n) a fa) (hb : EX X W c p2 (.rd m) b fb) (w1 : Waits (.rd n) p2) : TX X W c (p1 && p2) (.Compare a [.Gt] [b] pos) (tB (e2 gGt fa fb)) := tx_cmp op_gt gt_S ha hb w1 wrd (nomark b)
theorem tx_ge (ha : EX X W c p1 (.rd n) a fa) (hb : EX X W c p2 (.rd m) b fb) (w1 : Waits (.rd n) p2) : TX X W c (p1 && p2) (.Compare a [.GtE] [b] pos) (tB (e2 gGe fa fb)) := tx_cmp op_ge ge_S ha hb w1 wrd (nomark b)
theorem tx_eq (hr : Rm X) (ha : EX X W c p1 (.rd n) a fa) (hb : EX X W c p2 (.rd m) b fb) (w1 : Waits (.rd n) p2) : TX X W c (p1 && p2) (.Compare a [.Eq] [b] pos) (tB (e2 gEq fa fb)) := tx_cmp (op_eqD hr.u64) eq_S ha hb w1 wrd (nomark b)
theorem tx_ne (hr : Rm X) (ha : EX X W c p1 (.rd n) a fa) (hb : EX X W c p2 (.rd m) b fb) (w1 : Waits (.rd n) p2) : TX X W c (p1 && p2) (.Compare a [.NotEq] [b] pos) (tB (e2 gNe fa fb)) := tx_cmp (op_neD hr.u64) ne_S ha hb w1 wrd (nomark b)
theorem ex_lt (ha : EX X W c p1 (.rd n) a fa) (hb : EX X W c p2 (.rd m) b fb) (w1 : Waits (.rd n) p2) : EX X W c (p1 && p2) (.rd 0) (.Compare a [.Lt] [b] pos) (e2 gLt fa fb) := ex_2 (fun h1 h2 => pe_cmpR op_lt h1 h2 (nomark b)) lt_S ha hb w1 wrd
theorem ex_le (ha : EX X W c p1 (.rd n) a fa) (hb : EX X W c p2 (.rd m) b fb) (w1 : Waits (.rd n) p2) : EX X W c (p1 && p2) (.rd 0) (.Compare a [.LtE] [b] pos) (e2 gLe fa fb) := ex_2 (fun h1 h2 => pe_cmpR op_le h1 h2 (nomark b)) le_S ha hb w1 wrd
theorem ex_gt (ha : EX X W c p1 (.rd n) a fa) (hb : EX X W c p2 (.rd m) b fb) (w1 : Waits (.rd n) p2) : EX X W c (p1 && p2) (.rd 0) (.Compare a [.Gt] [b] pos) (e2 gGt fa fb) := ex_2 (fun h1 h2 => pe_cmpR op_gt h1 h2 (nomark b)) gt_S ha hb w1 wrd
theorem ex_ge (ha : EX X W c p1 (.rd n) a fa) (hb : EX X W c p2 (.rd m) b fb) (w1 : Waits (.rd n) p2) : EX X W c (p1 && p2) (.rd 0) (.Compare a [.GtE] [b] pos) (e2 gGe fa fb) := ex_2 (fun h1 h2 => pe_cmpR op_ge h1 h2 (nomark b)) ge_S ha hb w1 wrd
theorem ex_eq (hr : Rm X) (ha : EX X W c p1 (.rd n) a fa) (hb : EX X W c p2 (.rd m) b fb) (w1 : Waits (.rd n) p2) : EX X W c (p1 && p2) (.rd 0) (.Compare a [.Eq] [b] pos) (e2 gEq fa fb) := ex_2 (fun h1 h2 => pe_cmpR (op_eqD hr.u64) h1 h2 (nomark b)) eq_S ha hb w1 wrd
theorem ex_ne (hr : Rm X) (ha : EX X W c p1 (.rd n) a fa) (hb : EX X W c p2 (.rd m) b fb) (w1 : Waits (.rd n) p2) : EX X W c (p1 && p2) (.rd 0) (.Compare a [.NotEq] [b] pos) (e2 gNe fa fb) := ex_2 (fun h1 h2 => pe_cmpR (op_neD hr.u64) h1 h2 (nomark b)) ne_S ha hb w1 wrd
/-- a op b op c -/
def chK (g2 : D → D → Option D) (fc : M D) (y : D) : D → M D
  | .bl true => fc.bind fun w => M.ofO (g2 y w)
  | .bl false => M.pure (.bl false)
  | _ => fun _ => .fail
def e3c (g1 g2 : D → D → Option D) (fa fb fc : M D) : M D := fa.bind fun x => fb.bind fun y => (M.ofO (g1 x y)).bind (chK g2 fc y)
abbrev Sound (X : Cx) (W : WX) (c : Fc) (p : Bool) (m : Md) (t : TE) (f : M D) : Prop := ∀ (σ : L2.St) (ρ : PV.Env) (G F H : Hp) (Q : VK), Ok X.K X.mg c [] G F H σ ρ → Wp (f ρ) (EPost X c p m σ ρ G F H Q) (Nx X.K X.mg W σ G F) → t σ H Q
theorem chain_sem {p3 : Bool} {m1 m2 m3 : Nat} {fd : M D} {r r' : R2} {g g' : D → D → Option D} {ta tb td : TE} (hr : Op2S X.K X.mg (.rd m1) (.rd m2) (.rd 0) r g) (hr' : Op2S X.K X.mg (.rd m2) (.rd m3) (.rd 0) r' g')
    (a2 : Sound X W c p1 (.rd m1) ta fa) (b2 : Sound X W c p2 (.rd m2) tb fb) (d2 : Sound X W c p3 (.rd m3) td fd) (w1 : Waits (.rd m1) p2) (w2 : Waits (.rd m2) p3) : Sound X W c false (.rd 0) (tChain r r' ta tb td) (e3c g g' fa fb fd) := by
  intro σ ρ G F H Q o w
  refine EX.use ta a2 o (Wp.ofBindM w) (fun r1 h1 v1 G1 F1 H1 fp1 x1 o1 q1 hp1 => ?_) fun _ z => z
  refine EX.use tb b2 o1.drop (Wp.nxExt x1 (Wp.ofBindM h1)) (fun r2 h2 v2 G2 F2 H2 fp2 x2 o2 q2 hp2 => ?_) fun _ z => z
  have h2 := Wp.ofBindM (m := M.ofO (g r1.1 r2.1)) h2
  unfold M.ofO at h2
  split at h2
  · rename_i z hz
    refine hr G2 F2 H2 r1.1 r2.1 v1 v2 z _ o2.gf o2.fh (q1.wait w1 x2.g fun hp => (hp2 hp).2) (val_flat (p := true) wrd q2) hz fun wv G3 F3 H3 fr g3 q3 => ?_
    have h3 : Wp (chK g' fd r2.1 z r2.2) _ _ := h2
    have x3 := (x1.trans x2).trans g3.x
    have o3 := (o2.drop.grown g3).drop
    cases z <;> first | exact h3.elim | skip
    rename_i bz
    obtain ⟨q3, _⟩ := q3
    cases q3
    refine ⟨bz, rfl, ?_⟩
    cases bz with
    | true =>
      refine EX.use td d2 o3 (Wp.nxExt (x2.trans g3.x) (Wp.nxExt x1 (Wp.ofBindM (m := fd) h3))) (fun r4 h4 v4 G4 F4 H4 fp4 x4 o4 q4 hp4 => ?_) fun _ z => z
      unfold M.ofO at h4
      split at h4
      · rename_i z hz
        refine hr' G4 F4 H4 r2.1 r4.1 v2 v4 z _ o4.gf o4.fh (((val_flat (p := true) wrd q2).wait (p := true) wrd g3.x.g fun _ => g3.hh).wait w2 x4.g fun hp => (hp4 hp).2) (val_flat (p := true) wrd q4) hz fun wv G5 F5 H5 fr g5 q5 => ?_
        exact h4 wv G5 F5 H5 fr ((x3.trans x4).trans g5.x) (o4.drop.grown g5) q5 fun z => nomatch z
      · exact h4.elim
    | false =>
      exact h3 (.bl false) G3 F3 H3 [] x3 o3 ⟨.bl _, rfl⟩ fun z => nomatch z
  · exact h2.elim
theorem ex_chain {op op' : CmpOp} {p3 : Bool} {m1 m2 m3 : Nat} {d : Expr} {fd : M D} {r r' : R2} {g g' : D → D → Option D} (ho : OpR X (compareOp op) r) (ho' : OpR X (compareOp op') r')
    (hr : Op2S X.K X.mg (.rd m1) (.rd m2) (.rd 0) r g) (hr' : Op2S X.K X.mg (.rd m2) (.rd m3) (.rd 0) r' g') (ha : EX X W c p1 (.rd m1) a fa) (hb : EX X W c p2 (.rd m2) b fb) (hd : EX X W c p3 (.rd m3) d fd) (w1 : Waits (.rd m1) p2) (w2 : Waits (.rd m2) p3)
    (hm : lastMarks [op, op'] [b, d] = false := by with_unfolding_all rfl) : EX X W c false (.rd 0) (.Compare a [op, op'] [b, d] pos) (e3c g g' fa fb fd) :=
  let ⟨_, a1, a2⟩ := ha; let ⟨_, b1, b2⟩ := hb; let ⟨_, d1, d2⟩ := hd
  ⟨_, pe_chain ho ho' a1 b1 d1 hm, chain_sem hr hr' a2 b2 d2 w1 w2⟩
theorem tx_chain {op op' : CmpOp} {p3 : Bool} {m1 m2 m3 : Nat} {d : Expr} {fd : M D} {r r' : R2} {g g' : D → D → Option D} (ho : OpR X (compareOp op) r) (ho' : OpR X (compareOp op') r')
    (hr : Op2S X.K X.mg (.rd m1) (.rd m2) (.rd 0) r g) (hr' : Op2S X.K X.mg (.rd m2) (.rd m3) (.rd 0) r' g') (ha : EX X W c p1 (.rd m1) a fa) (hb : EX X W c p2 (.rd m2) b fb) (hd : EX X W c p3 (.rd m3) d fd) (w1 : Waits (.rd m1) p2) (w2 : Waits (.rd m2) p3)
    (hm : lastMarks [op, op'] [b, d] = false := by with_unfolding_all rfl) : TX X W c false (.Compare a [op, op'] [b, d] pos) (tB (e3c g g' fa fb fd)) := by
  obtain ⟨ta, a1, a2⟩ := ha
  obtain ⟨tb, b1, b2⟩ := hb
  obtain ⟨td, d1, d2⟩ := hd
  refine ⟨_, pt_chain ho ho' a1 b1 d1 hm, fun σ ρ G F H Q o w => ?_⟩
  refine chain_sem hr hr' a2 b2 d2 w1 w2 σ ρ G F H _ o ((Wp.ofBindM w).imp (fun q hq v G' F' H' fp x o' rv _ => ?_) fun _ z => z)
  unfold M.ofO at hq
  split at hq
  · rename_i b eb
    have rv : Rp X.K X.mg G' v q.1 := rv.1
    cases e : q.1 <;> rw [e] at eb <;> first | (cases eb; done) | skip
    cases eb
    rw [e] at rv
    cases rv
    exact ⟨_, rfl, hq G' F' H' x o'.drop fun z => nomatch z⟩
  · exact hq.elim
/-- + of ints, of texts, of tuples -/
def rAddA (K : PySem.W.Frag) : R2 := fun x y H Q => rI0 (fun i j => .int (i + j)) x y H Q ∨ (∃ i j, x = .str i ∧ y = .str j ∧ i.length + j.length ≤ sizeLine ∧ Q (.str (i ++ j)) H) ∨ rCatA K x y H Q
theorem op_addA : OpR X (binaryOp .Add) (rAddA X.K) := OpR.or op_add (OpR.or op_add_str op_catA)
theorem add_S {K : PySem.W.Frag} {mg : Str → Option Value} : Op2S K mg (.rd 0) (.rd 0) (.rd 0) (rAddA K) gAdd := by
  intro G F H d e v u z Q gf fh q1 q2 hz k
  have gh := gf.trans fh
  obtain ⟨q1, _⟩ := q1
  obtain ⟨q2, _⟩ := q2
  have q1 : Rp K mg G v d := q1
  have q2 : Rp K mg G u e := q2
  unfold gAdd at hz
  split at hz
  · cases hz
    cases q1
    cases q2
    exact .inl ⟨_, _, rfl, rfl, k _ G F H [] (.refl gf fh) ⟨.int _, rfl⟩⟩
  · split at hz
    · rename_i hs
      cases hz
      cases q1
      cases q2
      exact .inr (.inl ⟨_, _, rfl, rfl, szl (of_decide_eq_true hs), k _ G F H [] (.refl gf fh) ⟨.str _, rfl⟩⟩)
    · cases hz
  · split at hz
    · rename_i a b hs
      cases hz
      cases q1 with
      | @tup a1 vs1 _ h1 r1 =>
        cases q2 with
        | @tup a2 vs2 _ h2 r2 =>
          refine .inr (.inr ⟨_, _, _, _, rfl, rfl, .of (gh _ _ h1), .of (gh _ _ h2), ?_, fun e => ?_, fun _ e => ?_, fun _ _ p hp => ?_⟩)
          · rw [r1.length, r2.length]
            exact szl (of_decide_eq_true hs)
          · subst e
            cases r1
            exact k _ G F H [] (.refl gf fh) ⟨.tup h2 r2, rfl⟩
          · subst e
            cases r2
            rw [List.append_nil] at k
            exact k _ G F H [] (.refl gf fh) ⟨.tup h1 r1, rfl⟩
          · have g := Grow.sh (o := .tup (vs1 ++ vs2)) gf fh hp
            exact k _ _ _ _ _ g ⟨.tup upd_same ((r1.append r2).mono g.x.g), rfl⟩
    · cases hz
  · cases hz
theorem ex_add (ha : EX X W c p1 (.rd 0) a fa) (hb : EX X W c p2 (.rd 0) b fb) : EX X W c (p1 && p2) (.rd 0) (.BinOp a .Add b pos) (e2 gAdd fa fb) := ex_2 (fun h1 h2 => pe_op op_addA h1 h2) add_S ha hb w00 w00
def gNeg : D → Option D
  | .int i => some (.int (-i))
  | _ => none
theorem ex_neg (ha : EX X W c p1 (.rd n) a fa) : EX X W c p1 (.rd 0) (.UnaryOp .USub a pos) (e1 gNeg fa) := by
  refine ex_1 (fun h => pe_un un_neg h) (fun G F H d v z Q gf fh q hz k => ?_) ha wrd
  have q := q.1.rp (gf.trans fh)
  cases d <;> first | (cases hz; done) | skip
  cases hz
  cases q
  exact ⟨_, rfl, k _ G F H [] (.refl gf fh) ⟨.int _, rfl⟩⟩
def isNon : D → Bool
  | .non => true
  | _ => false
def gIs (x : D) : Option D := some (.bl (isNon x))
def gIsNot (x : D) : Option D := some (.bl (!isNon x))
theorem non_iff {K : PySem.W.Frag} {mg : Str → Option Value} {H : Hp} {v : V} {d : D} (h : Rp K mg H v d) : decide (v = .non) = isNon d := by
  cases h <;> rfl
theorem ex_is {j pos'} (ha : EX X W c p1 (.rd n) a fa) : EX X W c p1 (.rd 0) (.Compare a [.Is] [.Constant .none j pos'] pos) (e1 gIs fa) := by
  refine ex_1 (r := fun x H1 Q => Q (.bl (decide (x = .non))) H1) (fun h => pe_cmp (pc_isN h)) (fun G F H d v z Q gf fh q hz k => ?_) ha wrd
  have q := q.1.rp (gf.trans fh)
  cases hz
  show Q _ _
  rw [non_iff q]
  exact k _ G F H [] (.refl gf fh) ⟨.bl _, rfl⟩
theorem ex_isnot {j pos'} (ha : EX X W c p1 (.rd n) a fa) : EX X W c p1 (.rd 0) (.Compare a [.IsNot] [.Constant .none j pos'] pos) (e1 gIsNot fa) := by
  refine ex_1 (r := fun x H1 Q => Q (.bl (!decide (x = .non))) H1) (fun h => pe_cmp (pc_notN h)) (fun G F H d v z Q gf fh q hz k => ?_) ha wrd
  have q := q.1.rp (gf.trans fh)
  cases hz
  show Q _ _
  rw [non_iff q]
  exact k _ G F H [] (.refl gf fh) ⟨.bl _, rfl⟩
/-- a comparison's value as a test -/
theorem tx_is {j pos'} (ha : EX X W c p1 (.rd n) a fa) : TX X W c p1 (.Compare a [.Is] [.Constant .none j pos'] pos) (tB (e1 gIs fa)) := by
  obtain ⟨te, a1, a2⟩ := ha
  refine ⟨_, pt_cmp (pc_isN a1), fun σ ρ G F H Q o w => ?_⟩
  have w' := Wp.ofBindM w
  refine EX.use te a2 o (Wp.ofBindM w') (fun r h v G1 F1 H1 fp x1 o1 q hp => ?_) fun _ z => z
  have q := q.1.rp o1.gh
  refine ⟨_, rfl, ?_⟩
  rw [non_iff q]
  exact h G1 F1 H1 x1 o1.drop hp
theorem tx_isnot {j pos'} (ha : EX X W c p1 (.rd n) a fa) : TX X W c p1 (.Compare a [.IsNot] [.Constant .none j pos'] pos) (tB (e1 gIsNot fa)) := by
  obtain ⟨te, a1, a2⟩ := ha
  refine ⟨_, pt_cmp (pc_notN a1), fun σ ρ G F H Q o w => ?_⟩
  have w' := Wp.ofBindM w
  refine EX.use te a2 o (Wp.ofBindM w') (fun r h v G1 F1 H1 fp x1 o1 q hp => ?_) fun _ z => z
  have q := q.1.rp o1.gh
  refine ⟨_, rfl, ?_⟩
  rw [non_iff q]
  exact h G1 F1 H1 x1 o1.drop hp
end
end
end PV

set_option Elab.async false
set_option linter.all false
set_option maxRecDepth 100000
set_option maxHeartbeats 0
namespace PV
noncomputable section
open PySem PySem.Spec
open PyProof.Rows L2

/-! ## 10. subscripts -/
theorem atI_map {α β : Type} (f : α → β) (xs : List α) (i : Int) : atI (xs.map f) i = (atI xs i).map f := by
  unfold atI
  rw [List.length_map]
  cases ixN xs.length i with
  | none => rfl
  | some j => simp
theorem rpl_at {K : PySem.W.Frag} {mg : Str → Option Value} {H : Hp} {vs : List V} {ds : List D} {i : Int} {d : D} (r : RpL K mg H vs ds) (e : atI ds i = some d) : ∃ v, atI vs i = some v ∧ Rp K mg H v d := by
  unfold atI at e ⊢
  rw [r.length]
  cases q : ixN ds.length i with
  | none => rw [q] at e; exact nomatch e
  | some j =>
    rw [q] at e
    exact r.getD e
theorem all2_at {Q : D → V → Prop} {vs : List V} {ds : List D} {i : Int} {d : D} (r : All2 Q ds vs) (e : atI ds i = some d) : ∃ v, atI vs i = some v ∧ Q d v := by
  unfold atI at e ⊢
  rw [r.length]
  cases q : ixN ds.length i with
  | none => rw [q] at e; exact nomatch e
  | some j =>
    rw [q] at e
    exact r.getD e
/-- keys: ints, texts, tuples of them -/
def keyOf : D → Option Key
  | .int i => some (.inl i)
  | .str x => some (.inr x)
  | _ => none
def keysOf : List D → Option (List Key)
  | [] => some []
  | d :: r => match keyOf d, keysOf r with
    | some k, some ks => some (k :: ks)
    | _, _ => none
theorem keyOf_eq {d : D} {k : Key} (h : keyOf d = some k) : d = keyD k := by
  cases d <;> first | (cases h; done) | (cases h; rfl)
theorem keysOf_eq : ∀ {ds : List D} {ks : List Key}, keysOf ds = some ks → ds = ks.map keyD
  | [], _, h => by simp only [keysOf, Option.some.injEq] at h; subst h; rfl
  | d :: r, ks, h => by
    simp only [keysOf] at h
    split at h
    · rename_i k ks' h1 h2
      cases h
      rw [List.map_cons, ← keyOf_eq h1, ← keysOf_eq h2]
    · cases h
theorem keyD_inj : ∀ {a b : Key}, keyD a = keyD b → a = b
  | .inl _, .inl _, h => by cases h; rfl
  | .inr _, .inr _, h => by cases h; rfl
  | .inl _, .inr _, h => by cases h
  | .inr _, .inl _, h => by cases h
theorem keyD_map_inj : ∀ {a b : List Key}, a.map keyD = b.map keyD → a = b
  | [], [], _ => rfl
  | [], _ :: _, h => by cases h
  | _ :: _, [], h => by cases h
  | x :: a, y :: b, h => by
    rw [List.map_cons, List.map_cons, List.cons.injEq] at h
    rw [keyD_inj h.1, keyD_map_inj h.2]
/-- the same key, of two keys of one kind -/
def keyEq : D → D → Bool
  | .int i, .int j => decide (i = j)
  | .str x, .str y => decide (x = y)
  | .tup a, .tup b => match keysOf a, keysOf b with
    | some x, some y => decide (x = y)
    | _, _ => false
  | _, _ => false
def isKey : D → Bool
  | .int _ => true
  | .str _ => true
  | .tup a => (keysOf a).isSome
  | _ => false
theorem keyEq_key {a b : Key} : keyEq (keyD a) (keyD b) = decide (a = b) := by
  cases a <;> cases b
  · rw [show keyEq (keyD (.inl _)) (keyD (.inl _)) = decide (_ = _) from rfl]; simp
  · show false = _; simp
  · show false = _; simp
  · rw [show keyEq (keyD (.inr _)) (keyD (.inr _)) = decide (_ = _) from rfl]; simp
theorem keysOf_map : ∀ ks : List Key, keysOf (ks.map keyD) = some ks
  | [] => rfl
  | k :: r => by
    rw [List.map_cons]
    simp only [keysOf, keysOf_map r]
    cases k <;> rfl
theorem keyEq_tup {a b : List Key} : keyEq (.tup (a.map keyD)) (.tup (b.map keyD)) = decide (a = b) := by
  simp only [keyEq, keysOf_map]
theorem keyEq_kt {a : Key} {b : List D} : keyEq (keyD a) (.tup b) = false := by cases a <;> rfl
theorem keyEq_tk {a : Key} {b : List D} : keyEq (.tup b) (keyD a) = false := by cases a <;> rfl
def dGet (kvs : List (D × D)) (k : D) : Option D := (kvs.find? fun p => keyEq p.1 k).map fun p => p.2
def isKeyK (k : D) : Bool := (keyOf k).isSome
def isKeyT : D → Bool
  | .tup a => (keysOf a).isSome
  | _ => false
def gIx : D → D → Option D
  | .tup ds, .int i => atI ds i
  | .lst ds, .int i => atI ds i
  | .dct kvs, k => if isKeyK k = true then dGet kvs k else none
  | .dcT kvs, k => if isKeyT k = true then dGet kvs k else none
  | .str z, .int i => if small z.length = true then (atI z.cps.toList i).map fun n => .str ⟨#[n]⟩ else none
  | _, _ => none
section
variable {X : Cx} {W : WX} {c : Fc}
def rIxD : R2 := fun x y H Q => ∃ a v, x = .ref a ∧ DGet H a y (some v) ∧ Q v H
theorem ix_dict (hu : X.A.units + 1 < cLine) : IxR X rIxD := by
  rintro value slice pins s σ H _ y v u Q I rx ry ⟨a, z, rfl, g, q⟩ hs
  cases (show v = .ref a from rx)
  exact PyProof.Rows.tail_any (dict_typeIs I g) PySem.F.slot_dict_getitem.lookup (d_getItem hu I g ry fun w' s3 I3 rw' => ⟨z, H, I3, rw', q⟩) hs

theorem rp_key {K : PySem.W.Frag} {mg : Str → Option Value} {H : Hp} {v : V} {k : Key} (h : Rp K mg H v (keyD k)) : v = kV k := by
  cases k <;> (cases h; rfl)
theorem rpl_keys {K : PySem.W.Frag} {mg : Str → Option Value} {H : Hp} : ∀ {vs : List V} {ks : List Key}, RpL K mg H vs (ks.map keyD) → vs = ks.map kV
  | _, [], .nil => rfl
  | _, k :: r, .cons h t => by rw [List.map_cons, rp_key h, rpl_keys t]
theorem rp_ofKey {K : PySem.W.Frag} {mg : Str → Option Value} {H : Hp} (k : Key) : Rp K mg H (kV k) (keyD k) := by
  cases k with
  | inl i => exact .int i
  | inr x => exact .str x
theorem valV_cons {κ : Type} [DecidableEq κ] {p : κ × V} {r : List (κ × V)} {k : κ} : valV (p :: r) k = if p.1 = k then some p.2 else valV r k := by
  by_cases h : p.1 = k
  · rw [if_pos h, valV_pos h]
  · rw [if_neg h, valV_neg h]
theorem dGet_cons {p : D × D} {r : List (D × D)} {k : D} : dGet (p :: r) k = if keyEq p.1 k = true then some p.2 else dGet r k := by
  unfold dGet
  rw [List.find?_cons]
  cases keyEq p.1 k <;> rfl
/-- what a dict holds, both ways -/
theorem get_rel {κ : Type} [DecidableEq κ] {kd : κ → D} (hk : ∀ a b, keyEq (kd a) (kd b) = decide (a = b)) {Q : D → V → Prop} (k : κ) : ∀ {kvs : List (κ × V)} {ds : List (D × D)}, kvs.map (fun p => kd p.1) = ds.map (fun p => p.1) → All2 Q (ds.map fun p => p.2) (kvs.map fun p => p.2) →
    (dGet ds (kd k) = none ∧ valV kvs k = none) ∨ ∃ d v, dGet ds (kd k) = some d ∧ valV kvs k = some v ∧ Q d v
  | [], [], _, _ => .inl ⟨rfl, rfl⟩
  | [], _ :: _, differ, _ => nomatch differ
  | _ :: _, [], differ, _ => nomatch differ
  | p :: kvs, q :: ds, h, r => by
    rw [List.map_cons, List.map_cons, List.cons.injEq] at h
    rw [List.map_cons, List.map_cons] at r
    cases r with
    | cons r1 r2 =>
      rw [valV_cons, dGet_cons, ← h.1, hk]
      by_cases e : p.1 = k
      · rw [if_pos e, decide_eq_true e, if_pos rfl]
        exact .inr ⟨_, _, rfl, rfl, r1⟩
      · rw [if_neg e, decide_eq_false e, if_neg Bool.false_ne_true]
        exact get_rel hk k h.2 r2
theorem keyK (a b : Key) : keyEq (keyD a) (keyD b) = decide (a = b) := keyEq_key
theorem keyT (a b : List Key) : keyEq (D.tup (a.map keyD)) (D.tup (b.map keyD)) = decide (a = b) := keyEq_tup
theorem isKeyK_eq {k : D} (h : isKeyK k = true) : ∃ key, k = keyD key := by
  obtain ⟨key, e⟩ := Option.isSome_iff_exists.mp h
  exact ⟨key, keyOf_eq e⟩
theorem isKeyT_eq {k : D} (h : isKeyT k = true) : ∃ key : List Key, k = .tup (key.map keyD) := by
  cases k <;> first | (cases h; done) | skip
  obtain ⟨ks, e⟩ := Option.isSome_iff_exists.mp (show (keysOf _).isSome = true from h)
  exact ⟨ks, congrArg D.tup (keysOf_eq e)⟩
/-- what a dict tells of a key: the same as the plain one -/
def Tells (K : PySem.W.Frag) (mg : Str → Option Value) (G H : Hp) (n : Nat) (ds : List (D × D)) (k : D) (o : Option V) : Prop :=
  (dGet ds k = none ∧ o = none) ∨ ∃ d w, dGet ds k = some d ∧ o = some w ∧ RdV K mg G H n d w
theorem dopt_K {K : PySem.W.Frag} {mg : Str → Option Value} {G H : Hp} {n : Nat} {v u : V} {ds : List (D × D)} {k : D} (gh : Same G H) (q1 : RdV K mg G H (n + 1) (.dct ds) v) (q2 : Rp K mg H u k) (hk : isKeyK k = true) :
    ∃ a o, v = .ref a ∧ DGet H a u o ∧ Tells K mg G H n ds k o := by
  obtain ⟨key, rfl⟩ := isKeyK_eq hk
  have go : ∀ {a : Addr} {kvs : List (Key × V)}, H a = some (.dK kvs) → kvs.map (fun p => keyD p.1) = ds.map (fun p => p.1) → All2 (RdV K mg G H n) (ds.map fun p => p.2) (kvs.map fun p => p.2) → DGet H a u (valV kvs key) ∧ Tells K mg G H n ds (keyD key) (valV kvs key) := fun h1 h2 r =>
    ⟨.inl ⟨_, key, .inl h1, rp_key q2, rfl⟩, (get_rel (kd := keyD) keyK key h2 r).imp id fun ⟨d, w, e1, e2, q⟩ => ⟨d, w, e1, e2, q⟩⟩
  obtain ⟨a, kvs, rfl, h1, h2, r⟩ := q1.dct_inv gh
  exact ⟨a, _, rfl, go h1 h2 r⟩
theorem dopt_T {K : PySem.W.Frag} {mg : Str → Option Value} {G H : Hp} {n : Nat} {v u : V} {ds : List (D × D)} {k : D} (gh : Same G H) (q1 : RdV K mg G H (n + 1) (.dcT ds) v) (q2 : Rp K mg H u k) (hk : isKeyT k = true) :
    ∃ a o, v = .ref a ∧ DGet H a u o ∧ Tells K mg G H n ds k o := by
  obtain ⟨key, rfl⟩ := isKeyT_eq hk
  obtain ⟨t, us, rfl, h3, r3⟩ := q2.tup_inv
  rw [rpl_keys r3] at h3
  have go : ∀ {a : Addr} {kvs : List (List Key × V)}, H a = some (.dT kvs) → kvs.map (fun p => D.tup (p.1.map keyD)) = ds.map (fun p => p.1) → All2 (RdV K mg G H n) (ds.map fun p => p.2) (kvs.map fun p => p.2) → DGet H a (.ref t) (valV kvs key) ∧ Tells K mg G H n ds (.tup (key.map keyD)) (valV kvs key) := fun h1 h2 r =>
    ⟨.inr ⟨_, key, _, .inl h1, rfl, h3, rfl⟩, (get_rel (kd := fun k => D.tup (k.map keyD)) keyT key h2 r).imp id fun ⟨d, w, e1, e2, q⟩ => ⟨d, w, e1, e2, q⟩⟩
  obtain ⟨a, kvs, rfl, h1, h2, r⟩ := q1.dcT_inv gh
  exact ⟨a, _, rfl, go h1 h2 r⟩
/-- a dict by a key, of either kind -/
def dOpt : D → D → Option (Option D)
  | .dct kvs, k => if isKeyK k = true then some (dGet kvs k) else none
  | .dcT kvs, k => if isKeyT k = true then some (dGet kvs k) else none
  | _, _ => none
theorem dopt_of {K : PySem.W.Frag} {mg : Str → Option Value} {G H : Hp} {n : Nat} {v u : V} {x k : D} {z : Option D} (gh : Same G H) (q1 : RdV K mg G H (n + 1) x v) (q2 : Rp K mg H u k) (e : dOpt x k = some z) :
    ∃ a o, v = .ref a ∧ DGet H a u o ∧ ((z = none ∧ o = none) ∨ ∃ d w, z = some d ∧ o = some w ∧ RdV K mg G H n d w) := by
  unfold dOpt at e
  split at e
  · split at e
    · cases e; rename_i hk; exact dopt_K gh q1 q2 hk
    · cases e
  · split at e
    · cases e; rename_i hk; exact dopt_T gh q1 q2 hk
    · cases e
  · cases e
theorem dget_of {K : PySem.W.Frag} {mg : Str → Option Value} {G H : Hp} {n : Nat} {v u : V} {x k d : D} (gh : Same G H) (q1 : RdV K mg G H (n + 1) x v) (q2 : Rp K mg H u k) (e : dOpt x k = some (some d)) :
    ∃ a w, v = .ref a ∧ DGet H a u (some w) ∧ RdV K mg G H n d w := by
  obtain ⟨a, o, e1, g, ⟨z, _⟩ | ⟨d', w, z, rfl, q⟩⟩ := dopt_of gh q1 q2 e
  · cases z
  · cases z
    exact ⟨a, w, e1, g, q⟩
/-- a[i] of lists, tuples, dicts, texts -/
def rIxA (K : PySem.W.Frag) : R2 := fun x y H Q => rIxL K x y H Q ∨ rIxT K x y H Q ∨ rIxD x y H Q ∨ rIxS x y H Q
theorem ix_any (hr : Rm X) : IxR X (rIxA X.K) := IxR.or ix_list (IxR.or ix_tup (IxR.or (ix_dict hr.u1) ix_str))
theorem ix_S {K : PySem.W.Frag} {mg : Str → Option Value} {n m : Nat} : Op2S K mg (.rd (n + 1)) (.rd m) (.rd n) (rIxA K) gIx := by
  intro G F H d e v u z Q gf fh q1 q2 hz k
  have gh := gf.trans fh
  have q2 := q2.1.rp gh
  have q1 := q1.1
  have fin : ∀ w, RdV K mg G H n z w → Q w H := fun w q => k w G F H [] (.refl gf fh) ⟨q, rfl⟩
  unfold gIx at hz
  split at hz
  · cases q2
    obtain ⟨a, vs, rfl, h1, r1⟩ := (RdV.plain rfl q1).tup_inv
    obtain ⟨w, e1, q⟩ := rpl_at r1 hz
    exact .inr (.inl ⟨_, _, _, w, rfl, rfl, .of (gh _ _ h1), e1, fin w (RdV.ofRp q)⟩)
  · cases q2
    obtain ⟨a, vs, rfl, h1, r1⟩ := q1.lst_inv gh
    obtain ⟨w, e1, q⟩ := all2_at r1 hz
    exact .inl ⟨_, _, _, w, rfl, rfl, .of h1, e1, fin w q⟩
  · split at hz
    · rename_i hk
      obtain ⟨a, w, rfl, g, q⟩ := dget_of gh q1 q2 (d := z) (by simp only [dOpt]; rw [if_pos hk, hz])
      exact .inr (.inr (.inl ⟨a, w, rfl, g, fin w q⟩))
    · cases hz
  · split at hz
    · rename_i hk
      obtain ⟨a, w, rfl, g, q⟩ := dget_of gh q1 q2 (d := z) (by simp only [dOpt]; rw [if_pos hk, hz])
      exact .inr (.inr (.inl ⟨a, w, rfl, g, fin w q⟩))
    · cases hz
  · split at hz
    · rename_i hs
      obtain ⟨ch, e1, rfl⟩ := Option.map_eq_some_iff.mp hz
      cases q2
      cases RdV.plain rfl q1
      exact .inr (.inr (.inr ⟨_, _, ch, rfl, rfl, szl (of_decide_eq_true hs), e1, fin _ (RdV.ofRp (.str _))⟩))
    · cases hz
  · cases hz
variable {p1 p2 p3 : Bool} {n m : Nat} {a b : Expr} {fa fb : M D} {pos : Pos}
theorem ex_ix (hr : Rm X) (ha : EX X W c p1 (.rd (n + 1)) a fa) (hb : EX X W c p2 (.rd m) b fb) (w1 : Waits (.rd (n + 1)) p2) (hs : PlainIx b := by intro _ _; rfl) : EX X W c (p1 && p2) (.rd n) (.Subscript a b pos) (e2 gIx fa fb) :=
  ex_2 (fun h1 h2 => pe_ix (ix_any hr) h1 h2 hs) ix_S ha hb w1 wrd
/-- the index may change the state: a shared value waits -/
theorem ex_ix0 (hr : Rm X) (ha : EX X W c p1 (.rd 0) a fa) (hb : EX X W c p2 (.rd m) b fb) (hs : PlainIx b := by intro _ _; rfl) : EX X W c (p1 && p2) (.rd 0) (.Subscript a b pos) (e2 gIx fa fb) :=
  ex_2 (m1 := .rd 0) (fun h1 h2 => pe_ix (ix_any hr) h1 h2 hs) (fun G F H d e v u z Q gf fh q1 q2 hz k => ix_S G F H d e v u z Q gf fh ⟨RdV.up q1.1, q1.2⟩ q2 hz k) ha hb w00 wrd

/-! ### slices -/
def asInt : D → Option Int
  | .int i => some i
  | _ => none
def pNone : M (Option Int) := M.pure none
def pSome (f : M D) : M (Option Int) := f.bind fun x => M.ofO ((asInt x).map some)
def cutD (ds : List D) (l h : Option Int) : List D := (ds.drop (HT.sIx ds.length 0 l)).take (HT.sIx ds.length ds.length h - HT.sIx ds.length 0 l)
def gSl (l h : Option Int) : D → Option D
  | .tup ds => some (.tup (cutD ds l h))
  | .lst ds => some (.lst (cutD ds l h))
  | .scr is => some (.lst (cutD (is.map .int) l h))
  | _ => none
def eSl (fa : M D) (fl fh : M (Option Int)) : M D := fa.bind fun x => fl.bind fun l => fh.bind fun h => M.ofO (gSl l h x)
def rSlAny (K : PySem.W.Frag) : V → Option Int → Option Int → Hp → VK → Prop := fun x lo hi H Q => rSlA K x lo hi H Q ∨ rSlL K x lo hi H Q
theorem sl_any : SlR X (rSlAny X.K) := SlR.or sl_tupA sl_list
abbrev OPost (X : Cx) (c : Fc) (p : Bool) (σ : L2.St) (ρ : PV.Env) (G F H : Hp) (Q : Option Int → Hp → Prop) : Option Int × PV.Env → Prop :=
  fun r => ∀ G' F' H', Ext G F G' F' → Ok X.K X.mg c [] G' F' H' σ r.2 → (p = true → r.2 = ρ ∧ Same H H') → Q r.1 H'
def PX (X : Cx) (W : WX) (c : Fc) (p : Bool) (e : Option Expr) (f : M (Option Int)) : Prop :=
  ∃ to, PO X e to ∧ ∀ (σ : L2.St) (ρ : PV.Env) (G F H : Hp) (Q : Option Int → Hp → Prop), Ok X.K X.mg c [] G F H σ ρ → Wp (f ρ) (OPost X c p σ ρ G F H Q) (Nx X.K X.mg W σ G F) → to σ H Q
theorem px_none : PX X W c true none pNone := ⟨_, po_none, fun σ ρ G F H Q o w => w G F H (.refl _ _) o fun _ => ⟨rfl, .refl _⟩⟩
theorem px_some {e : Expr} {f : M D} (h : EX X W c p1 (.rd n) e f) : PX X W c p1 (some e) (pSome f) := by
  obtain ⟨te, h1, h2⟩ := h
  refine ⟨_, po_some h1, fun σ ρ G F H Q o w => ?_⟩
  refine EX.use te h2 o (Wp.ofBindM w) (fun r hr v G1 F1 H1 fp x1 o1 q hp => ?_) fun _ z => z
  have q := q.1.rp o1.gh
  obtain ⟨d, ρ1⟩ := r
  cases d <;> first | exact hr.elim | skip
  cases q
  exact ⟨_, rfl, hr G1 F1 H1 x1 o1.drop hp⟩
theorem cut_rpl {K : PySem.W.Frag} {mg : Str → Option Value} {H : Hp} {vs : List V} {ds : List D} (r : RpL K mg H vs ds) (l h : Option Int) : RpL K mg H (cutV vs l h) (cutD ds l h) := by
  unfold cutV cutD
  rw [r.length]
  exact (r.drop _).take _
theorem All2.take {Q : D → V → Prop} : ∀ {ds : List D} {vs : List V} (k : Nat), All2 Q ds vs → All2 Q (ds.take k) (vs.take k)
  | _, _, 0, _ => .nil
  | _, _, _ + 1, .nil => .nil
  | _, _, k + 1, .cons h r => .cons h (All2.take k r)
theorem All2.drop {Q : D → V → Prop} : ∀ {ds : List D} {vs : List V} (k : Nat), All2 Q ds vs → All2 Q (ds.drop k) (vs.drop k)
  | _, _, 0, r => r
  | _, _, _ + 1, .nil => .nil
  | _, _, k + 1, .cons _ r => All2.drop k r
theorem cut_whole {ds : List D} {l h : Option Int} (e : HT.sIx ds.length 0 l = 0 ∧ HT.sIx ds.length ds.length h = ds.length) : cutD ds l h = ds := by
  unfold cutD
  rw [e.1, e.2, List.drop_zero, Nat.sub_zero, List.take_length]
/-- the walk of a slice's parts -/
theorem sl_walk {mo : Md} {m1 : Md} {e : Expr} {lo hi : Option Expr} {fl fh : M (Option Int)} {p4 : Pos} (w1 : Waits m1 (p2 && p3))
    (hr : ∀ (G F H : Hp) (d : D) (v : V) (l h : Option Int) (z : D) (Q : VK), Same G F → Same F H → Val X.K X.mg m1 G H d v [] → gSl l h d = some z → (∀ w G' F' H' fr, Grow G F H G' F' H' fr → Val X.K X.mg mo G' H' z w fr → Q w H') → rSlAny X.K v l h H Q)
    (ha : EX X W c p1 m1 a fa) (hl : PX X W c p2 lo fl) (hh : PX X W c p3 hi fh) : EX X W c (p1 && (p2 && p3)) mo (.Subscript a (.Slice lo hi none p4) pos) (eSl fa fl fh) := by
  obtain ⟨ta, a1, a2⟩ := ha
  obtain ⟨tl, l1, l2⟩ := hl
  obtain ⟨th, h1, h2⟩ := hh
  refine ⟨_, pe_slice sl_any a1 l1 h1, fun σ ρ G F H Q o w => ?_⟩
  refine EX.use ta a2 o (Wp.ofBindM w) (fun r hr1 v G1 F1 H1 fp1 x1 o1 q1 hp1 => ?_) fun _ z => z
  refine l2 σ r.2 G1 F1 H1 _ o1.drop ((Wp.nxExt x1 (Wp.ofBindM hr1)).imp (fun rl hrl => ?_) fun _ z => z)
  intro G2 F2 H2 x2 o2 hp2
  refine h2 σ rl.2 G2 F2 H2 _ o2 ((Wp.nxExt x2 (Wp.nxExt x1 (Wp.ofBindM hrl))).imp (fun rh hrh => ?_) fun _ z => z)
  intro G3 F3 H3 x3 o3 hp3
  unfold M.ofO at hrh
  split at hrh
  · rename_i z hz
    have hh : (p2 && p3) = true → Same H1 H3 := fun hp => by
      rw [Bool.and_eq_true] at hp
      exact (hp2 hp.1).2.trans (hp3 hp.2).2
    refine hr G3 F3 H3 r.1 v rl.1 rh.1 z Q o3.gf o3.fh (q1.wait w1 (x2.trans x3).g hh) hz fun wv G4 F4 H4 fr g4 q4 => ?_
    refine hrh wv G4 F4 H4 fr (((x1.trans x2).trans x3).trans g4.x) (o3.grown g4) q4 fun hp => ?_
    rw [Bool.and_eq_true, Bool.and_eq_true] at hp
    exact ⟨(hp3 hp.2.2).1.trans ((hp2 hp.2.1).1.trans (hp1 hp.1).1), ((hp1 hp.1).2.trans ((hp2 hp.2.1).2.trans (hp3 hp.2.2).2)).trans g4.hh⟩
  · exact hrh.elim
/-- a tuple's slice: shared -/
theorem ex_slT {lo hi : Option Expr} {fl fh : M (Option Int)} {p4 : Pos} (ha : EX X W c p1 (.rd 0) a fa) (hl : PX X W c p2 lo fl) (hh : PX X W c p3 hi fh) : EX X W c (p1 && (p2 && p3)) (.rd 0) (.Subscript a (.Slice lo hi none p4) pos) (eSl fa fl fh) := by
  refine sl_walk (mo := .rd 0) (e := a) w00 (fun G F H d v l h z Q gf fh q hz k => ?_) ha hl hh
  have q : Rp X.K X.mg G v d := q.1
  have gh := gf.trans fh
  cases d <;> first | (cases hz; done) | skip
  · cases hz
    cases q with
    | @tup a vs ds h1 r1 =>
      refine .inl ⟨_, _, rfl, .of (gh _ _ h1), fun e => ?_, fun e p hp => ?_⟩
      · rw [r1.length] at e
        rw [cut_whole e] at k
        exact k _ G F H [] (.refl gf fh) ⟨.tup h1 r1, rfl⟩
      · have g := Grow.sh (o := .tup (cutV vs l h)) gf fh hp
        exact k _ _ _ _ _ g ⟨.tup upd_same ((cut_rpl r1 l h).mono g.x.g), rfl⟩
  · cases hz
    cases q with
    | @lst a vs ds h1 r1 =>
      refine .inr ⟨_, _, rfl, .of (gh _ _ h1), fun p hp => ?_⟩
      have g := Grow.sh (o := .lst (cutV vs l h)) gf fh hp
      exact k _ _ _ _ _ g ⟨.lst upd_same ((cut_rpl r1 l h).mono g.x.g), rfl⟩
  · cases hz
    obtain ⟨a, vs, rfl, h1, r1⟩ := q.scr_inv (G := G)
    refine .inr ⟨_, _, rfl, gh.seq h1, fun p hp => ?_⟩
    have g := Grow.sh (o := .lst (cutV vs l h)) gf fh hp
    exact k _ _ _ _ _ g ⟨.lst upd_same ((cut_rpl r1 l h).mono g.x.g), rfl⟩
/-- a list's slice: a new list -/
def isLst : D → Bool
  | .lst _ => true
  | .scr _ => true
  | _ => false
def eSlL (fa : M D) (fl fh : M (Option Int)) : M D := eSl (fa.bind fun x => if isLst x = true then M.pure x else fun _ => .fail) fl fh
theorem rd1_lst {K : PySem.W.Frag} {mg : Str → Option Value} {G H : Hp} {ds : List D} {v : V} (gh : Same G H) (q : RdV K mg G H 1 (.lst ds) v) : ∃ a vs, v = .ref a ∧ H a = some (.lst vs) ∧ RpL K mg G vs ds := by
  obtain ⟨a, vs, rfl, h1, r1⟩ := q.lst_inv gh
  exact ⟨a, vs, rfl, h1, r1.rpl K mg fun _ _ q => q⟩
theorem ex_lstOnly {m : Md} (ha : EX X W c p1 m a fa) : EX X W c p1 m a (fa.bind fun x => if isLst x = true then M.pure x else fun _ => .fail) := by
  obtain ⟨ta, a1, a2⟩ := ha
  refine ⟨ta, a1, fun σ ρ G F H Q o w => ?_⟩
  refine EX.use ta a2 o (Wp.ofBindM w) (fun r hr v G1 F1 H1 fp x1 o1 q hp => ?_) fun _ z => z
  have hr : Wp ((if isLst r.1 = true then M.pure r.1 else fun _ => .fail : M D) r.2) _ _ := hr
  split at hr
  · exact hr v G1 F1 H1 fp x1 o1 q hp
  · exact hr.elim
theorem ex_slL {lo hi : Option Expr} {fl fh : M (Option Int)} {p4 : Pos} (ha : EX X W c p1 (.rd 1) a fa) (hl : PX X W c p2 lo fl) (hh : PX X W c p3 hi fh) (w1 : Waits (.rd 1) (p2 && p3)) : EX X W c (p1 && (p2 && p3)) (.own 1) (.Subscript a (.Slice lo hi none p4) pos) (eSlL fa fl fh) := by
  obtain ⟨ta, a1, a2⟩ := ha
  obtain ⟨tl, l1, l2⟩ := hl
  obtain ⟨th, h1, h2⟩ := hh
  refine ⟨_, pe_slice sl_any a1 l1 h1, fun σ ρ G F H Q o w => ?_⟩
  refine EX.use ta a2 o (Wp.ofBindM (Wp.ofBindM w)) (fun r hr1 v G1 F1 H1 fp1 x1 o1 q1 hp1 => ?_) fun _ z => z
  have hr1 : Wp ((if isLst r.1 = true then M.pure r.1 else fun _ => .fail : M D) r.2) _ _ := hr1
  split at hr1
  · rename_i hlst
    refine l2 σ r.2 G1 F1 H1 _ o1.drop ((Wp.nxExt x1 (Wp.ofBindM hr1)).imp (fun rl hrl => ?_) fun _ z => z)
    intro G2 F2 H2 x2 o2 hp2
    refine h2 σ rl.2 G2 F2 H2 _ o2 ((Wp.nxExt x2 (Wp.nxExt x1 (Wp.ofBindM hrl))).imp (fun rh hrh => ?_) fun _ z => z)
    intro G3 F3 H3 x3 o3 hp3
    unfold M.ofO at hrh
    split at hrh
    · rename_i z hz
      have hh : (p2 && p3) = true → Same H1 H3 := fun hp => by
        rw [Bool.and_eq_true] at hp
        exact (hp2 hp.1).2.trans (hp3 hp.2).2
      have q3 := (q1.wait w1 (x2.trans x3).g hh).1
      obtain ⟨d, ρ1⟩ := r
      cases d <;> first | (cases hlst; done) | skip
      · cases hz
        obtain ⟨a0, vs, rfl, hs, r1⟩ := rd1_lst o3.gh q3
        refine .inr ⟨a0, vs, rfl, .of hs, fun p hp => ?_⟩
        have g := Grow.own (o := .lst (cutV vs rl.1 rh.1)) o3.gf o3.fh hp
        refine hrh _ _ _ _ _ (((x1.trans x2).trans x3).trans g.x) (o3.grown g) (Own.mkL upd_same (ownL_sh (cut_rpl r1 rl.1 rh.1))) fun hp => ?_
        rw [Bool.and_eq_true, Bool.and_eq_true] at hp
        exact ⟨(hp3 hp.2.2).1.trans ((hp2 hp.2.1).1.trans (hp1 hp.1).1), ((hp1 hp.1).2.trans ((hp2 hp.2.1).2.trans (hp3 hp.2.2).2)).trans g.hh⟩
      · cases hz
        obtain ⟨a0, vs, rfl, hs, r1⟩ := (q3.rp o3.gh).scr_inv (G := G3)
        refine .inr ⟨a0, _, rfl, hs, fun p hp => ?_⟩
        have g := Grow.own (o := .lst (cutV vs rl.1 rh.1)) o3.gf o3.fh hp
        refine hrh _ _ _ _ _ (((x1.trans x2).trans x3).trans g.x) (o3.grown g) (Own.mkL upd_same (ownL_sh (cut_rpl r1 rl.1 rh.1))) fun hp => ?_
        rw [Bool.and_eq_true, Bool.and_eq_true] at hp
        exact ⟨(hp3 hp.2.2).1.trans ((hp2 hp.2.1).1.trans (hp1 hp.1).1), ((hp1 hp.1).2.trans ((hp2 hp.2.1).2.trans (hp3 hp.2.2).2)).trans g.hh⟩
    · exact hrh.elim
  · exact hr1.elim
end
end
end PV

set_option Elab.async false
set_option linter.all false
set_option maxRecDepth 100000
set_option maxHeartbeats 0
namespace PV
noncomputable section
open PySem PySem.Spec
open PyProof.Rows L2

/-! ## 11. calls of built-ins -/
section
variable {X : Cx} {W : WX} {c : Fc}
/-- a call on arguments that are read -/
def CallS (K : PySem.W.Frag) (mg : Str → Option Value) (ms : List Am) (mo : Md) (r : List V → Hp → VK → Prop) (g : List D → Option D) : Prop :=
  ∀ (G F H : Hp) (σ : L2.St) (ds : List D) (vs : List V) (z : D) (Q : VK), Same G F → Same F H → ValL K mg G H σ ms ds vs → g ds = some z →
    (∀ w G' F' H' fr, Grow G F H G' F' H' fr → Val K mg mo G' H' z w fr → Q w H') → r vs H Q
theorem ex_L {p : Bool} {ms : List Am} {mo : Md} {e : Expr} {es : List Expr} {f : M (List D)} {r : List V → Hp → VK → Prop} {g : List D → Option D} (hpe : ∀ {t}, PA X es t → PE X e (tCB r t)) (hr : CallS X.K X.mg ms mo r g) (h : AX X W c p ms es f) :
    EX X W c p mo e (eL g f) := by
  obtain ⟨t, h1, h2⟩ := h
  refine ⟨_, hpe h1, fun σ ρ G F H Q o w => ?_⟩
  refine h2 σ ρ G F H _ o ((Wp.ofBindM w).imp (fun rr hrr => ?_) fun _ z => z)
  intro vs G1 F1 H1 x1 o1 q1 hp1
  unfold M.ofO at hrr
  split at hrr
  · rename_i z hz
    refine hr G1 F1 H1 σ rr.1 vs z Q o1.gf o1.fh q1 hz fun wv G2 F2 H2 fr g2 q2 => ?_
    exact hrr wv G2 F2 H2 fr (x1.trans g2.x) (o1.grown g2) q2 fun hp => ⟨(hp1 hp).1, (hp1 hp).2.trans g2.hh⟩
  · exact hrr.elim
theorem valL1 {K : PySem.W.Frag} {mg : Str → Option Value} {G H : Hp} {σ : L2.St} {m : Md} {ds : List D} {vs : List V} (h : ValL K mg G H σ [.val m] ds vs) : ∃ d v fp, ds = [d] ∧ vs = [v] ∧ Val K mg m G H d v fp := by
  cases h with
  | val h r =>
    cases r
    exact ⟨_, _, _, rfl, rfl, h⟩
theorem valL2 {K : PySem.W.Frag} {mg : Str → Option Value} {G H : Hp} {σ : L2.St} {m m' : Md} {ds : List D} {vs : List V} (h : ValL K mg G H σ [.val m, .val m'] ds vs) : ∃ d v fp d' v' fp', ds = [d, d'] ∧ vs = [v, v'] ∧ Val K mg m G H d v fp ∧ Val K mg m' G H d' v' fp' := by
  cases h with
  | val h r =>
    obtain ⟨d', v', fp', rfl, rfl, h'⟩ := valL1 r
    exact ⟨_, _, _, _, _, _, rfl, rfl, h, h'⟩
def g1 (g : D → Option D) : List D → Option D
  | [x] => g x
  | _ => none
def g2 (g : D → D → Option D) : List D → Option D
  | [x, y] => g x y
  | _ => none
/-- one argument, read -/
theorem call1 {K : PySem.W.Frag} {mg : Str → Option Value} {n : Nat} {mo : Md} {r : List V → Hp → VK → Prop} {g : D → Option D}
    (h : ∀ (G F H : Hp) (d : D) (v : V) (z : D) (Q : VK), Same G F → Same F H → RdV K mg G H n d v → g d = some z → (∀ w G' F' H' fr, Grow G F H G' F' H' fr → Val K mg mo G' H' z w fr → Q w H') → r [v] H Q) : CallS K mg [.val (.rd n)] mo r (g1 g) := by
  intro G F H σ ds vs z Q gf fh q hz k
  obtain ⟨d, v, fp, rfl, rfl, q1⟩ := valL1 q
  exact h G F H d v z Q gf fh q1.1 hz k
theorem call2 {K : PySem.W.Frag} {mg : Str → Option Value} {n m : Nat} {mo : Md} {r : List V → Hp → VK → Prop} {g : D → D → Option D}
    (h : ∀ (G F H : Hp) (d e : D) (v u : V) (z : D) (Q : VK), Same G F → Same F H → RdV K mg G H n d v → RdV K mg G H m e u → g d e = some z → (∀ w G' F' H' fr, Grow G F H G' F' H' fr → Val K mg mo G' H' z w fr → Q w H') → r [v, u] H Q) : CallS K mg [.val (.rd n), .val (.rd m)] mo r (g2 g) := by
  intro G F H σ ds vs z Q gf fh q hz k
  obtain ⟨d, v, fp, d', v', fp', rfl, rfl, q1, q2⟩ := valL2 q
  exact h G F H d d' v v' z Q gf fh q1.1 q2.1 hz k
/-! ### len -/
def gLen : D → Option D
  | .tup ds => some (.int ds.length)
  | .lst ds => some (.int ds.length)
  | .dct ds => some (.int ds.length)
  | .dcT ds => some (.int ds.length)
  | .str x => if small x.length = true then some (.int x.length) else none
  | _ => none
def rLenA (K : PySem.W.Frag) : List V → Hp → VK → Prop := fun xs H Q => (∃ p ys, xs = [.ref p] ∧ (SqL K H p ys ∨ SqT K H p ys) ∧ Q (.int ys.length) H) ∨ (∃ a kvs, xs = [V.ref a] ∧ H a = some (.dK kvs) ∧ Q (.int kvs.length) H) ∨ rLenT xs H Q ∨
  (∃ z, xs = [.str z] ∧ z.length ≤ sizeLine ∧ Q (.int z.length) H)
theorem call_len_dK : CallR X (.builtin "len") (fun xs H Q => ∃ a kvs, xs = [V.ref a] ∧ H a = some (.dK kvs) ∧ Q (.int kvs.length) H) := by
  rintro pins s σ H _ us Q I r ⟨a, kvs, rfl, ha, q⟩
  rw [Vals.ref1 r]
  exact d_len I (.inl ha) fun t _ I' => ⟨V.int kvs.length, H, I', ⟨t, rfl⟩, q⟩
theorem call_len_any : CallR X (.builtin "len") (rLenA X.K) := CallR.or call_len_seq (CallR.or call_len_dK (CallR.or call_len_dT call_len_str))
theorem len_S {K : PySem.W.Frag} {mg : Str → Option Value} {n : Nat} : CallS K mg [.val (.rd n)] (.rd 0) (rLenA K) (g1 gLen) := call1 fun G F H d v z Q gf fh q hz k => by
  have q := q.rp (gf.trans fh)
  unfold gLen at hz
  split at hz
  · cases hz
    cases q with
    | tup h r => exact .inl ⟨_, _, rfl, .inr (.of h), by rw [r.length]; exact k _ G F H [] (.refl gf fh) ⟨.int _, rfl⟩⟩
  · cases hz
    cases q with
    | lst h r => exact .inl ⟨_, _, rfl, .inl (.of h), by rw [r.length]; exact k _ G F H [] (.refl gf fh) ⟨.int _, rfl⟩⟩
  · cases hz
    obtain ⟨a, kvs, rfl, h, e, r⟩ := q.dct_inv
    have el := congrArg List.length e
    rw [List.length_map, List.length_map] at el
    exact .inr (.inl ⟨_, _, rfl, h, by rw [el]; exact k _ G F H [] (.refl gf fh) ⟨.int _, rfl⟩⟩)
  · cases hz
    obtain ⟨a, kvs, rfl, h, e, r⟩ := q.dcT_inv
    have el := congrArg List.length e
    rw [List.length_map, List.length_map] at el
    exact .inr (.inr (.inl ⟨_, _, rfl, h, by rw [el]; exact k _ G F H [] (.refl gf fh) ⟨.int _, rfl⟩⟩))
  · split at hz
    · rename_i hs
      cases hz
      cases q
      exact .inr (.inr (.inr ⟨_, rfl, szl (of_decide_eq_true hs), k _ G F H [] (.refl gf fh) ⟨.int _, rfl⟩⟩))
    · cases hz
  · cases hz
variable {p1 p2 p3 : Bool} {n m : Nat} {a b : Expr} {fa fb : M D} {pos pp : Pos} {es : List Expr} {f : M (List D)}
def e1L (g : D → Option D) (fa : M D) : M D := eL (g1 g) (aCons fa aNil)
def e2L (g : D → D → Option D) (fa fb : M D) : M D := eL (g2 g) (aCons fa (aCons fb aNil))
theorem and_true' {p : Bool} {m : Md} {e : Expr} {f : M D} (h : EX X W c (p && true) m e f) : EX X W c p m e f := by rw [Bool.and_true] at h; exact h
theorem ex_len (hm : X.mg "len" = none) (ha : EX X W c p1 (.rd n) a fa) (hg : Gl X "len" := by rfl) (h1 : starEach [a] X.env = (false, eval a X.env) :: starEach [] X.env := by rfl) (hpl : (backTo pos (starEach [] X.env)).any (·.1) = false := by rfl) :
    EX X W c p1 (.rd 0) (.Call (.Name "len" pp) [a] [] pos) (e1L gLen fa) := and_true' (ex_L (fun h => pe_callB call_len_any hg hm PySem.boot_len h (by decide) (by decide) h1 hpl) len_S (ax_cons ha ax_nil wrd h1))
/-! ### sum -/
def intsOf : List D → Option (List Int)
  | [] => some []
  | .int i :: r => (intsOf r).map (i :: ·)
  | _ => none
theorem intsOf_eq : ∀ {ds : List D} {is : List Int}, intsOf ds = some is → ds = is.map D.int
  | [], _, h => by simp only [intsOf, Option.some.injEq] at h; subst h; rfl
  | .int i :: r, is, h => by
    simp only [intsOf] at h
    obtain ⟨js, e, rfl⟩ := Option.map_eq_some_iff.mp h
    rw [List.map_cons, ← intsOf_eq e]
  | .non :: _, _, h => by simp only [intsOf] at h; cases h
  | .bl _ :: _, _, h => by simp only [intsOf] at h; cases h
  | .str _ :: _, _, h => by simp only [intsOf] at h; cases h
  | .fn _ :: _, _, h => by simp only [intsOf] at h; cases h
  | .tup _ :: _, _, h => by simp only [intsOf] at h; cases h
  | .lst _ :: _, _, h => by simp only [intsOf] at h; cases h
  | .dct _ :: _, _, h => by simp only [intsOf] at h; cases h
  | .dcT _ :: _, _, h => by simp only [intsOf] at h; cases h
  | .obj _ _ :: _, _, h => by simp only [intsOf] at h; cases h
  | .scr _ :: _, _, h => by simp only [intsOf] at h; cases h
def itemsOf : D → Option (List D)
  | .tup ds => some ds
  | .lst ds => some ds
  | _ => none
def gSum (x : D) : Option D := match itemsOf x with
  | some ds => (intsOf ds).map fun is => .int is.sum
  | none => none
def rSumT (K : PySem.W.Frag) : List V → Hp → VK → Prop := fun vs H Q => ∃ (a : Addr) (ns : List Int), vs = [V.ref a] ∧ SqT K H a (ns.map V.int) ∧ Q (.int ns.sum) H
theorem cr_sumT (hc : X.calm = true) : CallR X (.builtin "sum") (rSumT X.K) := by
  rintro pins s σ H _ us Q I r ⟨a, ns, rfl, row, q⟩
  obtain ⟨its, rv, tup, _⟩ := I.tuple row
  obtain ⟨xs, same⟩ := rv.ints.allInts.items
  have total : preSum (numAt xs) xs.size = ns.sum := by
    have two : ((intItems xs).toList |> numsOf) = ns := by rw [← same]; exact rv.ints.numsOf
    rw [nums_intItems] at two
    rw [preSum_eq, ← two]
    exact congrArg List.sum (List.take_of_length_le (by simp))
  rw [Vals.ref1 r]
  refine PySem.W.ktm_sumG (xs := xs) (I.ok.hd hc) (same ▸ tup) fun h' tk t' kept => ?_
  rw [total]
  exact ⟨.int ns.sum, H, I.kept kept, ⟨t', rfl⟩, q⟩
def rSumA (K : PySem.W.Frag) : List V → Hp → VK → Prop := fun xs H Q => rSum K xs H Q ∨ rSumT K xs H Q
theorem sum_S {K : PySem.W.Frag} {mg : Str → Option Value} {n : Nat} : CallS K mg [.val (.rd n)] (.rd 0) (rSumA K) (g1 gSum) := call1 fun G F H d v z Q gf fh q hz k => by
  have q := q.rp (gf.trans fh)
  unfold gSum itemsOf at hz
  cases q <;> first | (cases hz; done) | skip
  · rename_i h r
    obtain ⟨is, e, rfl⟩ := Option.map_eq_some_iff.mp hz
    rw [intsOf_eq e] at r
    rw [r.ints] at h
    exact .inr ⟨_, is, rfl, .of h, k _ G F H [] (.refl gf fh) ⟨.int _, rfl⟩⟩
  · rename_i h r
    obtain ⟨is, e, rfl⟩ := Option.map_eq_some_iff.mp hz
    rw [intsOf_eq e] at r
    rw [r.ints] at h
    exact .inl ⟨_, is, rfl, .of h, k _ G F H [] (.refl gf fh) ⟨.int _, rfl⟩⟩
theorem ex_sum (ok : Cok X W) (hm : X.mg "sum" = none) (ha : EX X W c p1 (.rd n) a fa) (hg : Gl X "sum" := by rfl) (h1 : starEach [a] X.env = (false, eval a X.env) :: starEach [] X.env := by rfl) (hpl : (backTo pos (starEach [] X.env)).any (·.1) = false := by rfl) :
    EX X W c p1 (.rd 0) (.Call (.Name "sum" pp) [a] [] pos) (e1L gSum fa) := and_true' (ex_L (fun h => pe_callB (CallR.or (cr_sum ok.calm) (cr_sumT ok.calm)) hg hm (by decide +kernel) h (by decide) (by decide) h1 hpl) sum_S (ax_cons ha ax_nil wrd h1))
/-! ### all, any of a list of bools -/
def blsOf : List D → Option (List Bool)
  | [] => some []
  | .bl i :: r => (blsOf r).map (i :: ·)
  | _ => none
theorem blsOf_eq : ∀ {ds : List D} {is : List Bool}, blsOf ds = some is → ds = is.map D.bl
  | [], _, h => by simp only [blsOf, Option.some.injEq] at h; subst h; rfl
  | .bl i :: r, is, h => by
    simp only [blsOf] at h
    obtain ⟨js, e, rfl⟩ := Option.map_eq_some_iff.mp h
    rw [List.map_cons, ← blsOf_eq e]
  | .non :: _, _, h => by simp only [blsOf] at h; cases h
  | .int _ :: _, _, h => by simp only [blsOf] at h; cases h
  | .str _ :: _, _, h => by simp only [blsOf] at h; cases h
  | .fn _ :: _, _, h => by simp only [blsOf] at h; cases h
  | .tup _ :: _, _, h => by simp only [blsOf] at h; cases h
  | .lst _ :: _, _, h => by simp only [blsOf] at h; cases h
  | .dct _ :: _, _, h => by simp only [blsOf] at h; cases h
  | .dcT _ :: _, _, h => by simp only [blsOf] at h; cases h
  | .obj _ _ :: _, _, h => by simp only [blsOf] at h; cases h
  | .scr _ :: _, _, h => by simp only [blsOf] at h; cases h
def gAll : D → Option D
  | .lst ds => (blsOf ds).map fun bs => .bl (bs.all id)
  | _ => none
def gAny : D → Option D
  | .lst ds => (blsOf ds).map fun bs => .bl (bs.any id)
  | _ => none
theorem all_S {K : PySem.W.Frag} {mg : Str → Option Value} {n : Nat} : CallS K mg [.val (.rd n)] (.rd 0) (rAll K) (g1 gAll) := call1 fun G F H d v z Q gf fh q hz k => by
  have q := q.rp (gf.trans fh)
  cases q <;> first | (cases hz; done) | skip
  rename_i h r
  obtain ⟨is, e, rfl⟩ := Option.map_eq_some_iff.mp hz
  rw [blsOf_eq e] at r
  rw [r.bls] at h
  exact ⟨_, is, rfl, .of h, k _ G F H [] (.refl gf fh) ⟨.bl _, rfl⟩⟩
theorem any_S {K : PySem.W.Frag} {mg : Str → Option Value} {n : Nat} : CallS K mg [.val (.rd n)] (.rd 0) (rAny K) (g1 gAny) := call1 fun G F H d v z Q gf fh q hz k => by
  have q := q.rp (gf.trans fh)
  cases q <;> first | (cases hz; done) | skip
  rename_i h r
  obtain ⟨is, e, rfl⟩ := Option.map_eq_some_iff.mp hz
  rw [blsOf_eq e] at r
  rw [r.bls] at h
  exact ⟨_, is, rfl, .of h, k _ G F H [] (.refl gf fh) ⟨.bl _, rfl⟩⟩
theorem ex_all (ok : Cok X W) (hm : X.mg "all" = none) (ha : EX X W c p1 (.rd n) a fa) (hg : Gl X "all" := by rfl) (h1 : starEach [a] X.env = (false, eval a X.env) :: starEach [] X.env := by rfl) (hpl : (backTo pos (starEach [] X.env)).any (·.1) = false := by rfl) :
    EX X W c p1 (.rd 0) (.Call (.Name "all" pp) [a] [] pos) (e1L gAll fa) := and_true' (ex_L (fun h => pe_callB (cr_all ok.calm) hg hm (by decide +kernel) h (by decide) (by decide) h1 hpl) all_S (ax_cons ha ax_nil wrd h1))
theorem ex_any (ok : Cok X W) (hm : X.mg "any" = none) (ha : EX X W c p1 (.rd n) a fa) (hg : Gl X "any" := by rfl) (h1 : starEach [a] X.env = (false, eval a X.env) :: starEach [] X.env := by rfl) (hpl : (backTo pos (starEach [] X.env)).any (·.1) = false := by rfl) :
    EX X W c p1 (.rd 0) (.Call (.Name "any" pp) [a] [] pos) (e1L gAny fa) := and_true' (ex_L (fun h => pe_callB (cr_any ok.calm) hg hm (by decide +kernel) h (by decide) (by decide) h1 hpl) any_S (ax_cons ha ax_nil wrd h1))
/-! ### abs, min, max of two, int, str of ints -/
def gAbs : D → Option D
  | .int i => some (D.int (if i < 0 then -i else i))
  | _ => none
def gMin : D → D → Option D
  | .int i, .int j => some (.int (if j < i then j else i))
  | _, _ => none
def gMax : D → D → Option D
  | .int i, .int j => some (.int (if j > i then j else i))
  | _, _ => none
def gInt : D → Option D
  | .int i => some (.int i)
  | _ => none
def gStr : D → Option D
  | .int i => if i.natAbs.log2 < 1920 then some (.str (toString i)) else none
  | _ => none
theorem abs_S {K : PySem.W.Frag} {mg : Str → Option Value} {n : Nat} : CallS K mg [.val (.rd n)] (.rd 0) (fun xs H Q => ∃ i, xs = [.int i] ∧ Q (.int (if i < 0 then -i else i)) H) (g1 gAbs) := call1 fun G F H d v z Q gf fh q hz k => by
  have q := q.rp (gf.trans fh)
  cases q <;> first | (cases hz; done) | skip
  cases hz
  exact ⟨_, rfl, k _ G F H [] (.refl gf fh) ⟨.int _, rfl⟩⟩
theorem int_S {K : PySem.W.Frag} {mg : Str → Option Value} {n : Nat} : CallS K mg [.val (.rd n)] (.rd 0) (fun xs H Q => (∃ i, xs = [.int i] ∧ Q (.int i) H) ∨ ∃ k, xs = [.bl k] ∧ Q (.int (if k then 1 else 0)) H) (g1 gInt) := call1 fun G F H d v z Q gf fh q hz k => by
  have q := q.rp (gf.trans fh)
  cases q <;> first | (cases hz; done) | skip
  cases hz
  exact .inl ⟨_, rfl, k _ G F H [] (.refl gf fh) ⟨.int _, rfl⟩⟩
theorem str_S {K : PySem.W.Frag} {mg : Str → Option Value} {n : Nat} : CallS K mg [.val (.rd n)] (.rd 0) (fun xs H Q => ∃ i : Int, xs = [.int i] ∧ i.natAbs.log2 < 1920 ∧ Q (.str (toString i)) H) (g1 gStr) := call1 fun G F H d v z Q gf fh q hz k => by
  have q := q.rp (gf.trans fh)
  cases q <;> first | (cases hz; done) | skip
  have hz : (if _ then _ else _) = _ := hz
  split at hz
  · rename_i hs
    cases hz
    exact ⟨_, rfl, hs, k _ G F H [] (.refl gf fh) ⟨.str _, rfl⟩⟩
  · cases hz
theorem min_S {K : PySem.W.Frag} {mg : Str → Option Value} {n m : Nat} : CallS K mg [.val (.rd n), .val (.rd m)] (.rd 0) (fun xs H Q => ∃ i j, xs = [.int i, .int j] ∧ Q (.int (if j < i then j else i)) H) (g2 gMin) := call2 fun G F H d e v u z Q gf fh q q' hz k => by
  have q := q.rp (gf.trans fh)
  have q' := q'.rp (gf.trans fh)
  cases q <;> first | (cases hz; done) | skip
  cases q' <;> first | (cases hz; done) | skip
  cases hz
  exact ⟨_, _, rfl, k _ G F H [] (.refl gf fh) ⟨.int _, rfl⟩⟩
theorem max_S {K : PySem.W.Frag} {mg : Str → Option Value} {n m : Nat} : CallS K mg [.val (.rd n), .val (.rd m)] (.rd 0) (fun xs H Q => ∃ i j, xs = [.int i, .int j] ∧ Q (.int (if j > i then j else i)) H) (g2 gMax) := call2 fun G F H d e v u z Q gf fh q q' hz k => by
  have q := q.rp (gf.trans fh)
  have q' := q'.rp (gf.trans fh)
  cases q <;> first | (cases hz; done) | skip
  cases q' <;> first | (cases hz; done) | skip
  cases hz
  exact ⟨_, _, rfl, k _ G F H [] (.refl gf fh) ⟨.int _, rfl⟩⟩
theorem ex_abs (hm : X.mg "abs" = none) (ha : EX X W c p1 (.rd n) a fa) (hg : Gl X "abs" := by rfl) (h1 : starEach [a] X.env = (false, eval a X.env) :: starEach [] X.env := by rfl) (hpl : (backTo pos (starEach [] X.env)).any (·.1) = false := by rfl) :
    EX X W c p1 (.rd 0) (.Call (.Name "abs" pp) [a] [] pos) (e1L gAbs fa) := and_true' (ex_L (fun h => pe_callB call_abs hg hm (by decide +kernel) h (by decide) (by decide) h1 hpl) abs_S (ax_cons ha ax_nil wrd h1))
theorem ex_min2 (ok : Cok X W) (hm : X.mg "min" = none) (ha : EX X W c p1 (.rd 0) a fa) (hb : EX X W c p2 (.rd 0) b fb) (hg : Gl X "min" := by rfl) (h1 : starEach [a, b] X.env = (false, eval a X.env) :: starEach [b] X.env := by rfl) (h2 : starEach [b] X.env = (false, eval b X.env) :: starEach [] X.env := by rfl) (hpl : (backTo pos (starEach [b] X.env)).any (·.1) = false := by rfl) :
    EX X W c (p1 && (p2 && true)) (.rd 0) (.Call (.Name "min" pp) [a, b] [] pos) (e2L gMin fa fb) := ex_L (fun h => pe_callB (call_min2 ok.calm) hg hm (by decide +kernel) h (by decide) (by decide) h1 hpl) min_S (ax_cons ha (ax_cons hb ax_nil w00 h2) w00 h1)
theorem ex_max2 (ok : Cok X W) (hm : X.mg "max" = none) (ha : EX X W c p1 (.rd 0) a fa) (hb : EX X W c p2 (.rd 0) b fb) (hg : Gl X "max" := by rfl) (h1 : starEach [a, b] X.env = (false, eval a X.env) :: starEach [b] X.env := by rfl) (h2 : starEach [b] X.env = (false, eval b X.env) :: starEach [] X.env := by rfl) (hpl : (backTo pos (starEach [b] X.env)).any (·.1) = false := by rfl) :
    EX X W c (p1 && (p2 && true)) (.rd 0) (.Call (.Name "max" pp) [a, b] [] pos) (e2L gMax fa fb) := ex_L (fun h => pe_callB (call_max2 ok.calm) hg hm (by decide +kernel) h (by decide) (by decide) h1 hpl) max_S (ax_cons ha (ax_cons hb ax_nil w00 h2) w00 h1)
theorem ex_intc (hm : X.mg "int" = none) (ha : EX X W c p1 (.rd n) a fa) (hg : Gl X "int" := by rfl) (h1 : starEach [a] X.env = (false, eval a X.env) :: starEach [] X.env := by rfl) (hpl : (backTo pos (starEach [] X.env)).any (·.1) = false := by rfl) :
    EX X W c p1 (.rd 0) (.Call (.Name "int" pp) [a] [] pos) (e1L gInt fa) := and_true' (ex_L (fun h => pe_callTy call_int1 hg hm (by decide +kernel) h (by decide) (by decide) h1 hpl) int_S (ax_cons ha ax_nil wrd h1))
theorem ex_strc (hm : X.mg "str" = none) (ha : EX X W c p1 (.rd n) a fa) (hg : Gl X "str" := by rfl) (h1 : starEach [a] X.env = (false, eval a X.env) :: starEach [] X.env := by rfl) (hpl : (backTo pos (starEach [] X.env)).any (·.1) = false := by rfl) :
    EX X W c p1 (.rd 0) (.Call (.Name "str" pp) [a] [] pos) (e1L gStr fa) := and_true' (ex_L (fun h => pe_callTy call_str_int hg hm (by decide +kernel) h (by decide) (by decide) h1 hpl) str_S (ax_cons ha ax_nil wrd h1))
/-! ### tuple(x), list(x) -/
def gTuple : D → Option D
  | .tup ds => some (.tup ds)
  | .lst ds => some (.tup ds)
  | _ => none
def gList : D → Option D
  | .tup ds => some (.lst ds)
  | .lst ds => some (.lst ds)
  | _ => none
theorem rd1_tup {K : PySem.W.Frag} {mg : Str → Option Value} {G H : Hp} {ds : List D} {v : V} (q : RdV K mg G H 1 (.tup ds) v) : ∃ a vs, v = .ref a ∧ G a = some (.tup vs) ∧ RpL K mg G vs ds := by
  exact (RdV.plain rfl q).tup_inv
theorem tuple_S {K : PySem.W.Frag} {mg : Str → Option Value} : CallS K mg [.val (.rd 1)] (.rd 0) (fun xs H Q => ∃ p ys, xs = [.ref p] ∧ ((SqL K H p ys ∧ ∀ l, H l = none → Q (.ref l) (upd H l (.tup ys))) ∨ (SqT K H p ys ∧ Q (.ref p) H))) (g1 gTuple) := call1 fun G F H d v z Q gf fh q hz k => by
  have gh := gf.trans fh
  cases d <;> first | (cases hz; done) | skip
  · cases hz
    obtain ⟨a, vs, rfl, h1, r1⟩ := rd1_tup q
    exact ⟨a, vs, rfl, .inr ⟨.of (gh _ _ h1), k _ G F H [] (.refl gf fh) ⟨.tup h1 r1, rfl⟩⟩⟩
  · cases hz
    obtain ⟨a, vs, rfl, h1, r1⟩ := rd1_lst gh q
    refine ⟨a, vs, rfl, .inl ⟨.of h1, fun p hp => ?_⟩⟩
    have g := Grow.sh (o := .tup vs) gf fh hp
    exact k _ _ _ _ _ g ⟨.tup upd_same (r1.mono g.x.g), rfl⟩
theorem list_S {K : PySem.W.Frag} {mg : Str → Option Value} : CallS K mg [.val (.rd 1)] (.own 1) (fun xs H Q => ∃ p ys, xs = [.ref p] ∧ (SqL K H p ys ∨ SqT K H p ys) ∧ ∀ l, H l = none → Q (.ref l) (upd H l (.lst ys))) (g1 gList) := call1 fun G F H d v z Q gf fh q hz k => by
  have gh := gf.trans fh
  cases d <;> first | (cases hz; done) | skip
  · cases hz
    obtain ⟨a, vs, rfl, h1, r1⟩ := rd1_tup q
    refine ⟨a, vs, rfl, .inr (.of (gh _ _ h1)), fun p hp => ?_⟩
    have g := Grow.own (o := .lst vs) gf fh hp
    exact k _ _ _ _ _ g (Own.mkL upd_same (ownL_sh r1))
  · cases hz
    obtain ⟨a, vs, rfl, h1, r1⟩ := rd1_lst gh q
    refine ⟨a, vs, rfl, .inl (.of h1), fun p hp => ?_⟩
    have g := Grow.own (o := .lst vs) gf fh hp
    exact k _ _ _ _ _ g (Own.mkL upd_same (ownL_sh r1))
theorem ex_tupc (hm : X.mg "tuple" = none) (ha : EX X W c p1 (.rd 1) a fa) (hg : Gl X "tuple" := by rfl) (h1 : starEach [a] X.env = (false, eval a X.env) :: starEach [] X.env := by rfl) (hpl : (backTo pos (starEach [] X.env)).any (·.1) = false := by rfl) :
    EX X W c p1 (.rd 0) (.Call (.Name "tuple" pp) [a] [] pos) (e1L gTuple fa) := and_true' (ex_L (fun h => pe_callTy call_tuple_of hg hm (by decide +kernel) h (by decide) (by decide) h1 hpl) tuple_S (ax_cons ha ax_nil wrd h1))
theorem ex_lstc (hm : X.mg "list" = none) (ha : EX X W c p1 (.rd 1) a fa) (hg : Gl X "list" := by rfl) (h1 : starEach [a] X.env = (false, eval a X.env) :: starEach [] X.env := by rfl) (hpl : (backTo pos (starEach [] X.env)).any (·.1) = false := by rfl) :
    EX X W c p1 (.own 1) (.Call (.Name "list" pp) [a] [] pos) (e1L gList fa) := and_true' (ex_L (fun h => pe_callTy call_list_of hg hm (by decide +kernel) h (by decide) (by decide) h1 hpl) list_S (ax_cons ha ax_nil wrd h1))
/-! ### tuple(range(..)), list(range(..)) -/
def rgD (a b : Int) : List D := (List.range (b - a).toNat).map fun i => D.int (a + (i : Nat))
theorem rg_rpl {K : PySem.W.Frag} {mg : Str → Option Value} {H : Hp} (a b : Int) : RpL K mg H (rgV a b) (rgD a b) := by
  unfold rgV rgD
  generalize List.range (b - a).toNat = l
  induction l with
  | nil => exact .nil
  | cons x r ih => exact .cons (.int _) ih
def rgOk (a b : Int) : Bool := decide (-1000000 ≤ a ∧ a ≤ 1000000 ∧ -1000000 ≤ b ∧ b ≤ 1000000)
theorem rgOk_ok {a b : Int} (h : rgOk a b = true) : RgOk a b := by
  have h := of_decide_eq_true h
  exact ⟨by omega, by omega, by omega, by omega, by omega⟩
def gRgT : D → D → Option D
  | .int a, .int b => if rgOk a b = true then some (.tup (rgD a b)) else none
  | _, _ => none
def gRgL : D → D → Option D
  | .int a, .int b => if rgOk a b = true then some (.lst (rgD a b)) else none
  | _, _ => none
theorem ex_tupR1 (ok : Cok X W) (hm : X.mg "tuple" = none) (hr : X.mg "range" = none) (ha : EX X W c p1 (.rd n) a fa) {pq qq : Pos} (hg : Gl X "tuple" := by rfl) (hg2 : Gl X "range" := by rfl) (h1 : starEach [a] X.env = (false, eval a X.env) :: starEach [] X.env := by rfl)
    (h2 : starEach [.Call (.Name "range" pq) [a] [] qq] X.env = (false, eval (.Call (.Name "range" pq) [a] [] qq) X.env) :: starEach [] X.env := by rfl) : EX X W c p1 (.rd 0) (.Call (.Name "tuple" pp) [.Call (.Name "range" pq) [a] [] qq] [] pos) (e1 (gRgT (.int 0)) fa) := by
  refine ex_1 (r := fun x H1 Q => ∃ k : Int, x = .int k ∧ RgOk 0 k ∧ ∀ q, H1 q = none → Q (.ref q) (upd H1 q (.tup (rgV 0 k)))) (fun h => ?_) (fun G F H d v z Q gf fh q hz k => ?_) ha wrd
  · have hp := pe_tupRg (pos := pos) (p := pp) ok.calm hg hm (prg_1 hg2 hr h h1) h2
    refine ⟨fun pins s σ H Q I hw => hp.run pins s σ H Q I ?_⟩
    have e : (fun x H1 => ∃ k : Int, x = V.int k ∧ RgOk 0 k ∧ ∀ q, H1 q = none → Q (.ref q) (upd H1 q (.tup (rgV 0 k)))) = (fun x H1 => ∃ n : Int, x = V.int n ∧ (RgOk 0 n ∧ ∀ q, H1 q = none → Q (.ref q) (upd H1 q (.tup (rgV 0 n))))) := rfl
    exact hw
  · have q := q.1.rp (gf.trans fh)
    cases q <;> first | (cases hz; done) | skip
    rename_i i0
    have hz : (if _ then _ else _) = _ := hz
    split at hz
    · rename_i hs
      cases hz
      refine ⟨_, rfl, rgOk_ok hs, fun p hp => ?_⟩
      have g := Grow.sh (o := .tup (rgV 0 i0)) gf fh hp
      exact k _ _ _ _ _ g ⟨.tup upd_same (rg_rpl 0 _), rfl⟩
    · cases hz
theorem ex_lstR1 (ok : Cok X W) (hm : X.mg "list" = none) (hr : X.mg "range" = none) (ha : EX X W c p1 (.rd n) a fa) {pq qq : Pos} (hg : Gl X "list" := by rfl) (hg2 : Gl X "range" := by rfl) (h1 : starEach [a] X.env = (false, eval a X.env) :: starEach [] X.env := by rfl)
    (h2 : starEach [.Call (.Name "range" pq) [a] [] qq] X.env = (false, eval (.Call (.Name "range" pq) [a] [] qq) X.env) :: starEach [] X.env := by rfl) : EX X W c p1 (.own 1) (.Call (.Name "list" pp) [.Call (.Name "range" pq) [a] [] qq] [] pos) (e1 (gRgL (.int 0)) fa) := by
  refine ex_1 (r := fun x H1 Q => ∃ k : Int, x = .int k ∧ RgOk 0 k ∧ ∀ q, H1 q = none → Q (.ref q) (upd H1 q (.lst (rgV 0 k)))) (fun h => ?_) (fun G F H d v z Q gf fh q hz k => ?_) ha wrd
  · have hp := pe_listRg (pos := pos) (p := pp) ok.calm hg hm (prg_1 hg2 hr h h1) h2
    exact ⟨fun pins s σ H Q I hw => hp.run pins s σ H Q I hw⟩
  · have q := q.1.rp (gf.trans fh)
    cases q <;> first | (cases hz; done) | skip
    rename_i i0
    have hz : (if _ then _ else _) = _ := hz
    split at hz
    · rename_i hs
      cases hz
      refine ⟨_, rfl, rgOk_ok hs, fun p hp => ?_⟩
      have g := Grow.own (o := .lst (rgV 0 i0)) gf fh hp
      exact k _ _ _ _ _ g (Own.mkL upd_same (ownL_sh (rg_rpl 0 _)))
    · cases hz
/-! ### + of lists, and joined texts -/
def gCat : D → D → Option D
  | .lst a, .lst b => if small (a.length + b.length) = true then some (.lst (a ++ b)) else none
  | _, _ => none
theorem own_lst {K : PySem.W.Frag} {mg : Str → Option Value} {G F H : Hp} {p : Addr} {vs : List V} {ds : List D} (gf : Same G F) (fh : Same F H) (hp : H p = none) (r : RpL K mg G vs ds) : Grow G F H G F (upd H p (.lst vs)) [p] ∧ Own K mg G (upd H p (.lst vs)) 1 (.lst ds) (.ref p) [p] :=
  ⟨Grow.own gf fh hp, Own.mkL upd_same (ownL_sh r)⟩
theorem ex_cat (ha : EX X W c p1 (.rd 1) a fa) (hb : EX X W c p2 (.rd 1) b fb) (w1 : Waits (.rd 1) p2) : EX X W c (p1 && p2) (.own 1) (.BinOp a .Add b pos) (e2 gCat fa fb) := by
  refine ex_2 (fun h1 h2 => pe_op op_cat h1 h2) (fun G F H d e v u z Q gf fh q1 q2 hz k => ?_) ha hb w1 wrd
  have gh := gf.trans fh
  unfold gCat at hz
  split at hz
  · split at hz
    · rename_i hs
      cases hz
      obtain ⟨a1, vs1, rfl, h1, r1⟩ := rd1_lst gh q1.1
      obtain ⟨a2, vs2, rfl, h2, r2⟩ := rd1_lst gh q2.1
      refine ⟨a1, a2, vs1, vs2, rfl, rfl, h1, h2, by rw [r1.length, r2.length]; exact szl (of_decide_eq_true hs), fun p hp => ?_⟩
      obtain ⟨g, ow⟩ := own_lst gf fh hp (r1.append r2)
      exact k _ _ _ _ _ g ow
    · cases hz
  · cases hz
/-- [x] * n -/
def gRep : D → D → Option D
  | .lst a, .int k => if decide (-1000000 ≤ k ∧ k ≤ 1000000) && small (a.length * k.toNat) then some (.lst (List.replicate k.toNat a).flatten) else none
  | _, _ => none
theorem rpl_rep {K : PySem.W.Frag} {mg : Str → Option Value} {H : Hp} {vs : List V} {ds : List D} (r : RpL K mg H vs ds) : ∀ k : Nat, RpL K mg H (List.replicate k vs).flatten (List.replicate k ds).flatten
  | 0 => .nil
  | k + 1 => by
    simp only [List.replicate_succ, List.flatten_cons]
    exact r.append (rpl_rep r k)
theorem ex_rep (ha : EX X W c p1 (.rd 1) a fa) (hb : EX X W c p2 (.rd n) b fb) (w1 : Waits (.rd 1) p2) : EX X W c (p1 && p2) (.own 1) (.BinOp a .Mult b pos) (e2 gRep fa fb) := by
  refine ex_2 (fun h1 h2 => pe_op op_rep h1 h2) (fun G F H d e v u z Q gf fh q1 q2 hz k => ?_) ha hb w1 wrd
  have gh := gf.trans fh
  unfold gRep at hz
  split at hz
  · split at hz
    · rename_i k0 hs
      rw [Bool.and_eq_true] at hs
      have hb := of_decide_eq_true hs.1
      cases hz
      obtain ⟨a1, vs1, rfl, h1, r1⟩ := rd1_lst gh q1.1
      have q2 := q2.1.rp gh
      cases q2
      refine ⟨a1, _, vs1, rfl, rfl, h1, by omega, by omega, by rw [r1.length]; exact szl (of_decide_eq_true hs.2), fun p hp => ?_⟩
      obtain ⟨g, ow⟩ := own_lst gf fh hp (rpl_rep r1 _)
      exact k _ _ _ _ _ g ow
    · cases hz
  · cases hz
/-! ### a text's join -/
def strsOf : List D → Option (List Str)
  | [] => some []
  | .str i :: r => (strsOf r).map (i :: ·)
  | _ => none
theorem strsOf_eq : ∀ {ds : List D} {is : List Str}, strsOf ds = some is → ds = is.map D.str
  | [], _, h => by simp only [strsOf, Option.some.injEq] at h; subst h; rfl
  | .str i :: r, is, h => by
    simp only [strsOf] at h
    obtain ⟨js, e, rfl⟩ := Option.map_eq_some_iff.mp h
    rw [List.map_cons, ← strsOf_eq e]
  | .non :: _, _, h => by simp only [strsOf] at h; cases h
  | .int _ :: _, _, h => by simp only [strsOf] at h; cases h
  | .bl _ :: _, _, h => by simp only [strsOf] at h; cases h
  | .fn _ :: _, _, h => by simp only [strsOf] at h; cases h
  | .tup _ :: _, _, h => by simp only [strsOf] at h; cases h
  | .lst _ :: _, _, h => by simp only [strsOf] at h; cases h
  | .dct _ :: _, _, h => by simp only [strsOf] at h; cases h
  | .dcT _ :: _, _, h => by simp only [strsOf] at h; cases h
  | .obj _ _ :: _, _, h => by simp only [strsOf] at h; cases h
  | .scr _ :: _, _, h => by simp only [strsOf] at h; cases h
def gJoin : D → D → Option D
  | .str a, x => match itemsOf x with
    | some ds => match strsOf ds with
      | some ys => if (ys.map (·.length)).sum + ys.length * a.length ≤ 1000000 then some (.str (Txt.join a ys)) else none
      | none => none
    | none => none
  | _, _ => none
theorem items_sq {K : PySem.W.Frag} {mg : Str → Option Value} {H : Hp} {v : V} {d : D} {ds : List D} (q : Rp K mg H v d) (e : itemsOf d = some ds) : ∃ a vs, v = .ref a ∧ (SqL K H a vs ∨ SqT K H a vs) ∧ RpL K mg H vs ds := by
  cases q <;> first | (cases e; done) | skip
  · cases e
    rename_i h r
    exact ⟨_, _, rfl, .inr (.of h), r⟩
  · cases e
    rename_i h r
    exact ⟨_, _, rfl, .inl (.of h), r⟩
def isStr : D → Bool
  | .str _ => true
  | _ => false
def eM1 (g : D → D → Option D) (fa fb : M D) : M D := fa.bind fun x => if isStr x = true then fb.bind fun y => M.ofO (g x y) else fun _ => .fail
theorem ex_m1 {mo : Md} {m2 : Md} {e : Expr} {r : V → List V → Hp → VK → Prop} {g : D → D → Option D} (hpe : ∀ {to te}, PE X a to → PE X b te → PE X e (tM1 r to te)) (hr : Op2S X.K X.mg (.rd 0) m2 mo (fun x y => r x [y]) g)
    (ha : EX X W c p1 (.rd 0) a fa) (hb : EX X W c p2 m2 b fb) (w2 : Waits m2 true) : EX X W c (p1 && p2) mo e (eM1 g fa fb) := by
  obtain ⟨ta, a1, a2⟩ := ha
  obtain ⟨tb, b1, b2⟩ := hb
  refine ⟨_, hpe a1 b1, fun σ ρ G F H Q o w => ?_⟩
  refine EX.use ta a2 o (Wp.ofBindM w) (fun r1 h1 v1 G1 F1 H1 fp1 x1 o1 q1 hp1 => ?_) fun _ z => z
  have h1 : Wp ((if isStr r1.1 = true then fb.bind fun y => M.ofO (g r1.1 y) else fun _ => .fail : M D) r1.2) _ _ := h1
  split at h1
  · rename_i hs
    obtain ⟨d, ρ1⟩ := r1
    cases d <;> first | (cases hs; done) | skip
    have q1' : Rp X.K X.mg G1 v1 _ := q1.1
    cases q1'
    refine ⟨⟨_, rfl⟩, ?_⟩
    refine EX.use tb b2 o1.drop (Wp.nxExt x1 (Wp.ofBindM h1)) (fun r2 h2 v2 G2 F2 H2 fp2 x2 o2 q2 hp2 => ?_) fun _ z => z
    unfold M.ofO at h2
    split at h2
    · rename_i z hz
      refine hr G2 F2 H2 _ r2.1 _ v2 z Q o2.gf o2.fh ⟨.str _, rfl⟩ (val_flat w2 q2) hz fun wv G3 F3 H3 fr g3 q3 => ?_
      refine h2 wv G3 F3 H3 fr ((x1.trans x2).trans g3.x) (o2.drop.grown g3) q3 fun hp => ?_
      rw [Bool.and_eq_true] at hp
      exact ⟨(hp2 hp.2).1.trans (hp1 hp.1).1, ((hp1 hp.1).2.trans (hp2 hp.2).2).trans g3.hh⟩
    · exact h2.elim
  · exact h1.elim
theorem ex_join (ha : EX X W c p1 (.rd 0) a fa) (hb : EX X W c p2 (.rd n) b fb) {apos : Pos} (hs : starEach [b] X.env = [(false, eval b X.env)] := by rfl) (hbase : attributeBase a "join" X.env (eval a X.env) = eval a X.env := by rfl) (hline : (apos.endLine == pos.line) = true := by rfl) :
    EX X W c (p1 && p2) (.rd 0) (.Call (.Attribute a "join" apos) [b] [] pos) (eM1 gJoin fa fb) := by
  refine ex_m1 (fun h1 h2 => pe_join (pos := pos) (apos := apos) h1 h2 hs hbase hline) (fun G F H d e v u z Q gf fh q1 q2 hz k => ?_) ha hb wrd
  have gh := gf.trans fh
  have q1 : Rp X.K X.mg G v d := q1.1
  have q2 := q2.1.rp gh
  unfold gJoin at hz
  split at hz
  · split at hz
    · rename_i ds e1
      split at hz
      · rename_i ys e2
        split at hz
        · rename_i hl
          cases hz
          cases q1
          obtain ⟨a1, vs, rfl, h1, r1⟩ := items_sq q2 e1
          rw [strsOf_eq e2] at r1
          rw [r1.strs] at h1
          exact ⟨_, a1, ys, rfl, rfl, h1, Nat.le_trans hl (by decide), k _ G F H [] (.refl gf fh) ⟨.str _, rfl⟩⟩
        · cases hz
      · cases hz
    · cases hz
  · cases hz
end
end
end PV

set_option Elab.async false
set_option linter.all false
set_option maxRecDepth 100000
set_option maxHeartbeats 0
namespace PV
noncomputable section
open PySem PySem.Spec
open PyProof.Rows L2

/-! ## 12. statements -/
section
variable {K : PySem.W.Frag} {mg : Str → Option Value} {c : Fc} {T fp : List Addr} {G F H G' F' H' : Hp} {σ : L2.St} {ρ : PV.Env}
def noIo (c : Fc) (i : Nat) : Bool := c.io.all fun p => decide (p.1 ≠ i)
/-- a slot is stored: the value's own objects become the slot's -/
theorem Ok.set (o : Ok K mg c (fp ++ T) G F H σ ρ) {i : Nat} {d : D} {v : V} (s : Slt K mg (c.kd i) G c.B H d v fp) (hi : noIo c i = true) : Ok K mg c T G F H (σ.set i (some v)) (ρ.set i (some d)) := by
  obtain ⟨fps, h1, h0, h2, h3, h4, h5, h6, h7⟩ := o.slt
  have nd := List.nodup_append.mp h5
  refine ⟨o.gf, o.fh, o.bf, by rw [List.length_set, List.length_set]; exact o.len, fun p hp => ?_, fun j => if j = i ∧ i < ρ.length then fp else fps j, fun j e he => ?_, fun j hj => ?_, fun j a ha => ?_, fun j => ?_, fun j k a hjk ha hb => ?_, nd.2.1, fun a ha => h6 a (List.mem_append_right _ ha), fun j a ha hb => ?_⟩
  · have hne := List.all_eq_true.mp hi p hp
    have hne := of_decide_eq_true hne
    rw [List.getElem?_set_ne (Ne.symm hne)]
    exact o.io p hp
  · by_cases z : j = i
    · subst z
      by_cases hl : j < ρ.length
      · rw [List.getElem?_set_self hl] at he
        cases he
        refine ⟨v, by rw [List.getElem?_set_self (by rw [← o.len]; exact hl)], ?_⟩
        dsimp only
        rw [if_pos ⟨rfl, hl⟩]
        exact s
      · rw [List.getElem?_eq_none (by rw [List.length_set]; omega)] at he
        cases he
    · rw [List.getElem?_set_ne (Ne.symm z)] at he
      obtain ⟨u, e1, q⟩ := h1 j e he
      refine ⟨u, by rw [List.getElem?_set_ne (Ne.symm z)]; exact e1, ?_⟩
      dsimp only
      rw [if_neg (fun w => z w.1)]
      exact q
  · by_cases z : j = i ∧ i < ρ.length
    · exfalso
      apply hj
      refine ⟨d, ?_⟩
      rw [z.1, List.getElem?_set_self z.2]
    · dsimp only
      rw [if_neg z]
      refine h0 j fun ⟨e, he⟩ => hj ⟨e, ?_⟩
      by_cases zz : j = i
      · exfalso
        apply z
        refine ⟨zz, ?_⟩
        rw [← zz]
        exact (List.getElem?_eq_some_iff.mp he).1
      · rw [List.getElem?_set_ne (Ne.symm zz)]
        exact he
  · dsimp only at ha
    split at ha
    · exact h6 a (List.mem_append_left _ ha)
    · exact h2 j a ha
  · dsimp only
    split
    · exact nd.1
    · exact h3 j
  · dsimp only at ha hb
    split at ha
    · rename_i z1
      split at hb
      · rename_i z2
        exact hjk (z1.1.trans z2.1.symm)
      · exact h7 k a hb (List.mem_append_left _ ha)
    · split at hb
      · exact h7 j a ha (List.mem_append_left _ hb)
      · exact h4 j k a hjk ha hb
  · dsimp only at ha
    split at ha
    · exact nd.2.2 a ha a hb rfl
    · exact h7 j a ha (List.mem_append_right _ hb)
theorem Ok.tnil (o : Ok K mg c fp G F H σ ρ) : Ok K mg c (fp ++ []) G F H σ ρ := by rw [List.append_nil]; exact o
/-- a slot is forgotten -/
theorem Ok.unset (o : Ok K mg c T G F H σ ρ) (i : Nat) (w : Option V) (hi : noIo c i = true) : Ok K mg c T G F H (σ.set i w) (ρ.set i none) := by
  obtain ⟨fps, h1, h0, h2, h3, h4, h5, h6, h7⟩ := o.slt
  refine ⟨o.gf, o.fh, o.bf, by rw [List.length_set, List.length_set]; exact o.len, fun p hp => ?_, fun j => if j = i then [] else fps j, fun j e he => ?_, fun j hj => ?_, fun j a ha => ?_, fun j => ?_, fun j k a hjk ha hb => ?_, h5, h6, fun j a ha hb => ?_⟩
  · have hne := of_decide_eq_true (List.all_eq_true.mp hi p hp)
    rw [List.getElem?_set_ne (Ne.symm hne)]
    exact o.io p hp
  · by_cases z : j = i
    · subst z
      by_cases hl : j < ρ.length
      · rw [List.getElem?_set_self hl] at he
        cases he
      · rw [List.getElem?_eq_none (by rw [List.length_set]; omega)] at he
        cases he
    · rw [List.getElem?_set_ne (Ne.symm z)] at he
      obtain ⟨u, e1, q⟩ := h1 j e he
      refine ⟨u, by rw [List.getElem?_set_ne (Ne.symm z)]; exact e1, ?_⟩
      dsimp only
      rw [if_neg z]
      exact q
  · by_cases z : j = i
    · dsimp only
      rw [if_pos z]
    · dsimp only
      rw [if_neg z]
      refine h0 j fun ⟨e, he⟩ => hj ⟨e, ?_⟩
      rw [List.getElem?_set_ne (Ne.symm z)]
      exact he
  · dsimp only at ha
    split at ha
    · cases ha
    · exact h2 j a ha
  · dsimp only
    split
    · exact List.nodup_nil
    · exact h3 j
  · dsimp only at ha hb
    split at ha
    · cases ha
    · split at hb
      · cases hb
      · exact h4 j k a hjk ha hb
  · dsimp only at ha
    split at ha
    · cases ha
    · exact h7 j a ha hb
end
/-- the mode in which a slot's new value comes -/
def mdK : Kd → Md
  | .own 0 => .rd 0
  | .own (n + 1) => .own (n + 1)
  | .rd n => .rd n
theorem slt_of {K : PySem.W.Frag} {mg : Str → Option Value} {k : Kd} {m : Md} {G B H : Hp} {d : D} {v : V} {fp : List Addr} (hk : mdK k = m) (hn : ∀ n, k ≠ .rd n) (q : Val K mg m G H d v fp) : Slt K mg k G B H d v fp := by
  subst hk
  cases k with
  | rd n => exact absurd rfl (hn n)
  | own n =>
    cases n with
    | zero => exact ⟨q.1, q.2⟩
    | succ n => exact q
def isOwn : Kd → Bool
  | .own _ => true
  | .rd _ => false
theorem isOwn_ne {k : Kd} (h : isOwn k = true) : ∀ n, k ≠ .rd n := fun n e => by rw [e] at h; cases h
def toS (r : R PV.Env) : SR := match r with
  | .ok ρ => .nx ρ
  | .exc x => .exc x
  | .fail => .fail
def sDo {α : Type} (f : M α) (k : α → PV.Env → SR) : SM := fun ρ => match f ρ with
  | .ok (a, ρ') => k a ρ'
  | .exc x => .exc x
  | .fail => .fail
theorem WpS.ofDo {α : Type} {f : M α} {k : α → PV.Env → SR} {ρ : PV.Env} {P : PV.Env → Prop} {Q : D → PV.Env → Prop} {N : Exn → Prop} (h : WpS (sDo f k ρ) P Q N) : Wp (f ρ) (fun r => WpS (k r.1 r.2) P Q N) N := by
  unfold sDo at h
  cases e : f ρ with
  | ok p => rw [e] at h; exact h
  | exc x => rw [e] at h; exact h
  | fail => rw [e] at h; exact h
def sAsg (i : Nat) (f : M D) : SM := sDo f fun d ρ => .nx (put ρ i (some d))
theorem sAsg_def (i : Nat) (f : M D) : sAsg i f = sDo f fun d ρ => .nx (ρ.set i (some d)) := by
  unfold sAsg
  simp only [put_eq]
def sRet (f : M D) : SM := sDo f fun d ρ => .rt d ρ
def sRetN : SM := fun ρ => .rt .non ρ
def sDrop (f : M D) : SM := sDo f fun _ ρ => .nx ρ
def sIf (t : M Bool) (a b : SM) : SM := sDo t fun x ρ => if x = true then a ρ else b ρ
def sNx : SM := fun ρ => .nx ρ
def sSeq (a b : SM) : SM := fun ρ => match a ρ with
  | .nx ρ' => b ρ'
  | r => r
def whileN (t : M Bool) (b : SM) : Nat → SM
  | 0 => fun _ => .fail
  | n + 1 => sDo t fun x ρ => if x = true then sSeq b (whileN t b n) ρ else .nx ρ
def fuelW : Nat := 1000000
def sWhile (t : M Bool) (b : SM) : SM := fun ρ => whileN t b fuelW ρ
section
variable {X : Cx} {W : WX} {c : Fc} {rk : Nat} {p : Bool}
theorem Nx.toS {K : PySem.W.Frag} {mg : Str → Option Value} {σ : L2.St} {G F : Hp} {x : Exn} (h : NxS K mg W σ.length G F x) : Nx K mg W σ G F x := h σ rfl
theorem NxS.ext {K : PySem.W.Frag} {mg : Str → Option Value} {k : Nat} {G F G1 F1 : Hp} (e : Ext G F G1 F1) {x : Exn} (h : NxS K mg W k G F x) : NxS K mg W k G1 F1 x := fun σ hs => (h σ hs).ext e
abbrev PNx (X : Cx) (c : Fc) (D : Ends) (σ : L2.St) (G F : Hp) : PV.Env → Prop := fun ρ' => ∀ σ' G' F' H', Ext G F G' F' → Ok X.K X.mg c [] G' F' H' σ' ρ' → σ'.length = σ.length → D.nx σ' H'
abbrev PRt (X : Cx) (c : Fc) (rk : Nat) (D : Ends) (G F : Hp) : PV.D → PV.Env → Prop := fun d ρ' => ∀ σ' v G' F' H' fp, Ext G F G' F' → Ok X.K X.mg c fp G' F' H' σ' ρ' → Own X.K X.mg G' H' rk d v fp → D.rt v H'
theorem sx_asg (i : Nat) {k : Kd} {m : Md} {x : Str} {e : Expr} {f : M D} {pos pos' : Pos} (h : EX X W c p m e f) (hN : X.N.Nodup) (hk : c.kd i = k := by rfl) (hm : mdK k = m := by rfl) (ho : isOwn k = true := by rfl) (hio : noIo c i = true := by rfl)
    (hi : X.N[i]? = some x := by rfl) (hx : Loc X.env.scope x := by first | exact Or.inl rfl | exact Or.inr rfl) (hs : swapsWith e (some (.Name x pos')) pos.line X.env = pure false := by rfl) (hf : X.fn x = true ∨ X.env.scope.names.lookup x = some .local := by first | exact .inl rfl | exact .inr rfl) :
    SX X W c rk (.Assign [.Name x pos'] e pos) (sAsg i f) := by
  rw [sAsg_def]
  obtain ⟨te, h1, h2⟩ := h
  refine ⟨_, ps_set hN hi hx h1 hs hf, fun D σ ρ G F H o w => ?_⟩
  refine EX.use te h2 o (WpS.ofDo w) (fun r hr v G' F' H' fp x1 o1 q hp => ?_) fun _ z => Nx.toS z
  refine hr (σ.set i (some v)) G' F' H' x1 (o1.tnil.set (slt_of (by rw [hk]; exact hm) (by rw [hk]; exact isOwn_ne ho) q) hio) (by rw [List.length_set])
theorem sx_ret {e : Expr} {f : M D} {pos : Pos} (h : EX X W c p (.rd 0) e f) : SX X W c 0 (.Return (some e) pos) (sRet f) := by
  obtain ⟨te, h1, h2⟩ := h
  refine ⟨_, ps_ret h1, fun D σ ρ G F H o w => ?_⟩
  refine EX.use te h2 o (WpS.ofDo w) (fun r hr v G' F' H' fp x1 o1 q hp => ?_) fun _ z => Nx.toS z
  exact hr σ v G' F' H' [] x1 o1.drop ⟨q.1, rfl⟩
theorem sx_retO {n : Nat} {e : Expr} {f : M D} {pos : Pos} (h : EX X W c p (.own n) e f) : SX X W c n (.Return (some e) pos) (sRet f) := by
  obtain ⟨te, h1, h2⟩ := h
  refine ⟨_, ps_ret h1, fun D σ ρ G F H o w => ?_⟩
  refine EX.use te h2 o (WpS.ofDo w) (fun r hr v G' F' H' fp x1 o1 q hp => ?_) fun _ z => Nx.toS z
  exact hr σ v G' F' H' fp x1 o1 q
theorem sx_retN {pos : Pos} : SX X W c 0 (.Return none pos) sRetN := ⟨_, ps_retN, fun D σ ρ G F H o w => w σ .non G F H [] (.refl _ _) o ⟨.non, rfl⟩⟩
theorem sx_drop {m : Md} {e : Expr} {f : M D} {pos : Pos} (h : EX X W c p m e f) (hs : swapsWith e none pos.line X.env = pure false := by rfl) : SX X W c rk (.Expr e pos) (sDrop f) := by
  obtain ⟨te, h1, h2⟩ := h
  refine ⟨_, ps_expr h1 hs, fun D σ ρ G F H o w => ?_⟩
  refine EX.use te h2 o (WpS.ofDo w) (fun r hr v G' F' H' fp x1 o1 q hp => ?_) fun _ z => Nx.toS z
  exact hr σ G' F' H' x1 o1.drop rfl
theorem sx_pass {pos : Pos} : SX X W c rk (.Pass pos) sNx := ⟨_, ps_pass, fun D σ ρ G F H o w => w σ G F H (.refl _ _) o rfl⟩
theorem sxs_nil : SXs X W c rk [] sNx := ⟨_, pss_nil, fun D σ ρ G F H o w => w σ G F H (.refl _ _) o rfl⟩
theorem stp_seq {t u : TS} {f g : SM} (h : StP X W c rk t f) (k : StP X W c rk u g) : StP X W c rk (tSeq t u) (sSeq f g) := by
  intro D σ ρ G F H o w
  refine h _ σ ρ G F H o ?_
  unfold sSeq at w
  cases e : f ρ with
  | nx ρ' =>
    rw [e] at w
    intro σ' G' F' H' x1 o1 hl
    exact k D σ' ρ' G' F' H' o1 (w.imp (fun ρ2 q σ2 G2 F2 H2 x2 o2 hl2 => q σ2 G2 F2 H2 (x1.trans x2) o2 (hl2.trans hl)) (fun d ρ2 q σ2 v G2 F2 H2 fp x2 o2 ow => q σ2 v G2 F2 H2 fp (x1.trans x2) o2 ow) fun x q => by rw [hl]; exact q.ext x1)
  | rt d ρ' => rw [e] at w; exact w
  | exc x => rw [e] at w; exact w
  | fail => rw [e] at w; exact w
theorem sxs_cons {st : Stmt} {r : List Stmt} {f g : SM} (h : SX X W c rk st f) (k : SXs X W c rk r g) : SXs X W c rk (st :: r) (sSeq f g) := by
  obtain ⟨t, h1, h2⟩ := h
  obtain ⟨u, k1, k2⟩ := k
  exact ⟨_, pss_cons h1 k1, stp_seq h2 k2⟩
theorem sxs_one {st : Stmt} {f : SM} (h : SX X W c rk st f) : SXs X W c rk [st] f := by
  obtain ⟨t, h1, h2⟩ := h
  refine ⟨_, pss_cons h1 pss_nil, fun D σ ρ G F H o w => ?_⟩
  exact h2 _ σ ρ G F H o (w.imp (fun ρ2 q σ2 G2 F2 H2 x2 o2 hl2 => q σ2 G2 F2 H2 x2 o2 hl2) (fun d ρ2 q => q) fun x q => q)
theorem sx_if {t : Expr} {a b : List Stmt} {ft : M Bool} {fa fb : SM} {pos : Pos} (ht : TX X W c p t ft) (ha : SXs X W c rk a fa) (hb : SXs X W c rk b fb) : SX X W c rk (.If t a b pos) (sIf ft fa fb) := by
  obtain ⟨tt, h1, h2⟩ := ht
  obtain ⟨ta, a1, a2⟩ := ha
  obtain ⟨tb, b1, b2⟩ := hb
  refine ⟨_, ps_if h1 a1 b1, fun D σ ρ G F H o w => ?_⟩
  refine TX.use tt h2 o (WpS.ofDo w) (fun r hr G1 F1 H1 x1 o1 hp => ?_) fun _ z => Nx.toS z
  obtain ⟨b, ρ1⟩ := r
  cases b with
  | true => exact a2 D σ ρ1 G1 F1 H1 o1 (WpS.imp hr (fun ρ2 q σ2 G2 F2 H2 x2 o2 hl2 => q σ2 G2 F2 H2 (x1.trans x2) o2 hl2) (fun d ρ2 q σ2 v G2 F2 H2 fp x2 o2 ow => q σ2 v G2 F2 H2 fp (x1.trans x2) o2 ow) fun x q => q.ext x1)
  | false => exact b2 D σ ρ1 G1 F1 H1 o1 (WpS.imp hr (fun ρ2 q σ2 G2 F2 H2 x2 o2 hl2 => q σ2 G2 F2 H2 (x1.trans x2) o2 hl2) (fun d ρ2 q σ2 v G2 F2 H2 fp x2 o2 ow => q σ2 v G2 F2 H2 fp (x1.trans x2) o2 ow) fun x q => q.ext x1)
theorem sx_while (po : Pso X) {t : Expr} {b : List Stmt} {ft : M Bool} {fb : SM} {pos : Pos} (ht : TX X W c p t ft) (hb : SXs X W c rk b fb) : SX X W c rk (.While t b [] pos) (sWhile ft fb) := by
  obtain ⟨tt, h1, h2⟩ := ht
  obtain ⟨tb, b1, b2⟩ := hb
  refine ⟨_, ps_while po h1 b1, fun D σ ρ G F H o w => ?_⟩
  refine ⟨fun m σ' H' => ∃ ρ' G' F', Ext G F G' F' ∧ Ok X.K X.mg c [] G' F' H' σ' ρ' ∧ σ'.length = σ.length ∧ WpS (whileN ft fb m ρ') (PNx X c D σ' G' F') (PRt X c rk D G' F') (NxS X.K X.mg W σ'.length G' F'), ⟨fuelW, ρ, G, F, .refl _ _, o, rfl, w⟩, fun m σ1 H1 hw => ?_⟩
  obtain ⟨ρ1, G1, F1, x1, o1, hl1, w1⟩ := hw
  cases m with
  | zero => exact w1.elim
  | succ m =>
    refine TX.use tt h2 o1 (WpS.ofDo w1) (fun r hr G2 F2 H2 x2 o2 hp => ?_) fun _ z => Nx.toS z
    obtain ⟨b, ρ2⟩ := r
    cases b with
    | true =>
      show if true = true then _ else _
      rw [if_pos rfl]
      refine ⟨fun σ3 H3 => ∃ ρ3 G3 F3, Ext G F G3 F3 ∧ Ok X.K X.mg c [] G3 F3 H3 σ3 ρ3 ∧ σ3.length = σ.length ∧ WpS (whileN ft fb m ρ3) (PNx X c D σ3 G3 F3) (PRt X c rk D G3 F3) (NxS X.K X.mg W σ3.length G3 F3), fun σ3 H3 q => ⟨m, Nat.lt_succ_self m, q⟩, ?_⟩
      have hr : WpS (sSeq fb (whileN ft fb m) ρ2) _ _ _ := hr
      unfold sSeq at hr
      refine b2 _ σ1 ρ2 G2 F2 H2 o2 ?_
      cases e : fb ρ2 with
      | nx ρ3 =>
        rw [e] at hr
        intro σ3 G3 F3 H3 x3 o3 hl3
        refine ⟨ρ3, G3, F3, (x1.trans x2).trans x3, o3, hl3.trans hl1, hr.imp (fun ρ4 q σ4 G4 F4 H4 x4 o4 hl4 => q σ4 G4 F4 H4 ((x2.trans x3).trans x4) o4 (hl4.trans hl3)) (fun d ρ4 q σ4 v G4 F4 H4 fp x4 o4 ow => q σ4 v G4 F4 H4 fp ((x2.trans x3).trans x4) o4 ow) fun x q => by rw [hl3]; exact q.ext (x2.trans x3)⟩
      | rt d ρ3 =>
        rw [e] at hr
        intro σ4 v G4 F4 H4 fp x4 o4 ow
        exact hr σ4 v G4 F4 H4 fp (x2.trans x4) o4 ow
      | exc x => rw [e] at hr; exact NxS.ext x2 hr
      | fail => rw [e] at hr; exact hr
    | false =>
      show if false = true then _ else _
      rw [if_neg (by simp : ¬ false = true)]
      exact hr σ1 G2 F2 H2 x2 o2 rfl
/-! ### raise -/
def sRaise (x : Exn) : SM := fun _ => .exc x
/-- what the text says of a class of errors without __init__ -/
structure MalC (K : PySem.W.Frag) (mg : Str → Option Value) (x : Str) (C : Addr) : Prop where
  gP : mg x = some (.ref C)
  xP : PySem.W.excIn K C [.type "ValueError", .type "Exception", .type "BaseException", .type "object"] "ValueError.__new__" = true
  kP : PySem.W.keepIn K (.ref C) = true
  bP : PySem.W.subIn K (.ref C) (.type "BaseException") = some true
  tP : PySem.W.typeIn K (.ref C) = some (.type "type")
theorem sx_raise (ok : Cok X W) {C : Addr} {m : Str} {j : Nat} {pn p2 pos pos2 : Pos} (M : MalC X.K X.mg "Malformed" C) (hg : Gl X "Malformed" := by rfl) : SX X W c rk (.Raise (some (.Call (.Name "Malformed" pn) [.Constant (.str m) j p2] [] pos)) none pos2) (sRaise .mal) := by
  refine ⟨_, ps_raise ok.calm ok.tk (pmk_own PySem.F.excBase_ValueError M.xP M.gP M.kP (raises_own M.bP M.tP) hg), fun D σ ρ G F H o w => ?_⟩
  exact (w σ rfl) (.ref C) none G F H (.refl _ _) o.gf o.fh ⟨C, M.gP, rfl, rfl⟩
end
end
end PV

set_option Elab.async false
set_option linter.all false
set_option maxRecDepth 100000
set_option maxHeartbeats 0
namespace PV
noncomputable section
open PySem PySem.Spec
open PyProof.Rows L2

/-! ## 13. defs and their calls -/
/-- how a parameter is handed on: shared; read to a depth; owned, and seen changed by the caller -/
inductive Pm where
  | sh | rd (n : Nat) | io (n : Nat)
def kdP : Pm → Kd
  | .sh => .own 0
  | .rd n => .rd n
  | .io n => .own n
section
variable (K : PySem.W.Frag) (mg : Str → Option Value)
inductive ArgL (G F H : Hp) : List Pm → List D → List V → List Addr → Prop
  | nil : ArgL G F H [] [] [] []
  | sh {d : D} {v : V} {ps : List Pm} {ds : List D} {vs : List V} {fp : List Addr} : Rp K mg G v d → ArgL G F H ps ds vs fp → ArgL G F H (.sh :: ps) (d :: ds) (v :: vs) fp
  | rd {n : Nat} {d : D} {v : V} {ps : List Pm} {ds : List D} {vs : List V} {fp : List Addr} : RdV K mg G F n d v → ArgL G F H ps ds vs fp → ArgL G F H (.rd n :: ps) (d :: ds) (v :: vs) fp
  | io {n : Nat} {d : D} {v : V} {f : List Addr} {ps : List Pm} {ds : List D} {vs : List V} {fp : List Addr} : Own K mg G H n d v f → ArgL G F H ps ds vs fp → ArgL G F H (.io n :: ps) (d :: ds) (v :: vs) (f ++ fp)
inductive OutL (G H : Hp) : List Pm → List V → List D → List Addr → Prop
  | nil : OutL G H [] [] [] []
  | sh {v : V} {ps : List Pm} {vs : List V} {os : List D} {fo : List Addr} : OutL G H ps vs os fo → OutL G H (.sh :: ps) (v :: vs) os fo
  | rd {n : Nat} {v : V} {ps : List Pm} {vs : List V} {os : List D} {fo : List Addr} : OutL G H ps vs os fo → OutL G H (.rd n :: ps) (v :: vs) os fo
  | io {n : Nat} {d : D} {v : V} {f : List Addr} {ps : List Pm} {vs : List V} {os : List D} {fo : List Addr} : Own K mg G H n d v f → OutL G H ps vs os fo → OutL G H (.io n :: ps) (v :: vs) (d :: os) (f ++ fo)
/-- the promise of a def whose mirror is m -/
def spM (ps : List Pm) (rk : Nat) (m : List D → R (D × List D)) : Sp := fun vs H Q E => ∃ G F ds fp, Same G F ∧ Same F H ∧ ArgL K mg G F H ps ds vs fp ∧ fp.Nodup ∧ (∀ a ∈ fp, F a = none) ∧
  Wp (m ds) (fun r => ∀ v G' F' H' fr fo, Ext G F G' F' → Same G' F' → Same F' H' → Own K mg G' H' rk r.1 v fr → OutL K mg G' H' ps vs r.2 fo → (fr ++ fo).Nodup → (∀ a ∈ fr ++ fo, F' a = none) → Q v H')
    (fun x => ∀ cls dd G' F' H', Ext G F G' F' → Same G' F' → Same F' H' → XRep K mg G' H' x cls dd → E cls dd H')
end
theorem ArgL.len {K : PySem.W.Frag} {mg : Str → Option Value} {G F H : Hp} : ∀ {ps : List Pm} {ds : List D} {vs : List V} {fp : List Addr}, ArgL K mg G F H ps ds vs fp → vs.length = ps.length ∧ ds.length = ps.length
  | _, _, _, _, .nil => ⟨rfl, rfl⟩
  | _, _, _, _, .sh _ r => ⟨congrArg (· + 1) r.len.1, congrArg (· + 1) r.len.2⟩
  | _, _, _, _, .rd _ r => ⟨congrArg (· + 1) r.len.1, congrArg (· + 1) r.len.2⟩
  | _, _, _, _, .io _ r => ⟨congrArg (· + 1) r.len.1, congrArg (· + 1) r.len.2⟩
/-- a mirror that hands back a value alone -/
def m0 (f : List D → R D) : List D → R (D × List D) := fun ds => match f ds with
  | .ok d => .ok (d, [])
  | .exc x => .exc x
  | .fail => .fail
def envOf (n : Nat) (ds : List D) : PV.Env := ds.map some ++ List.replicate (n - ds.length) none
def outsOf : List Pm → Nat → PV.Env → Option (List D)
  | [], _, _ => some []
  | .io _ :: ps, i, ρ => match look ρ i, outsOf ps (i + 1) ρ with
    | some d, some os => some (d :: os)
    | _, _ => none
  | _ :: ps, i, ρ => outsOf ps (i + 1) ρ
def endR (ps : List Pm) (d : D) (ρ : PV.Env) : R (D × List D) := match outsOf ps 0 ρ with
  | some os => .ok (d, os)
  | none => .fail
/-- a body, run -/
def runB (n : Nat) (ps : List Pm) (rk : Nat) (s : SM) : List D → R (D × List D) := fun ds => match s (envOf n ds) with
  | .nx ρ => if rk = 0 then endR ps .non ρ else .fail
  | .rt d ρ => endR ps d ρ
  | .exc x => .exc x
  | .fail => .fail
def runF (n : Nat) (rk : Nat) (s : SM) : List D → R D := fun ds => match s (envOf n ds) with
  | .nx _ => if rk = 0 then .ok .non else .fail
  | .rt d _ => .ok d
  | .exc x => .exc x
  | .fail => .fail
def noIoP : List Pm → Bool
  | [] => true
  | .io _ :: _ => false
  | _ :: r => noIoP r
theorem outs_none : ∀ {ps : List Pm} {i : Nat} {ρ : PV.Env}, noIoP ps = true → outsOf ps i ρ = some []
  | [], _, _, _ => rfl
  | .sh :: ps, i, ρ, h => outs_none (ps := ps) h
  | .rd _ :: ps, i, ρ, h => outs_none (ps := ps) h
  | .io _ :: _, _, _, h => by cases h
theorem runB_F {n : Nat} {ps : List Pm} {rk : Nat} {s : SM} (h : noIoP ps = true) : runB n ps rk s = m0 (runF n rk s) := by
  funext ds
  unfold runB m0 runF endR
  cases s (envOf n ds) with
  | nx ρ =>
    dsimp only
    split
    · rw [outs_none h]
    · rfl
  | rt d ρ => dsimp only; rw [outs_none h]
  | exc x => rfl
  | fail => rfl
/-- the slots whose object the caller will see -/
def ioOf : List Pm → Nat → List V → List (Nat × V)
  | [], _, _ => []
  | .io _ :: ps, i, vs => (i, vs.headD .non) :: ioOf ps (i + 1) vs.tail
  | _ :: ps, i, vs => ioOf ps (i + 1) vs.tail
def fcOf (ps : List Pm) (ls : List Kd) (vs : List V) (B : Hp) : Fc := ⟨ps.map kdP ++ ls, ioOf ps 0 vs, B⟩
section
variable {K : PySem.W.Frag} {mg : Str → Option Value} {G F H : Hp}
/-- each argument, with its own objects, by its place -/
theorem ArgL.fps : ∀ {ps : List Pm} {ds : List D} {vs : List V} {fp : List Addr}, ArgL K mg G F H ps ds vs fp → ∃ fps : Nat → List Addr,
    (∀ (i : Nat) (d : D), ds[i]? = some d → ∃ v p, vs[i]? = some v ∧ ps[i]? = some p ∧ Slt K mg (kdP p) G F H d v (fps i)) ∧ (∀ i, ds.length ≤ i → fps i = []) ∧ (∀ i, ∀ a ∈ fps i, a ∈ fp) ∧ (fp.Nodup → (∀ i, (fps i).Nodup) ∧ ∀ i j a, i ≠ j → a ∈ fps i → a ∉ fps j)
  | _, _, _, _, .nil => ⟨fun _ => [], fun i d h => by simp at h, fun _ _ => rfl, fun _ a h => (nomatch h), fun _ => ⟨fun _ => List.nodup_nil, fun _ _ _ _ h => (nomatch h)⟩⟩
  | _, _, _, _, .sh (ds := ds) h r => by
    obtain ⟨fps, h1, h2, h3, h4⟩ := r.fps
    refine ⟨fun i => match i with | 0 => [] | i + 1 => fps i, fun i d e => ?_, fun i hi => ?_, fun i a ha => ?_, fun nd => ⟨fun i => ?_, fun i j a hij ha hb => ?_⟩⟩
    · cases i with
      | zero => cases e; exact ⟨_, _, rfl, rfl, h, rfl⟩
      | succ i => exact h1 i d e
    · cases i with
      | zero => exact absurd hi (Nat.not_succ_le_zero _)
      | succ i => exact h2 i (Nat.le_of_succ_le_succ hi)
    · cases i with
      | zero => cases ha
      | succ i => exact h3 i a ha
    · cases i with
      | zero => exact List.nodup_nil
      | succ i => exact (h4 nd).1 i
    · cases i with
      | zero => cases ha
      | succ i =>
        cases j with
        | zero => cases hb
        | succ j => exact (h4 nd).2 i j a (fun z => hij (by rw [z])) ha hb
  | _, _, _, _, .rd (ds := ds) h r => by
    obtain ⟨fps, h1, h2, h3, h4⟩ := r.fps
    refine ⟨fun i => match i with | 0 => [] | i + 1 => fps i, fun i d e => ?_, fun i hi => ?_, fun i a ha => ?_, fun nd => ⟨fun i => ?_, fun i j a hij ha hb => ?_⟩⟩
    · cases i with
      | zero => cases e; exact ⟨_, _, rfl, rfl, h, rfl⟩
      | succ i => exact h1 i d e
    · cases i with
      | zero => exact absurd hi (Nat.not_succ_le_zero _)
      | succ i => exact h2 i (Nat.le_of_succ_le_succ hi)
    · cases i with
      | zero => cases ha
      | succ i => exact h3 i a ha
    · cases i with
      | zero => exact List.nodup_nil
      | succ i => exact (h4 nd).1 i
    · cases i with
      | zero => cases ha
      | succ i =>
        cases j with
        | zero => cases hb
        | succ j => exact (h4 nd).2 i j a (fun z => hij (by rw [z])) ha hb
  | _, _, _, _, .io (f := f) (ds := ds) (fp := fp) h r => by
    obtain ⟨fps, h1, h2, h3, h4⟩ := r.fps
    refine ⟨fun i => match i with | 0 => f | i + 1 => fps i, fun i d e => ?_, fun i hi => ?_, fun i a ha => ?_, fun nd => ⟨fun i => ?_, fun i j a hij ha hb => ?_⟩⟩
    · cases i with
      | zero => cases e; exact ⟨_, _, rfl, rfl, h⟩
      | succ i => exact h1 i d e
    · cases i with
      | zero => exact absurd hi (Nat.not_succ_le_zero _)
      | succ i => exact h2 i (Nat.le_of_succ_le_succ hi)
    · cases i with
      | zero => exact List.mem_append_left _ ha
      | succ i => exact List.mem_append_right _ (h3 i a ha)
    · have nd := List.nodup_append.mp nd
      cases i with
      | zero => exact nd.1
      | succ i => exact (h4 nd.2.1).1 i
    · have nd := List.nodup_append.mp nd
      cases i with
      | zero =>
        cases j with
        | zero => exact hij rfl
        | succ j => exact nd.2.2 a ha a (h3 j a hb) rfl
      | succ i =>
        cases j with
        | zero => exact nd.2.2 a hb a (h3 i a ha) rfl
        | succ j => exact (h4 nd.2.1).2 i j a (fun z => hij (by rw [z])) ha hb
theorem ioOf_at : ∀ (ps : List Pm) (i : Nat) (vs : List V), vs.length = ps.length → ∀ p ∈ ioOf ps i vs, i ≤ p.1 ∧ vs[p.1 - i]? = some p.2
  | [], _, _, _, _, h => nomatch h
  | q :: ps, i, [], hl, _, _ => by cases hl
  | q :: ps, i, v :: vs, hl, p, h => by
    have hl' : vs.length = ps.length := Nat.succ.inj hl
    have rc : p ∈ ioOf ps (i + 1) vs → i ≤ p.1 ∧ (v :: vs)[p.1 - i]? = some p.2 := fun h => by
      obtain ⟨h1, h2⟩ := ioOf_at ps (i + 1) vs hl' p h
      refine ⟨by omega, ?_⟩
      have e : p.1 - i = (p.1 - (i + 1)) + 1 := by omega
      rw [e]
      exact h2
    cases q with
    | sh => exact rc h
    | rd n => exact rc h
    | io n =>
      rcases List.mem_cons.1 h with rfl | h
      · exact ⟨Nat.le_refl _, by simp⟩
      · exact rc h
theorem ok_start {ps : List Pm} {ls : List Kd} {ds : List D} {vs : List V} {fp : List Addr} {N : List Str} (gf : Same G F) (fh : Same F H) (a : ArgL K mg G F H ps ds vs fp) (nd : fp.Nodup) (hf : ∀ x ∈ fp, F x = none) :
    Ok K mg (fcOf ps ls vs F) [] G F H (L2.start N vs) (envOf N.length ds) := by
  obtain ⟨fps, h1, h2, h3, h4⟩ := a.fps
  obtain ⟨l1, l2⟩ := a.len
  have at0 : ∀ (i : Nat) (d : D), (envOf N.length ds)[i]? = some (some d) → ds[i]? = some d := fun i d e => by
    unfold envOf at e
    by_cases hi : i < ds.length
    · rw [List.getElem?_append_left (by simpa using hi), List.getElem?_map] at e
      cases q : ds[i]? with
      | none => rw [q] at e; exact nomatch e
      | some z => rw [q] at e; cases e; rfl
    · rw [List.getElem?_append_right (by simpa using hi), List.getElem?_replicate] at e
      split at e <;> cases e
  have st0 : ∀ (i : Nat) (v : V), vs[i]? = some v → (L2.start N vs)[i]? = some (some v) := fun i v e => by
    unfold L2.start
    have hi := (List.getElem?_eq_some_iff.mp e).1
    rw [List.getElem?_append_left (by simpa using hi), List.getElem?_map, e]
    rfl
  refine ⟨gf, fh, .refl _, ?_, fun p hp => ?_, fps, fun i d e => ?_, fun i hi => ?_, fun i x hx => hf x (h3 i x hx), (h4 nd).1, (h4 nd).2, List.nodup_nil, fun _ h => (nomatch h), fun _ _ _ h => (nomatch h)⟩
  · unfold envOf L2.start
    rw [List.length_append, List.length_map, List.length_replicate, List.length_append, List.length_map, List.length_replicate, l1, l2]
  · obtain ⟨_, e⟩ := ioOf_at ps 0 vs l1 p hp
    exact st0 _ _ e
  · obtain ⟨v, p, e1, e2, s⟩ := h1 i d (at0 i d e)
    refine ⟨v, st0 i v e1, ?_⟩
    have ek : (fcOf ps ls vs F).kd i = kdP p := by
      unfold fcOf Fc.kd
      have hi := (List.getElem?_eq_some_iff.mp e2).1
      rw [List.getD_eq_getElem?_getD, List.getElem?_append_left (by simpa using hi), List.getElem?_map, e2]
      rfl
    rw [ek]
    exact s
  · by_cases hl : ds.length ≤ i
    · exact h2 i hl
    · exfalso
      apply hi
      have hl : i < ds.length := by omega
      refine ⟨ds[i], ?_⟩
      unfold envOf
      rw [List.getElem?_append_left (by simpa using hl), List.getElem?_map, List.getElem?_eq_getElem hl]
      rfl
/-- behind the body: what the caller sees -/
theorem outs_of {B : Hp} {c : Fc} {T : List Addr} {σ : L2.St} {ρ : PV.Env} {fps : Nat → List Addr} (hio0 : ∀ p ∈ c.io, σ[p.1]? = some (some p.2)) (h1 : ∀ (i : Nat) (d : D), ρ[i]? = some (some d) → ∃ v, σ[i]? = some (some v) ∧ Slt K mg (c.kd i) G B H d v (fps i))
    (h2 : ∀ i, ∀ a ∈ fps i, F a = none) (h3 : ∀ i, (fps i).Nodup) (h4 : ∀ i j a, i ≠ j → a ∈ fps i → a ∉ fps j) (h7 : ∀ i a, a ∈ fps i → a ∉ T) : ∀ (ps : List Pm) (i : Nat) (vs : List V) (os : List D), (∀ j p, ps[j]? = some p → c.kd (i + j) = kdP p) → (∀ p ∈ ioOf ps i vs, p ∈ c.io) → vs.length = ps.length → outsOf ps i ρ = some os →
    ∃ fo, OutL K mg G H ps vs os fo ∧ fo.Nodup ∧ (∀ a ∈ fo, F a = none) ∧ (∀ a ∈ fo, a ∉ T) ∧ ∀ a ∈ fo, ∃ j, i ≤ j ∧ a ∈ fps j := by
  intro ps
  induction ps with
  | nil =>
    intro i vs os _ _ hl e
    cases vs with
    | nil => cases e; exact ⟨[], .nil, List.nodup_nil, fun _ h => (nomatch h), fun _ h => (nomatch h), fun _ h => (nomatch h)⟩
    | cons v vs => cases hl
  | cons p ps ih =>
    intro i vs os hk hio hl e
    cases vs with
    | nil => cases hl
    | cons v vs =>
      have hk' : ∀ j q, ps[j]? = some q → c.kd (i + 1 + j) = kdP q := fun j q e => by
        have := hk (j + 1) q e
        rw [show i + 1 + j = i + (j + 1) from by omega]
        exact this
      have hl' : vs.length = ps.length := Nat.succ.inj hl
      cases p with
      | sh =>
        obtain ⟨fo, q1, q2, q3, q4, q5⟩ := ih (i + 1) vs os hk' hio hl' e
        exact ⟨fo, .sh q1, q2, q3, q4, fun a ha => let ⟨j, hj, r⟩ := q5 a ha; ⟨j, by omega, r⟩⟩
      | rd n =>
        obtain ⟨fo, q1, q2, q3, q4, q5⟩ := ih (i + 1) vs os hk' hio hl' e
        exact ⟨fo, .rd q1, q2, q3, q4, fun a ha => let ⟨j, hj, r⟩ := q5 a ha; ⟨j, by omega, r⟩⟩
      | io n =>
        simp only [outsOf] at e
        split at e
        · rename_i d os' e1 e2
          cases e
          obtain ⟨fo, q1, q2, q3, q4, q5⟩ := ih (i + 1) vs os' hk' (fun p hp => hio p (List.mem_cons_of_mem _ hp)) hl' e2
          obtain ⟨u, e3, s⟩ := h1 i d (look_eq.mp e1)
          have e4 := hio0 (i, v) (hio _ List.mem_cons_self)
          rw [e3] at e4
          cases e4
          have ek : c.kd i = .own n := hk 0 (.io n) rfl
          rw [ek] at s
          refine ⟨_, .io s q1, List.nodup_append.mpr ⟨h3 i, q2, fun a ha b hb z => ?_⟩, fun a ha => ?_, fun a ha => ?_, fun a ha => ?_⟩
          · subst z
            obtain ⟨j, hj, q⟩ := q5 a hb
            exact h4 i j a (by omega) ha q
          · exact (List.mem_append.mp ha).elim (h2 i a) (q3 a)
          · exact (List.mem_append.mp ha).elim (h7 i a) (q4 a)
          · rcases List.mem_append.1 ha with ha | ha
            · exact ⟨i, Nat.le_refl _, ha⟩
            · obtain ⟨j, hj, r⟩ := q5 a ha
              exact ⟨j, by omega, r⟩
        · cases e
theorem fc_kd {ps : List Pm} {ls : List Kd} {vs : List V} {B : Hp} (j : Nat) (p : Pm) (e : ps[j]? = some p)   : (fcOf ps ls vs B).kd (0 + j) = kdP p := by
  unfold fcOf Fc.kd
  have hi := (List.getElem?_eq_some_iff.mp e).1
  rw [Nat.zero_add, List.getD_eq_getElem?_getD, List.getElem?_append_left (by simpa using hi), List.getElem?_map, e]
  rfl
end
/-- what a rule for a def's text gives, once its body is walked -/
abbrev ByBody (P : Program) (w : World) (K : PySem.W.Frag) (mg : Str → Option Value) (base : Heap) (qual : Str) (st : Stmt) (f : Addr) (fd : FuncData) (N pn : List Str) (k : Nat) : Prop := ∀ {sp : Sp}, (∀ vs H Q E, sp vs H Q E → vs.length = pn.length) →
    (∀ (cdv : Value) (A : Around) (outer : List PySem.Env) (s : Shared) (H : Hp) (vs : List V) (Q : VK) (E : XK), Room k (A.deeper (envOfC qual (defScope st) s.heap.objs.size f cdv)) → sp vs H Q E →
      ∃ t, PSs (cxOf (L2.CX P w) P w K mg base N qual (defScope st) f cdv A outer s H E) (defBody st) t ∧ t { nx := fun _ H' => Q .non H', rt := Q } (start N vs) H) → FnOk P w K mg base (L2.CX P w) (k + 1) f fd pn sp
/-- THE RULE for a def: its body's derivation gives its promise -/
theorem fn_bodyG {P : Program} {w : World} {K : PySem.W.Frag} {mg : Str → Option Value} {base : Heap} {qual : Str} {st : Stmt} {f : Addr} {fd : FuncData} {N pn : List Str} {k rk : Nat} {ps : List Pm} {ls : List Kd} {s : SM} (F : ByBody P w K mg base qual st f fd N pn k) (hl : pn.length = ps.length)
    (hb : ∀ (cdv : Value) (A : Around) (outer : List PySem.Env) (s0 : Shared) (H : Hp) (E : XK) (vs : List V) (B : Hp), Room k (A.deeper (envOfC qual (defScope st) s0.heap.objs.size f cdv)) →
      Cok (cxOf (L2.CX P w) P w K mg base N qual (defScope st) f cdv A outer s0 H E) (fun cls d _ H => E cls d H) → Pso (cxOf (L2.CX P w) P w K mg base N qual (defScope st) f cdv A outer s0 H E) → SXs (cxOf (L2.CX P w) P w K mg base N qual (defScope st) f cdv A outer s0 H E) (fun cls d _ H => E cls d H) (fcOf ps ls vs B) rk (defBody st) s) :
    FnOk P w K mg base (L2.CX P w) (k + 1) f fd pn (spM K mg ps rk (runB N.length ps rk s)) := by
  refine F (fun vs H Q E h => ?_) fun cdv A outer s0 H vs Q E hr h => ?_
  · obtain ⟨G, F', ds, fp, _, _, a, _⟩ := h
    rw [hl]
    exact a.len.1
  · obtain ⟨G, F', ds, fp, gf, fh, a, nd, hf, hw⟩ := h
    obtain ⟨t, h1, h2⟩ := hb cdv A outer s0 H E vs F' hr ⟨takes_of rfl rfl rfl rfl, rfl⟩ (passes_of rfl)
    refine ⟨t, h1, h2 _ _ _ G F' H (ok_start (N := N) gf fh a nd hf) ?_⟩
    have fin : ∀ (d : D) (ρ : PV.Env) (σ' : L2.St) (v : V) (G1 F1 H1 : Hp) (fr : List Addr), Wp (endR ps d ρ) (fun r => ∀ v G' F1 H' fr fo, Ext G F' G' F1 → Same G' F1 → Same F1 H' → Own K mg G' H' rk r.1 v fr → OutL K mg G' H' ps vs r.2 fo → (fr ++ fo).Nodup → (∀ a ∈ fr ++ fo, F1 a = none) → Q v H')
        (fun x => ∀ cls dd G' F1 H', Ext G F' G' F1 → Same G' F1 → Same F1 H' → XRep K mg G' H' x cls dd → E cls dd H') → Ext G F' G1 F1 → Ok K mg (fcOf ps ls vs F') fr G1 F1 H1 σ' ρ → Own K mg G1 H1 rk d v fr → Q v H1 := by
      intro d ρ σ' v G1 F1 H1 fr hw x1 o1 ow
      unfold endR at hw
      split at hw
      · rename_i os e
        obtain ⟨fps, q1, q0, q2, q3, q4, q5, q6, q7⟩ := o1.slt
        obtain ⟨fo, r1, r2, r3, r4, _⟩ := outs_of (T := fr) o1.io q1 q2 q3 q4 q7 ps 0 vs os (fun j p e => fc_kd j p e) (fun p hp => hp) a.len.1 e
        exact hw v G1 F1 H1 fr fo x1 o1.gf o1.fh ow r1 (List.nodup_append.mpr ⟨q5, r2, fun b hb b' hb' z => r4 b' hb' (by rw [← z]; exact hb)⟩) fun b hb => (List.mem_append.mp hb).elim (q6 b) (r3 b)
      · exact hw.elim
    unfold runB at hw
    cases e : s (envOf N.length ds) with
    | nx ρ =>
      rw [e] at hw
      intro σ' G1 F1 H1 x1 o1 hl
      dsimp only at hw
      split at hw
      · rename_i hz
        exact fin .non ρ σ' .non G1 F1 H1 [] hw x1 o1 (by rw [hz]; exact ⟨.non, rfl⟩)
      · exact hw.elim
    | rt d ρ =>
      rw [e] at hw
      intro σ' v G1 F1 H1 fr x1 o1 ow
      exact fin d ρ σ' v G1 F1 H1 fr hw x1 o1 ow
    | exc x =>
      rw [e] at hw
      intro σ' hs cls dd G1 F1 H1 x1 g1 f1 r
      exact hw cls dd G1 F1 H1 x1 g1 f1 r
    | fail =>
      rw [e] at hw
      exact hw.elim
/-- for a def without defaults -/
theorem fn_body {P : Program} {w : World} {K : PySem.W.Frag} {mg : Str → Option Value} {base : Heap} {x qual : Str} {st : Stmt} {f : Addr} {fd : FuncData} {N pn : List Str} {k rk : Nat} {ps : List Pm} {ls : List Kd} {s : SM} (F : Fun K x qual st f fd) (S : FnScope N pn (defScope st)) (hl : pn.length = ps.length)
    (hb : ∀ (cdv : Value) (A : Around) (outer : List PySem.Env) (s0 : Shared) (H : Hp) (E : XK) (vs : List V) (B : Hp), Room k (A.deeper (envOfC qual (defScope st) s0.heap.objs.size f cdv)) →
      Cok (cxOf (L2.CX P w) P w K mg base N qual (defScope st) f cdv A outer s0 H E) (fun cls d _ H => E cls d H) → Pso (cxOf (L2.CX P w) P w K mg base N qual (defScope st) f cdv A outer s0 H E) → SXs (cxOf (L2.CX P w) P w K mg base N qual (defScope st) f cdv A outer s0 H E) (fun cls d _ H => E cls d H) (fcOf ps ls vs B) rk (defBody st) s) :
    FnOk P w K mg base (L2.CX P w) (k + 1) f fd pn (spM K mg ps rk (runB N.length ps rk s)) := 
  fn_bodyG (fun len body => F.okX S len body) hl hb
theorem FnOk.plain {P : Program} {w : World} {K : PySem.W.Frag} {mg : Str → Option Value} {base : Heap} {f : Addr} {fd : FuncData} {n k rk : Nat} {pn : List Str} {ps : List Pm} {s : SM} (h : FnOk P w K mg base (L2.CX P w) k f fd pn (spM K mg ps rk (runB n ps rk s))) (hn : noIoP ps = true := by rfl) :
    FnOk P w K mg base (L2.CX P w) k f fd pn (spM K mg ps rk (m0 (runF n rk s))) := by rw [runB_F hn] at h; exact h
end
end PV

set_option Elab.async false
set_option linter.all false
set_option maxRecDepth 100000
set_option maxHeartbeats 0
namespace PV
noncomputable section
open PySem PySem.Spec
open PyProof.Rows L2

/-! ## 14. the call of a def -/
def mdR : Nat → Md
  | 0 => .rd 0
  | n + 1 => .own (n + 1)
def fitA : List Pm → List Am → Bool
  | [], [] => true
  | .sh :: ps, .val (.rd 0) :: ms => fitA ps ms
  | .rd n :: ps, .val (.rd m) :: ms => decide (n = m) && fitA ps ms
  | _, _ => false
def M.lift {α β : Type} (m : α → R β) (fa : M α) : M β := fa.bind fun a ρ => match m a with
  | .ok d => .ok (d, ρ)
  | .exc x => .exc x
  | .fail => .fail
def eCall (m : List D → R D) (fa : M (List D)) : M D := M.lift m fa
section
variable {K : PySem.W.Frag} {mg : Str → Option Value} {G F H : Hp} {σ : L2.St}
theorem args_val : ∀ {ps : List Pm} {ms : List Am} {ds : List D} {vs : List V}, fitA ps ms = true → ValL K mg G H σ ms ds vs → ArgL K mg G H H ps ds vs []
  | [], [], _, _, _, .nil => .nil
  | .sh :: ps, .val (.rd 0) :: ms, _, _, e, .val h r => .sh h.1 (args_val (ps := ps) (ms := ms) e r)
  | .rd n :: ps, .val (.rd m) :: ms, _, _, e, .val h r => by
    have e' : (decide (n = m) && fitA ps ms) = true := e
    rw [Bool.and_eq_true] at e'
    have z := of_decide_eq_true e'.1
    subst z
    exact .rd h.1 (args_val e'.2 r)
  | .io _ :: _, _ :: _, _, _, e, _ => by cases e
  | .io _ :: _, [], _, _, e, _ => by cases e
  | .sh :: _, [], _, _, e, _ => by cases e
  | .rd _ :: _, [], _, _, e, _ => by cases e
  | [], _ :: _, _, _, e, _ => by cases e
  | .sh :: _, .io _ :: _, _, _, e, _ => by cases e
  | .sh :: _, .val (.own _) :: _, _, _, e, _ => by cases e
  | .sh :: _, .val (.rd (_ + 1)) :: _, _, _, e, _ => by cases e
  | .rd _ :: _, .io _ :: _, _, _, e, _ => by cases e
  | .rd _ :: _, .val (.own _) :: _, _, _, e, _ => by cases e
theorem outs_nil : ∀ {ps : List Pm} {vs : List V} {fo : List Addr}, OutL K mg G H ps vs [] fo → fo = []
  | _, _, _, .nil => rfl
  | _, _, _, .sh r => outs_nil r
  | _, _, _, .rd r => outs_nil r
/-- what is kept, and what is newly shared -/
def glue (F G : Hp) : Hp := fun a => match F a with
  | some o => some o
  | none => G a
theorem glue_l {F G : Hp} : Same F (glue F G) := fun a o e => by unfold glue; rw [e]
theorem glue_cases {F G : Hp} {a : Addr} {o : HO} (e : glue F G a = some o) : F a = some o ∨ (F a = none ∧ G a = some o) := by
  unfold glue at e
  cases q : F a with
  | some u => rw [q] at e; exact .inl e
  | none => rw [q] at e; exact .inr ⟨rfl, e⟩
theorem glue_none {F G : Hp} {a : Addr} (h1 : F a = none) (h2 : G a = none) : glue F G a = none := by unfold glue; rw [h1]; exact h2
/-- behind a call that changes nothing of ours -/
theorem Ok.called {c : Fc} {ρ : PV.Env} {G' F' H' : Hp} {fr : List Addr} {rk : Nat} {d : D} {v : V} (o : Ok K mg c [] G F H σ ρ) (x : Ext G H G' F') (gf : Same G' F') (fh : Same F' H') (ow : Own K mg G' H' rk d v fr) (nd : fr.Nodup) (hf : ∀ a ∈ fr, F' a = none) :
    Ext G F G' (glue F G') ∧ Ok K mg c fr G' (glue F G') H' σ ρ ∧ Same H H' := by
  have hh : Same H H' := x.f.trans fh
  have gs : Same G' (glue F G') := fun a u e => by
    unfold glue
    cases q : F a with
    | none => exact e
    | some u' =>
      have e1 := hh a u' (o.fh a u' q)
      have e2 := fh a u (gf a u e)
      rw [e1] at e2
      exact e2
  have gh : Same (glue F G') H' := fun a u e => by
    rcases glue_cases e with q | ⟨_, q⟩
    · exact hh a u (o.fh a u q)
    · exact fh a u (gf a u q)
  have ex : Ext G F G' (glue F G') := ⟨x.g, glue_l, fun a e1 e2 => x.n a e1 (o.fh.nn e2)⟩
  have o1 := o.grow ex gs gh hh (fun a e1 e2 => by
    cases q : glue F G' a with
    | none => exact absurd q e2
    | some u =>
      rcases glue_cases q with w | ⟨_, w⟩
      · rw [e1] at w; cases w
      · cases z : H a with
        | none => rfl
        | some t =>
          have hG : G a = none := by
            cases y : G a with
            | none => rfl
            | some s => rw [o.gf a s y] at e1; cases e1
          rw [x.n a hG (by rw [z]; intro; contradiction)] at w
          cases w) (fun _ h => (nomatch h))
  obtain ⟨fps, h1, h0, h2, h3, h4, _, _, _⟩ := o1.slt
  obtain ⟨fps0, k1, k0, k2, k3, k4, _, _, _⟩ := o.slt
  refine ⟨ex, ⟨gs, gh, o.bf.trans ex.f, o.len, o.io, fps0, fun i e he => ?_, k0, fun i a ha => ?_, k3, k4, nd, fun a ha => ?_, fun i a ha hb => ?_⟩, hh⟩
  · obtain ⟨u, e1, s⟩ := k1 i e he
    exact ⟨u, e1, s.frame ex fun a _ t q => hh a t q⟩
  · have hH : H a ≠ none := by
      by_cases z : ∃ e, ρ[i]? = some (some e)
      · obtain ⟨e, he⟩ := z
        obtain ⟨u, _, s⟩ := k1 i e he
        exact s.dom a ha
      · rw [k0 i z] at ha; cases ha
    have hG : G a = none := o.gf.free (k2 i a ha)
    exact glue_none (k2 i a ha) (x.n a hG hH)
  · have hF' := hf a ha
    refine glue_none ?_ (gf.free hF')
    cases q : F a with
    | none => rfl
    | some u =>
      have := x.f a u (o.fh a u q)
      rw [hF'] at this
      cases this
  · have hH : H a ≠ none := by
      by_cases z : ∃ e, ρ[i]? = some (some e)
      · obtain ⟨e, he⟩ := z
        obtain ⟨u, _, s⟩ := k1 i e he
        exact s.dom a ha
      · rw [k0 i z] at ha; cases ha
    exact (x.f.nn hH) (hf a hb)
end
section
variable {X : Cx} {W : WX} {c : Fc}
theorem ex_call {k rk : Nat} {f : Addr} {fd : FuncData} {pn : List Str} {ps : List Pm} {m : List D → R D} {p : Bool} {ms : List Am} {x : Str} {pp pos : Pos} {e : Expr} {es : List Expr} {fa : M (List D)} (ok : Cok X W)
    (F : FnOk X.prog X.w X.K X.mg X.base (L2.CX X.prog X.w) k f fd pn (spM X.K X.mg ps rk (m0 m))) (hr : Room k X.A) (hm : X.mg x = some (.ref f)) (hk : PySem.W.keepIn X.K (.ref f) = true) (hb : Binds X.K fd pn []) (ha : AX X W c p ms (e :: es) fa) (hfit : fitA ps ms = true := by rfl)
    (hg : Gl X x := by rfl) (hdb : (x == ("__debug__" : Str)) = false := by decide) (he : starEach (e :: es) X.env = (false, eval e X.env) :: starEach es X.env := by rfl) (hpl : (backTo pos (starEach es X.env)).any (·.1) = false := by rfl) :
    EX X W c p (mdR rk) (.Call (.Name x pp) (e :: es) [] pos) (eCall m fa) := by
  obtain ⟨ta, a1, a2⟩ := ha
  refine ⟨_, pe_callS F hr hg hm hk hb (fun σ => passAt ok.tk σ) a1 hdb he hpl, fun σ ρ G F0 H Q o w => ?_⟩
  refine a2 σ ρ G F0 H _ o ((Wp.ofBindM w).imp (fun r hr => ?_) fun _ z => z)
  intro vs G1 F1 H1 x1 o1 q1 hp1
  refine ⟨G1, H1, r.1, [], o1.gh, .refl _, args_val hfit q1, List.nodup_nil, fun _ h => (nomatch h), ?_⟩
  unfold m0
  cases em : m r.1 with
  | ok d =>
    rw [em] at hr
    intro v G2 F2 H2 fr fo x2 gf2 fh2 ow out nd hf
    have efo := outs_nil out
    subst efo
    rw [List.append_nil] at nd hf
    obtain ⟨x3, o3, hh⟩ := o1.called x2 gf2 fh2 ow nd hf
    have hv : Val X.K X.mg (mdR rk) G2 H2 d v fr := by
      cases rk with
      | zero => exact ⟨ow.1, ow.2⟩
      | succ n => exact ow
    exact hr v G2 _ H2 fr (x1.trans x3) o3 hv fun hp => ⟨(hp1 hp).1, (hp1 hp).2.trans hh⟩
  | exc x =>
    rw [em] at hr
    intro cls dd G2 F2 H2 x2 gf2 fh2 xr
    have hr : Nx X.K X.mg W σ G F0 x := hr
    have gs : Same G2 (glue F1 G2) := fun a u e => by
      unfold glue
      cases q : F1 a with
      | none => exact e
      | some u' =>
        have e1 := (x2.f.trans fh2) a u' (o1.fh a u' q)
        have e2 := fh2 a u (gf2 a u e)
        rw [e1] at e2
        exact e2
    refine hr cls dd G2 (glue F1 G2) H2 (x1.trans ⟨x2.g, glue_l, fun a e1 e2 => x2.n a e1 (o1.fh.nn e2)⟩) gs (fun a u e => ?_) xr
    rcases glue_cases e with q | ⟨_, q⟩
    · exact (x2.f.trans fh2) a u (o1.fh a u q)
    · exact fh2 a u (gf2 a u q)
  | fail => rw [em] at hr; exact hr.elim
end

/-! ### a call that changes the object of one slot -/
def fit0 : List Pm → List Am → Bool
  | [], [] => true
  | .sh :: ps, .val (.rd 0) :: ms => fit0 ps ms
  | _, _ => false
def fit1 (n i : Nat) : List Pm → List Am → Bool
  | .sh :: ps, .val (.rd 0) :: ms => fit1 n i ps ms
  | .io m :: ps, .io j :: ms => decide (m = n) && (decide (j = i) && fit0 ps ms)
  | _, _ => false
/-- the slot's value put in its place -/
def fill1 (x : D) : List Am → List D → List D
  | .io _ :: ms, _ :: ds => x :: fill1 x ms ds
  | _ :: ms, d :: ds => d :: fill1 x ms ds
  | _, _ => []
def eCallIO (i : Nat) (ms : List Am) (m : List D → R (D × List D)) (fa : M (List D)) : M D := fa.bind fun ds ρ => match look ρ i with
  | some x => match m (fill1 x ms ds) with
    | .ok (d, [y]) => .ok (d, put ρ i (some y))
    | .ok _ => .fail
    | .exc e => .exc e
    | .fail => .fail
  | none => .fail
theorem eCallIO_def (i : Nat) (ms : List Am) (m : List D → R (D × List D)) (fa : M (List D)) : eCallIO i ms m fa = fa.bind fun ds ρ => match look ρ i with
  | some x => match m (fill1 x ms ds) with
    | .ok (d, [y]) => .ok (d, ρ.set i (some y))
    | .ok _ => .fail
    | .exc e => .exc e
    | .fail => .fail
  | none => .fail := by
  unfold eCallIO
  simp only [put_eq]
section
variable {K : PySem.W.Frag} {mg : Str → Option Value} {G F H : Hp} {σ : L2.St}
theorem args0 : ∀ {ps : List Pm} {ms : List Am} {x : D} {ds : List D} {vs : List V}, fit0 ps ms = true → ValL K mg G H σ ms ds vs → ArgL K mg G F H ps (fill1 x ms ds) vs []
  | [], [], _, _, _, _, .nil => .nil
  | .sh :: ps, .val (.rd 0) :: ms, _, _, _, e, .val h r => .sh h.1 (args0 (ps := ps) (ms := ms) e r)
  | .io _ :: _, _ :: _, _, _, _, e, _ => by cases e
  | .rd _ :: _, _ :: _, _, _, _, e, _ => by cases e
  | .io _ :: _, [], _, _, _, e, _ => by cases e
  | .sh :: _, [], _, _, _, e, _ => by cases e
  | .rd _ :: _, [], _, _, _, e, _ => by cases e
  | [], _ :: _, _, _, _, e, _ => by cases e
  | .sh :: _, .io _ :: _, _, _, _, e, _ => by cases e
  | .sh :: _, .val (.own _) :: _, _, _, _, e, _ => by cases e
  | .sh :: _, .val (.rd (_ + 1)) :: _, _, _, _, e, _ => by cases e
theorem args1 {n i : Nat} {x : D} {u : V} {fp : List Addr} (hs : σ[i]? = some (some u)) (ow : Own K mg G H n x u fp) : ∀ {ps : List Pm} {ms : List Am} {ds : List D} {vs : List V}, fit1 n i ps ms = true → ValL K mg G H σ ms ds vs → ArgL K mg G F H ps (fill1 x ms ds) vs fp
  | .sh :: ps, .val (.rd 0) :: ms, _, _, e, .val h r => .sh h.1 (args1 hs ow (ps := ps) (ms := ms) e r)
  | .io m :: ps, .io j :: ms, _, _, e, .io (v := v) h r => by
    have e : (decide (m = n) && (decide (j = i) && fit0 ps ms)) = true := e
    rw [Bool.and_eq_true, Bool.and_eq_true] at e
    have e1 := of_decide_eq_true e.1
    have e2 := of_decide_eq_true e.2.1
    subst e1
    subst e2
    rw [hs] at h
    cases h
    have := ArgL.io (F := F) ow (args0 (F := F) (x := x) e.2.2 r)
    rw [List.append_nil] at this
    exact this
  | [], _, _, _, e, _ => by cases e
  | .sh :: _, [], _, _, e, _ => by cases e
  | .rd _ :: _, _, _, _, e, _ => by cases e
  | .io _ :: _, [], _, _, e, _ => by cases e
  | .io _ :: _, .val _ :: _, _, _, e, _ => by cases e
  | .sh :: _, .io _ :: _, _, _, e, _ => by cases e
  | .sh :: _, .val (.own _) :: _, _, _, e, _ => by cases e
  | .sh :: _, .val (.rd (_ + 1)) :: _, _, _, e, _ => by cases e
theorem outs0 : ∀ {ps : List Pm} {ms : List Am} {vs : List V} {os : List D} {fo : List Addr}, fit0 ps ms = true → OutL K mg G H ps vs os fo → os = [] ∧ fo = []
  | [], [], _, _, _, _, .nil => ⟨rfl, rfl⟩
  | .sh :: ps, .val (.rd 0) :: ms, _, _, _, e, .sh r => outs0 (ps := ps) (ms := ms) e r
  | .io _ :: _, _ :: _, _, _, _, e, _ => by cases e
  | .rd _ :: _, _ :: _, _, _, _, e, _ => by cases e
  | .io _ :: _, [], _, _, _, e, _ => by cases e
  | .sh :: _, [], _, _, _, e, _ => by cases e
  | .rd _ :: _, [], _, _, _, e, _ => by cases e
  | [], _ :: _, _, _, _, e, _ => by cases e
  | .sh :: _, .io _ :: _, _, _, _, e, _ => by cases e
  | .sh :: _, .val (.own _) :: _, _, _, _, e, _ => by cases e
  | .sh :: _, .val (.rd (_ + 1)) :: _, _, _, _, e, _ => by cases e
theorem outs1 {n i : Nat} {u : V} (hs : σ[i]? = some (some u)) : ∀ {ps : List Pm} {ms : List Am} {ds : List D} {vs : List V} {os : List D} {fo : List Addr} {G0 H0 : Hp}, fit1 n i ps ms = true → ValL K mg G0 H0 σ ms ds vs → OutL K mg G H ps vs os fo → ∃ y, os = [y] ∧ Own K mg G H n y u fo
  | .sh :: ps, .val (.rd 0) :: ms, _, _, _, _, _, _, e, .val h r, .sh q => outs1 hs (ps := ps) (ms := ms) e r q
  | .io m :: ps, .io j :: ms, _, _, _, _, _, _, e, .io (v := v) h r, .io ow q => by
    have e : (decide (m = n) && (decide (j = i) && fit0 ps ms)) = true := e
    rw [Bool.and_eq_true, Bool.and_eq_true] at e
    have e1 := of_decide_eq_true e.1
    have e2 := of_decide_eq_true e.2.1
    subst e1
    subst e2
    rw [hs] at h
    cases h
    obtain ⟨rfl, rfl⟩ := outs0 e.2.2 q
    rw [List.append_nil]
    exact ⟨_, rfl, ow⟩
  | [], _, _, _, _, _, _, _, e, _, _ => by cases e
  | .sh :: _, [], _, _, _, _, _, _, e, _, _ => by cases e
  | .rd _ :: _, _, _, _, _, _, _, _, e, _, _ => by cases e
  | .io _ :: _, [], _, _, _, _, _, _, e, _, _ => by cases e
  | .io _ :: _, .val _ :: _, _, _, _, _, _, _, e, _, _ => by cases e
  | .sh :: _, .io _ :: _, _, _, _, _, _, _, e, _, _ => by cases e
  | .sh :: _, .val (.own _) :: _, _, _, _, _, _, _, e, _, _ => by cases e
  | .sh :: _, .val (.rd (_ + 1)) :: _, _, _, _, _, _, _, e, _, _ => by cases e
/-- all but these objects -/
def less (H : Hp) (fp : List Addr) : Hp := fun a => if a ∈ fp then none else H a
theorem less_same {fp : List Addr} : Same (less H fp) H := fun a o e => by
  unfold less at e
  split at e
  · cases e
  · exact e
theorem less_of {fp : List Addr} (s : Same F H) (h : ∀ a ∈ fp, F a = none) : Same F (less H fp) := fun a o e => by
  unfold less
  rw [if_neg (fun z => by rw [h a z] at e; cases e)]
  exact s a o e
end
section
variable {X : Cx} {W : WX} {c : Fc}
theorem ex_callIO (i : Nat) {n : Nat} {k rk : Nat} {f : Addr} {fd : FuncData} {pn : List Str} {ps : List Pm} {m : List D → R (D × List D)} {p : Bool} {ms : List Am} {x : Str} {pp pos : Pos} {e : Expr} {es : List Expr} {fa : M (List D)} (ok : Cok X W)
    (F : FnOk X.prog X.w X.K X.mg X.base (L2.CX X.prog X.w) k f fd pn (spM X.K X.mg ps rk m)) (hr : Room k X.A) (hm : X.mg x = some (.ref f)) (hk : PySem.W.keepIn X.K (.ref f) = true) (hb : Binds X.K fd pn []) (ha : AX X W c p ms (e :: es) fa) (hfit : fit1 n i ps ms = true := by rfl) (hkd : c.kd i = .own n := by rfl)
    (hg : Gl X x := by rfl) (hdb : (x == ("__debug__" : Str)) = false := by decide) (he : starEach (e :: es) X.env = (false, eval e X.env) :: starEach es X.env := by rfl) (hpl : (backTo pos (starEach es X.env)).any (·.1) = false := by rfl) :
    EX X W c false (mdR rk) (.Call (.Name x pp) (e :: es) [] pos) (eCallIO i ms m fa) := by
  rw [eCallIO_def]
  obtain ⟨ta, a1, a2⟩ := ha
  refine ⟨_, pe_callS F hr hg hm hk hb (fun σ => passAt ok.tk σ) a1 hdb he hpl, fun σ ρ G F0 H Q o w => ?_⟩
  refine a2 σ ρ G F0 H _ o ((Wp.ofBindM w).imp (fun r hr => ?_) fun _ z => z)
  intro vs G1 F1 H1 x1 o1 q1 hp1
  split at hr
  · rename_i x0 ex0
    obtain ⟨fps, h1, h0, h2, h3, h4, _, _, _⟩ := o1.slt
    obtain ⟨u, hs, sl⟩ := h1 i x0 (look_eq.mp ex0)
    rw [hkd] at sl
    have sl : Own X.K X.mg G1 H1 n x0 u (fps i) := sl
    have kp : Same F1 (less H1 (fps i)) := less_of o1.fh (h2 i)
    refine ⟨G1, less H1 (fps i), fill1 x0 ms r.1, fps i, o1.gf.trans kp, less_same, args1 hs sl hfit q1, h3 i, fun a ha => by unfold less; rw [if_pos ha], ?_⟩
    cases em : m (fill1 x0 ms r.1) with
    | ok d =>
      rw [em] at hr
      intro v G2 F2 H2 fr fo x2 gf2 fh2 ow out nd hf
      obtain ⟨y, ey, oy⟩ := outs1 hs hfit q1 out
      obtain ⟨d1, os⟩ := d
      have ey : os = [y] := ey
      subst ey
      have hr : Wp (R.ok (d1, r.2.set i (some y))) _ _ := hr
      -- what stood, but for the slot's objects, stands
      have hh : ∀ a o, a ∉ fps i → H1 a = some o → H2 a = some o := fun a o na e => fh2 a o (x2.f a o (by unfold less; rw [if_neg na]; exact e))
      have gs : Same G2 (glue F1 G2) := fun a u e => by
        unfold glue
        cases q : F1 a with
        | none => exact e
        | some u' =>
          have e1 := (x2.f.trans fh2) a u' (kp a u' q)
          have e2 := fh2 a u (gf2 a u e)
          rw [e1] at e2
          exact e2
      have gh : Same (glue F1 G2) H2 := fun a u e => by
        rcases glue_cases e with q | ⟨_, q⟩
        · exact (x2.f.trans fh2) a u (kp a u q)
        · exact fh2 a u (gf2 a u q)
      have ex : Ext G1 F1 G2 (glue F1 G2) := ⟨x2.g, glue_l, fun a e1 e2 => x2.n a e1 (kp.nn e2)⟩
      have hv : Val X.K X.mg (mdR rk) G2 H2 d1 v fr := by
        cases rk with
        | zero => exact ⟨ow.1, ow.2⟩
        | succ n => exact ow
      have ndd := List.nodup_append.mp nd
      have live : ∀ j a, a ∈ fps j → H1 a ≠ none := fun j a ha => by
        by_cases z : ∃ e, r.2[j]? = some (some e)
        · obtain ⟨e, he⟩ := z
          obtain ⟨u, _, s⟩ := h1 j e he
          exact s.dom a ha
        · rw [h0 j z] at ha; cases ha
      have far : ∀ j a, j ≠ i → a ∈ fps j → less H1 (fps i) a ≠ none := fun j a hj ha => by
        unfold less
        rw [if_neg (h4 j i a hj ha)]
        exact live j a ha
      have newF : ∀ a, F2 a = none → glue F1 G2 a = none := fun a ha => by
        refine glue_none ?_ (gf2.free ha)
        cases q : F1 a with
        | none => rfl
        | some u =>
          have := x2.f a u (kp a u q)
          rw [ha] at this
          cases this
      have hil : i < r.2.length := (List.getElem?_eq_some_iff.mp (look_eq.mp ex0)).1
      refine hr v G2 (glue F1 G2) H2 fr (x1.trans ex) ⟨gs, gh, o1.bf.trans ex.f, by rw [List.length_set]; exact o1.len, o1.io, fun j => if j = i then fo else fps j, fun j e he => ?_, fun j hj => ?_, fun j a ha => ?_, fun j => ?_, fun j l a hjl ha hb => ?_, ndd.1, fun a ha => newF a (hf a (List.mem_append_left _ ha)), fun j a ha hb => ?_⟩ hv fun z => nomatch z
      · by_cases z : j = i
        · subst z
          rw [List.getElem?_set_self hil] at he
          cases he
          refine ⟨u, hs, ?_⟩
          dsimp only
          rw [if_pos rfl, hkd]
          exact oy
        · rw [List.getElem?_set_ne (Ne.symm z)] at he
          obtain ⟨w', e1, s⟩ := h1 j e he
          refine ⟨w', e1, ?_⟩
          dsimp only
          rw [if_neg z]
          exact s.frame ex fun a ha t q => hh a t (h4 j i a z ha) q
      · dsimp only
        by_cases z : j = i
        · exfalso
          apply hj
          exact ⟨y, by rw [z, List.getElem?_set_self hil]⟩
        · rw [if_neg z]
          refine h0 j fun ⟨e, he⟩ => hj ⟨e, ?_⟩
          rw [List.getElem?_set_ne (Ne.symm z)]
          exact he
      · dsimp only at ha
        split at ha
        · exact newF a (hf a (List.mem_append_right _ ha))
        · rename_i z
          refine glue_none (h2 j a ha) (x2.n a (o1.gf.free (h2 j a ha)) (far j a z ha))
      · dsimp only
        split
        · exact ndd.2.1
        · exact h3 j
      · dsimp only at ha hb
        split at ha
        · rename_i z
          split at hb
          · rename_i z2
            exact hjl (z.trans z2.symm)
          · rename_i z2
            have := hf a (List.mem_append_right _ ha)
            exact x2.f.nn (far l a z2 hb) this
        · rename_i z
          split at hb
          · have := hf a (List.mem_append_right _ hb)
            exact x2.f.nn (far j a z ha) this
          · exact h4 j l a hjl ha hb
      · dsimp only at ha
        split at ha
        · exact ndd.2.2 a hb a ha rfl
        · rename_i z
          have := hf a (List.mem_append_left _ hb)
          exact x2.f.nn (far j a z ha) this
    | exc x =>
      rw [em] at hr
      intro cls dd G2 F2 H2 x2 gf2 fh2 xr
      have hr : Nx X.K X.mg W σ G F0 x := hr
      have gs : Same G2 (glue F1 G2) := fun a u e => by
        unfold glue
        cases q : F1 a with
        | none => exact e
        | some u' =>
          have e1 := (x2.f.trans fh2) a u' (kp a u' q)
          have e2 := fh2 a u (gf2 a u e)
          rw [e1] at e2
          exact e2
      refine hr cls dd G2 (glue F1 G2) H2 (x1.trans ⟨x2.g, glue_l, fun a e1 e2 => x2.n a e1 (kp.nn e2)⟩) gs (fun a u e => ?_) xr
      rcases glue_cases e with q | ⟨_, q⟩
      · exact (x2.f.trans fh2) a u (kp a u q)
      · exact fh2 a u (gf2 a u q)
    | fail => rw [em] at hr; exact hr.elim
  · exact hr.elim
end
end
end PV

set_option Elab.async false
set_option linter.all false
set_option maxRecDepth 100000
set_option maxHeartbeats 0
namespace PV
noncomputable section
open PySem PySem.Spec
open PyProof.Rows L2

/-! ## 15. loops over what is walked -/
def wipeG {α : Type} (l : List (Option α)) : List Nat → List (Option α)
  | [] => l
  | v :: vs => put (wipeG l vs) v none
theorem wipeG_cons {α : Type} (l : List (Option α)) (v : Nat) (vs : List Nat) : wipeG l (v :: vs) = (wipeG l vs).set v none := put_eq _ _ _
theorem wipe_eq (σ : L2.St) : ∀ vs : List Nat, wipe σ vs = wipeG σ vs
  | [] => rfl
  | v :: vs => by unfold wipe; rw [wipeG_cons, wipe_eq σ vs]
theorem wipeG_len {α : Type} (l : List (Option α)) : ∀ vs : List Nat, (wipeG l vs).length = l.length
  | [] => rfl
  | v :: vs => by rw [wipeG_cons, List.length_set, wipeG_len l vs]
theorem wipeG_at {α : Type} {l : List (Option α)} {j : Nat} : ∀ {vs : List Nat}, j ∉ vs → (wipeG l vs)[j]? = l[j]?
  | [], _ => rfl
  | v :: vs, h => by
    rw [wipeG_cons]
    rw [List.getElem?_set_ne (fun e => h (by rw [e]; exact List.mem_cons_self))]
    exact wipeG_at fun z => h (List.mem_cons_of_mem _ z)
theorem wipeG_in {α : Type} {l : List (Option α)} {j : Nat} : ∀ {vs : List Nat}, j ∈ vs → (wipeG l vs)[j]? = if j < l.length then some none else none
  | [], h => nomatch h
  | v :: vs, h => by
    rw [wipeG_cons]
    by_cases e : v = j
    · subst e
      by_cases hl : v < l.length
      · rw [if_pos hl, List.getElem?_set_self (by rw [wipeG_len]; exact hl)]
      · rw [if_neg hl, List.getElem?_eq_none (by rw [List.length_set, wipeG_len]; omega)]
    · rw [List.getElem?_set_ne e]
      exact wipeG_in ((List.mem_cons.mp h).resolve_left fun z => e z.symm)
theorem wipeG_set {α : Type} {l : List (Option α)} {i : Nat} {x : Option α} {vs : List Nat} (h : i ∈ vs) : wipeG (l.set i x) vs = wipeG l vs := List.ext_getElem? fun j => by
  by_cases hj : j ∈ vs
  · rw [wipeG_in hj, wipeG_in hj, List.length_set]
  · rw [wipeG_at hj, wipeG_at hj, List.getElem?_set_ne fun e => hj (by rw [← e]; exact h)]
theorem wipeG_sub {α : Type} {l : List (Option α)} {us vs : List Nat} (h : ∀ i ∈ us, i ∈ vs) : wipeG (wipeG l us) vs = wipeG l vs := List.ext_getElem? fun j => by
  by_cases hj : j ∈ vs
  · rw [wipeG_in hj, wipeG_in hj, wipeG_len]
  · rw [wipeG_at hj, wipeG_at hj, wipeG_at fun z => hj (h j z)]
section
variable {K : PySem.W.Frag} {mg : Str → Option Value} {c : Fc} {T fp : List Addr} {G F H G' F' H' : Hp} {σ : L2.St} {ρ : PV.Env}
/-- own objects kept as they stand for a while -/
theorem Ok.pin (o : Ok K mg c (fp ++ T) G F H σ ρ) : Ok K mg c T G (join F H fp) H σ ρ ∧ Ext G F G (join F H fp) := by
  obtain ⟨fps, h1, h0, h2, h3, h4, h5, h6, h7⟩ := o.slt
  have hf : ∀ a ∈ fp, F a = none := fun a ha => h6 a (List.mem_append_left _ ha)
  have x : Ext G F G (join F H fp) := ⟨.refl _, join_same hf, fun _ h _ => h⟩
  refine ⟨⟨o.gf.trans x.f, join_sub o.fh, o.bf.trans x.f, o.len, o.io, fps, h1, h0, fun i a ha => ?_, h3, h4, (List.nodup_append.mp h5).2.1, fun a ha => ?_, fun i a ha hb => h7 i a ha (List.mem_append_right _ hb)⟩, x⟩
  · unfold join
    rw [if_neg (fun z => h7 i a ha (List.mem_append_left _ z))]
    exact h2 i a ha
  · unfold join
    rw [if_neg (fun z => (List.nodup_append.mp h5).2.2 a z a ha rfl)]
    exact h6 a (List.mem_append_right _ ha)
theorem Ok.unpin (o : Ok K mg c T G F H σ ρ) (hg : ∀ a ∈ fp, G a = none) (hb : ∀ a ∈ fp, c.B a = none) (hF : ∀ a ∈ fp, F a ≠ none) (nd : fp.Nodup) : Ok K mg c (fp ++ T) G (less F fp) H σ ρ := by
  obtain ⟨fps, h1, h0, h2, h3, h4, h5, h6, h7⟩ := o.slt
  have ln : ∀ a, F a = none → less F fp a = none := fun a ha => by
    unfold less
    split
    · rfl
    · exact ha
  refine ⟨less_of o.gf hg, less_same.trans o.fh, less_of o.bf hb, o.len, o.io, fps, h1, h0, fun i a ha => ln a (h2 i a ha), h3, h4, List.nodup_append.mpr ⟨nd, h5, fun a ha b hb z => hF a ha (by rw [z]; exact h6 b hb)⟩, fun a ha => ?_, fun i a ha hb => ?_⟩
  · rcases List.mem_append.1 ha with ha | ha
    · unfold less
      rw [if_pos ha]
    · exact ln a (h6 a ha)
  · rcases List.mem_append.1 hb with hb | hb
    · exact hF a hb (h2 i a ha)
    · exact h7 i a ha hb
theorem Ext.unpin {F1 : Hp} (hf : ∀ a ∈ fp, F a = none) (k : Same F F1) (x : Ext G F1 G' F') : Ext G F G' (less F' fp) := ⟨x.g, fun a o e => by
  unfold less
  rw [if_neg (fun z => by rw [hf a z] at e; cases e)]
  exact x.f a o (k a o e), fun a e1 e2 => x.n a e1 (k.nn e2)⟩
end
section
variable {X : Cx} {W : WX} {c : Fc} {rk : Nat} {p : Bool}
/-! ### targets -/
/-- a target, with the slots that it sets -/
def GX (X : Cx) (c : Fc) (tg : Expr) (is : List Nat) (g : D → PV.Env → Option PV.Env) : Prop :=
  (∀ (d : D) (ρ ρ' : PV.Env), g d ρ = some ρ' → ∀ vs : List Nat, (∀ i ∈ is, i ∈ vs) → wipeG ρ' vs = wipeG ρ vs) ∧ ∃ t, PG X tg t ∧ ∀ (σ : L2.St) (ρ ρ' : PV.Env) (G F H : Hp) (d : D) (v : V) (Q : L2.St → Hp → Prop), Ok X.K X.mg c [] G F H σ ρ → Rp X.K X.mg G v d → g d ρ = some ρ' →
    (∀ σ', Ok X.K X.mg c [] G F H σ' ρ' → σ'.length = σ.length → (∀ vs : List Nat, (∀ i ∈ is, i ∈ vs) → wipe σ' vs = wipe σ vs) → Q σ' H) → t v σ H Q
def tgName (i : Nat) (d : D) (ρ : PV.Env) : Option PV.Env := some (put ρ i (some d))
theorem tgName_def (i : Nat) : tgName i = fun d ρ => some (ρ.set i (some d)) := by
  funext d ρ
  unfold tgName
  rw [put_eq]
theorem gx_name (i : Nat) {x : Str} {pos : Pos} (hN : X.N.Nodup) (hk : c.kd i = .own 0 := by rfl) (hio : noIo c i = true := by rfl) (hi : X.N[i]? = some x := by rfl) (hx : Loc X.env.scope x := by first | exact Or.inl rfl | exact Or.inr rfl)
    (hf : X.fn x = true ∨ X.env.scope.names.lookup x = some .local := by first | exact .inl rfl | exact .inr rfl) : GX X c (.Name x pos) [i] (tgName i) := by
  rw [tgName_def]
  refine ⟨fun d ρ ρ' e vs h => ?_, _, pg_name hN hi hx hf, fun σ ρ ρ' G F H d v Q o r e q => ?_⟩
  · cases e
    exact wipeG_set (h i (by simp))
  · cases e
    exact q _ (Ok.set (fp := []) o (by rw [hk]; exact ⟨r, rfl⟩) hio) (by rw [List.length_set]) fun vs h => by rw [wipe_eq, wipe_eq]; exact wipeG_set (h i (by simp))
/-- several targets, from the left -/
def GXs (X : Cx) (c : Fc) (ts : List Expr) (is : List Nat) (g : List D → PV.Env → Option PV.Env) : Prop :=
  (∀ (ds : List D) (ρ ρ' : PV.Env), g ds ρ = some ρ' → ∀ vs : List Nat, (∀ i ∈ is, i ∈ vs) → wipeG ρ' vs = wipeG ρ vs) ∧ ∃ t, PGs X ts t ∧ ∀ (σ : L2.St) (ρ ρ' : PV.Env) (G F H : Hp) (ds : List D) (vs : List V) (Q : L2.St → Hp → Prop), Ok X.K X.mg c [] G F H σ ρ → RpL X.K X.mg G vs ds → g ds ρ = some ρ' →
    (∀ σ', Ok X.K X.mg c [] G F H σ' ρ' → σ'.length = σ.length → (∀ vs : List Nat, (∀ i ∈ is, i ∈ vs) → wipe σ' vs = wipe σ vs) → Q σ' H) → t vs σ H Q
def tgNil (ds : List D) (ρ : PV.Env) : Option PV.Env := match ds with
  | [] => some ρ
  | _ => none
def tgCons (g : D → PV.Env → Option PV.Env) (h : List D → PV.Env → Option PV.Env) (ds : List D) (ρ : PV.Env) : Option PV.Env := match ds with
  | d :: r => match g d ρ with
    | some ρ' => h r ρ'
    | none => none
  | [] => none
theorem gxs_nil : GXs X c [] [] tgNil := by
  refine ⟨fun ds ρ ρ' e vs h => ?_, _, pgs_nil, fun σ ρ ρ' G F H ds vs Q o r e q => ?_⟩
  · cases ds with
    | nil => cases e; rfl
    | cons _ _ => cases e
  · cases r with
    | nil => cases e; exact ⟨rfl, q σ o rfl fun _ _ => rfl⟩
    | cons _ _ => cases e
theorem gxs_cons {t : Expr} {ts : List Expr} {is js : List Nat} {g : D → PV.Env → Option PV.Env} {h : List D → PV.Env → Option PV.Env} (h1 : GX X c t is g) (h2 : GXs X c ts js h) (hs : (assignEach (t :: ts) X.env).map (·.2) = assign t X.env :: (assignEach ts X.env).map (·.2) := by rfl) : GXs X c (t :: ts) (is ++ js) (tgCons g h) := by
  obtain ⟨w1, t1, a1, a2⟩ := h1
  obtain ⟨w2, t2, b1, b2⟩ := h2
  refine ⟨fun ds ρ ρ' e vs hv => ?_, _, pgs_cons a1 b1 hs, fun σ ρ ρ' G F H ds vs Q o r e q => ?_⟩
  · cases ds with
    | nil => cases e
    | cons d r =>
      simp only [tgCons] at e
      split at e
      · rename_i ρ1 e1
        exact (w2 _ _ _ e vs fun i hi => hv i (List.mem_append_right _ hi)).trans (w1 _ _ _ e1 vs fun i hi => hv i (List.mem_append_left _ hi))
      · cases e
  cases r with
  | nil => cases e
  | cons r1 r2 =>
    simp only [tgCons] at e
    split at e
    · rename_i ρ1 e1
      refine ⟨_, _, rfl, a2 σ ρ ρ1 G F H _ _ _ o r1 e1 fun σ1 o1 hl1 w1 => ?_⟩
      exact b2 σ1 ρ1 ρ' G F H _ _ Q o1 r2 e fun σ2 o2 hl2 w2 => q σ2 o2 (hl2.trans hl1) fun vs hv => (w2 vs fun i hi => hv i (List.mem_append_right _ hi)).trans (w1 vs fun i hi => hv i (List.mem_append_left _ hi))
    · cases e
def tgTup (g : List D → PV.Env → Option PV.Env) (n : Nat) (d : D) (ρ : PV.Env) : Option PV.Env := match d with
  | .tup ds => if ds.length = n then g ds ρ else none
  | _ => none
theorem gx_tup (ok : X.calm = true) {es : List Expr} {is : List Nat} {k n : Nat} {pos : Pos} {g : List D → PV.Env → Option PV.Env} (h : GXs X c es is g) (hn : (assignEach es X.env).length = n := by rfl) (hst : (assignEach es X.env).findIdx? (·.1) = none := by rfl) : GX X c (.Tuple es k pos) is (tgTup g n) := by
  obtain ⟨w, t, h1, h2⟩ := h
  refine ⟨fun d ρ ρ' e vs hv => ?_, _, pg_tup ok h1 hn hst, fun σ ρ ρ' G F H d v Q o r e q => ?_⟩
  · unfold tgTup at e
    split at e
    · split at e
      · exact w _ _ _ e vs hv
      · cases e
    · cases e
  unfold tgTup at e
  split at e
  · split at e
    · rename_i ds hl
      obtain ⟨a, vs, rfl, ha, r⟩ := r.tup_inv
      exact ⟨a, vs, rfl, .of (o.gh _ _ ha), r.length.trans hl, h2 σ ρ ρ' G F H ds vs Q o r e q⟩
    · cases e
  · cases e
/-! ### what is walked -/
structure ItOk (K : PySem.W.Frag) (mg : Str → Option Value) (J : It) (ds : List D) (G0 : Hp) : Prop where
  stop : ∀ i H, Same G0 H → ds.length ≤ i → J.stop i H
  go : ∀ i H, Same G0 H → i < ds.length → J.go i H
  yld : ∀ i H x H' G F d, J.yld i H x H' → Same G0 G → Same G F → Same F H → ds[i]? = some d → ∃ G' F', Grow G F H G' F' H' [] ∧ Rp K mg G' x d
def IX (X : Cx) (W : WX) (c : Fc) (p : Bool) (tg iter : Expr) (f : M (List D)) : Prop :=
  ∃ wi, PI X tg iter wi ∧ ∀ (σ : L2.St) (ρ : PV.Env) (G F H : Hp) (Rr : It → Hp → Prop), Ok X.K X.mg c [] G F H σ ρ →
    Wp (f ρ) (fun r => ∀ J G' F' H', Ext G F G' F' → Ok X.K X.mg c [] G' F' H' σ r.2 → ItOk X.K X.mg J r.1 G' → (p = true → r.2 = ρ ∧ Same H H') → Rr J H') (Nx X.K X.mg W σ G F) → wi σ H Rr
/-- two ways to walk the same: whichever is asked for -/
theorem walk_or {X : Cx} {tg l : Expr} {w1 w2 : TI} (h1 : PI X tg l w1) (h2 : PI X tg l w2) : PI X tg l (fun σ H R => w1 σ H R ∨ w2 σ H R) :=
  ⟨fun pins s σ H R I h => h.elim (fun k => h1.run pins s σ H R I k) fun k => h2.run pins s σ H R I k⟩
theorem itok_l {K : PySem.W.Frag} {mg : Str → Option Value} {G0 : Hp} {a : Addr} {vs : List V} {ds : List D} (h : G0 a = some (.lst vs)) (r : RpL K mg G0 vs ds) : ItOk K mg (Itl K a) ds G0 where
  stop := fun i H s hl => ⟨vs, .of (s _ _ h), by rw [r.length]; exact hl⟩
  go := fun i H s hl => by
    have hl' : i < vs.length := by rw [r.length]; exact hl
    exact ⟨vs, vs[i], .of (s _ _ h), List.getElem?_eq_getElem hl'⟩
  yld := fun i H x H' G F d y s gf fh e => by
    obtain ⟨rfl, y⟩ := y
    have hx := y vs (.of (fh _ _ (gf _ _ (s _ _ h))))
    obtain ⟨v, e1, q⟩ := r.getD e
    rw [hx] at e1
    cases e1
    exact ⟨G, F, .refl gf fh, q.mono s⟩
theorem itok_t {K : PySem.W.Frag} {mg : Str → Option Value} {G0 : Hp} {a : Addr} {vs : List V} {ds : List D} (h : G0 a = some (.tup vs)) (r : RpL K mg G0 vs ds) : ItOk K mg (Itt K a) ds G0 where
  stop := fun i H s hl => ⟨vs, .of (s _ _ h), by rw [r.length]; exact hl⟩
  go := fun i H s hl => by
    have hl' : i < vs.length := by rw [r.length]; exact hl
    exact ⟨vs, vs[i], .of (s _ _ h), List.getElem?_eq_getElem hl'⟩
  yld := fun i H x H' G F d y s gf fh e => by
    obtain ⟨rfl, y⟩ := y
    have hx := y vs (.of (fh _ _ (gf _ _ (s _ _ h))))
    obtain ⟨v, e1, q⟩ := r.getD e
    rw [hx] at e1
    cases e1
    exact ⟨G, F, .refl gf fh, q.mono s⟩
def iSeqM (f : M D) : M (List D) := f.bind fun x => M.ofO (itemsOf x)
/-- a shared list or tuple -/
theorem ix_seqS {tg e : Expr} {f : M D} (h : EX X W c p (.rd 0) e f) : IX X W c p tg e (iSeqM f) := by
  obtain ⟨te, h1, h2⟩ := h
  -- the library's two rules, side by side; which one serves, the mirror's value tells beforehand
  refine ⟨_, walk_or (pi_list h1) (pi_tup h1), fun σ ρ G F H Rr o w => ?_⟩
  have w := Wp.ofBindM w
  cases ef : f ρ with
  | fail => rw [ef] at w; exact w.elim
  | exc x =>
    rw [ef] at w
    exact .inl (EX.use (P := fun _ => False) te h2 o (by rw [ef]; exact w) (fun _ z => z.elim) fun _ z => z)
  | ok r =>
    rw [ef] at w
    have hw : ∀ (N : Exn → Prop), Wp (f ρ) (fun r' => r' = r) N := fun N => by rw [ef]; rfl
    obtain ⟨d, ρ1⟩ := r
    cases d with
    | tup ds =>
      refine .inr (EX.use te h2 o (hw fun _ => False) (fun r' er v G1 F1 H1 fp x1 o1 q hp => ?_) fun _ z => z.elim)
      subst er
      have q : Rp X.K X.mg G1 v (.tup ds) := q.1
      obtain ⟨a, vs, rfl, ha, rr⟩ := q.tup_inv
      exact ⟨a, rfl, ⟨vs, .of (o1.gh _ _ ha)⟩, w _ G1 F1 H1 x1 o1.drop (itok_t ha rr) hp⟩
    | lst ds =>
      refine .inl (EX.use te h2 o (hw fun _ => False) (fun r' er v G1 F1 H1 fp x1 o1 q hp => ?_) fun _ z => z.elim)
      subst er
      have q : Rp X.K X.mg G1 v (.lst ds) := q.1
      obtain ⟨a, vs, rfl, ha, rr⟩ := q.lst_inv
      exact ⟨a, rfl, ⟨vs, .of (o1.gh _ _ ha)⟩, w _ G1 F1 H1 x1 o1.drop (itok_l ha rr) hp⟩
    | _ => exact w.elim
/-! ranges -/
def rg1 : List D → Option (List D)
  | [.int k] => if rgOk 0 k = true then some (rgD 0 k) else none
  | _ => none
def rg2 : List D → Option (List D)
  | [.int a, .int b] => if rgOk a b = true then some (rgD a b) else none
  | _ => none
def rgN (i j c : Int) : Nat := (Builtin.Range.rangeSize i j c).toNat
def rg3Ok (i j c : Int) : Bool := rgOk i j && (decide (c ≠ 0 ∧ c.natAbs < 1000000) && (Builtin.Range.small i j c && decide (Builtin.Range.rangeSize i j c = ((rgN i j c : Nat) : Int))))
def rgD3 (i j c : Int) : List D := (List.range (rgN i j c)).map fun k => D.int (i + (k : Nat) * c)
def rg3 : List D → Option (List D)
  | [.int a, .int b, .int c] => if rg3Ok a b c = true then some (rgD3 a b c) else none
  | _ => none
theorem rgD_len (a b : Int) : (rgD a b).length = (b - a).toNat := by unfold rgD; rw [List.length_map, List.length_range]
theorem itok_r {K : PySem.W.Frag} {mg : Str → Option Value} {G0 : Hp} (a b : Int) : ItOk K mg (Itr a (b - a).toNat) (rgD a b) G0 where
  stop := fun i H s hl => by rw [rgD_len] at hl; exact hl
  go := fun i H s hl => by rw [rgD_len] at hl; exact hl
  yld := fun i H x H' G F d y s gf fh e => by
    obtain ⟨rfl, rfl⟩ := y
    unfold rgD at e
    rw [List.getElem?_map] at e
    obtain ⟨k, e1, rfl⟩ := Option.map_eq_some_iff.mp e
    have hk := List.getElem?_eq_some_iff.mp e1
    obtain ⟨_, e2⟩ := hk
    rw [List.getElem_range] at e2
    subst e2
    exact ⟨G, F, .refl gf fh, .int _⟩
theorem itok_r3 {K : PySem.W.Frag} {mg : Str → Option Value} {G0 : Hp} (a b c : Int) : ItOk K mg (Itc a c (rgN a b c)) (rgD3 a b c) G0 where
  stop := fun i H s hl => by unfold rgD3 at hl; rw [List.length_map, List.length_range] at hl; exact hl
  go := fun i H s hl => by unfold rgD3 at hl; rw [List.length_map, List.length_range] at hl; exact hl
  yld := fun i H x H' G F d y s gf fh e => by
    obtain ⟨rfl, rfl⟩ := y
    unfold rgD3 at e
    rw [List.getElem?_map] at e
    obtain ⟨k, e1, rfl⟩ := Option.map_eq_some_iff.mp e
    have hk := List.getElem?_eq_some_iff.mp e1
    obtain ⟨_, e2⟩ := hk
    rw [List.getElem_range] at e2
    subst e2
    exact ⟨G, F, .refl gf fh, .int _⟩
def iRg (g : List D → Option (List D)) (fa : M (List D)) : M (List D) := fa.bind fun ds => M.ofO (g ds)
theorem ix_rg1 {tg a : Expr} {fa : M (List D)} {pp pos : Pos} (hm : X.mg "range" = none) (h : AX X W c p [.val (.rd 0)] [a] fa) (hg : Gl X "range" := by rfl) (hs : starEach [a] X.env = [(false, eval a X.env)] := by rfl) :
    IX X W c p tg (.Call (.Name "range" pp) [a] [] pos) (iRg rg1 fa) := by
  obtain ⟨ta, h1, h2⟩ := h
  refine ⟨_, pi_range1 hg hm h1 hs, fun σ ρ G F H Rr o w => ?_⟩
  refine h2 σ ρ G F H _ o ((Wp.ofBindM w).imp (fun r hr => ?_) fun _ z => z)
  intro vs G1 F1 H1 x1 o1 q1 hp1
  obtain ⟨d, v, fp, e1, rfl, q⟩ := valL1 q1
  have q : Rp X.K X.mg G1 v d := q.1
  rw [e1] at hr
  unfold M.ofO at hr
  split at hr
  · rename_i xs hx
    cases q <;> first | (cases hx; done) | skip
    rename_i k
    have hx : (if rgOk 0 k = true then some (rgD 0 k) else none) = some xs := hx
    split at hx
    · rename_i hk
      cases hx
      have hk := rgOk_ok hk
      refine ⟨k, rfl, hk.2.2.1, hk.2.2.2.1, hr _ G1 F1 H1 x1 o1 ?_ hp1⟩
      have := itok_r (K := X.K) (mg := X.mg) (G0 := G1) 0 k
      rw [Int.sub_zero] at this
      exact this
    · cases hx
  · exact hr.elim
theorem ix_rg2 {tg a b : Expr} {fa : M (List D)} {pp pos : Pos} (hm : X.mg "range" = none) (h : AX X W c p [.val (.rd 0), .val (.rd 0)] [a, b] fa) (hg : Gl X "range" := by rfl) (hs : starEach [a, b] X.env = [(false, eval a X.env), (false, eval b X.env)] := by rfl) (hs2 : starEach [b] X.env = [(false, eval b X.env)] := by rfl) :
    IX X W c p tg (.Call (.Name "range" pp) [a, b] [] pos) (iRg rg2 fa) := by
  obtain ⟨ta, h1, h2⟩ := h
  refine ⟨_, pi_range2 hg hm h1 hs hs2, fun σ ρ G F H Rr o w => ?_⟩
  refine h2 σ ρ G F H _ o ((Wp.ofBindM w).imp (fun r hr => ?_) fun _ z => z)
  intro vs G1 F1 H1 x1 o1 q1 hp1
  obtain ⟨d, v, fp, d', v', fp', e1, rfl, q, q'⟩ := valL2 q1
  have q : Rp X.K X.mg G1 v d := q.1
  have q' : Rp X.K X.mg G1 v' d' := q'.1
  rw [e1] at hr
  unfold M.ofO at hr
  split at hr
  · rename_i xs hx
    cases q <;> first | (cases hx; done) | skip
    cases q' <;> first | (cases hx; done) | skip
    rename_i i j
    have hx : (if rgOk i j = true then some (rgD i j) else none) = some xs := hx
    split at hx
    · rename_i hk
      cases hx
      have hk := rgOk_ok hk
      exact ⟨i, j, rfl, ⟨hk.1, hk.2.1, hk.2.2.1, hk.2.2.2.1⟩, hr _ G1 F1 H1 x1 o1 (itok_r i j) hp1⟩
    · cases hx
  · exact hr.elim
theorem ix_rg3 {tg a b d : Expr} {fa : M (List D)} {pp pos : Pos} (hm : X.mg "range" = none) (h : AX X W c p [.val (.rd 0), .val (.rd 0), .val (.rd 0)] [a, b, d] fa)
    (hpi : ∀ {ta}, PA X [a, b, d] ta → PI X tg (.Call (.Name "range" pp) [a, b, d] [] pos) (iRng3 ta)) :
    IX X W c p tg (.Call (.Name "range" pp) [a, b, d] [] pos) (iRg rg3 fa) := by
  obtain ⟨ta, h1, h2⟩ := h
  refine ⟨_, hpi h1, fun σ ρ G F H Rr o w => ?_⟩
  refine h2 σ ρ G F H _ o ((Wp.ofBindM w).imp (fun r hr => ?_) fun _ z => z)
  intro vs G1 F1 H1 x1 o1 q1 hp1
  obtain ⟨ds, ρ1⟩ := r
  cases q1 with
  | @val _ _ d0 v0 _ _ _ q q1 =>
    obtain ⟨d', v', fp', d'', v'', fp'', e1, rfl, q', q''⟩ := valL2 q1
    subst e1
    replace q : Rp X.K X.mg G1 v0 d0 := q.1
    replace q' : Rp X.K X.mg G1 v' d' := q'.1
    replace q'' : Rp X.K X.mg G1 v'' d'' := q''.1
    unfold M.ofO at hr
    split at hr
    · rename_i xs hx
      cases q <;> first | (cases hx; done) | skip
      cases q' <;> first | (cases hx; done) | skip
      cases q'' <;> first | (cases hx; done) | skip
      rename_i i j k
      have hx : (if rg3Ok i j k = true then some (rgD3 i j k) else none) = some xs := hx
      split at hx
      · rename_i hk
        cases hx
        unfold rg3Ok at hk
        rw [Bool.and_eq_true, Bool.and_eq_true, Bool.and_eq_true] at hk
        have h2 := of_decide_eq_true hk.2.1
        exact ⟨i, j, k, rgN i j k, rfl, ⟨h2.1, by omega, hk.2.2.1, of_decide_eq_true hk.2.2.2⟩, hr _ G1 F1 H1 x1 o1 (itok_r3 i j k) hp1⟩
      · cases hx
    · exact hr.elim
/-! zip of two lists, of two tuples -/
def zipD : List D → List D → List D
  | x :: xs, y :: ys => .tup [x, y] :: zipD xs ys
  | _, _ => []
theorem zipD_at : ∀ {xs ys : List D} {i : Nat} {d : D}, (zipD xs ys)[i]? = some d → ∃ x y, xs[i]? = some x ∧ ys[i]? = some y ∧ d = .tup [x, y]
  | [], _, i, d, h => by simp [zipD] at h
  | _ :: _, [], i, d, h => by simp [zipD] at h
  | x :: xs, y :: ys, 0, d, h => by
    simp [zipD] at h
    exact ⟨x, y, rfl, rfl, h.symm⟩
  | x :: xs, y :: ys, i + 1, d, h => by
    obtain ⟨a, b, h1, h2, h3⟩ := zipD_at (xs := xs) (ys := ys) (i := i) (d := d) (by simpa [zipD] using h)
    exact ⟨a, b, by simpa using h1, by simpa using h2, h3⟩
theorem zipD_len : ∀ (xs ys : List D), (zipD xs ys).length = min xs.length ys.length
  | [], ys => by simp [zipD]
  | _ :: _, [] => by simp [zipD]
  | x :: xs, y :: ys => by simp [zipD, zipD_len xs ys]
def zipM : List D → Option (List D)
  | [.tup a, .tup b] => some (zipD a b)
  | [.lst a, .lst b] => some (zipD a b)
  | _ => none
theorem pair_new {K : PySem.W.Frag} {mg : Str → Option Value} {G F H : Hp} {T : Addr} {x y : V} {d e : D} (gf : Same G F) (fh : Same F H) (hT : H T = none) (q1 : Rp K mg G x d) (q2 : Rp K mg G y e) : ∃ G' F', Grow G F H G' F' (upd H T (.tup [x, y])) [] ∧ Rp K mg G' (.ref T) (.tup [d, e]) :=
  have g := Grow.sh (o := .tup [x, y]) gf fh hT
  ⟨_, _, g, .tup upd_same (.cons (q1.mono g.x.g) (.cons (q2.mono g.x.g) .nil))⟩
theorem itok_z {K : PySem.W.Frag} {mg : Str → Option Value} {G0 : Hp} {a b : Addr} {vs us : List V} {ds es : List D} (h : G0 a = some (.lst vs)) (r : RpL K mg G0 vs ds) (h' : G0 b = some (.lst us)) (r' : RpL K mg G0 us es) : ItOk K mg (Itz K a b) (zipD ds es) G0 where
  stop := fun i H s hl => ⟨vs, us, .of (s _ _ h), .of (s _ _ h'), by rw [zipD_len] at hl; rw [r.length, r'.length]; omega⟩
  go := fun i H s hl => by
    rw [zipD_len] at hl
    have h1 : i < vs.length := by rw [r.length]; omega
    have h2 : i < us.length := by rw [r'.length]; omega
    exact ⟨vs, us, vs[i], us[i], .of (s _ _ h), .of (s _ _ h'), List.getElem?_eq_getElem h1, List.getElem?_eq_getElem h2⟩
  yld := fun i H x H' G F d y s gf fh e => by
    obtain ⟨T, x1, x2, rfl, nT, rfl, y1, y2⟩ := y
    obtain ⟨d1, d2, e1, e2, rfl⟩ := zipD_at e
    have k1 := y1 vs (.of (fh _ _ (gf _ _ (s _ _ h))))
    have k2 := y2 us (.of (fh _ _ (gf _ _ (s _ _ h'))))
    obtain ⟨v1, w1, q1⟩ := r.getD e1
    obtain ⟨v2, w2, q2⟩ := r'.getD e2
    rw [k1] at w1
    cases w1
    rw [k2] at w2
    cases w2
    exact pair_new gf fh nT (q1.mono s) (q2.mono s)
theorem itok_zT {K : PySem.W.Frag} {mg : Str → Option Value} {G0 : Hp} {a b : Addr} {vs us : List V} {ds es : List D} (h : G0 a = some (.tup vs)) (r : RpL K mg G0 vs ds) (h' : G0 b = some (.tup us)) (r' : RpL K mg G0 us es) : ItOk K mg (RZ.ItzT K a b) (zipD ds es) G0 where
  stop := fun i H s hl => ⟨vs, us, .of (s _ _ h), .of (s _ _ h'), by rw [zipD_len] at hl; rw [r.length, r'.length]; omega⟩
  go := fun i H s hl => by
    rw [zipD_len] at hl
    have h1 : i < vs.length := by rw [r.length]; omega
    have h2 : i < us.length := by rw [r'.length]; omega
    exact ⟨vs, us, vs[i], us[i], .of (s _ _ h), .of (s _ _ h'), List.getElem?_eq_getElem h1, List.getElem?_eq_getElem h2⟩
  yld := fun i H x H' G F d y s gf fh e => by
    obtain ⟨T, x1, x2, rfl, nT, rfl, y1, y2⟩ := y
    obtain ⟨d1, d2, e1, e2, rfl⟩ := zipD_at e
    have k1 := y1 vs (.of (fh _ _ (gf _ _ (s _ _ h))))
    have k2 := y2 us (.of (fh _ _ (gf _ _ (s _ _ h'))))
    obtain ⟨v1, w1, q1⟩ := r.getD e1
    obtain ⟨v2, w2, q2⟩ := r'.getD e2
    rw [k1] at w1
    cases w1
    rw [k2] at w2
    cases w2
    exact pair_new gf fh nT (q1.mono s) (q2.mono s)
theorem ix_zip {e e2 : Expr} {elts : List Expr} {kk : Nat} {fa : M (List D)} {pp pos tpos : Pos} (h : AX X W c p [.val (.rd 0), .val (.rd 0)] [e, e2] fa)
    (hpi : ∀ {ta}, PA X [e, e2] ta → PI X (.Tuple elts kk tpos) (.Call (.Name "zip" pp) [e, e2] [] pos) (RZ.iZipA X.K ta)) : IX X W c p (.Tuple elts kk tpos) (.Call (.Name "zip" pp) [e, e2] [] pos) (iRg zipM fa) := by
  obtain ⟨ta, h1, h2⟩ := h
  refine ⟨_, hpi h1, fun σ ρ G F H Rr o w => ?_⟩
  refine h2 σ ρ G F H _ o ((Wp.ofBindM w).imp (fun r hr => ?_) fun _ z => z)
  intro vs G1 F1 H1 x1 o1 q1 hp1
  obtain ⟨d, v, fp, d', v', fp', e1, rfl, q, q'⟩ := valL2 q1
  have q : Rp X.K X.mg G1 v d := q.1
  have q' : Rp X.K X.mg G1 v' d' := q'.1
  rw [e1] at hr
  unfold M.ofO at hr
  split at hr
  · rename_i xs hx
    unfold zipM at hx
    split at hx
    · rename_i eq
      cases eq
      cases hx
      obtain ⟨a, us, rfl, ha, ra⟩ := q.tup_inv
      obtain ⟨b, ws, rfl, hb, rb⟩ := q'.tup_inv
      exact ⟨a, b, us, ws, rfl, .inr ⟨.of (o1.gh _ _ ha), .of (o1.gh _ _ hb), hr _ G1 F1 H1 x1 o1 (itok_zT ha ra hb rb) hp1⟩⟩
    · rename_i eq
      cases eq
      cases hx
      obtain ⟨a, us, rfl, ha, ra⟩ := q.lst_inv
      obtain ⟨b, ws, rfl, hb, rb⟩ := q'.lst_inv
      exact ⟨a, b, us, ws, rfl, .inl ⟨.of (o1.gh _ _ ha), .of (o1.gh _ _ hb), hr _ G1 F1 H1 x1 o1 (itok_z ha ra hb rb) hp1⟩⟩
    · cases hx
  · exact hr.elim
/-! ### for -/
def forN (tg : D → PV.Env → Option PV.Env) (b : SM) (ds : List D) : SM := List.rec (motive := fun _ => SM) (fun ρ => .nx ρ) (fun d _ ih ρ => match tg d ρ with
    | some ρ1 => sSeq b ih ρ1
    | none => .fail) ds
theorem forN_nil (tg : D → PV.Env → Option PV.Env) (b : SM) (ρ : PV.Env) : forN tg b [] ρ = .nx ρ := rfl
theorem forN_cons (tg : D → PV.Env → Option PV.Env) (b : SM) (d : D) (r : List D) (ρ : PV.Env) : forN tg b (d :: r) ρ = match tg d ρ with
    | some ρ1 => sSeq b (forN tg b r) ρ1
    | none => .fail := rfl
def sFor (f : M (List D)) (tg : D → PV.Env → Option PV.Env) (b : SM) : SM := sDo f fun ds ρ => forN tg b ds ρ
theorem sx_for (ok : Cok X W) (po : Pso X) {tg iter : Expr} {is : List Nat} {b : List Stmt} {f : M (List D)} {g : D → PV.Env → Option PV.Env} {fb : SM} {pos : Pos} (hi : IX X W c p tg iter f) (hg : GX X c tg is g) (hb : SXs X W c rk b fb) (hs : ∀ x, foldedSetIterable iter X.env x = pure x := by intro _; rfl) :
    SX X W c rk (.For tg iter b [] pos) (sFor f g fb) := by
  obtain ⟨wi, i1, i2⟩ := hi
  obtain ⟨_, tg', g1, g2⟩ := hg
  obtain ⟨tb, b1, b2⟩ := hb
  refine ⟨_, ps_for po ok.calm i1 g1 b1 hs, fun D σ ρ G F H o w => ?_⟩
  refine i2 σ ρ G F H _ o ((WpS.ofDo w).imp (fun r hr => ?_) fun _ z => Nx.toS z)
  intro J G1 F1 H1 x1 o1 it hp1
  refine ⟨fun i m σ' H' => i + m = r.1.length ∧ ∃ ρ' G' F', Ext G F G' F' ∧ Same G1 G' ∧ Ok X.K X.mg c [] G' F' H' σ' ρ' ∧ σ'.length = σ.length ∧ WpS (forN g fb (r.1.drop i) ρ') (PNx X c D σ' G' F') (PRt X c rk D G' F') (NxS X.K X.mg W σ'.length G' F'),
    ⟨r.1.length, Nat.zero_add _, r.2, G1, F1, x1, .refl _, o1, rfl, ?_⟩, fun i m σ2 H2 hw => ?_⟩
  · exact WpS.imp hr (fun ρ2 q σ2 G2 F2 H2 x2 o2 hl2 => q σ2 G2 F2 H2 (x1.trans x2) o2 hl2) (fun d ρ2 q σ2 v G2 F2 H2 fp x2 o2 ow => q σ2 v G2 F2 H2 fp (x1.trans x2) o2 ow) fun x q => q.ext x1
  · obtain ⟨em, ρ2, G2, F2, x2, s2, o2, hl2, w2⟩ := hw
    by_cases hi : i < r.1.length
    · rw [List.drop_eq_getElem_cons hi] at w2
      refine .inr ⟨it.go i H2 (s2.trans o2.gh) hi, fun σ3 H3 => i + 1 + (m - 1) = r.1.length ∧ ∃ ρ' G' F', Ext G F G' F' ∧ Same G1 G' ∧ Ok X.K X.mg c [] G' F' H3 σ3 ρ' ∧ σ3.length = σ.length ∧ WpS (forN g fb (r.1.drop (i + 1)) ρ') (PNx X c D σ3 G' F') (PRt X c rk D G' F') (NxS X.K X.mg W σ3.length G' F'), fun σ3 H3 q => ⟨m - 1, by omega, q⟩, fun x H3 y => ?_⟩
      obtain ⟨G3, F3, gr, q⟩ := it.yld i H2 x H3 G2 F2 _ y s2 o2.gf o2.fh (List.getElem?_eq_getElem hi)
      have o3 := o2.grown gr
      simp only [forN_cons] at w2
      split at w2
      · rename_i ρ3 eg
        refine g2 σ2 ρ2 ρ3 G3 F3 H3 _ x _ o3 q eg fun σ3 o4 hl3 _ => ?_
        refine b2 _ σ3 ρ3 G3 F3 H3 o4 ?_
        unfold sSeq at w2
        cases e : fb ρ3 with
        | nx ρ4 =>
          rw [e] at w2
          intro σ4 G4 F4 H4 x4 o5 hl4
          refine ⟨by omega, ρ4, G4, F4, (x2.trans gr.x).trans x4, (s2.trans gr.x.g).trans x4.g, o5, hl4.trans (hl3.trans hl2), WpS.imp w2 (fun ρ5 q σ5 G5 F5 H5 x5 o5 hl5 => q σ5 G5 F5 H5 ((gr.x.trans x4).trans x5) o5 (hl5.trans (hl4.trans hl3))) (fun d ρ5 q σ5 v G5 F5 H5 fp x5 o5 ow => q σ5 v G5 F5 H5 fp ((gr.x.trans x4).trans x5) o5 ow) fun x q => by rw [hl4, hl3]; exact q.ext (gr.x.trans x4)⟩
        | rt d ρ4 =>
          rw [e] at w2
          intro σ4 v G4 F4 H4 fp x4 o5 ow
          exact w2 σ4 v G4 F4 H4 fp (gr.x.trans x4) o5 ow
        | exc x =>
          rw [e] at w2
          have w2 : NxS X.K X.mg W σ2.length G2 F2 x := w2
          rw [hl3]
          exact w2.ext gr.x
        | fail => rw [e] at w2; exact w2
      · exact w2.elim
    · have hn : r.1.length ≤ i := Nat.le_of_not_lt hi
      rw [List.drop_eq_nil_of_le hn] at w2
      refine .inl ⟨it.stop i H2 (s2.trans o2.gh) hn, ?_⟩
      have w2 : PNx X c D σ2 G2 F2 ρ2 := w2
      exact w2 σ2 G2 F2 H2 (.refl _ _) o2 rfl
end
end
end PV

set_option Elab.async false
set_option linter.all false
set_option maxRecDepth 100000
set_option maxHeartbeats 0
namespace PV
noncomputable section
open PySem PySem.Spec
open PyProof.Rows L2

/-! ## 16. list comprehensions -/
abbrev W0 : WX := fun _ _ _ _ => False
theorem cok_blk {X : Cx} {W : WX} (ok : Cok X W) {s : Shared} {H : Hp} {scope : Scope} {ce : PySem.Env} {fp : List Addr} : Cok (X.blk s H scope ce fp) W0 := ⟨fun _ _ x => by
  rcases x with ⟨_, _, _, _, _, _, _, _, _, _, _, _, _, _, _, _, z⟩
  exact z.elim, ok.calm⟩
/-! what a derivation says, with no context: the same for every block -/
def canE (K : PySem.W.Frag) (mg : Str → Option Value) (c : Fc) (p : Bool) (m : Md) (f : M D) : TE := fun σ H Q => ∃ ρ G F, Ok K mg c [] G F H σ ρ ∧
  Wp (f ρ) (fun r => ∀ v G' F' H' fp, Ext G F G' F' → Ok K mg c fp G' F' H' σ r.2 → Val K mg m G' H' r.1 v fp → (p = true → r.2 = ρ ∧ Same H H') → Q v H') (fun _ => False)
def canT (K : PySem.W.Frag) (mg : Str → Option Value) (c : Fc) (p : Bool) (f : M Bool) : TT := fun σ H Q => ∃ ρ G F, Ok K mg c [] G F H σ ρ ∧
  Wp (f ρ) (fun r => ∀ G' F' H', Ext G F G' F' → Ok K mg c [] G' F' H' σ r.2 → (p = true → r.2 = ρ ∧ Same H H') → Q r.1 H') (fun _ => False)
def canG (K : PySem.W.Frag) (mg : Str → Option Value) (c : Fc) (is : List Nat) (g : D → PV.Env → Option PV.Env) : TG := fun v σ H Q => ∃ ρ ρ' G F d, Ok K mg c [] G F H σ ρ ∧ Rp K mg G v d ∧ g d ρ = some ρ' ∧
  ∀ σ', Ok K mg c [] G F H σ' ρ' → σ'.length = σ.length → (∀ vs : List Nat, (∀ i ∈ is, i ∈ vs) → wipe σ' vs = wipe σ vs) → Q σ' H
def canI (K : PySem.W.Frag) (mg : Str → Option Value) (c : Fc) (p : Bool) (f : M (List D)) : TI := fun σ H Rr => ∃ ρ G F, Ok K mg c [] G F H σ ρ ∧
  Wp (f ρ) (fun r => ∀ J G' F' H', Ext G F G' F' → Ok K mg c [] G' F' H' σ r.2 → ItOk K mg J r.1 G' → (p = true → r.2 = ρ ∧ Same H H') → Rr J H') (fun _ => False)
section
variable {X : Cx} {c : Fc} {p : Bool} {m : Md}
theorem nx0 {K : PySem.W.Frag} {mg : Str → Option Value} {σ : L2.St} {G F : Hp} {x : Exn} (h : False) : Nx K mg W0 σ G F x := h.elim
theorem EX.can {e : Expr} {f : M D} (h : EX X W0 c p m e f) : PE X e (canE X.K X.mg c p m f) := by
  obtain ⟨te, h1, h2⟩ := h
  refine ⟨fun pins s σ H Q I q => h1.run pins s σ H Q I ?_⟩
  obtain ⟨ρ, G, F, o, w⟩ := q
  exact h2 σ ρ G F H Q o (w.imp (fun _ z => z) fun _ z => z.elim)
theorem TX.can {e : Expr} {f : M Bool} (h : TX X W0 c p e f) : PT X e (canT X.K X.mg c p f) := by
  obtain ⟨te, h1, h2⟩ := h
  refine ⟨fun pins s σ H Q I q => h1.run pins s σ H Q I ?_⟩
  obtain ⟨ρ, G, F, o, w⟩ := q
  exact h2 σ ρ G F H Q o (w.imp (fun _ z => z) fun _ z => z.elim)
theorem GX.can {e : Expr} {is : List Nat} {g : D → PV.Env → Option PV.Env} (h : GX X c e is g) : PG X e (canG X.K X.mg c is g) := by
  obtain ⟨_, te, h1, h2⟩ := h
  refine ⟨fun pins s σ H v u Q I r q => h1.run pins s σ H v u Q I r ?_⟩
  obtain ⟨ρ, ρ', G, F, d, o, rp, e, w⟩ := q
  exact h2 σ ρ ρ' G F H d v Q o rp e w
theorem IX.can {tg e : Expr} {f : M (List D)} (h : IX X W0 c p tg e f) : PI X tg e (canI X.K X.mg c p f) := by
  obtain ⟨te, h1, h2⟩ := h
  refine ⟨fun pins s σ H Q I q => h1.run pins s σ H Q I ?_⟩
  obtain ⟨ρ, G, F, o, w⟩ := q
  exact h2 σ ρ G F H Q o (w.imp (fun _ z => z) fun _ z => z.elim)
end
/-- a clause's tests: none or one -/
def TXs (X : Cx) (c : Fc) (p : Bool) (ifs : List Expr) (f : M Bool) : Prop := PTs X ifs (canT X.K X.mg c p f)
def tTrue : M Bool := M.pure true
theorem txs_nil {X : Cx} {c : Fc} : TXs X c true [] tTrue := ⟨fun pins s σ H Q I q => by
  obtain ⟨ρ, G, F, o, w⟩ := q
  exact pts_nil.run pins s σ H Q I (w G F H (.refl _ _) o fun _ => ⟨rfl, .refl _⟩)⟩
theorem txs_one {X : Cx} {c : Fc} {p : Bool} {e : Expr} {f : M Bool} (h : TX X W0 c p e f) : TXs X c p [e] f := pts_one h.can
/-! the slots of the block's names, before and behind -/
def restE (ρ1 : PV.Env) : List Nat → PV.Env → PV.Env
  | [], ρ => ρ
  | v :: vs, ρ => put (restE ρ1 vs ρ) v (look ρ1 v)
theorem restE_cons (ρ1 : PV.Env) (v : Nat) (vs : List Nat) (ρ : PV.Env) : restE ρ1 (v :: vs) ρ = (restE ρ1 vs ρ).set v (look ρ1 v) := put_eq _ _ _
theorem restE_len (ρ1 : PV.Env) : ∀ (vs : List Nat) (ρ : PV.Env), (restE ρ1 vs ρ).length = ρ.length
  | [], _ => rfl
  | v :: vs, ρ => by rw [restE_cons, List.length_set, restE_len ρ1 vs ρ]
theorem restE_at {ρ1 ρ : PV.Env} {j : Nat} : ∀ {vs : List Nat}, j ∉ vs → (restE ρ1 vs ρ)[j]? = ρ[j]?
  | [], _ => rfl
  | v :: vs, h => by
    rw [restE_cons]
    rw [List.getElem?_set_ne (fun e => h (by rw [e]; exact List.mem_cons_self))]
    exact restE_at fun z => h (List.mem_cons_of_mem _ z)
theorem restE_in {ρ1 ρ : PV.Env} {j : Nat} : ∀ {vs : List Nat}, j ∈ vs → (restE ρ1 vs ρ)[j]? = if j < ρ.length then some (look ρ1 j) else none
  | [], h => nomatch h
  | v :: vs, h => by
    rw [restE_cons]
    by_cases e : v = j
    · subst e
      by_cases hl : v < ρ.length
      · rw [if_pos hl, List.getElem?_set_self (by rw [restE_len]; exact hl)]
      · rw [if_neg hl, List.getElem?_eq_none (by rw [List.length_set, restE_len]; omega)]
    · rw [List.getElem?_set_ne e]
      exact restE_in ((List.mem_cons.mp h).resolve_left fun z => e z.symm)
theorem look_get {ρ : PV.Env} {j : Nat} (h : j < ρ.length) : ρ[j]? = some (look ρ j) := by
  cases e : look ρ j with
  | some d => exact look_eq.mp e
  | none =>
    rw [List.getElem?_eq_getElem h]
    cases q : ρ[j] with
    | none => rfl
    | some d =>
      have : look ρ j = some d := look_eq.mpr (by rw [List.getElem?_eq_getElem h, q])
      rw [e] at this
      cases this
theorem restE_wipe {ρ1 ρ : PV.Env} {vs : List Nat} (h : wipeG ρ vs = wipeG ρ1 vs) : restE ρ1 vs ρ = ρ1 := by
  have hl : ρ.length = ρ1.length := by rw [← wipeG_len ρ vs, h, wipeG_len]
  apply List.ext_getElem?; intro j
  by_cases hj : j ∈ vs
  · rw [restE_in hj]
    by_cases hlj : j < ρ.length
    · rw [if_pos hlj, look_get (by rw [← hl]; exact hlj)]
    · rw [if_neg hlj, List.getElem?_eq_none (by omega)]
  · rw [restE_at hj, ← wipeG_at hj, h, wipeG_at hj]
def ownVs (c : Fc) (vs : List Nat) : Bool := vs.all fun i => (match c.kd i with | .own 0 => true | _ => false) && noIo c i
theorem ownVs_at {c : Fc} {vs : List Nat} (h : ownVs c vs = true) {i : Nat} (hi : i ∈ vs) : c.kd i = .own 0 ∧ noIo c i = true := by
  have := List.all_eq_true.mp h i hi
  rw [Bool.and_eq_true] at this
  refine ⟨?_, this.2⟩
  have := this.1
  split at this
  · assumption
  · cases this
section
variable {K : PySem.W.Frag} {mg : Str → Option Value} {c : Fc} {T fp : List Addr} {G F H G' F' H' G1 F1 H1 : Hp} {σ : L2.St} {ρ ρ1 : PV.Env} {vs : List Nat}
theorem Ok.wiped (o : Ok K mg c T G F H σ ρ) : ∀ {vs : List Nat}, ownVs c vs = true → Ok K mg c T G F H (wipe σ vs) (wipeG ρ vs)
  | [], _ => o
  | v :: vs, h => by
    have h' : ownVs c vs = true := List.all_eq_true.mpr fun i hi => List.all_eq_true.mp h i (List.mem_cons_of_mem _ hi)
    have hv := ownVs_at h List.mem_cons_self
    unfold wipe
    rw [wipeG_cons]
    exact (Ok.wiped o h').unset v none hv.2
theorem Ok.rest (o1 : Ok K mg c [] G1 F1 H1 σ ρ1) (x : Ext G1 F1 G F) (o : Ok K mg c T G F H (wipe σ vs) (wipeG ρ vs)) (hv : ownVs c vs = true) : Ok K mg c T G F H σ (restE ρ1 vs ρ) := by
  obtain ⟨fps1, k1, k0, _, _, _, _, _, _⟩ := o1.slt
  obtain ⟨fps, h1, h0, h2, h3, h4, h5, h6, h7⟩ := o.slt
  have hl : ρ.length = σ.length := by
    have := o.len
    rw [wipeG_len, wipe_eq, wipeG_len] at this
    exact this
  have nin : ∀ i, i ∈ vs → fps i = [] := fun i hi => h0 i fun ⟨d, e⟩ => by
    rw [wipeG_in hi] at e
    split at e <;> cases e
  refine ⟨o.gf, o.fh, o.bf, by rw [restE_len]; exact hl, o1.io, fps, fun i d e => ?_, fun i hi => ?_, h2, h3, h4, h5, h6, h7⟩
  · by_cases hi : i ∈ vs
    · rw [restE_in hi] at e
      split at e
      · have e : look ρ1 i = some d := Option.some.inj e
        obtain ⟨v, e1, q⟩ := k1 i d (look_eq.mp e)
        refine ⟨v, e1, ?_⟩
        rw [(ownVs_at hv hi).1] at q ⊢
        rw [nin i hi]
        exact ⟨q.1.mono x.g, rfl⟩
      · cases e
    · rw [restE_at hi] at e
      obtain ⟨v, e1, q⟩ := h1 i d (by rw [wipeG_at hi]; exact e)
      rw [wipe_eq, wipeG_at hi] at e1
      exact ⟨v, e1, q⟩
  · by_cases hv : i ∈ vs
    · exact nin i hv
    · refine h0 i fun ⟨d, e⟩ => hi ⟨d, ?_⟩
      rw [restE_at hv]
      rw [wipeG_at hv] at e
      exact e
theorem same_off {a : Addr} {u : HO} (s : Same H H') (h : H a = none) : Same H (upd H' a u) := fun b x e => by
  rw [upd_ne (ne_of_none e h)]
  exact s b x e
/-- the heap changes at own objects that no slot has -/
theorem Ok.reheap (o : Ok K mg c T G F H σ ρ) (h : ∀ a, a ∉ T → H' a = H a) : Ok K mg c T G F H' σ ρ := by
  obtain ⟨fps, h1, h0, h2, h3, h4, h5, h6, h7⟩ := o.slt
  refine ⟨o.gf, fun a u e => ?_, o.bf, o.len, o.io, fps, fun i d e => ?_, h0, h2, h3, h4, h5, h6, h7⟩
  · rw [h a fun z => by rw [h6 a z] at e; cases e]
    exact o.fh a u e
  · obtain ⟨v, e1, q⟩ := h1 i d e
    exact ⟨v, e1, Slt.frame (.refl G F) (fun a ha u e => by rw [h a (h7 i a ha)]; exact e) q⟩
theorem mdK_own {k : Nat} {d : D} {v : V} {fp : List Addr} (q : Val K mg (mdK (.own k)) G H d v fp) : Own K mg G H k d v fp := by
  cases k with
  | zero => exact ⟨q.1, q.2⟩
  | succ k => exact q
theorem Own.push {k : Nat} {ds : List D} {a : Addr} {rest : List Addr} {vs : List V} {d : D} {v : V} (ha : H a = some (.lst vs)) (h : Own K mg G H (k + 1) (.lst ds) (.ref a) (a :: rest)) (hv : Own K mg G H k d v fp) (nd : (a :: rest ++ fp).Nodup) :
    Own K mg G (upd H a (.lst (vs ++ [v]))) (k + 1) (.lst (ds ++ [d])) (.ref a) (a :: rest ++ fp) := by
  obtain ⟨a', rest', vs', e1, e2, ha', hl⟩ := h.lst_inv
  cases e1
  cases e2
  · rw [ha] at ha'
    cases ha'
    have nd := List.nodup_cons.mp nd
    have fr : ∀ {d : D} {v : V} {f : List Addr}, (∀ b ∈ f, b ∈ rest ++ fp) → Own K mg G H k d v f → Own K mg G (upd H a (.lst (vs ++ [v]))) k d v f := fun hf q => q.frame (.refl _) fun b hb o e => by
      rw [upd_ne (fun z => nd.1 (by rw [← z]; exact hf b hb))]
      exact e
    have fr : ∀ {d' : D} {v' : V} {f : List Addr}, (∀ b ∈ f, b ∈ rest ++ fp) → Own K mg G H k d' v' f → Own K mg G (upd H a (.lst (vs ++ [v]))) k d' v' f := fun hf q => q.frame (.refl _) fun b hb o e => by
      rw [upd_ne (fun z => nd.1 (by rw [← z]; exact hf b hb))]
      exact e
    refine Own.mkL (rest := rest ++ fp) upd_same ?_
    have := OwnL.append (hl.imp fun d' v' f hf q => fr (fun b hb => List.mem_append_left _ (hf b hb)) q) (OwnL.cons (fr (fun b hb => List.mem_append_right _ hb) hv) .nil)
    rw [List.append_nil] at this
    exact this
end
/-- the turns of a comprehension -/
def lcN (vs : List Nat) (g : D → PV.Env → Option PV.Env) (t : M Bool) (f : M D) (ds : List D) : PV.Env → R (List D × PV.Env) := List.rec (motive := fun _ => PV.Env → R (List D × PV.Env)) (fun ρ => .ok ([], ρ)) (fun d _ ih ρ => match g d (wipeG ρ vs) with
    | none => .fail
    | some ρ1 => match t ρ1 with
      | .ok (true, ρ2) => match f ρ2 with
        | .ok (y, ρ3) => match ih ρ3 with
          | .ok (ys, ρ4) => .ok (y :: ys, ρ4)
          | _ => .fail
        | _ => .fail
      | .ok (false, ρ2) => ih ρ2
      | _ => .fail) ds
theorem lcN_cons (vs : List Nat) (g : D → PV.Env → Option PV.Env) (t : M Bool) (f : M D) (d : D) (r : List D) (ρ : PV.Env) : lcN vs g t f (d :: r) ρ = match g d (wipeG ρ vs) with
    | none => .fail
    | some ρ1 => match t ρ1 with
      | .ok (true, ρ2) => match f ρ2 with
        | .ok (y, ρ3) => match lcN vs g t f r ρ3 with
          | .ok (ys, ρ4) => .ok (y :: ys, ρ4)
          | _ => .fail
        | _ => .fail
      | .ok (false, ρ2) => lcN vs g t f r ρ2
      | _ => .fail := rfl
def eLc (vs : List Nat) (fi : M (List D)) (g : D → PV.Env → Option PV.Env) (t : M Bool) (f : M D) : M D := fi.bind fun ds ρ => if ds.length ≤ 100000 then match lcN vs g t f ds ρ with
    | .ok (ys, ρ2) => .ok (.lst ys, restE ρ vs ρ2)
    | _ => .fail
  else .fail
/-- an expression; as the value of a name's assignment too -/
def LX (X : Cx) (W : WX) (c : Fc) (p : Bool) (n : Nat) (e : Expr) (f : M D) : Prop :=
  ∃ te, PE X e te ∧ (∀ {i : Nat} {y : Str} {py spos : Pos}, X.N[i]? = some y → X.env.scope.names.lookup y = some .local → swapsWith e (some (.Name y py)) spos.line X.env = pure true → PS X (.Assign [.Name y py] e spos) (tAsg te (gName i))) ∧
  ∀ (σ : L2.St) (ρ : PV.Env) (G F H : Hp) (Q : VK), Ok X.K X.mg c [] G F H σ ρ → Wp (f ρ) (EPost X c p (.own n) σ ρ G F H Q) (Nx X.K X.mg W σ G F) → te σ H Q
/-- what stands while the new list grows -/
structure LcS (K : PySem.W.Frag) (mg : Str → Option Value) (c : Fc) (P : Bool) (k : Nat) (D0 : Addr) (G1 F1 H1 Gb : Hp) (σ : L2.St) (ρ : PV.Env) (acc : List D) (H : Hp) : Prop where
  ex : ∃ G F rest, Ext G1 F1 G F ∧ Same Gb G ∧ Ok K mg c (D0 :: rest) G F H σ ρ ∧ Own K mg G H (k + 1) (.lst acc) (.ref D0) (D0 :: rest) ∧ (P = true → Same H1 H)
section
variable {K : PySem.W.Frag} {mg : Str → Option Value} {c : Fc} {P : Bool} {k : Nat} {D0 : Addr} {G1 F1 H1 Gb H : Hp} {σ : L2.St} {ρ : PV.Env} {acc : List D}
theorem LcS.start (o : Ok K mg c [] G1 F1 H1 σ ρ) (h : H1 D0 = none) {vs : List Nat} (hv : ownVs c vs = true) : LcS K mg c P k D0 G1 F1 H1 G1 (wipe σ vs) (wipeG ρ vs) [] (upd H1 D0 (.lst [])) :=
  ⟨G1, F1, [], .refl _ _, .refl _, (o.grown (Grow.own o.gf o.fh h)).wiped hv, Own.mkL upd_same .nil, fun _ => same_upd h⟩
theorem LcS.wiped (s : LcS K mg c P k D0 G1 F1 H1 Gb σ ρ acc H) {vs : List Nat} (hv : ownVs c vs = true) : LcS K mg c P k D0 G1 F1 H1 Gb (wipe σ vs) (wipeG ρ vs) acc H := by
  obtain ⟨G, F, rest, x1, sb, o, ow, hp⟩ := s.ex
  exact ⟨G, F, rest, x1, sb, o.wiped hv, ow, hp⟩
theorem LcS.base (s : LcS K mg c P k D0 G1 F1 H1 Gb σ ρ acc H) : LcS K mg c P k D0 G1 F1 H1 G1 σ ρ acc H := by
  obtain ⟨G, F, rest, x1, sb, o, ow, hp⟩ := s.ex
  exact ⟨G, F, rest, x1, x1.g, o, ow, hp⟩
/-- for the part that runs meanwhile: the list is kept -/
theorem LcS.pin (s : LcS K mg c P k D0 G1 F1 H1 Gb σ ρ acc H) : ∃ G F, Same G1 G ∧ Same Gb G ∧ Ok K mg c [] G F H σ ρ ∧ ∀ {G' F' H' : Hp} {σ' : L2.St} {ρ' : PV.Env} {fp : List Addr} (Gc : Hp), Same Gc G' → Ext G F G' F' → Ok K mg c fp G' F' H' σ' ρ' → (P = true → Same H H') →
    LcS K mg c P k D0 G1 F1 H1 Gc σ' ρ' acc H' ∧ ∀ {d : D} {v : V}, Own K mg G' H' k d v fp → H1 D0 = none → ∃ vs, H' D0 = some (.lst vs) ∧ vs.length = acc.length ∧ LcS K mg c P k D0 G1 F1 H1 Gc σ' ρ' (acc ++ [d]) (upd H' D0 (.lst (vs ++ [v]))) := by
  obtain ⟨G, F, rest, x1, sb, o, ow, hp⟩ := s.ex
  have o0 : Ok K mg c ((D0 :: rest) ++ []) G F H σ ρ := by rw [List.append_nil]; exact o
  obtain ⟨o1, xp⟩ := o0.pin
  obtain ⟨fps, _, _, _, _, _, nd, hT, _⟩ := o.slt
  refine ⟨G, join F H (D0 :: rest), x1.g, sb, o1, fun {G' F' H' σ' ρ' fp} Gc sc x2 o2 hs => ?_⟩
  have stay : ∀ a ∈ D0 :: rest, ∀ u, H a = some u → F' a = some u := fun a ha u e => x2.f a u (by unfold join; rw [if_pos ha]; exact e)
  have gn : ∀ a ∈ D0 :: rest, G' a = none := fun a ha => x2.n a (o.gf.free (hT a ha)) (by unfold join; rw [if_pos ha]; exact ow.dom a ha)
  have bn : ∀ a ∈ D0 :: rest, c.B a = none := fun a ha => o.bf.free (hT a ha)
  have fn : ∀ a ∈ D0 :: rest, F' a ≠ none := fun a ha => by
    cases e : H a with
    | none => exact absurd e (ow.dom a ha)
    | some u => rw [stay a ha u e]; intro z; cases z
  have o3 := o2.unpin (fp := D0 :: rest) gn bn fn nd
  have x3 : Ext G F G' (less F' (D0 :: rest)) := Ext.unpin hT xp.f x2
  have ow3 : Own K mg G' H' (k + 1) (.lst acc) (.ref D0) (D0 :: rest) := ow.frame x2.g fun a ha u e => o2.fh a u (stay a ha u e)
  have sH : P = true → Same H1 H' := fun hP => (hp hP).trans (hs hP)
  refine ⟨⟨G', less F' (D0 :: rest), rest, x1.trans x3, sc, ?_, ow3, sH⟩, fun {d v} od h1 => ?_⟩
  · obtain ⟨fps', k1, k0, k2, k3, k4, k5, k6, k7⟩ := o3.slt
    exact ⟨o3.gf, o3.fh, o3.bf, o3.len, o3.io, fps', k1, k0, k2, k3, k4, nd, fun a ha => k6 a (List.mem_append_left _ ha), fun i a ha hb => k7 i a ha (List.mem_append_left _ hb)⟩
  · obtain ⟨a, rest', vs', e1, e2, ha', hl⟩ := ow3.lst_inv
    cases e1
    cases e2
    · obtain ⟨_, _, _, _, _, _, nd3, _, _⟩ := o3.slt
      refine ⟨vs', ha', hl.length, ⟨G', less F' (D0 :: rest), rest ++ fp, x1.trans x3, sc, o3.reheap fun a ha => upd_ne fun z => ha (by rw [z]; exact List.mem_append_left _ List.mem_cons_self), Own.push ha' (Own.mkL ha' hl) od nd3, fun hP => same_off (sH hP) h1⟩⟩
end
section
variable {X : Cx} {W : WX} {c : Fc} {p q r : Bool} {k : Nat} {m : Md}
theorem lx_lc (ok : Cok X W) (hN : X.N.Nodup) {elt tg iter : Expr} {ifs : List Expr} {scope : Scope} {own : List (Str × Nat)} {is : List Nat} {pos : Pos} {fi : M (List D)} {g : D → PV.Env → Option PV.Env} {ft : M Bool} {fe : M D}
    (hi : IX X W c p tg iter fi) (bo : BlkOk X.N X.env.scope scope own) (hv : ownVs c (own.map (·.2)) = true) (his : ∀ i ∈ is, i ∈ own.map (·.2)) (hm : mdK (.own k) = m)
    (hg : ∀ (s : Shared) (H : Hp) (C : Addr) (cl : List (Str × Addr)) (fp : List Addr), GX (X.blk s H scope (compEnvC scope cl C X.env) fp) c tg is g)
    (ht : ∀ (s : Shared) (H : Hp) (C : Addr) (cl : List (Str × Addr)) (fp : List Addr), TXs (X.blk s H scope (compEnvC scope cl C X.env) fp) c q ifs ft)
    (he : ∀ (s : Shared) (H : Hp) (C : Addr) (cl : List (Str × Addr)) (fp : List Addr), EX (X.blk s H scope (compEnvC scope cl C X.env) fp) W0 c r m elt fe)
    (hs : ∀ x, foldedSetIterable iter X.env x = pure x := by intro _; rfl) : LX X W c (p && q && r) (k + 1) (.ListComp elt [⟨tg, iter, ifs, 0⟩] scope pos) (eLc (own.map (·.2)) fi g ft fe) := by
  obtain ⟨wi, i1, i2⟩ := hi
  have gw : ∀ (d : D) (ρ ρ' : PV.Env), g d ρ = some ρ' → ∀ vs : List Nat, (∀ i ∈ is, i ∈ vs) → wipeG ρ' vs = wipeG ρ vs := by
    by_cases hne : Nonempty Shared
    · obtain ⟨s⟩ := hne
      exact (hg s (fun _ => none) 0 [] []).1
    · intro d ρ ρ' e vs hvs
      exact (hg (Classical.choice (Classical.byContradiction fun z => hne (by exfalso; exact z ⟨X.s_0⟩))) (fun _ => none) 0 [] []).1 d ρ ρ' e vs hvs
  have hg' : ∀ (s : Shared) (H : Hp) (C : Addr) (cl : List (Str × Addr)) (fp : List Addr), PG (X.blk s H scope (compEnvC scope cl C X.env) fp) tg (canG X.K X.mg c is g) := fun s H C cl fp => (hg s H C cl fp).can
  have ht' : ∀ (s : Shared) (H : Hp) (C : Addr) (cl : List (Str × Addr)) (fp : List Addr), PTs (X.blk s H scope (compEnvC scope cl C X.env) fp) ifs (canT X.K X.mg c q ft) := ht
  have he' : ∀ (s : Shared) (H : Hp) (C : Addr) (cl : List (Str × Addr)) (fp : List Addr), PE (X.blk s H scope (compEnvC scope cl C X.env) fp) elt (canE X.K X.mg c r m fe) := fun s H C cl fp => (he s H C cl fp).can
  refine ⟨_, pe_lc ok.calm hN i1 bo hg' ht' he' hs, fun {i y py spos} hy hyl hsw => ps_setLc ok.calm hN hy hyl hsw i1 bo hg' ht' he' hs, fun σ ρ G F H Q o w => ?_⟩
  clear hg' ht' he' hg ht he
  generalize own.map (·.2) = vs at *
  refine i2 σ ρ G F H _ o ((Wp.ofBindM w).imp (fun rr hr => ?_) fun _ z => z)
  intro J G1 F1 H1 x1 o1 it hp1 D0 hD
  obtain ⟨ds, ρ1⟩ := rr
  dsimp only at hr
  split at hr
  · rename_i hlen
    -- the end wished
    have hr' : ∃ ys ρ2, lcN vs g ft fe ds ρ1 = .ok (ys, ρ2) ∧ EPost X c (p && q && r) (.own (k + 1)) σ ρ G F H Q (.lst ys, restE ρ1 vs ρ2) := by
      split at hr
      · rename_i ys ρ2 e
        exact ⟨ys, ρ2, e, hr⟩
      · exact hr.elim
    obtain ⟨ys, ρ2, eN, fin⟩ := hr'
    refine ⟨fun i n H' => i + n = ds.length ∧ ∃ ρ' acc zs, LcS X.K X.mg c (p && q && r) k D0 G1 F1 H1 G1 (wipe σ vs) (wipeG ρ' vs) acc H' ∧ acc.length ≤ i ∧ ((p && q && r) = true → wipeG ρ' vs = wipeG ρ1 vs) ∧ lcN vs g ft fe (ds.drop i) ρ' = .ok (zs, ρ2) ∧ acc ++ zs = ys,
      ⟨ds.length, Nat.zero_add _, ρ1, [], ys, LcS.start o1 hD hv, Nat.le_refl _, fun _ => rfl, eN, rfl⟩, fun i n H2 hw => ?_⟩
    obtain ⟨en, ρ', acc, zs, st, la, pw, eN2, ez⟩ := hw
    by_cases hi : i < ds.length
    · obtain ⟨G2, F2, sg, _, o2, back⟩ := st.pin
      rw [List.drop_eq_getElem_cons hi] at eN2
      refine .inr ⟨it.go i H2 (sg.trans o2.gh) hi, fun H3 => i + 1 + (n - 1) = ds.length ∧ ∃ ρ' acc zs, LcS X.K X.mg c (p && q && r) k D0 G1 F1 H1 G1 (wipe σ vs) (wipeG ρ' vs) acc H3 ∧ acc.length ≤ i + 1 ∧ ((p && q && r) = true → wipeG ρ' vs = wipeG ρ1 vs) ∧ lcN vs g ft fe (ds.drop (i + 1)) ρ' = .ok (zs, ρ2) ∧ acc ++ zs = ys,
        fun H3 hq => ⟨n - 1, by omega, hq⟩, fun x H3 y => ?_⟩
      obtain ⟨G3, F3, gr, rp⟩ := it.yld i H2 x H3 G2 F2 _ y sg o2.gf o2.fh (List.getElem?_eq_getElem hi)
      have o3 := o2.grown gr
      simp only [lcN_cons] at eN2
      split at eN2
      · cases eN2
      · rename_i ρa ea
        refine ⟨wipeG ρ' vs, ρa, G3, F3, _, o3, rp, ea, fun σ4 o4 hl4 w4 => ?_⟩
        have w5 : wipe σ4 vs = wipe σ vs := (w4 vs his).trans (by rw [wipe_eq, wipe_eq]; exact wipeG_sub fun i hi => hi)
        refine ⟨w5, ρa, G3, F3, o4, ?_⟩
        have wa : wipeG ρa vs = wipeG ρ' vs := (gw _ _ _ ea vs his).trans (wipeG_sub fun i hi => hi)
        split at eN2
        · rename_i ρb eb
          rw [eb]
          intro G5 F5 H5 x5 o5 hp5
          show if true = true then _ else _
          rw [if_pos rfl]
          refine ⟨ρb, G5, F5, o5, ?_⟩
          split at eN2
          · rename_i y ρc ec
            rw [ec]
            intro v G6 F6 H6 fp x6 o6 q6 hp6
            split at eN2
            · rename_i ys4 ρ4 e4
              cases eN2
              obtain ⟨vs', hD', hl', st'⟩ := (back G1 (sg.trans (gr.x.trans (x5.trans x6)).g) (gr.x.trans (x5.trans x6)) o6 fun hP => by
                rw [Bool.and_eq_true, Bool.and_eq_true] at hP
                exact (gr.hh.trans (hp5 hP.1.2).2).trans (hp6 hP.2).2).2 (mdK_own (by rw [hm]; exact q6)) hD
              refine ⟨vs', hD', by have : 100000 ≤ sizeLine := by decide
                                   omega, by omega, ρc, acc ++ [y], ys4, ?_, by rw [List.length_append]; simp; exact la, fun hP => ?_, e4, by rw [List.append_assoc]; exact ez⟩
              · rw [← w5]; exact st'.wiped hv
              · have hP' := hP
                rw [Bool.and_eq_true, Bool.and_eq_true] at hP'
                have e5 : ρb = ρa := (hp5 hP'.1.2).1
                have e6 : ρc = ρb := (hp6 hP'.2).1
                rw [e6, e5, wa]
                exact pw hP
            · cases eN2
          · cases eN2
        · rename_i ρb eb
          rw [eb]
          intro G5 F5 H5 x5 o5 hp5
          show if false = true then _ else _
          rw [if_neg (by simp : ¬ false = true)]
          have st' := (back G1 (sg.trans (gr.x.trans x5).g) (gr.x.trans x5) o5 fun hP => by
            rw [Bool.and_eq_true, Bool.and_eq_true] at hP
            exact gr.hh.trans (hp5 hP.1.2).2).1
          refine ⟨by omega, ρb, acc, zs, ?_, by omega, fun hP => ?_, eN2, ez⟩
          · rw [← w5]; exact st'.wiped hv
          · have hP' := hP
            rw [Bool.and_eq_true, Bool.and_eq_true] at hP'
            have e5 : ρb = ρa := (hp5 hP'.1.2).1
            rw [e5, wa]
            exact pw hP
        · cases eN2
    · have hn : ds.length ≤ i := Nat.le_of_not_lt hi
      rw [List.drop_eq_nil_of_le hn] at eN2
      cases eN2
      rw [List.append_nil] at ez
      subst ez
      obtain ⟨G2, F2, rest, x2, _, o2, ow2, h2⟩ := st.ex
      refine .inl ⟨it.stop i H2 (x2.g.trans o2.gh) hn, ?_⟩
      refine fin (.ref D0) G2 F2 H2 (D0 :: rest) (x1.trans x2) (o1.rest x2 o2 hv) ow2 fun hP => ?_
      have hP' := hP
      rw [Bool.and_eq_true, Bool.and_eq_true] at hP'
      refine ⟨?_, (hp1 hP'.1.1).2.trans (h2 hP)⟩
      rw [restE_wipe (pw hP)]
      exact (hp1 hP'.1.1).1
  · exact hr.elim
theorem LX.ex {n : Nat} {e : Expr} {f : M D} (h : LX X W c p n e f) : EX X W c p (.own n) e f := let ⟨te, h1, _, h2⟩ := h; ⟨te, h1, h2⟩
/-- x = [..], in the same def -/
theorem sx_asgL {rk : Nat} (i : Nat) {n : Nat} {x : Str} {e : Expr} {f : M D} {pos pos' : Pos} {kd : Kd} (h : LX X W c p n e f) (hk : c.kd i = kd := by rfl) (hm : kd = .own 0 ∨ kd = .own n := by first | exact .inr rfl | exact .inl rfl) (hio : noIo c i = true := by rfl) (hi : X.N[i]? = some x := by rfl)
    (hyl : X.env.scope.names.lookup x = some .local := by rfl) (hs : swapsWith e (some (.Name x pos')) pos.line X.env = pure true := by rfl) : SX X W c rk (.Assign [.Name x pos'] e pos) (sAsg i f) := by
  rw [sAsg_def]
  obtain ⟨te, _, h1, h2⟩ := h
  refine ⟨_, h1 hi hyl hs, fun D σ ρ G F H o w => ?_⟩
  refine h2 σ ρ G F H _ o ((WpS.ofDo w).imp (fun r hr => ?_) fun _ z => Nx.toS z)
  intro v G' F' H' fp x1 o1 q hp
  rcases hm with rfl | rfl
  · obtain ⟨o2, x2⟩ := o1.freeze
    exact hr (σ.set i (some v)) _ _ H' (x1.trans x2) (Ok.set (fp := []) o2 (by rw [hk]; exact ⟨Own.frozen (G' := join G' H' fp) x2.g (fun a ha u e => by unfold join; rw [if_pos ha]; exact e) q, rfl⟩) hio) (by rw [List.length_set])
  · exact hr (σ.set i (some v)) G' F' H' x1 (o1.tnil.set (by rw [hk]; exact q) hio) (by rw [List.length_set])
end
end
end PV

set_option Elab.async false
set_option linter.all false
set_option maxRecDepth 100000
set_option maxHeartbeats 0
namespace PV
noncomputable section
open PySem PySem.Spec
open PyProof.Rows L2

/-! ## 17. list comprehensions of two clauses -/
def lc2N (vs vs1 : List Nat) (g : D → PV.Env → Option PV.Env) (t : M Bool) (fi1 : M (List D)) (g1 : D → PV.Env → Option PV.Env) (t1 : M Bool) (f : M D) (ds : List D) : PV.Env → R (List D × PV.Env) := List.rec (motive := fun _ => PV.Env → R (List D × PV.Env)) (fun ρ => .ok ([], ρ)) (fun d _ ih ρ => match g d (wipeG ρ vs) with
    | none => .fail
    | some ρ1 => match t ρ1 with
      | .ok (true, ρ2) => match fi1 ρ2 with
        | .ok (ds1, ρ3) => match lcN vs1 g1 t1 f ds1 ρ3 with
          | .ok (ys, ρ4) => match ih ρ4 with
            | .ok (zs, ρ5) => .ok (ys ++ zs, ρ5)
            | _ => .fail
          | _ => .fail
        | _ => .fail
      | .ok (false, ρ2) => ih ρ2
      | _ => .fail) ds
theorem lc2N_cons (vs vs1 : List Nat) (g : D → PV.Env → Option PV.Env) (t : M Bool) (fi1 : M (List D)) (g1 : D → PV.Env → Option PV.Env) (t1 : M Bool) (f : M D) (d : D) (r : List D) (ρ : PV.Env) : lc2N vs vs1 g t fi1 g1 t1 f (d :: r) ρ = match g d (wipeG ρ vs) with
    | none => .fail
    | some ρ1 => match t ρ1 with
      | .ok (true, ρ2) => match fi1 ρ2 with
        | .ok (ds1, ρ3) => match lcN vs1 g1 t1 f ds1 ρ3 with
          | .ok (ys, ρ4) => match lc2N vs vs1 g t fi1 g1 t1 f r ρ4 with
            | .ok (zs, ρ5) => .ok (ys ++ zs, ρ5)
            | _ => .fail
          | _ => .fail
        | _ => .fail
      | .ok (false, ρ2) => lc2N vs vs1 g t fi1 g1 t1 f r ρ2
      | _ => .fail := rfl
def eLc2 (vs vs1 : List Nat) (fi : M (List D)) (g : D → PV.Env → Option PV.Env) (t : M Bool) (fi1 : M (List D)) (g1 : D → PV.Env → Option PV.Env) (t1 : M Bool) (f : M D) : M D := fi.bind fun ds ρ => match lc2N vs vs1 g t fi1 g1 t1 f ds ρ with
    | .ok (ys, ρ2) => if ys.length ≤ 100000 then .ok (.lst ys, restE ρ vs ρ2) else .fail
    | _ => .fail
section
variable {X : Cx} {W : WX} {c : Fc} {p q p1 q1 r : Bool} {k : Nat} {m : Md}
theorem lx_lc2 (ok : Cok X W) (hN : X.N.Nodup) {elt tg iter tg1 iter1 : Expr} {ifs ifs1 : List Expr} {scope : Scope} {own : List (Str × Nat)} {is is1 vs1 : List Nat} {pos : Pos} {fi fi1 : M (List D)} {g g1 : D → PV.Env → Option PV.Env} {ft ft1 : M Bool} {fe : M D}
    (hi : IX X W c p tg iter fi) (bo : BlkOk X.N X.env.scope scope own) (hv : ownVs c (own.map (·.2)) = true) (his : ∀ i ∈ is, i ∈ own.map (·.2)) (his1 : ∀ i ∈ is1, i ∈ vs1) (hvs : ∀ i ∈ vs1, i ∈ own.map (·.2)) (hm : mdK (.own k) = m)
    (hg : ∀ (s : Shared) (H : Hp) (C : Addr) (cl : List (Str × Addr)) (fp : List Addr), GX (X.blk s H scope (compEnvC scope cl C X.env) fp) c tg is g)
    (ht : ∀ (s : Shared) (H : Hp) (C : Addr) (cl : List (Str × Addr)) (fp : List Addr), TXs (X.blk s H scope (compEnvC scope cl C X.env) fp) c q ifs ft)
    (hi1 : ∀ (s : Shared) (H : Hp) (C : Addr) (cl : List (Str × Addr)) (fp : List Addr), IX (X.blk s H scope (compEnvC scope cl C X.env) fp) W0 c p1 tg1 iter1 fi1)
    (hg1 : ∀ (s : Shared) (H : Hp) (C : Addr) (cl : List (Str × Addr)) (fp : List Addr), GX (X.blk s H scope (compEnvC scope cl C X.env) fp) c tg1 is1 g1)
    (ht1 : ∀ (s : Shared) (H : Hp) (C : Addr) (cl : List (Str × Addr)) (fp : List Addr), TXs (X.blk s H scope (compEnvC scope cl C X.env) fp) c q1 ifs1 ft1)
    (he : ∀ (s : Shared) (H : Hp) (C : Addr) (cl : List (Str × Addr)) (fp : List Addr), EX (X.blk s H scope (compEnvC scope cl C X.env) fp) W0 c r m elt fe)
    (hs : ∀ x, foldedSetIterable iter X.env x = pure x := by intro _; rfl) (hs1 : ∀ env x, foldedSetIterable iter1 env x = pure x := by intro _ _; rfl) : LX X W c false (k + 1) (.ListComp elt [⟨tg, iter, ifs, 0⟩, ⟨tg1, iter1, ifs1, 0⟩] scope pos) (eLc2 (own.map (·.2)) vs1 fi g ft fi1 g1 ft1 fe) := by
  obtain ⟨wi, i1, i2⟩ := hi
  have gw : ∀ (d : D) (ρ ρ' : PV.Env), g d ρ = some ρ' → ∀ vs : List Nat, (∀ i ∈ is, i ∈ vs) → wipeG ρ' vs = wipeG ρ vs := (hg X.s_0 (fun _ => none) 0 [] []).1
  have hg' : ∀ (s : Shared) (H : Hp) (C : Addr) (cl : List (Str × Addr)) (fp : List Addr), PG (X.blk s H scope (compEnvC scope cl C X.env) fp) tg (canG X.K X.mg c is g) := fun s H C cl fp => (hg s H C cl fp).can
  have ht' : ∀ (s : Shared) (H : Hp) (C : Addr) (cl : List (Str × Addr)) (fp : List Addr), PTs (X.blk s H scope (compEnvC scope cl C X.env) fp) ifs (canT X.K X.mg c q ft) := ht
  have hi1' : ∀ (s : Shared) (H : Hp) (C : Addr) (cl : List (Str × Addr)) (fp : List Addr), PI (X.blk s H scope (compEnvC scope cl C X.env) fp) tg1 iter1 (canI X.K X.mg c p1 fi1) := fun s H C cl fp => (hi1 s H C cl fp).can
  have hg1' : ∀ (s : Shared) (H : Hp) (C : Addr) (cl : List (Str × Addr)) (fp : List Addr), PG (X.blk s H scope (compEnvC scope cl C X.env) fp) tg1 (canG X.K X.mg c is1 g1) := fun s H C cl fp => (hg1 s H C cl fp).can
  have ht1' : ∀ (s : Shared) (H : Hp) (C : Addr) (cl : List (Str × Addr)) (fp : List Addr), PTs (X.blk s H scope (compEnvC scope cl C X.env) fp) ifs1 (canT X.K X.mg c q1 ft1) := ht1
  have he' : ∀ (s : Shared) (H : Hp) (C : Addr) (cl : List (Str × Addr)) (fp : List Addr), PE (X.blk s H scope (compEnvC scope cl C X.env) fp) elt (canE X.K X.mg c r m fe) := fun s H C cl fp => (he s H C cl fp).can
  refine ⟨_, pe_lc2 ok.calm hN i1 bo hvs hg' ht' hi1' hg1' ht1' he' hs hs1, fun {i y py spos} hy hyl hsw => ps_setLc2 ok.calm hN hy hyl hsw i1 bo hvs hg' ht' hi1' hg1' ht1' he' hs hs1, fun σ ρ G F H Q o w => ?_⟩
  clear hg' ht' he' hg1' ht1' hi1' hg ht he hg1 ht1 hi1
  generalize own.map (·.2) = vs at *
  have hv1 : ownVs c vs1 = true := List.all_eq_true.mpr fun i hi => List.all_eq_true.mp hv i (hvs i hi)
  refine i2 σ ρ G F H _ o ((Wp.ofBindM w).imp (fun rr hr => ?_) fun _ z => z)
  intro J G1 F1 H1 x1 o1 it hp1 D0 hD
  obtain ⟨ds, ρ1⟩ := rr
  dsimp only at hr
  have hr' : ∃ ys ρ2, lc2N vs vs1 g ft fi1 g1 ft1 fe ds ρ1 = .ok (ys, ρ2) ∧ ys.length ≤ 100000 ∧ EPost X c false (.own (k + 1)) σ ρ G F H Q (.lst ys, restE ρ1 vs ρ2) := by
    split at hr
    · rename_i ys ρ2 e
      split at hr
      · rename_i hl
        exact ⟨ys, ρ2, e, hl, hr⟩
      · exact hr.elim
    · exact hr.elim
  obtain ⟨ys, ρ2, eN, hlen, fin⟩ := hr'
  have szl1 : 100000 ≤ sizeLine := by decide
  refine ⟨fun i n H' => i + n = ds.length ∧ ∃ ρ' acc zs, LcS X.K X.mg c false k D0 G1 F1 H1 G1 (wipe σ vs) (wipeG ρ' vs) acc H' ∧ lc2N vs vs1 g ft fi1 g1 ft1 fe (ds.drop i) ρ' = .ok (zs, ρ2) ∧ acc ++ zs = ys,
    ⟨ds.length, Nat.zero_add _, ρ1, [], ys, LcS.start o1 hD hv, eN, rfl⟩, fun i n H2 hw => ?_⟩
  obtain ⟨en, ρ', acc, zs, st, eN2, ez⟩ := hw
  by_cases hi : i < ds.length
  · obtain ⟨G2, F2, sg, _, o2, back⟩ := st.pin
    rw [List.drop_eq_getElem_cons hi] at eN2
    refine .inr ⟨it.go i H2 (sg.trans o2.gh) hi, fun H3 => i + 1 + (n - 1) = ds.length ∧ ∃ ρ' acc zs, LcS X.K X.mg c false k D0 G1 F1 H1 G1 (wipe σ vs) (wipeG ρ' vs) acc H3 ∧ lc2N vs vs1 g ft fi1 g1 ft1 fe (ds.drop (i + 1)) ρ' = .ok (zs, ρ2) ∧ acc ++ zs = ys,
      fun H3 hq => ⟨n - 1, by omega, hq⟩, fun x H3 y => ?_⟩
    obtain ⟨G3, F3, gr, rp⟩ := it.yld i H2 x H3 G2 F2 _ y sg o2.gf o2.fh (List.getElem?_eq_getElem hi)
    have o3 := o2.grown gr
    simp only [lc2N_cons] at eN2
    split at eN2
    · cases eN2
    · rename_i ρa ea
      refine ⟨wipeG ρ' vs, ρa, G3, F3, _, o3, rp, ea, fun σ4 o4 hl4 w4 => ?_⟩
      have w5 : wipe σ4 vs = wipe σ vs := (w4 vs his).trans (by rw [wipe_eq, wipe_eq]; exact wipeG_sub fun i hi => hi)
      refine ⟨w5, ρa, G3, F3, o4, ?_⟩
      split at eN2
      · rename_i ρb eb
        rw [eb]
        intro G5 F5 H5 x5 o5 hp5
        show if true = true then _ else _
        rw [if_pos rfl]
        refine ⟨ρb, G5, F5, o5, ?_⟩
        split at eN2
        · rename_i ds1 ρc ec
          rw [ec]
          intro J1 G6 F6 H6 x6 o6 it1 hp6
          split at eN2
          · rename_i ys4 ρ4 e4
            split at eN2
            · rename_i zs5 ρ5 e5
              cases eN2
              have st' := (back G6 (.refl _) (gr.x.trans (x5.trans x6)) o6 (fun hP => nomatch hP)).1
              refine ⟨fun j n1 H' => j + n1 = ds1.length ∧ ∃ ρ' acc' us, LcS X.K X.mg c false k D0 G1 F1 H1 G6 (wipe σ4 vs1) (wipeG ρ' vs1) acc' H' ∧ lcN vs1 g1 ft1 fe (ds1.drop j) ρ' = .ok (us, ρ4) ∧ acc' ++ us = acc ++ ys4,
                ⟨ds1.length, Nat.zero_add _, ρc, acc, ys4, st'.wiped hv1, e4, rfl⟩, fun j n1 H7 hw1 => ?_⟩
              obtain ⟨en1, ρ'', acc', us, st1, eM, ez1⟩ := hw1
              by_cases hj : j < ds1.length
              · obtain ⟨G8, F8, sg8, sb8, o8, back8⟩ := st1.pin
                rw [List.drop_eq_getElem_cons hj] at eM
                refine .inr ⟨it1.go j H7 (sb8.trans o8.gh) hj, fun H' => j + 1 + (n1 - 1) = ds1.length ∧ ∃ ρ' acc' us, LcS X.K X.mg c false k D0 G1 F1 H1 G6 (wipe σ4 vs1) (wipeG ρ' vs1) acc' H' ∧ lcN vs1 g1 ft1 fe (ds1.drop (j + 1)) ρ' = .ok (us, ρ4) ∧ acc' ++ us = acc ++ ys4,
                  fun H' hq => ⟨n1 - 1, by omega, hq⟩, fun x9 H9 y9 => ?_⟩
                obtain ⟨G9, F9, gr9, rp9⟩ := it1.yld j H7 x9 H9 G8 F8 _ y9 sb8 o8.gf o8.fh (List.getElem?_eq_getElem hj)
                have o9 := o8.grown gr9
                simp only [lcN_cons] at eM
                split at eM
                · cases eM
                · rename_i ρd ed
                  refine ⟨wipeG ρ'' vs1, ρd, G9, F9, _, o9, rp9, ed, fun σ10 o10 hl10 w10 => ?_⟩
                  have w11 : wipe σ10 vs1 = wipe σ4 vs1 := (w10 vs1 his1).trans (by rw [wipe_eq, wipe_eq]; exact wipeG_sub fun i hi => hi)
                  refine ⟨w11, ρd, G9, F9, o10, ?_⟩
                  split at eM
                  · rename_i ρe ee
                    rw [ee]
                    intro G11 F11 H11 x11 o11 hp11
                    show if true = true then _ else _
                    rw [if_pos rfl]
                    refine ⟨ρe, G11, F11, o11, ?_⟩
                    split at eM
                    · rename_i y ρf ef
                      rw [ef]
                      intro v G12 F12 H12 fp x12 o12 q12 hp12
                      split at eM
                      · rename_i ys6 ρ6 e6
                        cases eM
                        obtain ⟨vs', hD', hl', st2⟩ := (back8 G6 (sb8.trans (gr9.x.trans (x11.trans x12)).g) (gr9.x.trans (x11.trans x12)) o12 fun hP => nomatch hP).2 (mdK_own (by rw [hm]; exact q12)) hD
                        have hlt : acc'.length < 100000 := by
                          have h1 := congrArg List.length ez
                          have h2 := congrArg List.length ez1
                          simp only [List.length_append, List.length_cons] at h1 h2
                          omega
                        refine ⟨vs', hD', by omega, by omega, ρf, acc' ++ [y], ys6, ?_, e6, by rw [List.append_assoc]; exact ez1⟩
                        rw [← w11]
                        exact st2.wiped hv1
                      · cases eM
                    · cases eM
                  · rename_i ρe ee
                    rw [ee]
                    intro G11 F11 H11 x11 o11 hp11
                    show if false = true then _ else _
                    rw [if_neg (by simp : ¬ false = true)]
                    have st2 := (back8 G6 (sb8.trans (gr9.x.trans x11).g) (gr9.x.trans x11) o11 fun hP => nomatch hP).1
                    refine ⟨by omega, ρe, acc', us, ?_, eM, ez1⟩
                    rw [← w11]
                    exact st2.wiped hv1
                  · cases eM
              · have hn : ds1.length ≤ j := Nat.le_of_not_lt hj
                rw [List.drop_eq_nil_of_le hn] at eM
                cases eM
                rw [List.append_nil] at ez1
                obtain ⟨G8, F8, sg8, sb8, o8, back8⟩ := st1.pin
                refine .inl ⟨it1.stop j H7 (sb8.trans o8.gh) hn, by omega, ρ4, acc', zs5, ?_, e5, by rw [ez1, List.append_assoc]; exact ez⟩
                have st3 := st1.base.wiped (vs := vs) hv
                rw [wipeG_sub hvs] at st3
                have ew : wipe (wipe σ4 vs1) vs = wipe σ vs := by rw [← w5, wipe_eq, wipe_eq, wipe_eq]; exact wipeG_sub hvs
                rw [ew] at st3
                exact st3
            · cases eN2
          · cases eN2
        · cases eN2
      · rename_i ρb eb
        rw [eb]
        intro G5 F5 H5 x5 o5 hp5
        show if false = true then _ else _
        rw [if_neg (by simp : ¬ false = true)]
        have st' := (back G1 (sg.trans (gr.x.trans x5).g) (gr.x.trans x5) o5 fun hP => nomatch hP).1
        refine ⟨by omega, ρb, acc, zs, ?_, eN2, ez⟩
        rw [← w5]; exact st'.wiped hv
      · cases eN2
  · have hn : ds.length ≤ i := Nat.le_of_not_lt hi
    rw [List.drop_eq_nil_of_le hn] at eN2
    cases eN2
    rw [List.append_nil] at ez
    subst ez
    obtain ⟨G2, F2, rest, x2, _, o2, ow2, h2⟩ := st.ex
    refine .inl ⟨it.stop i H2 (x2.g.trans o2.gh) hn, ?_⟩
    exact fin (.ref D0) G2 F2 H2 (D0 :: rest) (x1.trans x2) (o1.rest x2 o2 hv) ow2 fun hP => nomatch hP
end
end
end PV

set_option Elab.async false
set_option linter.all false
set_option maxRecDepth 100000
set_option maxHeartbeats 0
namespace PV
noncomputable section
open PySem PySem.Spec
open PyProof.Rows L2

/-! ## 18. the object of a slot is changed -/
section
variable {K : PySem.W.Frag} {mg : Str → Option Value} {c : Fc} {T fp fq : List Addr} {G F H G' F' H' : Hp} {σ : L2.St} {ρ : PV.Env}
theorem Ok.mut (o : Ok K mg c fq G F H σ ρ) {i n : Nat} {x : D} (e : look ρ i = some x) (hk : c.kd i = .own n) : ∃ u fp, σ[i]? = some (some u) ∧ Own K mg G H n x u fp ∧ fp.Nodup ∧ (∀ a ∈ fp, F a = none) ∧ (∀ a ∈ fp, a ∉ fq) ∧ fq.Nodup ∧
    ∀ (H' : Hp) (y : D) (fo T' : List Addr), Own K mg G H' n y u fo → (∀ a, a ∉ fp → H' a = H a) → (fo ++ T').Nodup → (∀ a ∈ fo ++ T', a ∈ fp ∨ a ∈ fq) → Ok K mg c T' G F H' σ (ρ.set i (some y)) := by
  obtain ⟨fps, h1, h0, h2, h3, h4, h5, h6, h7⟩ := o.slt
  obtain ⟨u, e1, s⟩ := h1 i x (look_eq.mp e)
  rw [hk] at s
  refine ⟨u, fps i, e1, s, h3 i, h2 i, h7 i, h5, fun H' y fo T' ow hh nd sub => ?_⟩
  have ndd := List.nodup_append.mp nd
  have hil : i < ρ.length := (List.getElem?_eq_some_iff.mp (look_eq.mp e)).1
  have inF : ∀ a ∈ fo ++ T', F a = none := fun a ha => (sub a ha).elim (h2 i a) (h6 a)
  have far : ∀ j a, j ≠ i → a ∈ fps j → a ∉ fo ++ T' := fun j a hj ha hb => (sub a hb).elim (fun z => h4 j i a hj ha z) fun z => h7 j a ha z
  refine ⟨o.gf, fun a u e => ?_, o.bf, by rw [List.length_set]; exact o.len, o.io, fun j => if j = i then fo else fps j, fun j d he => ?_, fun j hj => ?_, fun j a ha => ?_, fun j => ?_, fun j l a hjl ha hb => ?_, ndd.2.1, fun a ha => inF a (List.mem_append_right _ ha), fun j a ha hb => ?_⟩
  · rw [hh a fun z => by rw [h2 i a z] at e; cases e]
    exact o.fh a u e
  · by_cases z : j = i
    · subst z
      rw [List.getElem?_set_self hil] at he
      cases he
      refine ⟨u, e1, ?_⟩
      dsimp only
      rw [if_pos rfl, hk]
      exact ow
    · rw [List.getElem?_set_ne (Ne.symm z)] at he
      obtain ⟨w, e2, s2⟩ := h1 j d he
      refine ⟨w, e2, ?_⟩
      dsimp only
      rw [if_neg z]
      exact Slt.frame (.refl G F) (fun a ha t q => by rw [hh a (h4 j i a z ha)]; exact q) s2
  · dsimp only
    by_cases z : j = i
    · exfalso
      apply hj
      exact ⟨y, by rw [z, List.getElem?_set_self hil]⟩
    · rw [if_neg z]
      refine h0 j fun ⟨d, he⟩ => hj ⟨d, ?_⟩
      rw [List.getElem?_set_ne (Ne.symm z)]
      exact he
  · dsimp only at ha
    split at ha
    · exact inF a (List.mem_append_left _ ha)
    · exact h2 j a ha
  · dsimp only
    split
    · exact ndd.1
    · exact h3 j
  · dsimp only at ha hb
    split at ha
    · rename_i z
      split at hb
      · rename_i z2
        exact hjl (z.trans z2.symm)
      · rename_i z2
        exact far l a z2 hb (List.mem_append_left _ ha)
    · rename_i z
      split at hb
      · exact far j a z ha (List.mem_append_left _ hb)
      · exact h4 j l a hjl ha hb
  · dsimp only at ha
    split at ha
    · exact ndd.2.2 a ha a hb rfl
    · rename_i z
      exact far j a z ha (List.mem_append_right _ hb)
/-! own items, taken and put -/
theorem OwnL.pick {Q : D → V → List Addr → Prop} : ∀ {ds : List D} {vs : List V} {fp : List Addr} {j : Nat} {d : D}, OwnL Q ds vs fp → ds[j]? = some d → ∃ v fj rest, vs[j]? = some v ∧ Q d v fj ∧ OwnL Q (ds.eraseIdx j) (vs.eraseIdx j) rest ∧ (fj ++ rest).Perm fp ∧ ∀ d' v' f', Q d' v' f' → ∃ fp', OwnL Q (ds.set j d') (vs.set j v') fp' ∧ (f' ++ rest).Perm fp'
  | _, _, _, _, _, .nil, e => by rw [List.getElem?_nil] at e; exact nomatch e
  | _, _, _, 0, d, .cons h r, e => by
    simp at e
    subst e
    exact ⟨_, _, _, rfl, h, r, .refl _, fun d' v' f' q => ⟨_, .cons q r, .refl _⟩⟩
  | _, _, _, j + 1, d, .cons (fp := fp) (fps := fps) h r, e => by
    obtain ⟨v, fj, rest, h1, h2, h3, h4, h5⟩ := OwnL.pick (j := j) (d := d) r (by simpa using e)
    refine ⟨v, fj, fp ++ rest, by simpa using h1, h2, .cons h h3, ?_, fun d' v' f' q => ?_⟩
    · refine List.Perm.trans ?_ (List.Perm.append_left fp h4)
      simp only [← List.append_assoc]
      exact .append_right _ List.perm_append_comm
    · obtain ⟨fp', k1, k2⟩ := h5 d' v' f' q
      refine ⟨fp ++ fp', .cons h k1, ?_⟩
      refine List.Perm.trans ?_ (List.Perm.append_left fp k2)
      simp only [← List.append_assoc]
      exact .append_right _ List.perm_append_comm
/-- items of an own list stay own while the list's object changes -/
theorem OwnL.off {k : Nat} {a : Addr} {ho : HO} {ds : List D} {vs : List V} {rest : List Addr} (h : OwnL (Own K mg G H k) ds vs rest) (na : a ∉ rest) : OwnL (Own K mg G (upd H a ho) k) ds vs rest :=
  h.imp fun _ _ _ hf q => q.frame (.refl _) fun b hb o e => by rw [upd_ne (fun z => na (by rw [← z]; exact hf b hb))]; exact e
theorem Own.lst {n : Nat} {ds : List D} {vs : List V} {a : Addr} {rest : List Addr} (ha : H a = some (.lst vs)) (hl : OwnL (Own K mg G H n) ds vs rest) : Own K mg G H (n + 1) (.lst ds) (.ref a) (a :: rest) := Own.mkL ha hl
theorem Val.ofOwn {k : Nat} {d : D} {v : V} (q : Own K mg G H k d v fp) : Val K mg (mdK (.own k)) G H d v fp := by
  cases k with
  | zero => exact ⟨q.1, q.2⟩
  | succ k => exact q
end
def isOL : D → Bool
  | .lst _ => true
  | _ => false
def isOD : D → Bool
  | .dct _ => true
  | _ => false
/-- what a method does to the object of a slot, with its arguments: the result, the object then -/
def MS (K : PySem.W.Frag) (mg : Str → Option Value) (n : Nat) (m mo : Md) (r : V → List V → Hp → VK → Prop) (op : D → D → Option (D × D)) : Prop :=
  ∀ (G F H : Hp) (x d : D) (u v : V) (fp fq : List Addr) (z y : D) (Q : VK), Same G F → Same F H → Own K mg G H n x u fp → Val K mg m G H d v fq → (fp ++ fq).Nodup → op x d = some (z, y) →
    (∀ w H' fo fw, Val K mg mo G H' z w fw → Own K mg G H' n y u fo → (∀ a, a ∉ fp → H' a = H a) → (fo ++ fw).Nodup → (∀ a ∈ fo ++ fw, a ∈ fp ∨ a ∈ fq) → Q w H') → r u [v] H Q
def MS0 (K : PySem.W.Frag) (mg : Str → Option Value) (n : Nat) (mo : Md) (r : V → List V → Hp → VK → Prop) (op : D → Option (D × D)) : Prop :=
  ∀ (G F H : Hp) (x : D) (u : V) (fp : List Addr) (z y : D) (Q : VK), Same G F → Same F H → Own K mg G H n x u fp → fp.Nodup → op x = some (z, y) →
    (∀ w H' fo fw, Val K mg mo G H' z w fw → Own K mg G H' n y u fo → (∀ a, a ∉ fp → H' a = H a) → (fo ++ fw).Nodup → (∀ a ∈ fo ++ fw, a ∈ fp) → Q w H') → r u [] H Q
def eMeth1 (i : Nat) (isT : D → Bool) (op : D → D → Option (D × D)) (f : M D) : M D := fun ρ => match look ρ i with
  | some x0 => if isT x0 = true then match f ρ with
      | .ok (d, ρ') => match look ρ' i with
        | some x => match op x d with
          | some (z, y) => .ok (z, put ρ' i (some y))
          | none => .fail
        | none => .fail
      | .exc x => .exc x
      | .fail => .fail
    else .fail
  | none => .fail
theorem eMeth1_def (i : Nat) (isT : D → Bool) (op : D → D → Option (D × D)) (f : M D) : eMeth1 i isT op f = fun ρ => match look ρ i with
  | some x0 => if isT x0 = true then match f ρ with
      | .ok (d, ρ') => match look ρ' i with
        | some x => match op x d with
          | some (z, y) => .ok (z, ρ'.set i (some y))
          | none => .fail
        | none => .fail
      | .exc x => .exc x
      | .fail => .fail
    else .fail
  | none => .fail := by
  unfold eMeth1
  simp only [put_eq]
def eMeth0 (i : Nat) (isT : D → Bool) (op : D → Option (D × D)) : M D := fun ρ => match look ρ i with
  | some x => if isT x = true then match op x with
      | some (z, y) => .ok (z, put ρ i (some y))
      | none => .fail
    else .fail
  | none => .fail
theorem eMeth0_def (i : Nat) (isT : D → Bool) (op : D → Option (D × D)) : eMeth0 i isT op = fun ρ => match look ρ i with
  | some x => if isT x = true then match op x with
      | some (z, y) => .ok (z, ρ.set i (some y))
      | none => .fail
    else .fail
  | none => .fail := by
  unfold eMeth0
  simp only [put_eq]
/-- what a call x.name(e) is by its text -/
structure MCall1 (X : Cx) (x name : Str) (e : Expr) (px apos cpos : Pos) : Prop where
  base : attributeBase (.Name x px) name X.env (eval (.Name x px) X.env) = eval (.Name x px) X.env
  few : ((backTo cpos (starEach [e] X.env)).all (fun x => !x.1) && (backToKw cpos (keywordEach [] X.env)).all (fun x => x.1.isSome) && decide (([e] : List Expr).length + ([] : List Keyword).length + (if ([] : List Keyword).isEmpty then 0 else 1) < 30)) = true
  oneLine : (apos.endLine == cpos.line) = true
  star : starEach [e] X.env = (false, eval e X.env) :: starEach [] X.env
  plain : (backTo cpos (starEach [] X.env)).any (·.1) = false
structure MCall0 (X : Cx) (x name : Str) (px apos cpos : Pos) : Prop where
  base : attributeBase (.Name x px) name X.env (eval (.Name x px) X.env) = eval (.Name x px) X.env
  oneLine : (apos.endLine == cpos.line) = true
section
variable {X : Cx} {W : WX} {c : Fc} {p : Bool} {m mo : Md} {n : Nat}
theorem ex_meth1 (i : Nat) {T id : String} {name x : Str} {e : Expr} {f : M D} {r : V → List V → Hp → VK → Prop} {isT : D → Bool} {op : D → D → Option (D × D)} {px apos cpos : Pos} (pa : PlainAttrs T) (slot : Slot T name id) (hty : typeOf (.builtin id) = pure (.type "method_descriptor")) (hm : MtR X id r)
    (hT : ∀ (G H : Hp) (d : D) (u : V) (fp : List Addr), isT d = true → Own X.K X.mg G H n d u fp → tyV X.K T u H) (hS : MS X.K X.mg n m mo r op) (he : EX X W c p m e f) (hk : c.kd i = .own n := by rfl) (hN : X.N[i]? = some x := by rfl)
    (hv : Vis X.env.scope x := by first | exact Or.inl rfl | exact Or.inr (Or.inl rfl) | exact Or.inr (Or.inr rfl)) (hd : (x == ("__debug__" : Str)) = false := by decide) (hcd : (x == ("__classdict__" : Str)) = false := by decide)
    (mc : MCall1 X x name e px apos cpos := by exact ⟨rfl, rfl, rfl, rfl, rfl⟩) :
    EX X W c false mo (.Call (.Attribute (.Name x px) name apos) [e] [] cpos) (eMeth1 i isT op f) := by
  rw [eMeth1_def]
  obtain ⟨te, e1, e2⟩ := he
  refine ⟨_, pe_bm pa slot hty hm (pe_var hN hv hd hcd) (pa_cons e1 pa_nil mc.star) mc.base mc.few mc.oneLine mc.star mc.plain, fun σ ρ G F H Q o w => ?_⟩
  dsimp only at w
  split at w
  · rename_i x0 h0
    split at w
    · rename_i ht0
      obtain ⟨u, fp0, es, ow0, _⟩ := o.mut h0 hk
      refine ⟨u, es, hT G H x0 u fp0 ht0 ow0, ?_⟩
      have w' : Wp (f ρ) (fun r => Wp (match look r.2 i with
        | some x => match op x r.1 with
          | some (z, y) => R.ok (z, r.2.set i (some y))
          | none => .fail
        | none => .fail) (EPost X c false mo σ ρ G F H Q) (Nx X.K X.mg W σ G F)) (Nx X.K X.mg W σ G F) := by
        cases ef : f ρ with
        | ok r => rw [ef] at w; exact w
        | exc x => rw [ef] at w; exact w
        | fail => rw [ef] at w; exact w
      refine EX.use te e2 o w' (fun r hr v G1 F1 H1 fq x1 o1 q1 hp => ?_) fun _ z => z
      split at hr
      · rename_i x1' h1
        split at hr
        · rename_i z y hop
          obtain ⟨u', fp1, es', ow1, nd1, hF1, dj, nq, go⟩ := o1.mut h1 hk
          rw [es] at es'
          cases es'
          refine hS G1 F1 H1 x1' r.1 u v fp1 fq z y _ o1.gf o1.fh ow1 q1 (List.nodup_append.mpr ⟨nd1, nq, fun a ha b hb hab => dj a ha (by rw [hab]; exact hb)⟩) hop fun wv H' fo fw hv ow' hh nd sub => ?_
          exact hr wv G1 F1 H' fw x1 (go H' y fo fw ow' hh nd sub) hv fun z => nomatch z
        · exact hr.elim
      · exact hr.elim
    · exact w.elim
  · exact w.elim
theorem ex_meth0 (i : Nat) {T id : String} {name x : Str} {r : V → List V → Hp → VK → Prop} {isT : D → Bool} {op : D → Option (D × D)} {px apos cpos : Pos} (pa : PlainAttrs T) (slot : Slot T name id) (hty : typeOf (.builtin id) = pure (.type "method_descriptor")) (hm : MtR X id r)
    (hT : ∀ (G H : Hp) (d : D) (u : V) (fp : List Addr), isT d = true → Own X.K X.mg G H n d u fp → tyV X.K T u H) (hS : MS0 X.K X.mg n mo r op) (hk : c.kd i = .own n := by rfl) (hN : X.N[i]? = some x := by rfl)
    (hv : Vis X.env.scope x := by first | exact Or.inl rfl | exact Or.inr (Or.inl rfl) | exact Or.inr (Or.inr rfl)) (hd : (x == ("__debug__" : Str)) = false := by decide) (hcd : (x == ("__classdict__" : Str)) = false := by decide)
    (mc : MCall0 X x name px apos cpos := by exact ⟨rfl, rfl⟩) :
    EX X W c false mo (.Call (.Attribute (.Name x px) name apos) [] [] cpos) (eMeth0 i isT op) := by
  rw [eMeth0_def]
  refine ⟨_, pe_bm0 pa slot hty hm (pe_var hN hv hd hcd) mc.base mc.oneLine, fun σ ρ G F H Q o w => ?_⟩
  dsimp only at w
  split at w
  · rename_i x0 h0
    split at w
    · rename_i ht0
      split at w
      · rename_i z y hop
        obtain ⟨u, fp0, es, ow0, nd, hF, dj, nq, go⟩ := o.mut h0 hk
        refine ⟨u, es, hT G H x0 u fp0 ht0 ow0, ?_⟩
        refine hS G F H x0 u fp0 z y _ o.gf o.fh ow0 nd hop fun wv H' fo fw hv ow' hh nd sub => ?_
        exact w wv G F H' fw (.refl _ _) (go H' y fo fw ow' hh nd fun a ha => .inl (sub a ha)) hv fun z => nomatch z
      · exact w.elim
    · exact w.elim
  · exact w.elim
theorem tyL {K : PySem.W.Frag} {mg : Str → Option Value} {k : Nat} (G H : Hp) (d : D) (u : V) (fp : List Addr) (h : isOL d = true) (o : Own K mg G H (k + 1) d u fp) : tyV K "list" u H := by
  cases d <;> first | (cases h; done) | skip
  obtain ⟨a, rest, vs, rfl, rfl, ha, _⟩ := o.lst_inv
  exact .inl ⟨rfl, vs, .of ha⟩
/-! append -/
def opApp : D → D → Option (D × D)
  | .lst ds, d => if ds.length < 100000 then some (.non, .lst (ds ++ [d])) else none
  | _, _ => none
theorem szl' {n : Nat} (h : n < 100000) : n < sizeLine := Nat.lt_of_lt_of_le h (by decide)
theorem ms_app {K : PySem.W.Frag} {mg : Str → Option Value} {k : Nat} : MS K mg (k + 1) (mdK (.own k)) (.rd 0) rAppend opApp := by
  intro G F H x d u v fp fq z y Q gf fh ow q nd hop fin
  cases x <;> first | (cases hop; done) | skip
  rename_i ds
  have hop : (if ds.length < 100000 then some (D.non, D.lst (ds ++ [d])) else none) = some (z, y) := hop
  split at hop
  · rename_i hl
    cases hop
    obtain ⟨a, rest, vs, rfl, rfl, ha, hl2⟩ := ow.lst_inv
    refine ⟨a, vs, v, rfl, rfl, ha, by rw [hl2.length]; exact szl' hl, ?_⟩
    refine fin .non _ (a :: rest ++ fq) [] ⟨.non, rfl⟩ (Own.push ha (Own.lst ha hl2) (mdK_own q) nd) (fun b hb => upd_ne fun z => hb (by rw [z]; exact List.mem_cons_self)) (by rw [List.append_nil]; exact nd) fun b hb => ?_
    rw [List.append_nil] at hb
    exact List.mem_append.mp hb
  · cases hop
theorem mtr_append : MtR X "list.append" rAppend := mt_append
theorem ex_append (i k : Nat) {x : Str} {e : Expr} {f : M D} {px apos cpos : Pos} (he : EX X W c p m e f) (hm : mdK (.own k) = m := by rfl) (hk : c.kd i = .own (k + 1) := by rfl) (hN : X.N[i]? = some x := by rfl)
    (hv : Vis X.env.scope x := by first | exact Or.inl rfl | exact Or.inr (Or.inl rfl) | exact Or.inr (Or.inr rfl)) (hd : (x == ("__debug__" : Str)) = false := by decide) (hcd : (x == ("__classdict__" : Str)) = false := by decide)
    (mc : MCall1 X x "append" e px apos cpos := by exact ⟨rfl, rfl, rfl, rfl, rfl⟩) :
    EX X W c false (.rd 0) (.Call (.Attribute (.Name x px) "append" apos) [e] [] cpos) (eMeth1 i isOL opApp f) :=
  ex_meth1 i F.plainAttrs_list F.slot_list_append F.type_list_append mt_append tyL (by rw [← hm]; exact ms_app) he hk hN hv hd hcd mc
/-! pop -/
def opPop : D → Option (D × D)
  | .lst ds => match ds[ds.length - 1]? with
    | some d => some (d, .lst (ds.eraseIdx (ds.length - 1)))
    | none => none
  | _ => none
theorem nodup_perm {a b : List Addr} (h : a.Perm b) (n : b.Nodup) : a.Nodup := h.nodup_iff.mpr n
theorem ms_pop {K : PySem.W.Frag} {mg : Str → Option Value} {k : Nat} : MS0 K mg (k + 1) (mdK (.own k)) rPop opPop := by
  intro G F H x u fp z y Q gf fh ow nd hop fin
  cases x <;> first | (cases hop; done) | skip
  rename_i ds
  unfold opPop at hop
  simp only at hop
  split at hop
  · rename_i d hd
    cases hop
    obtain ⟨a, rest, vs, rfl, rfl, ha, hl2⟩ := ow.lst_inv
    obtain ⟨v, fj, rest', e1, q, hl3, pm, _⟩ := hl2.pick hd
    have na := (List.nodup_cons.mp nd).1
    have nr := (List.nodup_cons.mp nd).2
    have hlen : vs.length = ds.length := hl2.length
    refine ⟨a, vs, v, rfl, rfl, ha, by rw [hlen]; exact e1, ?_⟩
    have ev : vs.dropLast = vs.eraseIdx (ds.length - 1) := by
      rw [← hlen]
      exact (PyProof.Rows.Copied.eraseIdx_last vs).symm
    have ns : ∀ b, b ∈ rest' → b ∈ rest := fun b hb => pm.subset (List.mem_append_right _ hb)
    have nf : ∀ b, b ∈ fj → b ∈ rest := fun b hb => pm.subset (List.mem_append_left _ hb)
    have qf : Own K mg G (upd H a (.lst vs.dropLast)) k z v fj := q.frame (.refl _) fun b hb o e => by rw [upd_ne fun t => na (by rw [← t]; exact nf b hb)]; exact e
    refine fin v _ (a :: rest') fj (Val.ofOwn qf) (Own.lst upd_same (by rw [ev]; exact hl3.off fun t => na (ns a t))) (fun b hb => upd_ne fun t => hb (by rw [t]; exact List.mem_cons_self)) ?_ fun b hb => ?_
    · rw [List.cons_append]
      have np : (rest' ++ fj).Nodup := nodup_perm (List.perm_append_comm.trans pm) nr
      refine List.nodup_cons.mpr ⟨fun t => ?_, np⟩
      rcases List.mem_append.1 t with t | t
      · exact na (ns a t)
      · exact na (nf a t)
    · rcases List.mem_append.1 hb with t | t
      · rcases List.mem_cons.1 t with rfl | t
        · exact List.mem_cons_self
        · exact List.mem_cons_of_mem _ (ns b t)
      · exact List.mem_cons_of_mem _ (nf b t)
  · cases hop
end
end
end PV

set_option Elab.async false
set_option linter.all false
set_option maxRecDepth 100000
set_option maxHeartbeats 0
namespace PV
noncomputable section
open PySem PySem.Spec
open PyProof.Rows L2

/-! ## 19. several values at once, stored at once -/
inductive VL (K : PySem.W.Frag) (mg : Str → Option Value) (G H : Hp) : List Nat → List D → List V → List Addr → Prop
  | nil : VL K mg G H [] [] [] []
  | cons {k : Nat} {ks : List Nat} {d : D} {v : V} {f : List Addr} {ds : List D} {vs : List V} {fp : List Addr} : Own K mg G H k d v f → VL K mg G H ks ds vs fp → VL K mg G H (k :: ks) (d :: ds) (v :: vs) (f ++ fp)
section
variable {K : PySem.W.Frag} {mg : Str → Option Value} {c : Fc} {T fp fq : List Addr} {G F H G' F' H' : Hp} {σ : L2.St} {ρ : PV.Env}
theorem VL.frame (s : Same G G') : ∀ {ks : List Nat} {ds : List D} {vs : List V} {fp : List Addr}, (∀ a ∈ fp, ∀ o, H a = some o → H' a = some o) → VL K mg G H ks ds vs fp → VL K mg G' H' ks ds vs fp
  | _, _, _, _, _, .nil => .nil
  | _, _, _, _, k, .cons h r => .cons (h.frame s fun a ha => k a (List.mem_append_left _ ha)) (VL.frame s (fun a ha => k a (List.mem_append_right _ ha)) r)
theorem VL.len : ∀ {ks : List Nat} {ds : List D} {vs : List V} {fp : List Addr}, VL K mg G H ks ds vs fp → vs.length = ks.length ∧ ds.length = ks.length
  | _, _, _, _, .nil => ⟨rfl, rfl⟩
  | _, _, _, _, .cons _ r => by rw [List.length_cons, List.length_cons, List.length_cons, r.len.1, r.len.2]; exact ⟨rfl, rfl⟩
theorem VL.dom : ∀ {ks : List Nat} {ds : List D} {vs : List V} {fp : List Addr}, VL K mg G H ks ds vs fp → ∀ a ∈ fp, H a ≠ none
  | _, _, _, _, .nil, _, h => nomatch h
  | _, _, _, _, .cons h r, a, ha => (List.mem_append.mp ha).elim (h.dom a) (r.dom a)
/-- own objects wait while a part runs -/
theorem Ok.waits (o : Ok K mg c fq G F H σ ρ) (hd : ∀ a ∈ fq, H a ≠ none) : ∃ F1, Ok K mg c [] G F1 H σ ρ ∧ Ext G F G F1 ∧ ∀ {G' F' H' : Hp} {σ' : L2.St} {ρ' : PV.Env} {fp : List Addr}, Ext G F1 G' F' → Ok K mg c fp G' F' H' σ' ρ' → ∃ F2, Ext G F G' F2 ∧ Ok K mg c (fq ++ fp) G' F2 H' σ' ρ' ∧ ∀ a ∈ fq, ∀ u, H a = some u → H' a = some u := by
  have o0 : Ok K mg c (fq ++ []) G F H σ ρ := by rw [List.append_nil]; exact o
  obtain ⟨o1, xp⟩ := o0.pin
  obtain ⟨fps, _, _, _, _, _, nd, hT, _⟩ := o.slt
  refine ⟨join F H fq, o1, xp, fun {G' F' H' σ' ρ' fp} x2 o2 => ?_⟩
  have stay : ∀ a ∈ fq, ∀ u, H a = some u → F' a = some u := fun a ha u e => x2.f a u (by unfold join; rw [if_pos ha]; exact e)
  have gn : ∀ a ∈ fq, G' a = none := fun a ha => x2.n a (o.gf.free (hT a ha)) (by unfold join; rw [if_pos ha]; exact hd a ha)
  have bn : ∀ a ∈ fq, c.B a = none := fun a ha => o.bf.free (hT a ha)
  have fn : ∀ a ∈ fq, F' a ≠ none := fun a ha => by
    cases e : H a with
    | none => exact absurd e (hd a ha)
    | some u => rw [stay a ha u e]; intro z; cases z
  exact ⟨less F' fq, Ext.unpin hT xp.f x2, o2.unpin (fp := fq) gn bn fn nd, fun a ha u e => o2.fh a u (stay a ha u e)⟩
end
section
variable {X : Cx} {W : WX} {c : Fc} {rk : Nat} {p : Bool}
def AP (X : Cx) (W : WX) (c : Fc) (ks : List Nat) (es : List Expr) (f : M (List D)) : Prop :=
  ∃ ta, PA X es ta ∧ ∀ (σ : L2.St) (ρ : PV.Env) (G F H : Hp) (Q : List V → Hp → Prop), Ok X.K X.mg c [] G F H σ ρ →
    Wp (f ρ) (fun r => ∀ vs G' F' H' fp, Ext G F G' F' → Ok X.K X.mg c fp G' F' H' σ r.2 → VL X.K X.mg G' H' ks r.1 vs fp → Q vs H') (Nx X.K X.mg W σ G F) → ta σ H Q
theorem ap_nil : AP X W c [] [] aNil := ⟨_, pa_nil, fun σ ρ G F H Q o w => w [] G F H [] (.refl _ _) o .nil⟩
theorem ap_cons {k : Nat} {m : Md} {ks : List Nat} {e : Expr} {es : List Expr} {f : M D} {g : M (List D)} (h : EX X W c p m e f) (r : AP X W c ks es g) (hm : mdK (.own k) = m := by rfl) (hs : starEach (e :: es) X.env = (false, eval e X.env) :: starEach es X.env := by rfl) : AP X W c (k :: ks) (e :: es) (aCons f g) := by
  obtain ⟨te, h1, h2⟩ := h
  obtain ⟨ta, r1, r2⟩ := r
  refine ⟨_, pa_cons h1 r1 hs, fun σ ρ G F H Q o w => ?_⟩
  refine EX.use te h2 o (Wp.ofBindM w) (fun r hr v G1 F1 H1 fq x1 o1 q hp => ?_) fun _ z => z
  have ow : Own X.K X.mg G1 H1 k r.1 v fq := mdK_own (by rw [hm]; exact q)
  obtain ⟨F2, o2, x2, back⟩ := o1.waits ow.dom
  refine r2 σ r.2 G1 F2 H1 _ o2 ((Wp.nxExt (x1.trans x2) (Wp.ofBindM hr)).imp (fun r3 hr3 => ?_) fun _ z => z)
  intro vs G3 F3 H3 fp x3 o3 vl
  obtain ⟨F4, x4, o4, st⟩ := back x3 o3
  exact hr3 (v :: vs) G3 F4 H3 (fq ++ fp) (x1.trans x4) o4 (.cons (ow.frame x3.g st) vl)
def setAll : List Nat → List D → PV.Env → PV.Env
  | i :: is, d :: ds, ρ => setAll is ds (put ρ i (some d))
  | _, _, ρ => ρ
theorem setAll_cons (i : Nat) (is : List Nat) (d : D) (ds : List D) (ρ : PV.Env) : setAll (i :: is) (d :: ds) ρ = setAll is ds (ρ.set i (some d)) := by
  show setAll is ds (put ρ i (some d)) = _
  rw [put_eq]
theorem setAll_nil (ds : List D) (ρ : PV.Env) : setAll [] ds ρ = ρ := by cases ds <;> rfl
def sPar (is : List Nat) (f : M (List D)) : SM := sDo f fun ds ρ => .nx (setAll is ds ρ)
theorem sx_par2 (ok : Cok X W) (i j : Nat) {ki kj : Nat} {x y : Str} {a b : Expr} {f : M (List D)} {px py pt : Pos} {kt k2 pt2} {pos : Pos} (h : AP X W c [ki, kj] [a, b] f) (hN : X.N.Nodup) (hij : i ≠ j) (hki : c.kd i = .own ki := by rfl) (hkj : c.kd j = .own kj := by rfl)
    (hioi : noIo c i = true := by rfl) (hioj : noIo c j = true := by rfl) (hi : X.N[i]? = some x := by rfl) (hj : X.N[j]? = some y := by rfl) (hx : X.env.scope.names.lookup x = some .local := by rfl) (hy : X.env.scope.names.lookup y = some .local := by rfl)
    (hw : swappedStores [.Tuple [.Name x px, .Name y py] kt pt] (.Tuple [a, b] k2 pt2) X.env = pure (some [x, y]) := by rfl) (hs : swapsWithSole [.Tuple [.Name x px, .Name y py] kt pt] (.Tuple [a, b] k2 pt2) pos.line X.env = pure false := by rfl) :
    SX X W c rk (.Assign [.Tuple [.Name x px, .Name y py] kt pt] (.Tuple [a, b] k2 pt2) pos) (sPar [i, j] f) := by
  obtain ⟨ta, h1, h2⟩ := h
  refine ⟨_, ps_par ok.calm hN hi hj hij hx hy h1 hw hs, fun D σ ρ G F H o w => ?_⟩
  refine h2 σ ρ G F H _ o ((WpS.ofDo w).imp (fun r hr => ?_) fun _ z => Nx.toS z)
  intro vs G1 F1 H1 fp x1 o1 vl
  obtain ⟨ds, ρ1⟩ := r
  cases vl with
  | cons q1 vl =>
    cases vl with
    | cons q2 vl =>
      cases vl
      rename_i f1 d2 v2 f2
      refine ⟨_, _, rfl, ?_⟩
      rw [List.append_nil] at o1
      have o2 := Ok.set (T := f2) o1 (i := i) (by rw [hki]; exact q1) hioi
      have o3 := Ok.set (T := []) o2.tnil (i := j) (by rw [hkj]; exact q2) hioj
      exact hr _ G1 F1 H1 x1 (by rw [setAll_cons, setAll_cons, setAll_nil]; exact o3) (by rw [List.length_set, List.length_set])
/-! names, stored from the left out of a tuple -/
theorem ok_grownT {K : PySem.W.Frag} {mg : Str → Option Value} {T : List Addr} {G F H : Hp} {σ : L2.St} {ρ : PV.Env} {pa : Addr} {u : HO} (o : Ok K mg c T G F H σ ρ) (hT : ∀ a ∈ T, H a ≠ none) (h : H pa = none) : Ok K mg c T (upd G pa u) (upd F pa u) (upd H pa u) σ ρ := by
  have g := Grow.sh (o := u) o.gf o.fh h
  exact o.grow g.x g.gf g.fh g.hh g.n hT
/-- the names' slots, each with its depth -/
def slotsOk (X : Cx) (c : Fc) : List Nat → List Nat → List Expr → Prop
  | [], [], [] => True
  | i :: is, k :: ks, .Name x _ :: ts => c.kd i = .own k ∧ noIo c i = true ∧ X.N[i]? = some x ∧ Loc X.env.scope x ∧ (X.fn x = true ∨ X.env.scope.names.lookup x = some .local) ∧
      (assignEach (.Name x default :: ts) X.env).map (·.2) = assign (.Name x default) X.env :: (assignEach ts X.env).map (·.2) ∧ slotsOk X c is ks ts
  | _, _, _ => False
def GN (X : Cx) (c : Fc) (is ks : List Nat) (ts : List Expr) : Prop := ∃ t, PGs X ts t ∧ ∀ (σ : L2.St) (ρ : PV.Env) (G F H : Hp) (ds : List D) (vs : List V) (fp : List Addr) (Q : L2.St → Hp → Prop), Ok X.K X.mg c fp G F H σ ρ → VL X.K X.mg G H ks ds vs fp →
  (∀ σ', Ok X.K X.mg c [] G F H σ' (setAll is ds ρ) → σ'.length = σ.length → Q σ' H) → t vs σ H Q
theorem gn_nil : GN X c [] [] [] := ⟨_, pgs_nil, fun σ ρ G F H ds vs fp Q o vl q => by
  cases vl
  exact ⟨rfl, q σ o rfl⟩⟩
theorem gn_cons (i : Nat) {is ks : List Nat} {k : Nat} {x : Str} {pos : Pos} {ts : List Expr} (r : GN X c is ks ts) (hN : X.N.Nodup) (hk : c.kd i = .own k := by rfl) (hio : noIo c i = true := by rfl) (hi : X.N[i]? = some x := by rfl) (hx : Loc X.env.scope x := by first | exact Or.inl rfl | exact Or.inr rfl)
    (hf : X.fn x = true ∨ X.env.scope.names.lookup x = some .local := by first | exact .inl rfl | exact .inr rfl) (hs : (assignEach (.Name x pos :: ts) X.env).map (·.2) = assign (.Name x pos) X.env :: (assignEach ts X.env).map (·.2) := by rfl) : GN X c (i :: is) (k :: ks) (.Name x pos :: ts) := by
  obtain ⟨t, r1, r2⟩ := r
  refine ⟨_, pgs_cons (pg_name hN hi hx hf) r1 hs, fun σ ρ G F H ds vs fp Q o vl q => ?_⟩
  cases vl with
  | cons q1 vl =>
    refine ⟨_, _, rfl, ?_⟩
    exact r2 _ _ G F H _ _ _ Q (Ok.set o (by rw [hk]; exact q1) hio) vl fun σ' o' hl => q σ' (by rw [setAll_cons]; exact o') (by rw [hl, List.length_set])
theorem sx_parN (ok : Cok X W) {is ks : List Nat} {ts es : List Expr} {f : M (List D)} {n : Nat} {pt : Pos} {kt k2 pt2} {pos : Pos} (h : AP X W c ks es f) (g : GN X c is ks ts) (hn : (assignEach ts X.env).length = n := by rfl) (hkn : ks.length = n := by rfl) (hsz : n ≤ 100000 := by decide) (hst : (assignEach ts X.env).findIdx? (·.1) = none := by rfl)
    (hs : swapsWithSole [.Tuple ts kt pt] (.Tuple es k2 pt2) pos.line X.env = pure false := by rfl) (hw : swappedStores [.Tuple ts kt pt] (.Tuple es k2 pt2) X.env = pure none := by rfl)
    (h1' : (assignEach [.Tuple ts kt pt] X.env).map (·.2) = [assign (.Tuple ts kt pt) X.env] := by rfl) : SX X W c rk (.Assign [.Tuple ts kt pt] (.Tuple es k2 pt2) pos) (sPar is f) := by
  obtain ⟨ta, h1, h2⟩ := h
  obtain ⟨tg, g1, g2⟩ := g
  refine ⟨_, ps_asg (pe_tup h1) (pg_tup ok.calm g1 hn hst) hs hw h1', fun D σ ρ G F H o w => ?_⟩
  refine h2 σ ρ G F H _ o ((WpS.ofDo w).imp (fun r hr => ?_) fun _ z => Nx.toS z)
  intro vs G1 F1 H1 fp x1 o1 vl
  refine ⟨by rw [vl.len.1, hkn]; exact szl hsz, fun a ha => ?_⟩
  have gw := Grow.sh (o := .tup vs) o1.gf o1.fh ha
  have o2 := ok_grownT (u := .tup vs) o1 vl.dom ha
  refine ⟨a, vs, rfl, .of upd_same, vl.len.1.trans hkn, ?_⟩
  refine g2 σ r.2 _ _ _ r.1 vs fp _ o2 (vl.frame gw.x.g fun b hb u e => gw.hh b u e) fun σ' o' hl => ?_
  exact hr σ' _ _ _ (x1.trans gw.x) o' hl
/-! x[i] = v -/
def PS3 (K : PySem.W.Frag) (mg : Str → Option Value) (n k : Nat) (t : TSet) (op : D → D → D → Option D) : Prop :=
  ∀ (G F H : Hp) (x j d y : D) (u w v : V) (fp fq : List Addr) (Q : Hp → Prop), Same G F → Same F H → Own K mg G H n x u fp → Rp K mg G w j → Own K mg G H k d v fq → (fp ++ fq).Nodup → op x j d = some y →
    (∀ H' fo, Own K mg G H' n y u fo → (∀ a, a ∉ fp → H' a = H a) → fo.Nodup → (∀ a ∈ fo, a ∈ fp ∨ a ∈ fq) → Q H') → t u w v H Q
def sPut (i : Nat) (op : D → D → D → Option D) (fv fi : M D) : SM := sDo fv fun d ρ => match look ρ i with
  | none => .fail
  | some _ => sDo fi (fun j ρ' => match look ρ' i with
    | some x => match op x j d with
      | some y => .nx (put ρ' i (some y))
      | none => .fail
    | none => .fail) ρ
theorem sPut_def (i : Nat) (op : D → D → D → Option D) (fv fi : M D) : sPut i op fv fi = sDo fv fun d ρ => match look ρ i with
  | none => .fail
  | some _ => sDo fi (fun j ρ' => match look ρ' i with
    | some x => match op x j d with
      | some y => .nx (ρ'.set i (some y))
      | none => .fail
    | none => .fail) ρ := by
  unfold sPut
  simp only [put_eq]
theorem sx_put (i : Nat) {n k : Nat} {q : Bool} {m : Md} {t : TSet} {op : D → D → D → Option D} {x : Str} {ei e : Expr} {fi fv : M D} {px pos pos' : Pos} (ht : PSet X t) (hS : PS3 X.K X.mg n k t op) (hv : EX X W c p m e fv) (hi : EX X W c q (.rd 0) ei fi) (hm : mdK (.own k) = m := by rfl) (hk : c.kd i = .own n := by rfl)
    (hN : X.N[i]? = some x := by rfl) (hvis : Vis X.env.scope x := by first | exact Or.inl rfl | exact Or.inr (Or.inl rfl) | exact Or.inr (Or.inr rfl)) (hd : (x == ("__debug__" : Str)) = false := by decide) (hcd : (x == ("__classdict__" : Str)) = false := by decide)
    (hs : swapsWithSole [.Subscript (.Name x px) ei pos'] e pos.line X.env = pure false := by rfl) (hw : swappedStores [.Subscript (.Name x px) ei pos'] e X.env = pure none := by rfl)
    (h1 : (assignEach [.Subscript (.Name x px) ei pos'] X.env).map (·.2) = [assign (.Subscript (.Name x px) ei pos') X.env] := by rfl)
    (ha : ∀ v, assign (.Subscript (.Name x px) ei pos') X.env v = (do
      let ov ← holding [v] (eval (.Name x px) X.env)
      let iv ← holding [v, ov] (eval ei X.env)
      standAt pos'; holding [v, ov, iv] (setItem ov iv v)
      release [v, ov, iv] []) := by intro _; rfl) : SX X W c rk (.Assign [.Subscript (.Name x px) ei pos'] e pos) (sPut i op fv fi) := by
  rw [sPut_def]
  obtain ⟨tv, v1, v2⟩ := hv
  obtain ⟨ti, i1, i2⟩ := hi
  refine ⟨_, ps_asg v1 (pg_sub (pe_var hN hvis hd hcd) i1 ht ha) hs hw h1, fun D σ ρ G F H o w => ?_⟩
  refine EX.use tv v2 o (WpS.ofDo w) (fun r hr v G1 F1 H1 fq x1 o1 qv hp => ?_) fun _ z => Nx.toS z
  have ow : Own X.K X.mg G1 H1 k r.1 v fq := mdK_own (by rw [hm]; exact qv)
  split at hr
  · exact hr.elim
  · rename_i x0 e0
    obtain ⟨u0, fp0, es0, _⟩ := o1.mut e0 hk
    refine ⟨u0, es0, ?_⟩
    obtain ⟨F2, o2, x2, back⟩ := o1.waits ow.dom
    refine EX.use ti i2 o2 (Wp.nxExt (x1.trans x2) ((WpS.ofDo hr).imp (fun _ z => z) fun _ z => Nx.toS z)) (fun r3 hr3 wv G3 F3 H3 fi x3 o3 qi hp3 => ?_) fun _ z => z
    obtain ⟨F4, x4, o4, st⟩ := back x3 o3.drop
    rw [List.append_nil] at o4
    split at hr3
    · rename_i x3' e3
      split at hr3
      · rename_i y hop
        obtain ⟨u, fp, es, owx, nd, hF, dj, nq, go⟩ := o4.mut e3 hk
        rw [es0] at es
        cases es
        refine hS G3 F4 H3 x3' r3.1 r.1 y u0 wv v fp fq _ o4.gf o4.fh owx qi.1 (ow.frame x3.g st) (List.nodup_append.mpr ⟨nd, nq, fun a ha b hb hab => dj a ha (by rw [hab]; exact hb)⟩) hop fun H' fo ow' off nf sub => ?_
        exact hr3 σ G3 F4 H' (x1.trans x4) (go H' y fo [] ow' off (by rw [List.append_nil]; exact nf) fun a ha => sub a (by rw [List.append_nil] at ha; exact ha)) rfl
      · exact hr3.elim
    · exact hr3.elim
def opSetL : D → D → D → Option D
  | .lst ds, .int i, d => (ixN ds.length i).map fun j => .lst (ds.set j d)
  | _, _, _ => none
theorem ixN_lt {n : Nat} {i : Int} {j : Nat} (h : ixN n i = some j) : j < n := (ixN_seq h).2.1
theorem ps3_lst {K : PySem.W.Frag} {mg : Str → Option Value} {k : Nat} : PS3 K mg (k + 1) k rSetL opSetL := by
  intro G F H x j d y u w v fp fq Q gf fh ow rj od nd hop fin
  cases x <;> first | (cases hop; done) | skip
  cases j <;> first | (cases hop; done) | skip
  rename_i ds i
  cases rj
  unfold opSetL at hop
  simp only [Option.map_eq_some_iff] at hop
  obtain ⟨jj, hj, rfl⟩ := hop
  obtain ⟨a, rest, vs, rfl, rfl, ha, hl⟩ := ow.lst_inv
  have hlt := ixN_lt hj
  obtain ⟨v0, fj, rest', e1, q0, _, pm, pt⟩ := hl.pick (List.getElem?_eq_getElem hlt)
  refine ⟨a, vs, i, jj, rfl, rfl, ha, by rw [hl.length]; exact hj, ?_⟩
  have na := (List.nodup_cons.mp (List.nodup_append.mp nd).1)
  have nd2 := List.nodup_append.mp nd
  obtain ⟨fp', hl', pm'⟩ := pt d v fq od
  have sub : ∀ b ∈ fp', b ∈ rest ∨ b ∈ fq := fun b hb => by
    rcases List.mem_append.mp (pm'.symm.subset hb) with h | h
    · exact .inr h
    · exact .inl (pm.subset (List.mem_append_right _ h))
  have nafp : a ∉ fp' := fun h => (sub a h).elim na.1 fun h => nd2.2.2 a List.mem_cons_self a h rfl
  refine fin _ (a :: fp') (Own.lst upd_same (hl'.off nafp)) (fun b hb => upd_ne fun t => hb (by rw [t]; exact List.mem_cons_self)) (List.nodup_cons.mpr ⟨nafp, nodup_perm pm'.symm (List.nodup_append.mpr ⟨nd2.2.1, (List.nodup_append.mp (nodup_perm pm na.2)).2.1, fun b hb b' hb' z => nd2.2.2 b' (List.mem_cons_of_mem _ (pm.subset (List.mem_append_right _ hb'))) b hb z.symm⟩)⟩) fun b hb => ?_
  rcases List.mem_cons.1 hb with rfl | hb
  · exact .inl List.mem_cons_self
  · exact (sub b hb).imp (List.mem_cons_of_mem _) id
end
end
end PV

set_option Elab.async false
set_option linter.all false
set_option maxRecDepth 100000
set_option maxHeartbeats 0
namespace PV
noncomputable section
open PySem PySem.Spec
open PyProof.Rows L2

/-! ## 20. a try: its clauses are heard one by one, with a name or without
`Hears X hds W`: the clauses hds treat every caught exception, of which W is known, as a statement of X may end. -/
abbrev mdl (X : Cx) := model X.prog X.w
/-- the exception a stands caught before the clauses; sI is the state that does not hold it yet -/
structure Stands (X : Cx) (pins : List (Addr × Obj)) (σ : L2.St) (H : Hp) (B : Heap) (a : Addr) (cls : Value) (d : Option Addr) (sI s : Shared) : Prop where
  inv : Inv X pins σ H sI
  grd : ∀ b o, sI.heap.get? b = some o → b ∉ frs X.stack → B.get? b = some o
  ups : sI.heap.UpToSlots s.heap
  fly : HandSPX.FlyingZ B X.stack a (Zc cls d) s.heap
  new : H a = none
  sys : s.os = sI.os
  gen : AllBare s.gens
abbrev Asks := Ends → WX
def Hears (X : Cx) (hds : List ExceptHandler) (W : Asks) : Prop :=
  ∀ (pins : List (Addr × Obj)) (D : Ends) (σ : L2.St) (H : Hp) (B : Heap) (a : Addr) (cls : Value) (d : Option Addr) (sI s : Shared),
    Stands X pins σ H B a cls d sI s → W D cls d σ H → wpAny (mdl X) X.A (handleBy (.ref a) X.env hds) (SP X pins D) X.xe s
/-- the wish at a clause that names the class c -/
def wCl (K : PySem.W.Frag) (c : Value) (yes no : Asks) : Asks := fun D cls d σ H => ∃ b, PySem.W.exmOne K cls c = some b ∧ (match b with | true => yes D cls d σ H | false => no D cls d σ H)
def wOwn (ts : Addr → Value → Option Addr → TS) : Asks := fun D cls d σ H => ∀ a, H a = none → ts a cls d D σ H
/-- slot i goes behind the suite -/
def Ends.less (D : Ends) (i : Nat) : Ends := ⟨fun σ => D.nx (σ.set i none), D.rt, fun σ => D.bk (σ.set i none), fun σ => D.ct (σ.set i none)⟩
def wOwnAs (i : Nat) (ts : Addr → Value → Option Addr → TS) : Asks := fun D cls d σ H => ∀ a, H a = none → ts a cls d (Ends.less D i) (σ.set i (some (.ref a))) H
section
variable {X Y : Cx} {pins pins' : List (Addr × Obj)} {σ : L2.St} {H : Hp} {B : Heap} {a : Addr} {cls : Value} {d : Option Addr} {sI s : Shared} {D : Ends}
/-- an ending under another context of the same state -/
theorem sp_turn {f : Flow} (k : ∀ σ' H', Inv Y pins' σ' H' s → Inv X pins σ' H' s) : SP Y pins' D f s → SP X pins D f s :=
  match f with
  | .next => fun ⟨σ', H', i, q⟩ => ⟨σ', H', k _ _ i, q⟩
  | .brk => fun ⟨σ', H', i, q⟩ => ⟨σ', H', k _ _ i, q⟩
  | .cont => fun ⟨σ', H', i, q⟩ => ⟨σ', H', k _ _ i, q⟩
  | .ret _ => fun ⟨v, σ', H', i, r, q⟩ => ⟨v, σ', H', k _ _ i, r, q⟩
theorem Stands.on {h : Heap} (c : Stands X pins σ H B a cls d sI s) (f : HandSPX.FlyingZ B X.stack a (Zc cls d) h) (u : s.heap.UpToSlots h) : Stands X pins σ H B a cls d sI { s with heap := h } :=
  { inv := c.inv, grd := c.grd, ups := c.ups.trans u, fly := f, new := c.new, sys := c.sys, gen := c.gen }
theorem Stands.at (c : Stands X pins σ H B a cls d sI s) : Inv X pins σ H s := c.inv.landed c.grd c.fly.1 c.ups c.sys c.gen
/-- an exception is no frame's object -/
theorem Stands.notFrame (c : Stands X pins σ H B a cls d sI s) : a ∉ frs X.stack := by
  intro m
  obtain ⟨oe, vs, h1, _, h2⟩ := c.fly.there
  obtain ⟨_, o, h3, h4⟩ := c.fly.2.2.1.mem m
  exact h4 vs ((Option.some.inj (h1.symm.trans h3)) ▸ h2)
theorem Stands.suite (c : Stands X pins σ H B a cls d sI s) (hs : X.stack = X.env :: X.outer) (hf : X.env.frame = some X.env.locals) :
    ∃ oe, Zc cls d oe ∧ (∃ vs, oe.data = .fields vs) ∧ s.heap.get? a = some oe ∧ Inv (X.suite a ((a, oe) :: (X.pn ++ pins))) [] σ H s := by
  obtain ⟨oe, vs, at1, z, dt⟩ := c.fly.there
  have nf := c.notFrame
  rw [hs] at nf
  have two : a ≠ X.env.locals ∧ a ∉ X.fs := by
    constructor
    · rintro rfl
      exact nf (by simp [frs, hf])
    · intro m
      exact nf (by simp only [frs, List.filterMap_cons, hf]; exact .tail _ m)
  exact ⟨oe, z, ⟨vs, dt⟩, at1, c.at.suite at1 dt c.new two.1 two.2⟩
/-- no clause is left: the exception goes on -/
theorem hears_none {W : WX} (hs : X.stack = X.env :: X.outer) (hf : X.env.frame = some X.env.locals) (tk : Takes X W) : Hears X [] (fun _ => W) := by
  intro pins D σ H B a cls d sI s c w
  apply wpAny_handleBy_nil
  have up : wpAny (mdl X) X.A (setFlight (.ref a) X.env.frame) (fun _ t => wpAny (mdl X) X.A (throw (.ref a) : Sem Flow) (SP X pins D) X.xe t) X.xe s := by
    rw [hf]
    apply HandSPX.setFlight_upZ c.fly
    intro h' held u
    exact wpAny_throw (tk _ _ ⟨a, B, sI, pins, σ, H, cls, d, rfl, c.inv, c.grd, c.ups.trans u, .inr (.inr held), c.new, c.sys, c.gen, w⟩)
  obtain ⟨_, _, _, oe, vs, tb, _, _, at1, _, dt, slot, _⟩ := id c.fly
  show wpAny _ _ (PySem.passOn _ _ _) _ _ _
  unfold PySem.passOn
  apply wpAny_bind
  apply wpAny_field at1 dt slot
  have ne : (Value.ref tb == Value.none) = false := by simp
  rw [ne]
  first
    | exact wpAny_bind (wpAny_pure (wpAny_bind up))
    | exact wpAny_bind up
/-- the class of a clause, asked for the exception -/
theorem Stands.fits {x : Str} {k : Value} {np : Pos} {b : Bool} {E : Value → Shared → Prop} {Q : Bool → Shared → Prop} (c : Stands X pins σ H B a cls d sI s) (hs : X.stack = X.env :: X.outer) (hf : X.env.frame = some X.env.locals)
    (nm : Names X x k) (e : PySem.W.exmOne X.K cls k = some b) (q : Q b s) :
    wpAny (mdl X) (X.A.mark (some (.ref a))) (eval (.Name x np) X.env) (fun v t => wpAny (mdl X) (X.A.mark (some (.ref a))) (excMatches (.ref a) v) Q E t) E s := by
  obtain ⟨oe, z, _, at1, I⟩ := c.suite hs hf
  have ty : PySem.W.Looks (mdl X) s.heap (typeOf (.ref a)) cls := fun _ _ _ _ same r => wpAny_typeOf_ref (same _ _ at1) (z.1.symm ▸ r)
  have fit := (PySem.W.exm_one (M := mdl X) c.at.kIn ty e).here (A := X.A.mark (some (.ref a))) (Q := Q) (E := E) q
  rcases nm with ⟨gl, nd, here | ⟨nowhere, bt, nn⟩⟩
  · exact ld_glob (X := X.suite a ((a, oe) :: (X.pn ++ pins))) I gl here fit nd
  · exact ld_blt (X := X.suite a ((a, oe) :: (X.pn ++ pins))) I gl nowhere bt fit nn nd
/-- a clause with its class, whatever its suite is -/
theorem hears_clause {x : Str} {k : Value} {np pos : Pos} {nm : Option Str} {b₀ : Stmt} {suite : List Stmt} {hds : List ExceptHandler} {yes no : Asks} (hs : X.stack = X.env :: X.outer) (hf : X.env.frame = some X.env.locals) (hc : Names X x k)
    (hy : ∀ (pins : List (Addr × Obj)) (D : Ends) (σ : L2.St) (H : Hp) (B : Heap) (a : Addr) (cls : Value) (d : Option Addr) (sI s : Shared), Stands X pins σ H B a cls d sI s → yes D cls d σ H →
      codeAny (mdl X) (X.A.mark (some (.ref a))) (.handlers (.ref a) [.ExceptHandler none nm (b₀ :: suite) pos] X.env) (fun r s₂ => match r with
          | .ok f => (match nm with
            | none => SP X pins D f s₂
            | some n => wpAny (mdl X) X.A (do bindName X.env n .none; unbindBehindTheSuite X.env n pos) (fun _ s₃ => SP X pins D f s₃) X.xe s₂)
          | .error x => cameBackBy (mdl X) X.A X.env X.xe x s₂) s)
    (hn : Hears X hds no) : Hears X (.ExceptHandler (some (.Name x np)) nm (b₀ :: suite) pos :: hds) (wCl X.K k yes no) := by
  intro pins D σ H B a cls d sI s c w
  rcases w with ⟨b, e, w⟩
  apply wpAny_handleBy_cons
  · apply codeAny_handlers_test
    apply c.fits hs hf hc e
    cases b
    · exact hn _ _ _ _ _ _ _ _ _ _ c w
    · exact hy _ _ _ _ _ _ _ _ _ _ c w
  · exact fun z => nomatch z
/-- except x: suite -/
theorem hears_own {x : Str} {k : Value} {np pos : Pos} {b₀ : Stmt} {suite : List Stmt} {hds : List ExceptHandler} {no : Asks} {ts : Addr → Value → Option Addr → TS} (hs : X.stack = X.env :: X.outer) (hf : X.env.frame = some X.env.locals) (hc : Names X x k)
    (su : ∀ (a : Addr) (oe : Obj) (cls : Value) (d : Option Addr) (pn : List (Addr × Obj)), Zc cls d oe → (∃ vs, oe.data = .fields vs) → PSs (X.suite a ((a, oe) :: pn)) (b₀ :: suite) (ts a cls d))
    (hn : Hears X hds no) : Hears X (.ExceptHandler (some (.Name x np)) none (b₀ :: suite) pos :: hds) (wCl X.K k (wOwn ts) no) := by
  refine hears_clause hs hf hc ?_ hn
  intro pins D σ H B a cls d sI s c w
  apply codeAny_handlers_suite
  apply HandSPX.lands_againZ c.fly
  intro h' fl u
  obtain ⟨oe, z, fd, _, I⟩ := (c.on fl u).suite hs hf
  exact wpAny_mono ((su a oe cls d _ z fd).run [] _ σ H D I (w a c.new)) (fun f t q => sp_turn (fun _ _ J => J.unsuite c.inv.ok) q) (fun _ _ ff => ff.elim)
/-- behind a suite with a name: the name goes -/
theorem sp_less {i : Nat} {n : Str} {pos : Pos} {f : Flow} (hN : X.N.Nodup) (hi : X.N[i]? = some n) (hl : X.env.kindOf n = some .local) (k : ∀ σ' H', Inv Y pins' σ' H' s → Inv X pins σ' H' s) (q : SP Y pins' (Ends.less D i) f s) :
    wpAny (mdl X) X.A (do bindName X.env n .none; unbindBehindTheSuite X.env n pos) (fun _ t => SP X pins D f t) X.xe s :=
  match f, q with
  | .next, ⟨_, H', J, r⟩ => gone_ok (k _ _ J) hN hi hl fun _ J' => ⟨_, H', J', r⟩
  | .brk, ⟨_, H', J, r⟩ => gone_ok (k _ _ J) hN hi hl fun _ J' => ⟨_, H', J', r⟩
  | .cont, ⟨_, H', J, r⟩ => gone_ok (k _ _ J) hN hi hl fun _ J' => ⟨_, H', J', r⟩
  | .ret _, ⟨v, _, H', J, rv, r⟩ => gone_ok (k _ _ J) hN hi hl fun _ J' => ⟨v, _, H', J', rv, r⟩
/-- except x as n: suite -/
theorem hears_as {i : Nat} {x n : Str} {k : Value} {np pos : Pos} {b₀ : Stmt} {suite : List Stmt} {hds : List ExceptHandler} {no : Asks} {ts : Addr → Value → Option Addr → TS} (hs : X.stack = X.env :: X.outer) (hf : X.env.frame = some X.env.locals) (hc : Names X x k)
    (hN : X.N.Nodup) (hi : X.N[i]? = some n) (hl : X.env.kindOf n = some .local)
    (su : ∀ (a : Addr) (oe : Obj) (cls : Value) (d : Option Addr) (pn : List (Addr × Obj)), Zc cls d oe → (∃ vs, oe.data = .fields vs) → PSs (X.suite a ((a, oe) :: pn)) (b₀ :: suite) (ts a cls d))
    (hn : Hears X hds no) : Hears X (.ExceptHandler (some (.Name x np)) (some n) (b₀ :: suite) pos :: hds) (wCl X.K k (wOwnAs i ts) no) := by
  refine hears_clause hs hf hc ?_ hn
  intro pins D σ H B a cls d sI s c w
  apply codeAny_handlers_suite_as
  apply HandSPX.lands_againZ c.fly
  intro h' fl u
  obtain ⟨oe, z, fd, _, I⟩ := (c.on fl u).suite hs hf
  apply store_ok (X := X.suite a ((a, oe) :: (X.pn ++ pins))) (v := .ref a) I hN hi (.inl hl) rfl (hf := .inr hl)
  intro t I'
  exact wpAny_mono ((su a oe cls d _ z fd).run [] t _ H _ I' (w a c.new)) (fun f t' q => sp_less hN hi hl (fun _ _ J => J.unsuite c.inv.ok) q) (fun _ _ ff => ff.elim)
/-- the clauses as they are come to: the frame is noted, the flight set off -/
def toClauses (X : Cx) (pins : List (Addr × Obj)) (D : Ends) (hds : List ExceptHandler) : Value → Shared → Prop := fun u t =>
  wpAny (mdl X) X.A (noteFrame u X.env) (fun _ t => wpAny (mdl X) X.A (setFlight u none) (fun _ t => wpAny (mdl X) X.A (handleBy u X.env hds) (SP X pins D) X.xe t) X.xe t) X.xe t
/-- a body read for any wish on its exceptions -/
def Reads (X : Cx) (body : List Stmt) (tb : WX → TS) : Prop := ∀ (W : WX) (pn : List (Addr × Obj)) (xe : Value → Shared → Prop),
  Takes (X.tr pn xe) W → PassesOwn (mdl X) X.A X.env xe → PSs (X.tr pn xe) body (tb W)
/-- the whole -/
theorem ps_tryH {body : List Stmt} {h₀ : ExceptHandler} {hds : List ExceptHandler} {pos : Pos} {W : Asks} {tb : WX → TS} (hs : X.stack = X.env :: X.outer) (hf : X.env.frame = some X.env.locals) (hb : Reads X body tb)
    (hh : Hears X (h₀ :: hds) W) : PS X (.Try body (h₀ :: hds) [] [] pos) (fun D σ H => tb (W D) D σ H) := by
  constructor
  intro pins s σ H D I t
  have ok := I.ok
  apply wpAny_Try_except
  have run := hb (W D) (X.pn ++ pins) (toClauses X pins D (h₀ :: hds)) (fun u s' x => by
    obtain ⟨a, B, sI, _, σ', H', cls, d, rfl, J, grd, ups, sky, new, sys, gen, w⟩ := x
    have sky' : Sky B (X.env :: X.outer) a (Zc cls d) X.env.locals s'.heap := hs ▸ sky
    have c : ∀ h, HandSPX.FlyingZ B (X.env :: X.outer) a (Zc cls d) h → s'.heap.UpToSlots h → Stands X pins σ' H' B a cls d sI { s' with heap := h } :=
      fun h fl u => ⟨J.ofTry ok, grd, ups.trans u, hs.symm ▸ fl, new, sys, gen⟩
    exact Sky.land Zc.steady (ok.frames.trans (congrArg some hs)) hf sky' fun h fl u => hh pins D σ' H' B a cls d sI _ (c h fl u) w) PassesOwn.looking
  refine wpAny_mono (run.run [] s σ H D (I.toTry _) t) ?_ (fun _ _ q => q)
  intro f s' q
  have q' : SP X pins D f s' := sp_turn (fun _ _ J => J.ofTry ok) q
  cases f
  case next => exact wpAny_execs_nil q'
  all_goals exact q'
end
end
end PV

set_option Elab.async false
set_option linter.all false
set_option maxRecDepth 100000
set_option maxHeartbeats 0
namespace PV
noncomputable section
open PySem PySem.Spec
open PyProof.Rows L2

/-! ## 21. the try that tells how a call ended -/
/-- what a body says, with no context -/
def canS (K : PySem.W.Frag) (mg : Str → Option Value) (c : Fc) (rk : Nat) (f : SM) (W : WX) : TS := fun D σ H => ∃ ρ G F, Ok K mg c [] G F H σ ρ ∧
  WpS (f ρ) (fun ρ' => ∀ σ' G' F' H', Ext G F G' F' → Ok K mg c [] G' F' H' σ' ρ' → σ'.length = σ.length → D.nx σ' H')
      (fun d ρ' => ∀ σ' v G' F' H' fp, Ext G F G' F' → Ok K mg c fp G' F' H' σ' ρ' → Own K mg G' H' rk d v fp → D.rt v H') (NxS K mg W σ.length G F)
theorem SXs.can {X : Cx} {W : WX} {c : Fc} {rk : Nat} {b : List Stmt} {f : SM} (h : SXs X W c rk b f) : PSs X b (canS X.K X.mg c rk f W) := by
  obtain ⟨t, h1, h2⟩ := h
  refine ⟨fun pins s σ H D I q => h1.run pins s σ H D I ?_⟩
  obtain ⟨ρ, G, F, o, w⟩ := q
  exact h2 D σ ρ G F H o w
def blank (ρ : PV.Env) : PV.Env := List.replicate ρ.length none
/-- what the clauses make of an exception -/
def sTryR (i : Nat) (fb : SM) : SM := fun ρ => match fb ρ with
  | .exc .mal => .rt (.tup [.str "malformed", .non]) (blank ρ)
  | .exc (.refu d) => if i < ρ.length then .rt (.tup [.str "refused", d]) (blank ρ) else .fail
  | r => r
/-- what the classes' texts say -/
structure XcR (K : PySem.W.Frag) (mg : Str → Option Value) (CM CR : Addr) : Prop where
  gM : mg "Malformed" = some (.ref CM)
  gR : mg "Refused" = some (.ref CR)
  mm : PySem.W.exmOne K (.ref CM) (.ref CM) = some true
  rm : PySem.W.exmOne K (.ref CR) (.ref CM) = some false
  rr : PySem.W.exmOne K (.ref CR) (.ref CR) = some true
  xf : XfC K CR
  hno : PySem.W.findIn K (.ref CR) "reason" = some none
/-- neither: it goes on -/
structure XcN (K : PySem.W.Frag) (mg : Str → Option Value) (CM CR CN : Addr) : Prop where
  gN : mg "NoText" = some (.ref CN)
  nm : PySem.W.exmOne K (.ref CN) (.ref CM) = some false
  nr : PySem.W.exmOne K (.ref CN) (.ref CR) = some false
section
variable {K : PySem.W.Frag} {mg : Str → Option Value} {c : Fc} {T : List Addr} {G F H G' F' H' : Hp} {σ σ' : L2.St} {ρ : PV.Env}
theorem blank_none {i : Nat} : ¬ ∃ d, (blank ρ)[i]? = some (some d) := fun ⟨d, e⟩ => by
  unfold blank at e
  rw [List.getElem?_replicate] at e
  split at e <;> cases e
theorem Ok.blank (gf : Same G F) (fh : Same F H) (bf : Same c.B F) (hl : ρ.length = σ.length) (io : c.io = []) : Ok K mg c [] G F H σ (PV.blank ρ) :=
  ⟨gf, fh, bf, by unfold PV.blank; rw [List.length_replicate]; exact hl, fun p hp => (by rw [io] at hp; cases hp), fun _ => [], fun i d e => absurd ⟨d, e⟩ blank_none, fun _ _ => rfl, fun _ _ h => (nomatch h), fun _ => List.nodup_nil, fun _ _ _ _ h => (nomatch h), List.nodup_nil, fun _ h => (nomatch h), fun _ _ h => (nomatch h)⟩
end
section
variable {X : Cx} {W : WX} {c : Fc} {p : Bool} {rk : Nat}
theorem sx_tryR (ok : Cok X W) (hs : X.stack = X.env :: X.outer) (hf : X.env.frame = some X.env.locals) (hN : X.N.Nodup) {CM CR : Addr} (xc : XcR X.K X.mg CM CR) (i : Nat) {n : Str} {body : List Stmt} {fb : SM} {np nq pos p1 p2 p3 p4 p5 p6 p7 p8 p9 p10 : Pos} {kt kt2 j1 j2 j3}
    (hb : ∀ (W' : WX) (pn : List (Addr × Obj)) (xe : Value → Shared → Prop), Cok (X.tr pn xe) W' → Pso (X.tr pn xe) → SXs (X.tr pn xe) W' c 0 body fb) (hnn : X.mg "NoText" = none ∨ ∃ CN, XcN X.K X.mg CM CR CN) (hio : c.io = [] := by rfl)
    (hi : X.N[i]? = some n := by rfl) (hln : X.env.kindOf n = some .local := by rfl) (hgM : Gl X "Malformed" := by rfl) (hgR : Gl X "Refused" := by rfl) (hv : Vis X.env.scope n := by first | exact Or.inl rfl | exact Or.inr (Or.inl rfl) | exact Or.inr (Or.inr rfl)) (hd : (n == ("__debug__" : Str)) = false := by decide) (hcd : (n == ("__classdict__" : Str)) = false := by decide) :
    SX X W c 0 (.Try body [.ExceptHandler (some (.Name "Malformed" np)) none [.Return (some (.Tuple [.Constant (.str "malformed") j1 p1, .Constant .none j2 p2] kt p3)) p4] p5,
      .ExceptHandler (some (.Name "Refused" nq)) (some n) [.Return (some (.Tuple [.Constant (.str "refused") j3 p6, .Attribute (.Name n p7) "reason" p8] kt2 p9)) p10] pos] [] [] pos2) (sTryR i fb) := by
  have hb' : Reads X body (canS X.K X.mg c 0 fb) := fun W' pn xe tk po => (hb W' pn xe ⟨tk, ok.calm⟩ po).can
  refine ⟨_, ps_tryH hs hf hb' (hears_own (k := .ref CM) hs hf ⟨hgM, by decide, .inl xc.gM⟩ (fun a oe cls d pn _ _ => pss_one (ps_ret (pe_tup (pa_cons pe_str (pa_cons pe_non pa_nil)))))
    (hears_as (i := i) (k := .ref CR) hs hf ⟨hgR, by decide, .inl xc.gR⟩ hN hi hln (fun a oe cls d pn z fields => pss_one (ps_ret (pe_tup (pa_cons pe_str (pa_cons (pe_xf xc.xf xc.hno z fields (pe_var (X := X.suite a ((a, oe) :: pn)) hi hv hd hcd)) pa_nil)))))
      (hears_none hs hf ok.tk))), fun D σ ρ G F H o w => ?_⟩
  refine ⟨ρ, G, F, o, ?_⟩
  unfold sTryR at w
  -- the tuple that a clause makes
  have tup : ∀ {G' F' H' : Hp} {σ' : L2.St} {vs : List V} {ds : List PV.D} {a : Addr}, σ'.length = σ.length → Ext G F G' F' → Same G' F' → Same F' H' → RpL X.K X.mg G' vs ds → H' a = none → PRt X c 0 D G F (.tup ds) (blank ρ) → D.rt (.ref a) (upd H' a (.tup vs)) := fun {G' F' H' σ' vs ds a} hl x gf fh rp ha q => by
    have ob : Ok X.K X.mg c [] G' F' H' σ' (blank ρ) := Ok.blank gf fh (o.bf.trans x.f) (by rw [hl]; exact o.len) hio
    have g := Grow.sh (o := .tup vs) gf fh ha
    exact q σ' (.ref a) _ _ _ [] (x.trans g.x) (ob.grown g) ⟨.tup upd_same (rp.mono g.x.g), rfl⟩
  cases e : fb ρ with
  | nx ρ' => rw [e] at w; exact w
  | rt d ρ' => rw [e] at w; exact w
  | fail => rw [e] at w; exact w.elim
  | exc x =>
    rw [e] at w
    intro σ' hl cls dd G' F' H' x1 gf fh xr
    cases x with
    | mal =>
      obtain ⟨C, hC, rfl, rfl⟩ := xr
      rw [xc.gM] at hC
      cases hC
      refine ⟨true, xc.mm, fun a ha => ?_⟩
      exact ⟨by show 2 ≤ sizeLine; decide, fun b hb => tup (ds := [.str "malformed", .non]) hl x1 gf fh (.cons (.str _) (.cons .non .nil)) hb w⟩
    | refu d =>
      obtain ⟨C, a1, v, hC, rfl, rfl, hx, rv⟩ := xr
      rw [xc.gR] at hC
      cases hC
      refine ⟨false, xc.rm, true, xc.rr, fun a ha => ?_⟩
      have w : WpS (if i < ρ.length then SR.rt (.tup [.str "refused", d]) (blank ρ) else .fail) _ _ _ := w
      split at w
      · rename_i hil
        rw [o.len, ← hl] at hil
        refine ⟨.ref a, by rw [List.getElem?_set_self hil], rfl, rfl, a1, _, v, rfl, hx, by simp, ?_⟩
        exact ⟨by show 2 ≤ sizeLine; decide, fun b hb => tup (σ' := σ') (ds := [.str "refused", d]) hl x1 gf fh (.cons (.str _) (.cons rv .nil)) hb w⟩
      · exact w.elim
    | note d =>
      have xr0 := xr
      obtain ⟨C, a1, v, hC, rfl, rfl, hx, rv⟩ := xr
      rcases hnn with hnn | ⟨CN, hnn⟩
      · rw [hnn] at hC
        cases hC
      · rw [hnn.gN] at hC
        cases hC
        exact ⟨false, hnn.nm, false, hnn.nr, w σ' hl _ _ G' F' H' x1 gf fh xr0⟩
end
end
end PV

set_option Elab.async false
set_option linter.all false
set_option maxRecDepth 100000
set_option maxHeartbeats 0
namespace PV
noncomputable section
open PySem PySem.Spec
open PyProof.Rows L2

/-! ## 22. the call of a def that a name holds -/
def allShP : List Pm → Bool
  | [] => true
  | .sh :: r => allShP r
  | _ => false
/-- the result's own objects join the shared ones -/
theorem spM_sh {K : PySem.W.Frag} {mg : Str → Option Value} {ps : List Pm} {rk : Nat} {m : List D → R D} {vs : List V} {H : Hp} {Q : VK} {E : XK} (hn : noIoP ps = true) (h : spM K mg ps 0 (m0 m) vs H Q E) : spM K mg ps rk (m0 m) vs H Q E := by
  obtain ⟨G, F, ds, fp, gf, fh, a, nd, hf, hw⟩ := h
  refine ⟨G, F, ds, fp, gf, fh, a, nd, hf, ?_⟩
  unfold m0 at hw ⊢
  cases e : m ds with
  | exc x => rw [e] at hw; exact hw
  | fail => rw [e] at hw; exact hw
  | ok d =>
    rw [e] at hw
    intro v G1 F1 H1 fr fo x gf1 fh1 ow out nd1 hf1
    have e2 := outs_nil out
    subst e2
    rw [List.append_nil] at nd1 hf1
    have gn : ∀ a ∈ fr, G1 a = none := fun a ha => gf1.free (hf1 a ha)
    have sg : Same G1 (join G1 H1 fr) := join_same gn
    have rp : Rp K mg (join G1 H1 fr) v d := Own.frozen (G' := join G1 H1 fr) sg (fun a ha u e => by unfold join; rw [if_pos ha]; exact e) ow
    have fsame : Same F1 (join F1 H1 fr) := join_same hf1
    have gj : Same (join G1 H1 fr) (join F1 H1 fr) := fun a u e => by
      unfold join at e ⊢
      by_cases z : a ∈ fr
      · rw [if_pos z] at e ⊢; exact e
      · rw [if_neg z] at e ⊢; exact gf1 a u e
    have xj : Ext G1 F1 (join G1 H1 fr) (join F1 H1 fr) := ⟨sg, fsame, fun a e1 e2 => by
      unfold join
      rw [if_neg fun z => e2 (hf1 a z)]
      exact e1⟩
    have out' : OutL K mg (join G1 H1 fr) H1 ps vs [] [] := by
      clear hw
      have : ∀ {ps : List Pm} {vs : List V}, OutL K mg G1 H1 ps vs [] [] → OutL K mg (join G1 H1 fr) H1 ps vs [] [] := by
        intro ps
        induction ps with
        | nil => intro vs h; cases h; exact .nil
        | cons q ps ih =>
          intro vs h
          cases h with
          | sh r => exact .sh (ih r)
          | rd r => exact .rd (ih r)
      exact this out
    exact hw v _ _ H1 [] [] (x.trans xj) gj (join_sub fh1) ⟨rp, rfl⟩ out' List.nodup_nil fun _ h => nomatch h
/-- a def that may be handed over, by its name -/
structure HeldM (P : Program) (w : World) (K : PySem.W.Frag) (mg : Str → Option Value) (base : Heap) (k : Nat) (x : Str) (n : Nat) (m : List D → R D) : Prop where
  ex : ∃ (f : Addr) (fd : FuncData) (pn : List Str) (ps : List Pm) (rk : Nat), FnOk P w K mg base (L2.CX P w) k f fd pn (spM K mg ps rk (m0 m)) ∧ mg x = some (.ref f) ∧ PySem.W.keepIn K (.ref f) = true ∧ Binds K fd pn [] ∧ allShP ps = true ∧ ps.length = n
theorem HeldM.mono {P : Program} {w : World} {K : PySem.W.Frag} {mg : Str → Option Value} {base : Heap} {j k : Nat} {x : Str} {n : Nat} {m : List D → R D} (h : HeldM P w K mg base j x n m) (l : j ≤ k) : HeldM P w K mg base k x n m := by
  obtain ⟨f, fd, pn, ps, rk, F, r⟩ := h.ex
  exact ⟨f, fd, pn, ps, rk, F.mono l, r⟩
abbrev FTab := Str → Option (Nat × (List D → R D))
def eCallL (i : Nat) (T : FTab) (fa : M (List D)) : M D := fun ρ => match look ρ i with
  | some (.fn x) => match T x with
    | some (n, m) => (fa.bind fun ds ρ' => if ds.length = n then match m ds with
        | .ok d => .ok (d, ρ')
        | .exc x => .exc x
        | .fail => .fail
      else .fail) ρ
    | none => .fail
  | _ => .fail
theorem allShP_no : ∀ {ps : List Pm}, allShP ps = true → noIoP ps = true
  | [], _ => rfl
  | .sh :: r, h => allShP_no (ps := r) h
theorem args_sh {K : PySem.W.Frag} {mg : Str → Option Value} {G H : Hp} : ∀ {ps : List Pm} {ds : List D} {vs : List V}, allShP ps = true → ds.length = ps.length → RpL K mg G vs ds → ArgL K mg G H H ps ds vs []
  | [], [], _, _, _, .nil => .nil
  | .sh :: ps, _ :: _, _, h, l, .cons r rs => .sh r (args_sh (ps := ps) h (Nat.succ.inj l) rs)
section
variable {X : Cx} {W : WX} {c : Fc} {p : Bool}
theorem ex_callL (i : Nat) {k : Nat} {T : FTab} {ms : List Am} {x : Str} {pp pos : Pos} {e : Expr} {es : List Expr} {fa : M (List D)} (ok : Cok X W) (hT : ∀ y n m, T y = some (n, m) → HeldM X.prog X.w X.K X.mg X.base k y n m) (hr : Room k X.A) (ha : AX X W c p ms (e :: es) fa) (hsh : allSh ms = true := by rfl)
    (hN : X.N[i]? = some x := by rfl) (hv : Vis X.env.scope x := by first | exact Or.inl rfl | exact Or.inr (Or.inl rfl) | exact Or.inr (Or.inr rfl)) (hdb : (x == ("__debug__" : Str)) = false := by decide) (hcd : (x == ("__classdict__" : Str)) = false := by decide)
    (he : starEach (e :: es) X.env = (false, eval e X.env) :: starEach es X.env := by rfl) (hpl : (backTo pos (starEach es X.env)).any (·.1) = false := by rfl) : EX X W c p (.rd 0) (.Call (.Name x pp) (e :: es) [] pos) (eCallL i T fa) := by
  obtain ⟨ta, a1, a2⟩ := ha
  refine ⟨fun σ H Q => ∃ (f : Addr) (fd : FuncData) (pn : List Str) (sp : Sp), FnOk X.prog X.w X.K X.mg X.base (L2.CX X.prog X.w) k f fd pn sp ∧ PySem.W.keepIn X.K (.ref f) = true ∧ Binds X.K fd pn [] ∧ σ[i]? = some (some (.ref f)) ∧ ta σ H fun vs H1 => sp vs H1 Q (WE W σ), ⟨fun pins s σ H Q I h => ?_⟩, fun σ ρ G F0 H Q o w => ?_⟩
  · obtain ⟨f, fd, pn, sp, F, hk, hb, hs, ht⟩ := h
    refine wpAny_Call_Name_kw (thn ((pe_var (pos := pp) hN hv hdb hcd).run pins s σ H (fun v H1 => v = .ref f ∧ H1 = H) I ⟨.ref f, hs, rfl, rfl⟩) fun u s1 ⟨v, H1, I1, r1, q1⟩ => ?_)
    obtain ⟨rfl, rfl⟩ := q1
    cases r1
    refine PySem.W.callWith_K (h₀ := X.base) I.ok.mod.kin hk (thn (a1.run pos pins s1 σ _ _ I1 ht) fun us s2 ⟨vs, H2, I2, r, q⟩ => ⟨I2.kIn, ?_⟩) he hpl
    exact run_fnS (E := WE W) F hr hb (passAt ok.tk σ) I2 r q
  · unfold eCallL at w
    split at w
    · rename_i y e0
      split at w
      · rename_i n m eT
        obtain ⟨f, fd, pn, ps, rk, F, hm, hk, hb, hps, hl⟩ := (hT y n m eT).ex
        obtain ⟨u, e1, rp⟩ := o.dom (look_eq.mp e0)
        have eu : u = .ref f := by
          cases rp with
          | fn h =>
            rw [hm] at h
            cases h
            rfl
        subst eu
        refine ⟨f, fd, pn, _, F, hk, hb, e1, ?_⟩
        refine a2 σ ρ G F0 H _ o ((Wp.ofBindM w).imp (fun r hr => ?_) fun _ z => z)
        intro vs G1 F1 H1 x1 o1 q1 hp1
        split at hr
        · rename_i hlen
          refine spM_sh (allShP_no hps) ?_
          refine ⟨G1, H1, r.1, [], o1.gh, .refl _, args_sh hps (hlen.trans hl.symm) (ValL.sh (allSh_mem hsh) q1), List.nodup_nil, fun _ h => (nomatch h), ?_⟩
          unfold m0
          cases em : m r.1 with
          | ok d =>
            rw [em] at hr
            intro v G2 F2 H2 fr fo x2 gf2 fh2 ow out nd hf
            have e2 := outs_nil out
            subst e2
            rw [List.append_nil] at nd hf
            obtain ⟨x3, o3, hh⟩ := o1.called x2 gf2 fh2 ow nd hf
            exact hr v G2 _ H2 fr (x1.trans x3) o3 ⟨ow.1, ow.2⟩ fun hp => ⟨(hp1 hp).1, (hp1 hp).2.trans hh⟩
          | exc x =>
            rw [em] at hr
            intro cls dd G2 F2 H2 x2 gf2 fh2 xr
            have hr : Nx X.K X.mg W σ G F0 x := hr
            have gs : Same G2 (glue F1 G2) := fun a u e => by
              unfold glue
              cases q : F1 a with
              | none => exact e
              | some u' =>
                have e1 := (x2.f.trans fh2) a u' (o1.fh a u' q)
                have e2 := fh2 a u (gf2 a u e)
                rw [e1] at e2
                exact e2
            refine hr cls dd G2 (glue F1 G2) H2 (x1.trans ⟨x2.g, glue_l, fun a e1 e2 => x2.n a e1 (o1.fh.nn e2)⟩) gs (fun a u e => ?_) xr
            rcases glue_cases e with q | ⟨_, q⟩
            · exact (x2.f.trans fh2) a u (o1.fh a u q)
            · exact fh2 a u (gf2 a u q)
          | fail => rw [em] at hr; exact hr.elim
        · exact hr.elim
      · exact w.elim
    · exact w.elim
/-! ## 23. isinstance of a built-in type -/
inductive Ty where
  | non | bl | int | str | tup | lst | dct
  deriving DecidableEq
def tyS : Ty → String
  | .non => "NoneType" | .bl => "bool" | .int => "int" | .str => "str" | .tup => "tuple" | .lst => "list" | .dct => "dict"
def isTy : Ty → Ty → Bool
  | .bl, .int => true
  | a, b => decide (a = b)
def tyD : D → Option Ty
  | .non => some .non | .bl _ => some .bl | .int _ => some .int | .str _ => some .str | .tup _ => some .tup | .lst _ => some .lst | .dct _ => some .dct | .dcT _ => some .dct | .scr _ => some .lst
  | _ => none
theorem kit_tab : ∀ a b : Ty, kitB (tyS a) (tyS b) = some (isTy a b) := by
  intro a b
  cases a <;> cases b <;> decide +kernel
def gIsT (b : Ty) : D → Option D := fun d => (tyD d).map fun a => .bl (isTy a b)
theorem tyx_of {K : PySem.W.Frag} {mg : Str → Option Value} {H : Hp} {d : D} {v : V} {a : Ty} (r : Rp K mg H v d) (e : tyD d = some a) : TyX K H v (.type (tyS a)) := by
  cases r <;> first | (cases e; done) | skip
  · cases e; exact .base .non
  · cases e; exact .base (.bl _)
  · cases e; exact .base (.int _)
  · cases e; exact .base (.str _)
  · rename_i h _; cases e; exact .base (.tup h)
  · rename_i h _; cases e; exact .base (.lst h)
  · rename_i h; cases e
    rcases h with (h | ⟨o, h⟩) | ⟨o, its, n, e, c, _⟩
    · exact .base (.lst h)
    · exact .base (.frz h)
    · exact .kList e c
  · rename_i h _ _; cases e; exact .base (.dK h)
  · rename_i h _ _; cases e; exact .base (.dT h)
theorem isT_S {K : PySem.W.Frag} {mg : Str → Option Value} {n : Nat} (b : Ty) {G F H : Hp} {d : D} {v : V} {z : D} {Q : VK} (gf : Same G F) (fh : Same F H) (q : RdV K mg G H n d v) (hz : gIsT b d = some z) (k : ∀ w G' F' H' fr, Grow G F H G' F' H' fr → Val K mg (.rd 0) G' H' z w fr → Q w H') : rIsi K [v, .ty (tyS b)] H Q := by
  have q := q.rp (gf.trans fh)
  unfold gIsT at hz
  obtain ⟨a, e, rfl⟩ := Option.map_eq_some_iff.mp hz
  exact ⟨v, .ty (tyS b), .type (tyS a), .type (tyS b), isTy a b, rfl, .ty _, tyx_of q e, kit_ty (kit_tab a b), k _ G F H [] (.refl gf fh) ⟨.bl _, rfl⟩⟩
variable {n : Nat}
theorem ex_isT (b : Ty) {x : Str} {a : Expr} {fa : M D} {pp pq pos : Pos} (hm : X.mg "isinstance" = none) (hm2 : X.mg x = none) (ha : EX X W c p (.rd n) a fa) (hb : b ≠ .non := by decide) (hx : x = Str.ofString (tyS b) := by rfl) (hg : Gl X "isinstance" := by rfl) (hg2 : Gl X x := by rfl)
    (h1 : starEach [a, .Name x pq] X.env = (false, eval a X.env) :: starEach [.Name x pq] X.env := by rfl) (h2 : starEach [.Name x pq] X.env = (false, eval (.Name x pq) X.env) :: starEach [] X.env := by rfl) (hpl : (backTo pos (starEach [.Name x pq] X.env)).any (·.1) = false := by rfl) :
    EX X W c p (.rd 0) (.Call (.Name "isinstance" pp) [a, .Name x pq] [] pos) (e1 (gIsT b) fa) := by
  obtain ⟨te, e1, e2⟩ := ha
  have hv : bootBuiltins x = some (.type (tyS b)) := by
    subst hx
    cases b <;> first | exact absurd rfl hb | decide +kernel
  have hn : x ≠ "__name__" := by
    subst hx
    cases b <;> decide
  have hd : (x == ("__debug__" : Str)) = false := by
    subst hx
    cases b <;> decide
  refine ⟨_, pe_callB call_isi hg hm (by decide +kernel) (pa_cons e1 (pa_cons (pe_bltn (v := .ty (tyS b)) hg2 hm2 hv rfl hn hd) pa_nil h2) h1) (by decide) (by decide) h1 hpl, fun σ ρ G F H Q o w => ?_⟩
  refine EX.use te e2 o (Wp.ofBindM w) (fun r1 h1 v1 G1 F1 H1 fp1 x1 o1 q1 hp1 => ?_) fun _ z => z
  unfold M.ofO at h1
  split at h1
  · rename_i z hz
    exact isT_S b o1.gf o1.fh q1.1 hz fun wv G3 F3 H3 fr g3 q3 => h1 wv G3 F3 H3 fr (x1.trans g3.x) (o1.drop.grown g3) q3 fun hp => ⟨(hp1 hp).1, (hp1 hp).2.trans g3.hh⟩
  · exact h1.elim
end
end
end PV

set_option Elab.async false
set_option linter.all false
set_option maxRecDepth 100000
set_option maxHeartbeats 0
namespace PV
noncomputable section
open PySem PySem.Spec
open PyProof.Rows L2

/-! ## 24. extend, pop(i) -/
/-- a list is made longer by a tuple's items: the tuple's object in any form -/
theorem longer_by_tup (dst src : Addr) (have_ more : Array Value) (c k : Nat) (od : Option Addr) (slots : Array (Option Value)) (small1 : have_.size ≤ sizeLine) (small2 : have_.size + more.size ≤ sizeLine) :
    Meets (Builtin.«list.extend» ⟨[.ref dst, .ref src], []⟩) fun _ R s => s.heap.get? dst = some { cls := .type "list", data := .seq have_ c } ∧ s.heap.get? src = some ⟨.type "tuple", od, .seq more k, slots⟩ ∧ R (.ok (.ret .none)) { s with heap := s.heap.update dst (Obj.mapSeq (· ++ more)) } := by
  have room : ¬ (!have_.isEmpty && Builtin.List.listTooLong (have_.size + more.size)) = true := by rw [notLongL small2]; simp
  have fits : (have_ ++ more).size ≤ sizeLine + 1 := by rw [Array.size_append]; omega
  apply Meets.of_wp
  rintro prog w A R ⟨heap, gens, drawn, toks, os⟩ ⟨hd, hs, hR⟩
  have tt := AutoSeq1.sub_tuple_tuple
  have tl := AutoSeq1.sub_tuple_list
  have lt := AutoSeq1.sub_list_tuple
  have ll := AutoSeq1.sub_list_list
  wp_walk using (wpAny_updateSeq hd rfl (hz := small1) (_hz' := fits)), AutoSeq1.wpAny_loadPart' hd, AutoSeq1.wpAny_loadPart' hs
  exact ⟨_, rfl, hR⟩
section
variable {X : Cx}
/-- l.extend(t), t a tuple that stands on the abstract heap -/
def rLonger : V → List V → Hp → VK → Prop := fun x args H Q => ∃ (dst src : Addr) (old new : List V), x = .ref dst ∧ args = [.ref src] ∧ H dst = some (.lst old) ∧ H src = some (.tup new) ∧ old.length + new.length ≤ sizeLine ∧ Q .non (upd H dst (.lst (old ++ new)))
theorem longer_rule : MtR X "list.extend" rLonger := by
  intro pins s σ H x args self us Q inv rself rargs want
  obtain ⟨dst, src, old, new, rfl, rfl, atDst, atSrc, room, done⟩ := want
  cases rself
  obtain ⟨u, rfl, ru⟩ := rargs.one
  cases ru
  -- the two objects as they stand
  obtain ⟨_, olds, c, relOld, lenOld, objDst⟩ := inv.lstM atDst
  obtain ⟨_, news, relNew, ⟨cls, od, dat, slots⟩, objSrc, hcls, k, hdat⟩ := inv.hok src _ atSrc
  dsimp only at hcls hdat
  subst hcls hdat
  have lenNew := relNew.length
  have m := longer_by_tup dst src olds.toArray news.toArray c k od slots (by simp only [List.size_toArray]; omega) (by simp only [List.size_toArray]; omega)
  have inv' := inv.lset (t' := s.toks) (its' := olds ++ news) (ys := old ++ new) atDst objDst (f := (· ++ news.toArray)) (by simp) (relOld.append relNew) (by rw [List.length_append]; exact room)
  exact call_meets F.slot_list_extend ⟨_, objDst, rfl⟩ F.entry_list_extend (F.args_list_extend_2 _ _) m ⟨objDst, objSrc, .non, _, inv', rfl, done⟩
def rExtendA : V → List V → Hp → VK → Prop := fun x vs H Q => rExtend x vs H Q ∨ rLonger x vs H Q
theorem mt_extendA : MtR X "list.extend" rExtendA := fun pins s σ H x vs v us Q I rx rv h => h.elim (mt_extend pins s σ H x vs v us Q I rx rv) (longer_rule pins s σ H x vs v us Q I rx rv)
def opExt : D → D → Option (D × D)
  | .lst ds, .lst es => if ds.length + es.length ≤ 100000 then some (.non, .lst (ds ++ es)) else none
  | .lst ds, .tup es => if ds.length + es.length ≤ 100000 then some (.non, .lst (ds ++ es)) else none
  | _, _ => none
theorem ownL_shared {K : PySem.W.Frag} {mg : Str → Option Value} {G H : Hp} {ds : List D} {vs : List V} (r : RpL K mg G vs ds) : OwnL (Own K mg G H 0) ds vs [] := ownL_sh r
theorem rdv1 {K : PySem.W.Frag} {mg : Str → Option Value} {G H : Hp} {es : List D} {v : V} (gh : Same G H) (q : RdV K mg G H 1 (.lst es) v) : ∃ a vs, v = .ref a ∧ H a = some (.lst vs) ∧ RpL K mg G vs es := by
  obtain ⟨a, vs, rfl, ha, hl⟩ := q.lst_inv gh
  exact ⟨a, vs, rfl, ha, hl.rpl _ _ fun _ _ q => q⟩
theorem rdv1t {K : PySem.W.Frag} {mg : Str → Option Value} {G H : Hp} {n : Nat} {es : List D} {v : V} (q : RdV K mg G H n (.tup es) v) : ∃ a vs, v = .ref a ∧ G a = some (.tup vs) ∧ RpL K mg G vs es := by
  exact (RdV.plain rfl q).tup_inv
theorem ms_ext {K : PySem.W.Frag} {mg : Str → Option Value} : MS K mg 1 (.rd 1) (.rd 0) rExtendA opExt := by
  intro G F H x d u v fp fq z y Q gf fh ow q nd hop fin
  obtain ⟨q, rfl⟩ := q
  cases x <;> first | (cases hop; done) | skip
  rename_i ds
  obtain ⟨a, rest, vs, rfl, rfl, ha, hl⟩ := ow.lst_inv
  obtain ⟨r1, rfl⟩ := hl.sh
  have fin' : ∀ {es : List D} {us : List V}, RpL K mg G us es → y = .lst (ds ++ es) → z = .non → Q .non (upd H a (.lst (vs ++ us))) := fun {es us} r ey ez => by
    subst ey
    subst ez
    exact fin .non _ [a] [] ⟨.non, rfl⟩ (Own.lst upd_same (ownL_sh (r1.append r))) (fun b hb => upd_ne fun t => hb (by rw [t]; exact List.mem_cons_self)) (by simp) fun b hb => .inl (by simpa using hb)
  cases d <;> first | (cases hop; done) | skip
  · rename_i es
    have hop : (if ds.length + es.length ≤ 100000 then some (D.non, D.lst (ds ++ es)) else none) = some (z, y) := hop
    split at hop
    · rename_i hlen
      cases hop
      obtain ⟨b, us, rfl, hb, r⟩ := rdv1t q
      exact .inr ⟨a, b, vs, us, rfl, rfl, ha, (gf.trans fh) _ _ hb, by rw [r1.length, r.length]; exact szl hlen, fin' r rfl rfl⟩
    · cases hop
  · rename_i es
    have hop : (if ds.length + es.length ≤ 100000 then some (D.non, D.lst (ds ++ es)) else none) = some (z, y) := hop
    split at hop
    · rename_i hlen
      cases hop
      obtain ⟨b, us, rfl, hb, r⟩ := rdv1 (gf.trans fh) q
      exact .inl ⟨a, b, vs, us, rfl, rfl, ha, hb, by rw [r1.length, r.length]; exact szl hlen, fin' r rfl rfl⟩
    · cases hop
end
section
variable {X : Cx} {W : WX} {c : Fc} {p : Bool}
theorem ex_extend (i : Nat) {x : Str} {e : Expr} {f : M D} {px apos cpos : Pos} (he : EX X W c p (.rd 1) e f) (hk : c.kd i = .own 1 := by rfl) (hN : X.N[i]? = some x := by rfl)
    (hv : Vis X.env.scope x := by first | exact Or.inl rfl | exact Or.inr (Or.inl rfl) | exact Or.inr (Or.inr rfl)) (hd : (x == ("__debug__" : Str)) = false := by decide) (hcd : (x == ("__classdict__" : Str)) = false := by decide)
    (mc : MCall1 X x "extend" e px apos cpos := by exact ⟨rfl, rfl, rfl, rfl, rfl⟩) :
    EX X W c false (.rd 0) (.Call (.Attribute (.Name x px) "extend" apos) [e] [] cpos) (eMeth1 i isOL opExt f) :=
  ex_meth1 i F.plainAttrs_list F.slot_list_extend F.type_list_extend mt_extendA tyL ms_ext he hk hN hv hd hcd mc
theorem ex_pop (i k : Nat) {x : Str} {px apos cpos : Pos} (hk : c.kd i = .own (k + 1) := by rfl) (hN : X.N[i]? = some x := by rfl)
    (hv : Vis X.env.scope x := by first | exact Or.inl rfl | exact Or.inr (Or.inl rfl) | exact Or.inr (Or.inr rfl)) (hd : (x == ("__debug__" : Str)) = false := by decide) (hcd : (x == ("__classdict__" : Str)) = false := by decide)
    (mc : MCall0 X x "pop" px apos cpos := by exact ⟨rfl, rfl⟩) :
    EX X W c false (mdK (.own k)) (.Call (.Attribute (.Name x px) "pop" apos) [] [] cpos) (eMeth0 i isOL opPop) :=
  ex_meth0 i F.plainAttrs_list F.slot_list_pop F.type_list_pop mt_pop tyL ms_pop hk hN hv hd hcd mc
/-! pop(i), items shared -/
def opPopAt : D → D → Option (D × D)
  | .lst ds, .int i => match ixN ds.length i with
    | some j => match ds[j]? with
      | some d => if ds.length ≤ 100000 then some (d, .lst (ds.eraseIdx j)) else none
      | none => none
    | none => none
  | _, _ => none
theorem ms_popAt {K : PySem.W.Frag} {mg : Str → Option Value} {k : Nat} : MS K mg (k + 1) (.rd 0) (mdK (.own k)) rPopAt opPopAt := by
  intro G F H x d u v fp fq z y Q gf fh ow q nd hop fin
  obtain ⟨q, rfl⟩ := q
  replace q : Rp K mg G v d := q
  cases x <;> first | (cases hop; done) | skip
  cases d <;> first | (cases hop; done) | skip
  rename_i ds i
  cases q
  unfold opPopAt at hop
  simp only at hop
  split at hop
  · rename_i j hj
    split at hop
    · rename_i d0 hd
      split at hop
      · rename_i hlen
        cases hop
        rw [List.append_nil] at nd
        obtain ⟨a, rest, vs, rfl, rfl, ha, hl2⟩ := ow.lst_inv
        obtain ⟨v, fj, rest', e1, q, hl3, pm, _⟩ := hl2.pick hd
        have na := (List.nodup_cons.mp nd).1
        have nr := (List.nodup_cons.mp nd).2
        have hvl : vs.length = ds.length := hl2.length
        obtain ⟨s1, s2, s3, s4⟩ := ixN_seq hj
        refine ⟨a, vs, i, j, v, rfl, rfl, ha, by omega, by omega, by rw [hvl]; exact s1, e1, ?_⟩
        have ns : ∀ b, b ∈ rest' → b ∈ rest := fun b hb => pm.subset (List.mem_append_right _ hb)
        have nf : ∀ b, b ∈ fj → b ∈ rest := fun b hb => pm.subset (List.mem_append_left _ hb)
        have qf : Own K mg G (upd H a (.lst (vs.eraseIdx j))) k z v fj := q.frame (.refl _) fun b hb o e => by rw [upd_ne fun t => na (by rw [← t]; exact nf b hb)]; exact e
        refine fin v _ (a :: rest') fj (Val.ofOwn qf) (Own.lst upd_same (hl3.off fun t => na (ns a t))) (fun b hb => upd_ne fun t => hb (by rw [t]; exact List.mem_cons_self)) ?_ fun b hb => .inl ?_
        · rw [List.cons_append]
          have np : (rest' ++ fj).Nodup := nodup_perm (List.perm_append_comm.trans pm) nr
          refine List.nodup_cons.mpr ⟨fun t => ?_, np⟩
          rcases List.mem_append.1 t with t | t
          · exact na (ns a t)
          · exact na (nf a t)
        · rcases List.mem_append.1 hb with t | t
          · rcases List.mem_cons.1 t with rfl | t
            · exact List.mem_cons_self
            · exact List.mem_cons_of_mem _ (ns b t)
          · exact List.mem_cons_of_mem _ (nf b t)
      · cases hop
    · cases hop
  · cases hop
theorem ex_popAt (i k : Nat) {x : Str} {e : Expr} {f : M D} {px apos cpos : Pos} (he : EX X W c p (.rd 0) e f) (hk : c.kd i = .own (k + 1) := by rfl) (hN : X.N[i]? = some x := by rfl)
    (hv : Vis X.env.scope x := by first | exact Or.inl rfl | exact Or.inr (Or.inl rfl) | exact Or.inr (Or.inr rfl)) (hd : (x == ("__debug__" : Str)) = false := by decide) (hcd : (x == ("__classdict__" : Str)) = false := by decide)
    (mc : MCall1 X x "pop" e px apos cpos := by exact ⟨rfl, rfl, rfl, rfl, rfl⟩) :
    EX X W c false (mdK (.own k)) (.Call (.Attribute (.Name x px) "pop" apos) [e] [] cpos) (eMeth1 i isOL opPopAt f) :=
  ex_meth1 i F.plainAttrs_list F.slot_list_pop F.type_list_pop mt_popAt tyL ms_popAt he hk hN hv hd hcd mc
end
end
end PV

set_option Elab.async false
set_option linter.all false
set_option maxRecDepth 100000
set_option maxHeartbeats 0
namespace PV
noncomputable section
open PySem PySem.Spec
open PyProof.Rows L2

/-! ## 25. a slot's object handed on: the slot is empty then -/
def eTake (i : Nat) : M D := fun ρ => match look ρ i with
  | some d => .ok (d, put ρ i none)
  | none => .fail
theorem eTake_def (i : Nat) : eTake i = fun ρ => match look ρ i with
  | some d => .ok (d, ρ.set i none)
  | none => .fail := by
  unfold eTake
  simp only [put_eq]
section
variable {K : PySem.W.Frag} {mg : Str → Option Value} {c : Fc} {G F H : Hp} {σ : L2.St} {ρ : PV.Env}
theorem Ok.take (o : Ok K mg c [] G F H σ ρ) {i n : Nat} {x : D} (e : look ρ i = some x) (hk : c.kd i = .own n) : ∃ u fp, σ[i]? = some (some u) ∧ Own K mg G H n x u fp ∧ Ok K mg c fp G F H σ (ρ.set i none) := by
  obtain ⟨fps, h1, h0, h2, h3, h4, h5, h6, h7⟩ := o.slt
  obtain ⟨u, e1, s⟩ := h1 i x (look_eq.mp e)
  rw [hk] at s
  refine ⟨u, fps i, e1, s, o.gf, o.fh, o.bf, by rw [List.length_set]; exact o.len, o.io, fun j => if j = i then [] else fps j, fun j d he => ?_, fun j hj => ?_, fun j a ha => ?_, fun j => ?_, fun j l a hjl ha hb => ?_, h3 i, h2 i, fun j a ha hb => ?_⟩
  · by_cases z : j = i
    · subst z
      by_cases hl : j < ρ.length
      · rw [List.getElem?_set_self hl] at he
        cases he
      · rw [List.getElem?_eq_none (by rw [List.length_set]; omega)] at he
        cases he
    · rw [List.getElem?_set_ne (Ne.symm z)] at he
      obtain ⟨w, e2, s2⟩ := h1 j d he
      refine ⟨w, e2, ?_⟩
      dsimp only
      rw [if_neg z]
      exact s2
  · by_cases z : j = i
    · dsimp only
      rw [if_pos z]
    · dsimp only
      rw [if_neg z]
      refine h0 j fun ⟨d, he⟩ => hj ⟨d, ?_⟩
      rw [List.getElem?_set_ne (Ne.symm z)]
      exact he
  · dsimp only at ha
    split at ha
    · cases ha
    · exact h2 j a ha
  · dsimp only
    split
    · exact List.nodup_nil
    · exact h3 j
  · dsimp only at ha hb
    split at ha
    · cases ha
    · split at hb
      · cases hb
      · exact h4 j l a hjl ha hb
  · dsimp only at ha
    split at ha
    · cases ha
    · rename_i z
      exact h4 j i a z ha hb
end
section
variable {X : Cx} {W : WX} {c : Fc}
theorem ex_take (i : Nat) {n : Nat} {x : Str} {pos : Pos} (hk : c.kd i = .own n := by rfl) (hN : X.N[i]? = some x := by rfl) (hv : Vis X.env.scope x := by first | exact Or.inl rfl | exact Or.inr (Or.inl rfl) | exact Or.inr (Or.inr rfl))
    (hd : (x == ("__debug__" : Str)) = false := by decide) (hcd : (x == ("__classdict__" : Str)) = false := by decide) : EX X W c false (.own n) (.Name x pos) (eTake i) := by
  rw [eTake_def]
  refine ⟨_, pe_var hN hv hd hcd, fun σ ρ G F H Q o w => ?_⟩
  dsimp only at w
  split at w
  · rename_i d e
    obtain ⟨u, fp, e1, ow, o'⟩ := o.take e hk
    exact ⟨u, e1, w u G F H fp (.refl _ _) o' ow fun z => nomatch z⟩
  · exact w.elim
/-- of a literal list of own lists, of depth 2: each item is own -/
theorem ex_lstO {k : Nat} {es : List Expr} {f : M (List D)} {ks : List Nat} {pos} (h : AP X W c ks es f) (hk : ∀ j ∈ ks, j = k := by decide) : EX X W c false (.own (k + 1)) (.List es pos) (eLst f) := by
  obtain ⟨t, h1, h2⟩ := h
  refine ⟨_, pe_lst h1, fun σ ρ G F H Q o w => ?_⟩
  refine h2 σ ρ G F H _ o ((Wp.ofBindM w).imp (fun r hr => ?_) fun _ z => z)
  intro vs G1 F1 H1 fp x1 o1 vl
  unfold M.ofO at hr
  split at hr
  · rename_i z hz
    have hz : (if _ then _ else _) = _ := hz
    split at hz
    · rename_i hl
      cases hz
      refine ⟨by rw [vl.len.1, ← vl.len.2]; exact szl hl, fun a ha => ?_⟩
      have g := Grow.own (o := .lst vs) o1.gf o1.fh ha
      have toL : ∀ {ks : List Nat} {ds : List D} {vs : List V} {fp : List Addr}, (∀ j ∈ ks, j = k) → VL X.K X.mg G1 H1 ks ds vs fp → OwnL (Own X.K X.mg G1 H1 k) ds vs fp := by
        intro ks ds vs fp hk vl
        induction vl with
        | nil => exact .nil
        | cons q _ ih =>
          rename_i k0 ks0 d0 v0 f0 ds0 vs0 fp0 _
          have e : k0 = k := hk k0 List.mem_cons_self
          subst e
          exact .cons q (ih fun j hj => hk j (List.mem_cons_of_mem _ hj))
      have hfp : a ∉ fp := fun z => vl.dom a z ha
      obtain ⟨fps, q1, q0, q2, q3, q4, q5, q6, q7⟩ := o1.slt
      have hFa : F1 a = none := o1.fh.free ha
      refine hr (.ref a) G1 F1 (upd H1 a (.lst vs)) (a :: fp) x1 ⟨o1.gf, o1.fh.trans (same_upd ha), o1.bf, o1.len, o1.io, fps, fun i d e => ?_, q0, q2, q3, q4, List.nodup_cons.mpr ⟨hfp, q5⟩, fun b hb => ?_, fun i b hb hc => ?_⟩ (Own.lst upd_same ((toL hk vl).off hfp)) fun z => nomatch z
      · obtain ⟨v, e1, s⟩ := q1 i d e
        exact ⟨v, e1, Slt.frame (.refl G1 F1) (fun b hb u e => same_upd ha _ _ e) s⟩
      · rcases List.mem_cons.1 hb with rfl | hb
        · exact hFa
        · exact q6 b hb
      · rcases List.mem_cons.1 hc with rfl | hc
        · by_cases z : ∃ d, r.2[i]? = some (some d)
          · obtain ⟨d, e⟩ := z
            obtain ⟨v, e1, s⟩ := q1 i d e
            exact s.dom b hb ha
          · rw [q0 i z] at hb; cases hb
        · exact q7 i b hb hc
    · cases hz
  · exact hr.elim
end

/-! ## 26. what a text of the program says, for the generated part -/
structure DefAt (K : PySem.W.Frag) (mg : Str → Option Value) (x : Str) (st : Stmt) (pn : List Str) (f : Addr) (fd : FuncData) : Prop where
  F : Fun K x x st f fd
  g : mg x = some (.ref f)
  b : Binds K fd pn []
theorem rmOf {X : Cx} {k : Nat} (h : Room k X.A) : Rm X := ⟨⟨k, h⟩⟩
theorem fn_fail {P : Program} {w : World} {K : PySem.W.Frag} {mg : Str → Option Value} {base : Heap} {f : Addr} {fd : FuncData} {k rk : Nat} {pn : List Str} {ps : List Pm} : FnOk P w K mg base (L2.CX P w) k f fd pn (spM K mg ps rk (m0 fun _ => R.fail)) :=
  ⟨fun _ _ _ _ h => by obtain ⟨_, _, _, _, _, _, _, _, _, hw⟩ := h; exact hw.elim, fun _ _ _ _ _ _ _ _ _ _ _ _ _ h => by obtain ⟨_, _, _, _, _, _, _, _, _, hw⟩ := h; exact hw.elim⟩
/-- the conditions on a comprehension's names, checked -/
def blkB (N : List Str) (sc scope : Scope) (own : List (Str × Nat)) : Bool :=
  (match scope.kind with | .function => true | _ => false) && (scope.names.all (fun y => scope.names.lookup y.1 == some y.2) && (own.all (fun p => N[p.2]? == some p.1) &&
    (scope.names.all (fun y => !(y.2 == .free) || (sc.names.lookup y.1 == some .cell || sc.names.lookup y.1 == some .free)) &&
      scope.names.all (fun y => !(y.2 == .local || y.2 == .cell) || ((own.map (·.1)).contains y.1 || !N.contains y.1)))))
theorem blkB_ok {N : List Str} {sc scope : Scope} {own : List (Str × Nat)} (h : blkB N sc scope own = true) : BlkOk N sc scope own := by
  unfold blkB at h
  rw [Bool.and_eq_true, Bool.and_eq_true, Bool.and_eq_true, Bool.and_eq_true] at h
  obtain ⟨h1, h2, h3, h4, h5⟩ := h
  refine ⟨?_, fun y hy => by simpa using List.all_eq_true.mp h2 y hy, fun p hp => by simpa using List.all_eq_true.mp h3 p hp, fun y hy e => ?_, fun y hy e => ?_⟩
  · split at h1
    · assumption
    · cases h1
  · have := List.all_eq_true.mp h4 y hy
    rw [e] at this
    simpa using this
  · have := List.all_eq_true.mp h5 y hy
    rcases e with e | e <;> (rw [e] at this; simpa using this)
section
variable {X : Cx} {W : WX} {c : Fc}
theorem ex_vo (i n : Nat) {x : Str} {pos : Pos} (hk : c.kd i = .own n := by rfl) (hN : X.N[i]? = some x := by rfl) (hv : Vis X.env.scope x := by first | exact Or.inl rfl | exact Or.inr (Or.inl rfl) | exact Or.inr (Or.inr rfl))
    (hd : (x == ("__debug__" : Str)) = false := by decide) (hcd : (x == ("__classdict__" : Str)) = false := by decide) : EX X W c true (.rd n) (.Name x pos) (eVar i) := ex_var i hk hN hv hd hcd
theorem ex_vr (i n : Nat) {x : Str} {pos : Pos} (hk : c.kd i = .rd n := by rfl) (hN : X.N[i]? = some x := by rfl) (hv : Vis X.env.scope x := by first | exact Or.inl rfl | exact Or.inr (Or.inl rfl) | exact Or.inr (Or.inr rfl))
    (hd : (x == ("__debug__" : Str)) = false := by decide) (hcd : (x == ("__classdict__" : Str)) = false := by decide) : EX X W c true (.rd n) (.Name x pos) (eVar i) := ex_var i hk hN hv hd hcd
end
section
variable {P : Program} {w : World} {K : PySem.W.Frag} {mg : Str → Option Value} {base : Heap} {x qual : Str} {st : Stmt} {f : Addr} {fd : FuncData} {N pn : List Str} {k rk : Nat} {ps : List Pm} {ls : List Kd} {s : SM}
abbrev BodyOk (P : Program) (w : World) (K : PySem.W.Frag) (mg : Str → Option Value) (base : Heap) (qual : Str) (st : Stmt) (f : Addr) (N : List Str) (k rk : Nat) (ps : List Pm) (ls : List Kd) (s : SM) : Prop :=
  ∀ (cdv : Value) (A : Around) (outer : List PySem.Env) (s0 : Shared) (H : Hp) (E : XK) (vs : List V) (B : Hp), Room k (A.deeper (envOfC qual (defScope st) s0.heap.objs.size f cdv)) →
      Cok (cxOf (L2.CX P w) P w K mg base N qual (defScope st) f cdv A outer s0 H E) (fun cls d _ H => E cls d H) → Pso (cxOf (L2.CX P w) P w K mg base N qual (defScope st) f cdv A outer s0 H E) → SXs (cxOf (L2.CX P w) P w K mg base N qual (defScope st) f cdv A outer s0 H E) (fun cls d _ H => E cls d H) (fcOf ps ls vs B) rk (defBody st) s
theorem fn_okP (F : Fun K x qual st f fd) (S : FnScope N pn (defScope st)) (hl : pn.length = ps.length) (hb : BodyOk P w K mg base qual st f N k rk ps ls s) {n : Nat} (hn : N.length = n) {m : List D → R D} (hm : m = runF n rk s) (hp : noIoP ps = true) : FnOk P w K mg base (L2.CX P w) (k + 1) f fd pn (spM K mg ps rk (m0 m)) := by
  subst hm hn
  exact PV.FnOk.plain (fn_body F S hl hb) hp
theorem fn_okI (F : Fun K x qual st f fd) (S : FnScope N pn (defScope st)) (hl : pn.length = ps.length) (hb : BodyOk P w K mg base qual st f N k rk ps ls s) {n : Nat} (hn : N.length = n) {m : List D → R (D × List D)} (hm : m = runB n ps rk s) : FnOk P w K mg base (L2.CX P w) (k + 1) f fd pn (spM K mg ps rk m) := by
  subst hm hn
  exact fn_body F S hl hb
end
end
end PV

set_option Elab.async false
set_option linter.all false
set_option maxRecDepth 100000
set_option maxHeartbeats 0
namespace PV
noncomputable section
open PySem PySem.Spec
open PyProof.Rows L2

/-! ## 27. a law's end -/
def spEnd (K : PySem.W.Frag) : Sp := fun vs H Q _ => ∃ (a : Addr) (ns : List Int), vs = [.ref a] ∧ SqL K H a (ns.map V.int) ∧ ns.length ≤ 63 ∧ (∀ z ∈ ns, Builtin.Int.intBits z ≤ 1048576) ∧ ∀ H', Q (.bl true) H'
theorem fn_end {P : Program} {w : World} {K : PySem.W.Frag} {mg : Str → Option Value} {base : Heap} {k : Nat} {f : Addr} {fd : FuncData} {pn : List Str} {m : List D → R D} (F : FnOk P w K mg base (L2.CX P w) k f fd pn (spM K mg [.sh] 0 (m0 m)))
    (h : ∀ ns : List Int, ns.length ≤ 63 → (∀ z ∈ ns, Builtin.Int.intBits z ≤ 1048576) → m [.scr ns] = .ok (.bl true)) : FnOk P w K mg base (L2.CX P w) k f fd pn (spEnd K) := by
  refine F.imp fun vs H Q E q => ?_
  obtain ⟨a, ns, rfl, hS, hl, hb, q⟩ := q
  refine ⟨H, H, [.scr ns], [], .refl _, .refl _, .sh (.scr hS) .nil, List.nodup_nil, fun _ h => (nomatch h), ?_⟩
  unfold m0
  rw [h ns hl hb]
  intro v G F' H' fr fo x gf fh ow out nd hf
  obtain ⟨rp, _⟩ := ow
  cases rp
  exact q H'
theorem cx_end (P : Program) (w : World) (H : Hp) (s : Shared) (e : Value) (s' : Shared) (h : L2.CX P w [] H s (fun _ _ _ => False) e s') : False := by
  obtain ⟨_, _, _, _, _, _, _, _, _, _, _, _, h⟩ := h
  exact h
section
variable {K : PySem.W.Frag} {mg : Str → Option Value} {h : Heap}
theorem fa_at {l : List He.Fa} (c : l.all (He.Fa.ok K) = true) (i : Nat) {f : He.Fa} (e : l[i]? = some f) : f.ok K = true := List.all_eq_true.mp c f (List.mem_of_getElem? e)
theorem fn_at {l : List He.FnD} (c : l.map (fun d => He.fnObs K d.at_) = l.map He.FnD.val) (i : Nat) {d : He.FnD} (e : l[i]? = some d) : He.fnObs K d.at_ = d.val := by
  have h1 : (l.map (fun d => He.fnObs K d.at_))[i]? = some (He.fnObs K d.at_) := by rw [List.getElem?_map, e]; rfl
  rw [c, List.getElem?_map, e] at h1
  exact Eq.symm (Option.some.inj h1)
/-- one def, out of the facts -/
theorem def_at (X : K.In h) (G : h.Ns mainGlobals mg) {x : Str} {st : Stmt} {ps : List Str} (e : He.fnObs K (x, none) = He.FnD.val ⟨(x, none), x, x, defArgs st, defBody st, defScope st⟩) (cc : (He.Fa.code (x, none) x).ok K = true) (cg : (He.Fa.glo x).ok K = true) (ck : (He.Fa.keep x).ok K = true)
    (hb : ∀ (kV doc pm : Value) (an : Option Addr) (cdv ct : Value) (us : List Value), us.length = ps.length → bindArgs (PySem.W.fnOf x x (defArgs st) (defBody st) (defScope st) .none kV doc pm an cdv ct) ⟨us, []⟩ = pure (ps.zip us)) : ∃ fd, DefAt K mg x st ps (He.ga K x) fd := by
  obtain ⟨oc, od, osl, kV, doc, pm, an, cdv, ct, l, c⟩ := He.fn_ok (d := ⟨(x, none), x, x, defArgs st, defBody st, defScope st⟩) e cc
  have F := fun_mk (st := st) (x := x) (qual := x) l c (He.keep_ok ck)
  exact ⟨_, F, He.glo_ok X G cg, F.binds hb⟩
theorem mal_at (X : K.In h) (G : h.Ns mainGlobals mg) (cg : (He.Fa.glo "Malformed").ok K = true) (ce : (He.Fa.exc "Malformed").ok K = true) : ∃ C, MalC K mg "Malformed" C := by
  obtain ⟨h1, h2, h3, h4⟩ := He.exc_ok ce
  exact ⟨_, He.glo_ok X G cg, h1, h2, h3, h4⟩
theorem xc_at (X : K.In h) (G : h.Ns mainGlobals mg) (c1 : (He.Fa.glo "Malformed").ok K = true) (c2 : (He.Fa.glo "Refused").ok K = true) (c3 : (He.Fa.exm "Malformed" "Malformed" true).ok K = true) (c4 : (He.Fa.exm "Refused" "Malformed" false).ok K = true) (c5 : (He.Fa.exm "Refused" "Refused" true).ok K = true)
    (c6 : (He.Fa.noat "Refused" "reason").ok K = true) (c7 : xfB K (He.ga K "Refused") = true) : ∃ CM CR, XcR K mg CM CR :=
  ⟨_, _, He.glo_ok X G c1, He.glo_ok X G c2, He.exm_ok c3, He.exm_ok c4, He.exm_ok c5, xfB_ok c7, He.noat_ok c6⟩
end
end
end PV

set_option Elab.async false
set_option linter.all false
set_option maxRecDepth 100000
set_option maxHeartbeats 0
namespace PV
noncomputable section
open PySem PySem.Spec
open PyProof.Rows L2

/-! ## 28. mirrors: more slots known change nothing; a slot that is not stored stays -/
def Le (ρ ρ' : PV.Env) : Prop := ρ'.length = ρ.length ∧ ∀ i d, look ρ i = some d → look ρ' i = some d
theorem Le.refl (ρ : PV.Env) : Le ρ ρ := ⟨rfl, fun _ _ h => h⟩
theorem look_set {ρ : PV.Env} {i j : Nat} {x : Option D} : look (ρ.set i x) j = if j = i then (if i < ρ.length then x else none) else look ρ j := by
  induction ρ generalizing i j with
  | nil => simp [look_nil]
  | cons y r ih =>
    cases i with
    | zero =>
      cases j with
      | zero => simp [look_zero]
      | succ j => simp [look_succ]
    | succ i =>
      cases j with
      | zero => simp [look_zero]
      | succ j => simp [look_succ, ih]
theorem Le.set {ρ ρ' : PV.Env} (h : Le ρ ρ') (i : Nat) (x : Option D) : Le (ρ.set i x) (ρ'.set i x) := by
  refine ⟨by rw [List.length_set, List.length_set]; exact h.1, fun j d e => ?_⟩
  rw [look_set] at e ⊢
  rw [h.1]
  split
  · rename_i z
    rw [if_pos z] at e
    exact e
  · rename_i z
    rw [if_neg z] at e
    exact h.2 j d e
/-- i: a slot that f does not store -/
structure Fr {α : Type} (i : Nat) (f : M α) : Prop where
  mo : ∀ (ρ ρ' : PV.Env) (a : α) (ρ1 : PV.Env), Le ρ ρ' → f ρ = .ok (a, ρ1) → ∃ ρ1', f ρ' = .ok (a, ρ1') ∧ Le ρ1 ρ1'
  kp : ∀ (ρ : PV.Env) (a : α) (ρ1 : PV.Env), f ρ = .ok (a, ρ1) → look ρ1 i = look ρ i
structure FrS (i : Nat) (s : SM) : Prop where
  mo : ∀ (ρ ρ' ρ1 : PV.Env), Le ρ ρ' → s ρ = .nx ρ1 → ∃ ρ1', s ρ' = .nx ρ1' ∧ Le ρ1 ρ1'
  mr : ∀ (ρ ρ' : PV.Env) (d : D) (ρ1 : PV.Env), Le ρ ρ' → s ρ = .rt d ρ1 → ∃ ρ1', s ρ' = .rt d ρ1'
  kp : ∀ (ρ ρ1 : PV.Env), s ρ = .nx ρ1 → look ρ1 i = look ρ i
structure FrG {α : Type} (i : Nat) (g : α → PV.Env → Option PV.Env) : Prop where
  mo : ∀ (d : α) (ρ ρ' ρ1 : PV.Env), Le ρ ρ' → g d ρ = some ρ1 → ∃ ρ1', g d ρ' = some ρ1' ∧ Le ρ1 ρ1'
  kp : ∀ (d : α) (ρ ρ1 : PV.Env), g d ρ = some ρ1 → look ρ1 i = look ρ i
section
variable {i : Nat}
theorem M.bind_ok {α β : Type} {m : M α} {f : α → M β} {ρ ρ2 : PV.Env} {b : β} (h : M.bind m f ρ = .ok (b, ρ2)) : ∃ a ρ1, m ρ = .ok (a, ρ1) ∧ f a ρ1 = .ok (b, ρ2) := by
  unfold M.bind at h
  split at h
  · rename_i a ρ1 e; exact ⟨a, ρ1, e, h⟩
  · cases h
  · cases h
theorem M.bind_of {α β : Type} {m : M α} {f : α → M β} {ρ ρ1 : PV.Env} {a : α} (h : m ρ = .ok (a, ρ1)) : M.bind m f ρ = f a ρ1 := by
  unfold M.bind
  rw [h]
theorem fr_bind {α β : Type} {m : M α} {f : α → M β} (h : Fr i m) (k : ∀ a, Fr i (f a)) : Fr i (M.bind m f) := by
  refine ⟨fun ρ ρ' b ρ2 l e => ?_, fun ρ b ρ2 e => ?_⟩
  · obtain ⟨a, ρ1, e1, e2⟩ := M.bind_ok e
    obtain ⟨ρ1', e3, l1⟩ := h.mo ρ ρ' a ρ1 l e1
    obtain ⟨ρ2', e4, l2⟩ := (k a).mo ρ1 ρ1' b ρ2 l1 e2
    exact ⟨ρ2', by rw [M.bind_of e3]; exact e4, l2⟩
  · obtain ⟨a, ρ1, e1, e2⟩ := M.bind_ok e
    exact ((k a).kp _ _ _ e2).trans (h.kp _ _ _ e1)
theorem fr_pure {α : Type} {a : α} : Fr i (M.pure a) := ⟨fun ρ ρ' b ρ1 l e => by cases e; exact ⟨ρ', rfl, l⟩, fun ρ b ρ1 e => by cases e; rfl⟩
theorem fr_fail {α : Type} : Fr (α := α) i (fun _ => .fail) := ⟨fun ρ ρ' b ρ1 l e => (by cases e), fun ρ b ρ1 e => (by cases e)⟩
theorem fr_ofO {α : Type} {o : Option α} : Fr i (M.ofO o) := by
  unfold M.ofO
  cases o with
  | none => exact fr_fail
  | some a => exact fr_pure
theorem fr_var {j : Nat} : Fr i (eVar j) := by
  refine ⟨fun ρ ρ' b ρ1 l e => ?_, fun ρ b ρ1 e => ?_⟩
  · unfold eVar at e ⊢
    split at e
    · rename_i d e0
      cases e
      rw [l.2 j b e0]
      exact ⟨ρ', rfl, l⟩
    · cases e
  · unfold eVar at e
    split at e
    · cases e; rfl
    · cases e
theorem fr_c {d : D} : Fr i (eC d) := fr_pure
theorem fr_take {j : Nat} (hj : j ≠ i) : Fr i (eTake j) := by
  rw [eTake_def]
  refine ⟨fun ρ ρ' b ρ1 l e => ?_, fun ρ b ρ1 e => ?_⟩
  · split at e
    · rename_i d e0
      cases e
      rw [l.2 j b e0]
      exact ⟨_, rfl, l.set j none⟩
    · cases e
  · split at e
    · cases e
      rw [look_set, if_neg (Ne.symm hj)]
    · cases e
theorem fr_e1 {g : D → Option D} {a : M D} (h : Fr i a) : Fr i (e1 g a) := fr_bind h fun _ => fr_ofO
theorem fr_e2 {g : D → D → Option D} {a b : M D} (h : Fr i a) (k : Fr i b) : Fr i (e2 g a b) := fr_bind h fun _ => fr_bind k fun _ => fr_ofO
theorem fr_aNil : Fr i aNil := fr_pure
theorem fr_aCons {a : M D} {b : M (List D)} (h : Fr i a) (k : Fr i b) : Fr i (aCons a b) := fr_bind h fun _ => fr_bind k fun _ => fr_pure
theorem fr_eL {g : List D → Option D} {a : M (List D)} (h : Fr i a) : Fr i (eL g a) := fr_bind h fun _ => fr_ofO
theorem fr_e1L {g : D → Option D} {a : M D} (h : Fr i a) : Fr i (e1L g a) := fr_eL (fr_aCons h fr_aNil)
theorem fr_e2L {g : D → D → Option D} {a b : M D} (h : Fr i a) (k : Fr i b) : Fr i (e2L g a b) := fr_eL (fr_aCons h (fr_aCons k fr_aNil))
theorem fr_eTup {a : M (List D)} (h : Fr i a) : Fr i (eTup a) := fr_eL h
theorem fr_eLst {a : M (List D)} (h : Fr i a) : Fr i (eLst a) := fr_eL h
theorem fr_tB {a : M D} (h : Fr i a) : Fr i (tB a) := fr_bind h fun _ => fr_ofO
theorem fr_ite {α : Type} {c : Prop} [Decidable c] {a b : M α} (h : Fr i a) (k : Fr i b) : Fr i (if c then a else b) := by split <;> assumption
theorem fr_tAnd {a b : M Bool} (h : Fr i a) (k : Fr i b) : Fr i (tAnd a b) := fr_bind h fun _ => fr_ite k fr_pure
theorem fr_tOr {a b : M Bool} (h : Fr i a) (k : Fr i b) : Fr i (tOr a b) := fr_bind h fun _ => fr_ite fr_pure k
theorem fr_tNot {a : M Bool} (h : Fr i a) : Fr i (tNot a) := fr_bind h fun _ => fr_pure
theorem fr_tTrue : Fr i tTrue := fr_pure
theorem fr_eIf {t : M Bool} {a b : M D} (ht : Fr i t) (h : Fr i a) (k : Fr i b) : Fr i (eIf t a b) := fr_bind ht fun _ => fr_ite h k
theorem fr_eAnd {a b : M D} (h : Fr i a) (k : Fr i b) : Fr i (eAnd a b) := fr_bind h fun x => by
  cases x <;> first | exact fr_fail | skip
  rename_i x
  cases x
  · exact fr_pure
  · exact k
theorem fr_eOr {a b : M D} (h : Fr i a) (k : Fr i b) : Fr i (eOr a b) := fr_bind h fun x => by
  cases x <;> first | exact fr_fail | skip
  rename_i x
  cases x
  · exact k
  · exact fr_pure
theorem fr_eNot {a : M D} (h : Fr i a) : Fr i (eNot a) := fr_e1 h
theorem fr_e3c {g h : D → D → Option D} {a b c : M D} (ha : Fr i a) (hb : Fr i b) (hc : Fr i c) : Fr i (e3c g h a b c) := fr_bind ha fun _ => fr_bind hb fun y => fr_bind fr_ofO fun x => by
  cases x <;> first | exact fr_fail | skip
  rename_i x
  cases x
  · exact fr_pure
  · exact fr_bind hc fun _ => fr_ofO
theorem fr_pNone : Fr i pNone := fr_pure
theorem fr_pSome {a : M D} (h : Fr i a) : Fr i (pSome a) := fr_bind h fun _ => fr_ofO
theorem fr_eSl {a : M D} {l h : M (Option Int)} (ha : Fr i a) (hl : Fr i l) (hh : Fr i h) : Fr i (eSl a l h) := fr_bind ha fun _ => fr_bind hl fun _ => fr_bind hh fun _ => fr_ofO
theorem fr_eSlL {a : M D} {l h : M (Option Int)} (ha : Fr i a) (hl : Fr i l) (hh : Fr i h) : Fr i (eSlL a l h) := fr_eSl (fr_bind ha fun _ => fr_ite fr_pure fr_fail) hl hh
theorem fr_eM1 {g : D → D → Option D} {a b : M D} (h : Fr i a) (k : Fr i b) : Fr i (eM1 g a b) := fr_bind h fun _ => fr_ite (fr_bind k fun _ => fr_ofO) fr_fail
theorem fr_lift {α : Type} {m : α → R D} {a : M α} (h : Fr i a) : Fr i (M.lift m a) := fr_bind h fun x => by
  cases e : m x with
  | ok d => exact fr_pure
  | exc x => exact ⟨fun _ _ _ _ _ e => (by cases e), fun _ _ _ e => (by cases e)⟩
  | fail => exact fr_fail
theorem fr_eCall {m : List D → R D} {a : M (List D)} (h : Fr i a) : Fr i (eCall m a) := fr_lift h
theorem fr_iSeqM {a : M D} (h : Fr i a) : Fr i (iSeqM a) := fr_bind h fun _ => fr_ofO
theorem fr_iRg {g : List D → Option (List D)} {a : M (List D)} (h : Fr i a) : Fr i (iRg g a) := fr_bind h fun _ => fr_ofO
/-! targets -/
theorem frg_name {j : Nat} (hj : j ≠ i) : FrG i (tgName j) := by
  rw [tgName_def]
  exact ⟨fun d ρ ρ' ρ1 l e => by cases e; exact ⟨_, rfl, l.set j _⟩, fun d ρ ρ1 e => by cases e; rw [look_set, if_neg (Ne.symm hj)]⟩
theorem frg_nil : FrG i tgNil := by
  refine ⟨fun d ρ ρ' ρ1 l e => ?_, fun d ρ ρ1 e => ?_⟩
  · cases d with
    | nil => cases e; exact ⟨_, rfl, l⟩
    | cons _ _ => cases e
  · cases d with
    | nil => cases e; rfl
    | cons _ _ => cases e
theorem frg_cons {g : D → PV.Env → Option PV.Env} {h : List D → PV.Env → Option PV.Env} (hg : FrG i g) (hh : FrG i h) : FrG i (tgCons g h) := by
  refine ⟨fun d ρ ρ' ρ1 l e => ?_, fun d ρ ρ1 e => ?_⟩
  · cases d with
    | nil => cases e
    | cons x r =>
      simp only [tgCons] at e ⊢
      split at e
      · rename_i ρa ea
        obtain ⟨ρb, eb, lb⟩ := hg.mo _ _ _ _ l ea
        rw [eb]
        exact hh.mo _ _ _ _ lb e
      · cases e
  · cases d with
    | nil => cases e
    | cons x r =>
      simp only [tgCons] at e
      split at e
      · rename_i ρa ea
        exact (hh.kp _ _ _ e).trans (hg.kp _ _ _ ea)
      · cases e
theorem frg_tup {g : List D → PV.Env → Option PV.Env} {n : Nat} (hg : FrG i g) : FrG i (tgTup g n) := by
  refine ⟨fun d ρ ρ' ρ1 l e => ?_, fun d ρ ρ1 e => ?_⟩
  · unfold tgTup at e ⊢
    split at e
    · split at e
      · rename_i h
        simp only [h, if_true]
        exact hg.mo _ _ _ _ l e
      · cases e
    · cases e
  · unfold tgTup at e
    split at e
    · split at e
      · exact hg.kp _ _ _ e
      · cases e
    · cases e
/-! comprehensions -/
theorem look_wipe {ρ : PV.Env} {vs : List Nat} {j : Nat} : look (wipeG ρ vs) j = if j ∈ vs then none else look ρ j := by
  induction vs with
  | nil => simp [wipeG]
  | cons v vs ih =>
    rw [wipeG_cons, look_set, ih]
    by_cases h : j = v
    · subst h
      simp
    · rw [if_neg h]
      simp [h]
theorem Le.wipe {ρ ρ' : PV.Env} (h : Le ρ ρ') (vs : List Nat) : Le (wipeG ρ vs) (wipeG ρ' vs) := ⟨by rw [wipeG_len, wipeG_len]; exact h.1, fun j d e => by
  rw [look_wipe] at e ⊢
  split
  · rename_i z; rw [if_pos z] at e; exact e
  · rename_i z; rw [if_neg z] at e; exact h.2 j d e⟩
theorem look_rest {ρ1 ρ : PV.Env} {vs : List Nat} {j : Nat} (hj : j ∉ vs) : look (restE ρ1 vs ρ) j = look ρ j := by
  induction vs with
  | nil => rfl
  | cons v vs ih =>
    rw [restE_cons, look_set, if_neg (fun z => hj (by rw [z]; exact List.mem_cons_self))]
    exact ih fun z => hj (List.mem_cons_of_mem _ z)
theorem Le.rest {ρ1 ρ1' ρ ρ' : PV.Env} (h1 : Le ρ1 ρ1') (h : Le ρ ρ') : ∀ vs : List Nat, Le (restE ρ1 vs ρ) (restE ρ1' vs ρ')
  | [] => h
  | v :: vs => by
    have ih := Le.rest h1 h vs
    refine ⟨by rw [restE_cons, restE_cons, List.length_set, List.length_set]; exact ih.1, fun j d e => ?_⟩
    rw [restE_cons] at e ⊢
    rw [look_set] at e ⊢
    rw [ih.1]
    split
    · rename_i z
      rw [if_pos z] at e
      split
      · rename_i z2
        rw [if_pos z2] at e
        exact h1.2 v d e
      · rename_i z2
        rw [if_neg z2] at e
        exact e
    · rename_i z
      rw [if_neg z] at e
      exact ih.2 j d e
theorem fr_lcN {vs : List Nat} {g : D → PV.Env → Option PV.Env} {t : M Bool} {f : M D} (hv : i ∉ vs) (hg : FrG i g) (ht : Fr i t) (hf : Fr i f) : ∀ ds, Fr i (lcN vs g t f ds) := by
  intro ds
  induction ds with
  | nil => exact ⟨fun ρ ρ' a ρ1 l e => by cases e; exact ⟨ρ', rfl, l⟩, fun ρ a ρ1 e => by cases e; rfl⟩
  | cons d r ih =>
    refine ⟨fun ρ ρ' a ρ1 l e => ?_, fun ρ a ρ1 e => ?_⟩
    · simp only [lcN_cons] at e ⊢
      split at e
      · cases e
      · rename_i ρa ea
        obtain ⟨ρa', ea', la⟩ := hg.mo _ _ _ _ (l.wipe vs) ea
        rw [ea']
        dsimp only
        split at e
        · rename_i ρb eb
          obtain ⟨ρb', eb', lb⟩ := ht.mo _ _ _ _ la eb
          rw [eb']
          dsimp only
          split at e
          · rename_i y ρc ec
            obtain ⟨ρc', ec', lc⟩ := hf.mo _ _ _ _ lb ec
            rw [ec']
            dsimp only
            split at e
            · rename_i ys ρd ed
              cases e
              obtain ⟨ρd', ed', ld⟩ := ih.mo _ _ _ _ lc ed
              rw [ed']
              exact ⟨_, rfl, ld⟩
            · cases e
          · cases e
        · rename_i ρb eb
          obtain ⟨ρb', eb', lb⟩ := ht.mo _ _ _ _ la eb
          rw [eb']
          exact ih.mo _ _ _ _ lb e
        · cases e
    · simp only [lcN_cons] at e
      have hw : look (wipeG ρ vs) i = look ρ i := by rw [look_wipe, if_neg hv]
      split at e
      · cases e
      · rename_i ρa ea
        have ka := (hg.kp _ _ _ ea).trans hw
        split at e
        · rename_i ρb eb
          have kb := (ht.kp _ _ _ eb).trans ka
          split at e
          · rename_i y ρc ec
            have kc := (hf.kp _ _ _ ec).trans kb
            split at e
            · rename_i ys ρd ed
              cases e
              exact (ih.kp _ _ _ ed).trans kc
            · cases e
          · cases e
        · rename_i ρb eb
          exact (ih.kp _ _ _ e).trans ((ht.kp _ _ _ eb).trans ka)
        · cases e
theorem fr_eLc {vs : List Nat} {fi : M (List D)} {g : D → PV.Env → Option PV.Env} {t : M Bool} {f : M D} (hi : Fr i fi) (hg : FrG i g) (ht : Fr i t) (hf : Fr i f) (hv : i ∉ vs := by decide) : Fr i (eLc vs fi g t f) := by
  refine fr_bind hi fun ds => ?_
  have hn := fr_lcN hv hg ht hf ds
  refine ⟨fun ρ ρ' a ρ1 l e => ?_, fun ρ a ρ1 e => ?_⟩
  · split at e
    · rename_i hl
      simp only [hl, if_true]
      split at e
      · rename_i ys ρ2 e2
        cases e
        obtain ⟨ρ2', e2', l2⟩ := hn.mo _ _ _ _ l e2
        rw [e2']
        exact ⟨_, rfl, Le.rest l l2 vs⟩
      · cases e
    · cases e
  · split at e
    · split at e
      · rename_i ys ρ2 e2
        cases e
        rw [look_rest hv]
        exact hn.kp _ _ _ e2
      · cases e
    · cases e
theorem fr_lc2N {vs vs1 : List Nat} {g : D → PV.Env → Option PV.Env} {t : M Bool} {fi1 : M (List D)} {g1 : D → PV.Env → Option PV.Env} {t1 : M Bool} {f : M D} (hv : i ∉ vs) (hv1 : i ∉ vs1) (hg : FrG i g) (ht : Fr i t) (hi1 : Fr i fi1) (hg1 : FrG i g1) (ht1 : Fr i t1) (hf : Fr i f) : ∀ ds, Fr i (lc2N vs vs1 g t fi1 g1 t1 f ds) := by
  intro ds
  induction ds with
  | nil => exact ⟨fun ρ ρ' a ρ1 l e => by cases e; exact ⟨ρ', rfl, l⟩, fun ρ a ρ1 e => by cases e; rfl⟩
  | cons d r ih =>
    refine ⟨fun ρ ρ' a ρ1 l e => ?_, fun ρ a ρ1 e => ?_⟩
    · simp only [lc2N_cons] at e ⊢
      split at e
      · cases e
      · rename_i ρa ea
        obtain ⟨ρa', ea', la⟩ := hg.mo _ _ _ _ (l.wipe vs) ea
        rw [ea']
        dsimp only
        split at e
        · rename_i ρb eb
          obtain ⟨ρb', eb', lb⟩ := ht.mo _ _ _ _ la eb
          rw [eb']
          dsimp only
          split at e
          · rename_i ds1 ρc ec
            obtain ⟨ρc', ec', lc⟩ := hi1.mo _ _ _ _ lb ec
            rw [ec']
            dsimp only
            split at e
            · rename_i ys ρd ed
              obtain ⟨ρd', ed', ld⟩ := (fr_lcN hv1 hg1 ht1 hf ds1).mo _ _ _ _ lc ed
              rw [ed']
              dsimp only
              split at e
              · rename_i zs ρe ee
                cases e
                obtain ⟨ρe', ee', le⟩ := ih.mo _ _ _ _ ld ee
                rw [ee']
                exact ⟨_, rfl, le⟩
              · cases e
            · cases e
          · cases e
        · rename_i ρb eb
          obtain ⟨ρb', eb', lb⟩ := ht.mo _ _ _ _ la eb
          rw [eb']
          exact ih.mo _ _ _ _ lb e
        · cases e
    · simp only [lc2N_cons] at e
      have hw : look (wipeG ρ vs) i = look ρ i := by rw [look_wipe, if_neg hv]
      split at e
      · cases e
      · rename_i ρa ea
        have ka := (hg.kp _ _ _ ea).trans hw
        split at e
        · rename_i ρb eb
          have kb := (ht.kp _ _ _ eb).trans ka
          split at e
          · rename_i ds1 ρc ec
            have kc := (hi1.kp _ _ _ ec).trans kb
            split at e
            · rename_i ys ρd ed
              have kd := ((fr_lcN hv1 hg1 ht1 hf ds1).kp _ _ _ ed).trans kc
              split at e
              · rename_i zs ρe ee
                cases e
                exact (ih.kp _ _ _ ee).trans kd
              · cases e
            · cases e
          · cases e
        · rename_i ρb eb
          exact (ih.kp _ _ _ e).trans ((ht.kp _ _ _ eb).trans ka)
        · cases e
theorem fr_eLc2 {vs vs1 : List Nat} {fi : M (List D)} {g : D → PV.Env → Option PV.Env} {t : M Bool} {fi1 : M (List D)} {g1 : D → PV.Env → Option PV.Env} {t1 : M Bool} {f : M D} (hi : Fr i fi) (hg : FrG i g) (ht : Fr i t) (hi1 : Fr i fi1) (hg1 : FrG i g1) (ht1 : Fr i t1) (hf : Fr i f) (hv : i ∉ vs := by decide) (hv1 : i ∉ vs1 := by decide) :
    Fr i (eLc2 vs vs1 fi g t fi1 g1 t1 f) := by
  refine fr_bind hi fun ds => ?_
  have hn := fr_lc2N hv hv1 hg ht hi1 hg1 ht1 hf ds
  refine ⟨fun ρ ρ' a ρ1 l e => ?_, fun ρ a ρ1 e => ?_⟩
  · split at e
    · rename_i ys ρ2 e2
      split at e
      · rename_i hl
        cases e
        obtain ⟨ρ2', e2', l2⟩ := hn.mo _ _ _ _ l e2
        rw [e2']
        simp only [hl, if_true]
        exact ⟨_, rfl, Le.rest l l2 vs⟩
      · cases e
    · cases e
  · split at e
    · rename_i ys ρ2 e2
      split at e
      · cases e
        rw [look_rest hv]
        exact hn.kp _ _ _ e2
      · cases e
    · cases e
/-! statements -/
theorem sDo_of {α : Type} {f : M α} {k : α → PV.Env → SR} {ρ ρ1 : PV.Env} {a : α} (h : f ρ = .ok (a, ρ1)) : sDo f k ρ = k a ρ1 := by
  unfold sDo
  rw [h]
theorem sDo_nx {α : Type} {f : M α} {k : α → PV.Env → SR} {ρ ρ2 : PV.Env} (h : sDo f k ρ = .nx ρ2) : ∃ a ρ1, f ρ = .ok (a, ρ1) ∧ k a ρ1 = .nx ρ2 := by
  unfold sDo at h
  split at h
  · rename_i a ρ1 e; exact ⟨a, ρ1, e, h⟩
  · cases h
  · cases h
theorem sDo_rt {α : Type} {f : M α} {k : α → PV.Env → SR} {ρ ρ2 : PV.Env} {d : D} (h : sDo f k ρ = .rt d ρ2) : ∃ a ρ1, f ρ = .ok (a, ρ1) ∧ k a ρ1 = .rt d ρ2 := by
  unfold sDo at h
  split at h
  · rename_i a ρ1 e; exact ⟨a, ρ1, e, h⟩
  · cases h
  · cases h
theorem frs_do {α : Type} {f : M α} {k : α → PV.Env → SR} (h : Fr i f) (hk : ∀ a, FrS i (k a)) : FrS i (sDo f k) := by
  refine ⟨fun ρ ρ' ρ2 l e => ?_, fun ρ ρ' d ρ2 l e => ?_, fun ρ ρ2 e => ?_⟩
  · obtain ⟨a, ρ1, e1, e2⟩ := sDo_nx e
    obtain ⟨ρ1', e3, l1⟩ := h.mo _ _ _ _ l e1
    rw [sDo_of e3]
    exact (hk a).mo _ _ _ l1 e2
  · obtain ⟨a, ρ1, e1, e2⟩ := sDo_rt e
    obtain ⟨ρ1', e3, l1⟩ := h.mo _ _ _ _ l e1
    rw [sDo_of e3]
    exact (hk a).mr _ _ _ _ l1 e2
  · obtain ⟨a, ρ1, e1, e2⟩ := sDo_nx e
    exact ((hk a).kp _ _ e2).trans (h.kp _ _ _ e1)
theorem frs_nx : FrS i sNx := ⟨fun ρ ρ' ρ1 l e => by cases e; exact ⟨ρ', rfl, l⟩, fun ρ ρ' d ρ1 l e => (by cases e), fun ρ ρ1 e => by cases e; rfl⟩
theorem frs_rt {d : D} : FrS i (fun ρ => .rt d ρ) := ⟨fun ρ ρ' ρ1 l e => (by cases e), fun ρ ρ' d ρ1 l e => by cases e; exact ⟨ρ', rfl⟩, fun ρ ρ1 e => (by cases e)⟩
theorem frs_fail : FrS i (fun _ => .fail) := ⟨fun ρ ρ' ρ1 l e => (by cases e), fun ρ ρ' d ρ1 l e => (by cases e), fun ρ ρ1 e => (by cases e)⟩
theorem frs_raise {x : Exn} : FrS i (sRaise x) := ⟨fun ρ ρ' ρ1 l e => (by cases e), fun ρ ρ' d ρ1 l e => (by cases e), fun ρ ρ1 e => (by cases e)⟩
theorem frs_set {j : Nat} {x : Option D} (hj : j ≠ i) : FrS i (fun ρ => .nx (ρ.set j x)) := ⟨fun ρ ρ' ρ1 l e => by cases e; exact ⟨_, rfl, l.set j x⟩, fun ρ ρ' d ρ1 l e => (by cases e), fun ρ ρ1 e => by cases e; rw [look_set, if_neg (Ne.symm hj)]⟩
theorem frs_asg {j : Nat} {f : M D} (h : Fr i f) (hj : j ≠ i := by decide) : FrS i (sAsg j f) := by
  rw [sAsg_def]
  exact frs_do h fun _ => frs_set hj
theorem frs_ret {f : M D} (h : Fr i f) : FrS i (sRet f) := frs_do h fun _ => frs_rt
theorem frs_retN : FrS i sRetN := frs_rt
theorem frs_drop {f : M D} (h : Fr i f) : FrS i (sDrop f) := frs_do h fun _ => frs_nx
theorem frs_if {t : M Bool} {a b : SM} (ht : Fr i t) (ha : FrS i a) (hb : FrS i b) : FrS i (sIf t a b) := frs_do ht fun x => by
  cases x
  · exact ⟨fun ρ ρ' ρ1 l e => hb.mo ρ ρ' ρ1 l e, fun ρ ρ' d ρ1 l e => hb.mr ρ ρ' d ρ1 l e, fun ρ ρ1 e => hb.kp ρ ρ1 e⟩
  · exact ⟨fun ρ ρ' ρ1 l e => ha.mo ρ ρ' ρ1 l e, fun ρ ρ' d ρ1 l e => ha.mr ρ ρ' d ρ1 l e, fun ρ ρ1 e => ha.kp ρ ρ1 e⟩
theorem sSeq_of {a b : SM} {ρ ρ1 : PV.Env} (h : a ρ = .nx ρ1) : sSeq a b ρ = b ρ1 := by
  unfold sSeq
  rw [h]
theorem frs_seq {a b : SM} (ha : FrS i a) (hb : FrS i b) : FrS i (sSeq a b) := by
  refine ⟨fun ρ ρ' ρ2 l e => ?_, fun ρ ρ' d ρ2 l e => ?_, fun ρ ρ2 e => ?_⟩
  · unfold sSeq at e
    split at e
    · rename_i ρ1 e1
      obtain ⟨ρ1', e3, l1⟩ := ha.mo _ _ _ l e1
      rw [sSeq_of e3]
      exact hb.mo _ _ _ l1 e
    · rename_i hne
      exact absurd e (fun z => hne _ z)
  · unfold sSeq at e
    split at e
    · rename_i ρ1 e1
      obtain ⟨ρ1', e3, l1⟩ := ha.mo _ _ _ l e1
      rw [sSeq_of e3]
      exact hb.mr _ _ _ _ l1 e
    · obtain ⟨ρ1', e3⟩ := ha.mr _ _ _ _ l e
      unfold sSeq
      rw [e3]
      exact ⟨_, rfl⟩
  · unfold sSeq at e
    split at e
    · rename_i ρ1 e1
      exact (hb.kp _ _ e).trans (ha.kp _ _ e1)
    · rename_i hne
      exact absurd e (fun z => hne _ z)
theorem frs_whileN {t : M Bool} {b : SM} (ht : Fr i t) (hb : FrS i b) : ∀ n, FrS i (whileN t b n)
  | 0 => frs_fail
  | n + 1 => frs_do ht fun x => by
    have h := frs_seq hb (frs_whileN ht hb n)
    cases x
    · exact ⟨fun ρ ρ' ρ1 l e => by cases e; exact ⟨ρ', rfl, l⟩, fun ρ ρ' d ρ1 l e => (by cases e), fun ρ ρ1 e => by cases e; rfl⟩
    · exact ⟨fun ρ ρ' ρ1 l e => h.mo ρ ρ' ρ1 l e, fun ρ ρ' d ρ1 l e => h.mr ρ ρ' d ρ1 l e, fun ρ ρ1 e => h.kp ρ ρ1 e⟩
theorem frs_while {t : M Bool} {b : SM} (ht : Fr i t) (hb : FrS i b) : FrS i (sWhile t b) := frs_whileN ht hb fuelW
theorem frs_forN {g : D → PV.Env → Option PV.Env} {b : SM} (hg : FrG i g) (hb : FrS i b) : ∀ ds, FrS i (forN g b ds)
  | [] => frs_nx
  | d :: r => by
    have h := frs_seq hb (frs_forN hg hb r)
    refine ⟨fun ρ ρ' ρ2 l e => ?_, fun ρ ρ' x ρ2 l e => ?_, fun ρ ρ2 e => ?_⟩
    · simp only [forN_cons] at e ⊢
      split at e
      · rename_i ρ1 e1
        obtain ⟨ρ1', e3, l1⟩ := hg.mo _ _ _ _ l e1
        rw [e3]
        exact h.mo _ _ _ l1 e
      · cases e
    · simp only [forN_cons] at e ⊢
      split at e
      · rename_i ρ1 e1
        obtain ⟨ρ1', e3, l1⟩ := hg.mo _ _ _ _ l e1
        rw [e3]
        exact h.mr _ _ _ _ l1 e
      · cases e
    · simp only [forN_cons] at e
      split at e
      · rename_i ρ1 e1
        exact (h.kp _ _ e).trans (hg.kp _ _ _ e1)
      · cases e
theorem frs_for {f : M (List D)} {g : D → PV.Env → Option PV.Env} {b : SM} (h : Fr i f) (hg : FrG i g) (hb : FrS i b) : FrS i (sFor f g b) := frs_do h fun ds => frs_forN hg hb ds
theorem Le.setAll : ∀ (is : List Nat) (ds : List D) {ρ ρ' : PV.Env}, Le ρ ρ' → Le (setAll is ds ρ) (setAll is ds ρ')
  | [], ds, _, _, h => by rw [setAll_nil, setAll_nil]; exact h
  | _ :: _, [], _, _, h => h
  | i :: is, d :: ds, _, _, h => by
    rw [setAll_cons, setAll_cons]
    exact Le.setAll is ds (h.set i (some d))
theorem look_setAll : ∀ (is : List Nat) (ds : List D) {ρ : PV.Env} {i : Nat}, i ∉ is → look (setAll is ds ρ) i = look ρ i
  | [], ds, _, _, _ => by rw [setAll_nil]
  | _ :: _, [], _, _, _ => rfl
  | j :: is, d :: ds, ρ, i, h => by
    rw [setAll_cons, look_setAll is ds (fun z => h (List.mem_cons_of_mem _ z)), look_set, if_neg (fun z => h (by rw [z]; exact List.mem_cons_self))]
theorem frs_par {is : List Nat} {f : M (List D)} (h : Fr i f) (hi : i ∉ is := by decide) : FrS i (sPar is f) := frs_do h fun ds => ⟨fun ρ ρ' ρ1 l e => by cases e; exact ⟨_, rfl, Le.setAll is ds l⟩, fun ρ ρ' d ρ1 l e => (by cases e), fun ρ ρ1 e => by cases e; exact look_setAll is ds hi⟩
theorem frs_look {j : Nat} {k : D → SM} (hk : ∀ x, FrS i (k x)) : FrS i (fun ρ => match look ρ j with
    | some x => k x ρ
    | none => .fail) := by
  refine ⟨fun ρ ρ' ρ2 l e => ?_, fun ρ ρ' d ρ2 l e => ?_, fun ρ ρ2 e => ?_⟩
  · split at e
    · rename_i x ex
      rw [l.2 j x ex]
      exact (hk x).mo _ _ _ l e
    · cases e
  · split at e
    · rename_i x ex
      rw [l.2 j x ex]
      exact (hk x).mr _ _ _ _ l e
    · cases e
  · split at e
    · exact (hk _).kp _ _ e
    · cases e
theorem frs_put {j : Nat} {op : D → D → D → Option D} {fv fi : M D} (hv : Fr i fv) (hi : Fr i fi) (hj : j ≠ i := by decide) : FrS i (sPut j op fv fi) := by
  rw [sPut_def]
  refine frs_do hv fun d => ?_
  have h := frs_look (i := i) (j := j) (k := fun _ => sDo fi (fun jx ρ' => match look ρ' j with
    | some x => match op x jx d with
      | some y => .nx (ρ'.set j (some y))
      | none => .fail
    | none => .fail)) fun _ => frs_do hi fun jx => frs_look (k := fun x ρ' => match op x jx d with
      | some y => .nx (ρ'.set j (some y))
      | none => .fail) fun x => by
        cases op x jx d with
        | none => exact frs_fail
        | some y => exact frs_set hj
  refine ⟨fun ρ ρ' ρ2 l e => ?_, fun ρ ρ' x ρ2 l e => ?_, fun ρ ρ2 e => ?_⟩
  · have e' := h.mo ρ ρ' ρ2 l (by cases q : look ρ j with
      | none => rw [q] at e; exact nomatch e
      | some x => rw [q] at e; exact e)
    obtain ⟨ρ3, e3, l3⟩ := e'
    refine ⟨ρ3, ?_, l3⟩
    cases q : look ρ' j with
    | none => simp only [q] at e3; cases e3
    | some x => simp only [q] at e3; exact e3
  · have e' := h.mr ρ ρ' x ρ2 l (by cases q : look ρ j with
      | none => rw [q] at e; exact nomatch e
      | some x => rw [q] at e; exact e)
    obtain ⟨ρ3, e3⟩ := e'
    refine ⟨ρ3, ?_⟩
    cases q : look ρ' j with
    | none => simp only [q] at e3; cases e3
    | some x => simp only [q] at e3; exact e3
  · refine h.kp ρ ρ2 ?_
    cases q : look ρ j with
    | none => rw [q] at e; exact nomatch e
    | some x => rw [q] at e; exact e
theorem fr_look {α : Type} {j : Nat} {k : D → M α} (hk : ∀ x, Fr i (k x)) : Fr i (fun ρ => match look ρ j with
    | some x => k x ρ
    | none => .fail) := by
  refine ⟨fun ρ ρ' a ρ2 l e => ?_, fun ρ a ρ2 e => ?_⟩
  · split at e
    · rename_i x ex
      rw [l.2 j x ex]
      exact (hk x).mo _ _ _ _ l e
    · cases e
  · split at e
    · exact (hk _).kp _ _ _ e
    · cases e
theorem fr_set {α : Type} {j : Nat} {x : Option D} {a : α} (hj : j ≠ i) : Fr i (fun ρ => .ok (a, ρ.set j x)) := ⟨fun ρ ρ' b ρ1 l e => by cases e; exact ⟨_, rfl, l.set j x⟩, fun ρ b ρ1 e => by cases e; rw [look_set, if_neg (Ne.symm hj)]⟩
theorem fr_eMeth0 {j : Nat} {isT : D → Bool} {op : D → Option (D × D)} (hj : j ≠ i := by decide) : Fr i (eMeth0 j isT op) := by
  rw [eMeth0_def]
  refine fr_look (k := fun x ρ => if isT x = true then match op x with
      | some (z, y) => .ok (z, ρ.set j (some y))
      | none => .fail
    else .fail) fun x => ?_
  by_cases h : isT x = true
  · simp only [h, if_true]
    cases op x with
    | none => exact fr_fail
    | some p => exact fr_set hj
  · simp only [h]
    exact fr_fail
theorem fr_eMeth1 {j : Nat} {isT : D → Bool} {op : D → D → Option (D × D)} {f : M D} (hf : Fr i f) (hj : j ≠ i := by decide) : Fr i (eMeth1 j isT op f) := by
  have h := fr_look (i := i) (j := j) (k := fun x0 => if isT x0 = true then f.bind fun d ρ' => match look ρ' j with
        | some x => match op x d with
          | some (z, y) => R.ok (z, ρ'.set j (some y))
          | none => .fail
        | none => .fail
      else fun _ => .fail) fun x0 => fr_ite (fr_bind hf fun d => fr_look (k := fun x ρ' => match op x d with
          | some (z, y) => R.ok (z, ρ'.set j (some y))
          | none => .fail) fun x => by
            cases op x d with
            | none => exact fr_fail
            | some p => exact fr_set hj) fr_fail
  rw [eMeth1_def]
  refine Eq.mp (congrArg (Fr i) ?_) h
  funext ρ
  cases look ρ j with
  | none => rfl
  | some x =>
    dsimp only
    split
    · show M.bind _ _ ρ = _
      unfold M.bind
      cases ef : f ρ with
      | ok p => rfl
      | exc x => rfl
      | fail => rfl
    · rfl
theorem fr_eCallIO {j : Nat} {ms : List Am} {m : List D → R (D × List D)} {fa : M (List D)} (h : Fr i fa) (hj : j ≠ i := by decide) : Fr i (eCallIO j ms m fa) := by
  rw [eCallIO_def]
  refine fr_bind h fun ds => fr_look (k := fun x ρ => match m (fill1 x ms ds) with
    | .ok (d, [y]) => .ok (d, ρ.set j (some y))
    | .ok _ => .fail
    | .exc e => .exc e
    | .fail => .fail) fun x => ?_
  generalize m (fill1 x ms ds) = r
  cases r with
  | ok p =>
    obtain ⟨d, os⟩ := p
    match os with
    | [] => exact fr_fail
    | [y] => exact fr_set hj
    | _ :: _ :: _ => exact fr_fail
  | exc x => exact ⟨fun ρ ρ' b ρ1 l q => (by cases q), fun ρ b ρ1 q => (by cases q)⟩
  | fail => exact fr_fail
theorem fr_aIo {j : Nat} {g : M (List D)} (h : Fr i g) : Fr i (aIo j g) := fr_look (k := fun _ => aCons (eC .non) g) fun _ => fr_aCons fr_c h
end
end
end PV

set_option Elab.async false
set_option linter.all false
set_option maxRecDepth 100000
set_option maxHeartbeats 0
namespace PV
noncomputable section
open PySem PySem.Spec
open PyProof.Rows L2

/-! ## 29. the drawn numbers, the same in every law -/
def sTake : SM := sSeq (sIf (tB (e2 gGt (e2 gIx (eVar 0) (eC (.int 0))) (eC (.int 0)))) (sSeq (sAsg 2 (e2 gMod (e1L gInt (e2 gIx (eVar 0) (eC (.int 0)))) (eVar 1)))
  (sSeq (sPut 0 opSetL (e2 gDiv (e2 gIx (eVar 0) (eC (.int 0))) (eVar 1)) (eC (.int 0)))
  (sRet (eVar 2)))) (sNx))
  (sSeq (sPut 0 opSetL (e2 gMod (e1L gInt (e2 gAdd (e2 gMul (e2 gIx (eVar 0) (eC (.int 1))) (eC (.int 48271))) (eC (.int 11)))) (eC (.int 2147483647))) (eC (.int 1)))
  (sRet (e2 gMod (e1L gInt (e2 gDiv (e2 gIx (eVar 0) (eC (.int 1))) (eC (.int 7)))) (eVar 1))))
def mTake : List D → R (D × List D) := runB 3 [.io 1, .sh] 0 sTake
def sState : SM := sSeq (sAsg 1 (eC (.int 0)))
  (sSeq (sAsg 2 (eC (.int 1)))
  (sSeq (sFor (iSeqM (eSlL (eVar 0) (pNone) (pSome (eC (.int 63))))) (tgName 3) (sSeq (sAsg 1 (e2 gAdd (e2 gMul (eVar 1) (eC (.int 1000003))) (e1L gAbs (eVar 3))))
  (sAsg 2 (e2 gMod (e1L gInt (e2 gAdd (e2 gMul (eVar 2) (eC (.int 48271))) (eVar 3))) (eC (.int 2147483647))))))
  (sRet (eLst (aCons (eVar 1) (aCons (eIf (tB (e2 gNe (eVar 2) (eC (.int 1973665155)))) (eVar 2) (eC (.int 7))) (aNil)))))))
def mState : List D → R D := runF 4 1 sState
theorem fmod_nn {a m : Int} (h : 0 < m) : 0 ≤ a.fmod m ∧ a.fmod m < m := ⟨Int.fmod_nonneg_of_pos a h, Int.fmod_lt_of_pos a h⟩
theorem mulOk_r {a b : Int} (h : b.natAbs < 2 ^ 64) : mulOk a b = true := by
  unfold mulOk
  rw [decide_eq_true h, Bool.true_or, Bool.or_true]
theorem take_ok (a b m : Int) (h0 : 0 < m) (h1 : m.natAbs < 1073741824) : ∃ v a' b', 0 ≤ v ∧ v < m ∧ mTake [.lst [.int a, .int b], .int m] = .ok (.int v, [.lst [.int a', .int b']]) := by
  have hm0 : ¬ m = 0 := by omega
  by_cases ha : 0 < a
  · refine ⟨a.fmod m, a.fdiv m, b, (fmod_nn h0).1, (fmod_nn h0).2, ?_⟩
    unfold mTake runB
    have t : decide (0 < a) = true := decide_eq_true ha
    have ix : gIx (.lst [.int a, .int b]) (.int 0) = some (.int a) := rfl
    have e2' : sTake (envOf 3 [.lst [.int a, .int b], .int m]) = .rt (.int (a.fmod m)) [some (.lst [.int (a.fdiv m), .int b]), some (.int m), some (.int (a.fmod m))] := by
      simp [sTake, sIf, sDo, tB, e2, e1L, eL, aCons, aNil, g1, gInt, M.bind, M.ofO, M.pure, eVar, eC, look_zero, look_succ, look_nil, put_eq, envOf, ix, gGt, asBl, t, sSeq, sAsg, sRet, gMod, gDiv, hm0, h1, sPut, opSetL, ixN, ha]
    rw [e2']
    rfl
  · refine ⟨(((b * 48271 + 11).fmod 2147483647).fdiv 7).fmod m, a, (b * 48271 + 11).fmod 2147483647, (fmod_nn h0).1, (fmod_nn h0).2, ?_⟩
    unfold mTake runB
    have t : decide (0 < a) = false := decide_eq_false ha
    have ix : gIx (.lst [.int a, .int b]) (.int 0) = some (.int a) := rfl
    have ix1 : gIx (.lst [.int a, .int b]) (.int 1) = some (.int b) := rfl
    have ix2 : ∀ c, gIx (.lst [.int a, .int c]) (.int 1) = some (.int c) := fun c => rfl
    have mo : mulOk b 48271 = true := mulOk_r (by decide)
    have q : ∀ x, gMod (.int x) (.int 2147483647) = some (.int (x.fmod 2147483647)) := fun x => by simp [gMod]
    have q1 : ∀ x, gMod (.int x) (.int m) = some (.int (x.fmod m)) := fun x => by simp [gMod, hm0]
    have q2 : ∀ x, gDiv (.int x) (.int 7) = some (.int (x.fdiv 7)) := fun x => by simp [gDiv]
    have e2' : sTake (envOf 3 [.lst [.int a, .int b], .int m]) = .rt (.int ((((b * 48271 + 11).fmod 2147483647).fdiv 7).fmod m)) [some (.lst [.int a, .int ((b * 48271 + 11).fmod 2147483647)]), some (.int m), none] := by
      simp [sTake, sIf, sDo, tB, e2, e1L, eL, aCons, aNil, g1, gInt, M.bind, M.ofO, M.pure, eVar, eC, look_zero, look_succ, look_nil, put_eq, envOf, ix, ix1, ix2, gGt, asBl, t, sSeq, sAsg, sRet, q, q1, q2, sPut, opSetL, ixN, ha, sNx, gMul, mo, gAdd]
    rw [e2']
    rfl
def bState : SM := sSeq (sAsg 1 (e2 gAdd (e2 gMul (eVar 1) (eC (.int 1000003))) (e1L gAbs (eVar 3))))
  (sAsg 2 (e2 gMod (e1L gInt (e2 gAdd (e2 gMul (eVar 2) (eC (.int 48271))) (eVar 3))) (eC (.int 2147483647))))
theorem state_step (x : D) (a b i : Int) (c : Option D) : ∃ a' b', bState [some x, some (.int a), some (.int b), some (.int i)] = .nx [some x, some (.int a'), some (.int b'), some (.int i)] := by
  have m1 : mulOk a 1000003 = true := mulOk_r (by decide)
  have m2 : mulOk b 48271 = true := mulOk_r (by decide)
  refine ⟨a * 1000003 + (if i < 0 then -i else i), (b * 48271 + i).fmod 2147483647, ?_⟩
  simp [bState, sSeq, sAsg, sDo, e2, e1L, eL, aCons, aNil, g1, gInt, gAbs, gMul, m1, m2, gAdd, gMod, M.bind, M.ofO, M.pure, eVar, eC, look_zero, look_succ, look_nil, put_eq]
theorem state_loop (x : D) : ∀ (is : List Int) (a b : Int) (c : Option D), ∃ a' b' c', forN (tgName 3) bState (is.map .int) [some x, some (.int a), some (.int b), c] = .nx [some x, some (.int a'), some (.int b'), c']
  | [], a, b, c => ⟨a, b, c, rfl⟩
  | i :: r, a, b, c => by
    obtain ⟨a1, b1, e⟩ := state_step x a b i c
    obtain ⟨a2, b2, c2, e2⟩ := state_loop x r a1 b1 (some (.int i))
    refine ⟨a2, b2, c2, ?_⟩
    rw [List.map_cons]
    show sSeq bState (forN (tgName 3) bState (r.map .int)) [some x, some (.int a), some (.int b), some (.int i)] = _
    unfold sSeq
    rw [e]
    exact e2
theorem cut_map (ns : List Int) (l h : Option Int) : ∃ is : List Int, cutD (ns.map .int) l h = is.map .int := by
  unfold cutD
  rw [← List.map_drop, ← List.map_take]
  exact ⟨_, rfl⟩
theorem eqD_int (i j : Int) : eqD (.int i) (.int j) = some (decide (i = j)) := rfl
theorem state_pre (ns is : List Int) (a b : Int) (c : Option D) (ei : cutD (ns.map D.int) none (some 63) = is.map D.int) (e : forN (tgName 3) bState (is.map .int) [some (.scr ns), some (.int 0), some (.int 1), none] = .nx [some (.scr ns), some (.int a), some (.int b), c]) (k : SM) :
    sSeq (sAsg 1 (eC (.int 0))) (sSeq (sAsg 2 (eC (.int 1))) (sSeq (sFor (iSeqM (eSlL (eVar 0) (pNone) (pSome (eC (.int 63))))) (tgName 3) bState) k)) (envOf 4 [.scr ns]) = k [some (.scr ns), some (.int a), some (.int b), c] := by
  refine (sSeq_of (ρ1 := [some (.scr ns), some (.int 0), none, none]) rfl).trans ?_
  refine (sSeq_of (ρ1 := [some (.scr ns), some (.int 0), some (.int 1), none]) rfl).trans ?_
  refine sSeq_of ?_
  unfold sFor
  refine (sDo_of (a := is.map .int) (ρ1 := [some (.scr ns), some (.int 0), some (.int 1), none]) ?_).trans e
  have gs : gSl none (some 63) (.scr ns) = some (.lst (is.map .int)) := by unfold gSl; rw [← ei]
  simp [iSeqM, eSlL, eSl, pNone, pSome, M.bind, M.ofO, M.pure, eVar, eC, look_zero, look_succ, look_nil, put_eq, isLst, asInt, gs, itemsOf]
theorem state_ok (ns : List Int) : ∃ a b : Int, mState [.scr ns] = .ok (.lst [.int a, .int b]) := by
  obtain ⟨is, ei⟩ := cut_map ns none (some 63)
  obtain ⟨a, b, c, e⟩ := state_loop (.scr ns) is 0 1 none
  have hp := state_pre ns is a b c ei e (sRet (eLst (aCons (eVar 1) (aCons (eIf (tB (e2 gNe (eVar 2) (eC (.int 1973665155)))) (eVar 2) (eC (.int 7))) (aNil)))))
  by_cases hb : b = 1973665155
  · refine ⟨a, 7, ?_⟩
    have e3 : sState (envOf 4 [.scr ns]) = .rt (.lst [.int a, .int 7]) [some (.scr ns), some (.int a), some (.int b), c] := by
      refine hp.trans ?_
      simp [sRet, sDo, eLst, eL, aCons, aNil, eIf, tB, e2, gNe, eqD_int, hb, M.bind, M.ofO, M.pure, eVar, eC, look_zero, look_succ, look_nil, put_eq, asBl]
    unfold mState runF
    rw [e3]
  · refine ⟨a, b, ?_⟩
    have e3 : sState (envOf 4 [.scr ns]) = .rt (.lst [.int a, .int b]) [some (.scr ns), some (.int a), some (.int b), c] := by
      refine hp.trans ?_
      simp [sRet, sDo, eLst, eL, aCons, aNil, eIf, tB, e2, gNe, eqD_int, hb, M.bind, M.ofO, M.pure, eVar, eC, look_zero, look_succ, look_nil, put_eq, asBl]
    unfold mState runF
    rw [e3]
end
end PV

set_option Elab.async false
set_option linter.all false
set_option maxRecDepth 100000
set_option maxHeartbeats 0
namespace PV
noncomputable section
open PySem PySem.Spec
open PyProof.Rows L2

/-! ## 30. a law's body, part by part -/
/-- what is known of the slots: j holds the drawing state, the ones of L their values -/
structure Ag (j n : Nat) (L : List (Nat × D)) (ρ : PV.Env) : Prop where
  len : ρ.length = n
  st : ∃ a b : Int, look ρ j = some (.lst [.int a, .int b])
  at_ : ∀ i d, L.lookup i = some d → look ρ i = some d
def mkE (n : Nat) (L : List (Nat × D)) : PV.Env := (List.range n).map fun i => L.lookup i
theorem look_map {f : Nat → Option D} : ∀ (n k i : Nat), look ((List.range' k n).map f) i = if i < n then f (k + i) else none
  | 0, k, i => by simp [look_nil]
  | n + 1, k, 0 => by simp [List.range'_succ, look_zero]
  | n + 1, k, i + 1 => by
    rw [List.range'_succ, List.map_cons, look_succ, look_map n (k + 1) i]
    simp [Nat.add_assoc, Nat.add_comm 1 i]
theorem look_mkE {n i : Nat} {L : List (Nat × D)} : look (mkE n L) i = if i < n then L.lookup i else none := by
  unfold mkE
  rw [List.range_eq_range', look_map]
  simp
theorem look_lt {ρ : PV.Env} {i : Nat} {d : D} (h : look ρ i = some d) : i < ρ.length := (List.getElem?_eq_some_iff.mp (look_eq.mp h)).1
theorem Ag.le {j n : Nat} {L : List (Nat × D)} {ρ : PV.Env} (a : Ag j n L ρ) : Le (mkE n L) ρ := by
  refine ⟨by rw [a.len]; unfold mkE; simp, fun i d e => ?_⟩
  rw [look_mkE] at e
  split at e
  · exact a.at_ i d e
  · cases e
/-- plain equality, as far as it is needed -/
def sameR (f : D → D → Bool) (ds : List D) : List D → Bool := List.rec (motive := fun _ => List D → Bool) (fun es => List.rec (motive := fun _ => Bool) true (fun _ _ _ => false) es)
  (fun d _ ih es => List.rec (motive := fun _ => Bool) false (fun e r _ => Bool.rec (motive := fun _ => Bool) false (ih r) (f d e)) es) ds
def same1 (f : D → D → Bool) : D → D → Bool
  | .non, .non => true
  | .bl a, .bl b => a == b
  | .int i, .int j => decide (i = j)
  | .str x, .str y => decide (x = y)
  | .lst xs, .lst ys => sameR f xs ys
  | .tup xs, .tup ys => sameR f xs ys
  | _, _ => false
def sameF (n : Nat) : D → D → Bool := Nat.rec (motive := fun _ => D → D → Bool) (same1 fun _ _ => false) (fun _ f => same1 f) n
theorem sameR_ok {f : D → D → Bool} (h : ∀ d e, f d e = true → d = e) : ∀ ds es : List D, sameR f ds es = true → ds = es
  | [], [], _ => rfl
  | [], _ :: _, q => by cases q
  | _ :: _, [], q => by cases q
  | d :: ds, e :: es, q => by
    have q : Bool.rec (motive := fun _ => Bool) false (sameR f ds es) (f d e) = true := q
    cases t : f d e with
    | false => rw [t] at q; cases q
    | true =>
      rw [t] at q
      rw [h d e t, sameR_ok h ds es q]
theorem same1_ok {f : D → D → Bool} (h : ∀ ds es : List D, sameR f ds es = true → ds = es) (d e : D) (q : same1 f d e = true) : d = e := by
  cases d <;> cases e <;> first | (cases q; done) | rfl | skip
  · have := eq_of_beq (show (_ == _) = true from q); subst this; rfl
  · have := of_decide_eq_true (show decide _ = true from q); subst this; rfl
  · have := of_decide_eq_true (show decide _ = true from q); subst this; rfl
  · rw [h _ _ q]
  · rw [h _ _ q]
theorem sameF_ok : ∀ (n : Nat) (d e : D), sameF n d e = true → d = e
  | 0, d, e, q => same1_ok (sameR_ok fun _ _ z => by cases z) d e q
  | n + 1, d, e, q => same1_ok (sameR_ok (sameF_ok n)) d e q
/-- several statements in a row -/
def seqL (l : List SM) (k : SM) : SM := l.foldr sSeq k
theorem seqL_app (a b : List SM) (k : SM) : seqL (a ++ b) k = seqL a (seqL b k) := List.foldr_append
theorem seqL_nx : ∀ (l : List SM) (k : SM) {ρ ρ' : PV.Env}, seqL l sNx ρ = .nx ρ' → seqL l k ρ = k ρ'
  | [], k, ρ, ρ', h => by cases h; rfl
  | s :: l, k, ρ, ρ', h => by
    have h : sSeq s (seqL l sNx) ρ = .nx ρ' := h
    show sSeq s (seqL l k) ρ = k ρ'
    unfold sSeq at h ⊢
    split at h
    · rename_i ρ1 e
      exact seqL_nx l k h
    · rename_i hne
      exact absurd h (hne _)
/-- run on the known slots alone, a part goes through and leaves these slots as they were -/
def chk (n : Nat) (g : List SM) (L : List (Nat × D)) (keep : List Nat) : Bool := match seqL g sNx (mkE n L) with
  | .nx ρ => decide (ρ.length = n) && keep.all fun i => match look ρ i, L.lookup i with
    | some d, some e => sameF 6 d e
    | _, _ => false
  | _ => false
/-- .. and, the last of all, returns True -/
def chkR (n : Nat) (g : SM) (L : List (Nat × D)) : Bool := match g (mkE n L) with
  | .rt (.bl true) _ => true
  | _ => false
theorem lookup_filter {keep : List Nat} : ∀ {L : List (Nat × D)} {i : Nat} {d : D}, (L.filter fun p => keep.contains p.1).lookup i = some d → i ∈ keep ∧ L.lookup i = some d
  | [], _, _, h => by cases h
  | (k, x) :: L, i, d, h => by
    rw [List.filter_cons] at h
    by_cases hk : keep.contains k = true
    · rw [if_pos hk] at h
      rw [List.lookup_cons] at h ⊢
      cases e : i == k with
      | true =>
        rw [e] at h
        have e : i = k := eq_of_beq e
        subst e
        exact ⟨by simpa using hk, h⟩
      | false =>
        rw [e] at h
        exact lookup_filter h
    · rw [if_neg hk] at h
      obtain ⟨h1, h2⟩ := lookup_filter h
      refine ⟨h1, ?_⟩
      rw [List.lookup_cons]
      have : (i == k) = false := by
        cases e : i == k with
        | false => rfl
        | true =>
          have e : i = k := eq_of_beq e
          subst e
          exact absurd (by simpa using h1) hk
      rw [this]
      exact h2
theorem seg {j n : Nat} {g : List SM} {L : List (Nat × D)} (keep : List Nat) (fr : FrS j (seqL g sNx)) (c : chk n g L keep = true) {ρ : PV.Env} (a : Ag j n L ρ) : ∃ ρ', Ag j n (L.filter fun p => keep.contains p.1) ρ' ∧ ∀ k, seqL g k ρ = k ρ' := by
  unfold chk at c
  split at c
  · rename_i ρ0 e
    rw [Bool.and_eq_true] at c
    obtain ⟨ρ', e', l⟩ := fr.mo _ _ _ a.le e
    refine ⟨ρ', ⟨by rw [l.1]; exact of_decide_eq_true c.1, ?_, fun i d h => ?_⟩, fun k => seqL_nx g k e'⟩
    · obtain ⟨x, y, h⟩ := a.st
      exact ⟨x, y, by rw [fr.kp _ _ e']; exact h⟩
    · obtain ⟨hi, hL⟩ := lookup_filter h
      have := List.all_eq_true.mp c.2 i hi
      rw [hL] at this
      split at this
      · rename_i d1 d2 h1 h2
        cases h2
        have := sameF_ok 6 _ _ this
        subst this
        exact l.2 i _ h1
      · cases this
  · cases c
theorem segR {j n : Nat} {g : SM} {L : List (Nat × D)} (fr : FrS j g) (c : chkR n g L = true) {ρ : PV.Env} (a : Ag j n L ρ) : ∃ ρ', g ρ = .rt (.bl true) ρ' := by
  unfold chkR at c
  split at c
  · rename_i ρ0 e
    exact fr.mr _ _ _ _ a.le e
  · cases c
/-! ### drawing -/
/-- f gives a value with Q; only the state may change -/
def Dw (j n : Nat) (L : List (Nat × D)) (f : M D) (Q : D → Prop) : Prop := ∀ ρ, Ag j n L ρ → ∃ d ρ', f ρ = .ok (d, ρ') ∧ Q d ∧ Ag j n L ρ'
section
variable {j n : Nat} {L : List (Nat × D)} {Q : D → Prop}
theorem dw_c {d : D} (h : Q d) : Dw j n L (eC d) Q := fun ρ a => ⟨d, ρ, rfl, h, a⟩
theorem dw_var {i : Nat} {d : D} (hi : L.lookup i = some d) (h : Q d) : Dw j n L (eVar i) Q := fun ρ a => ⟨d, ρ, by unfold eVar; rw [a.at_ i d hi], h, a⟩
theorem dw_e2 {g : D → D → Option D} {fa fb : M D} (h : Dw j n L fa fun x => Dw j n L fb fun y => ∃ z, g x y = some z ∧ Q z) : Dw j n L (e2 g fa fb) Q := fun ρ a => by
  obtain ⟨x, ρ1, e1, h1, a1⟩ := h ρ a
  obtain ⟨y, ρ2, e2', ⟨z, hz, hq⟩, a2⟩ := h1 ρ1 a1
  refine ⟨z, ρ2, ?_, hq, a2⟩
  unfold e2
  rw [M.bind_of e1, M.bind_of e2']
  unfold M.ofO
  rw [hz]
theorem dw_take {fm : M D} {m : Int} (hm : Dw j n L fm fun d => d = .int m) (h0 : 0 < m) (h1 : m.natAbs < 1073741824) (hj : L.lookup j = none) (q : ∀ v, 0 ≤ v → v < m → Q (.int v)) :
    Dw j n L (eCallIO j [.io j, .val (.rd 0)] mTake (aIo j (aCons fm aNil))) Q := fun ρ a => by
  obtain ⟨x, y, hs⟩ := a.st
  obtain ⟨d, ρ1, e1, rfl, a1⟩ := hm ρ a
  obtain ⟨x1, y1, hs1⟩ := a1.st
  obtain ⟨v, a', b', v0, v1, et⟩ := take_ok x1 y1 m h0 h1
  refine ⟨.int v, ρ1.set j (some (.lst [.int a', .int b'])), ?_, q v v0 v1, ⟨by rw [List.length_set]; exact a1.len, ⟨a', b', by rw [look_set, if_pos rfl, if_pos (look_lt hs1)]⟩, fun i d hi => ?_⟩⟩
  · rw [eCallIO_def]
    have ea : aIo j (aCons fm aNil) ρ = .ok ([.non, .int m], ρ1) := by
      unfold aIo
      rw [hs]
      show M.bind (eC D.non) _ ρ = _
      rw [M.bind_of (a := D.non) (ρ1 := ρ) rfl]
      have : aCons fm aNil ρ = .ok ([.int m], ρ1) := by
        unfold aCons
        rw [M.bind_of e1, M.bind_of (a := ([] : List D)) (ρ1 := ρ1) rfl]
        rfl
      rw [M.bind_of this]
      rfl
    rw [M.bind_of ea, hs1]
    show (match mTake (fill1 (.lst [.int x1, .int y1]) [.io j, .val (.rd 0)] [.non, .int m]) with
      | .ok (d, [y]) => R.ok (d, ρ1.set j (some y))
      | .ok _ => .fail
      | .exc e => .exc e
      | .fail => .fail) = _
    have ef : fill1 (.lst [.int x1, .int y1]) [.io j, .val (.rd 0)] [.non, .int m] = [.lst [.int x1, .int y1], .int m] := rfl
    rw [ef, et]
  · by_cases z : i = j
    · subst z
      rw [hj] at hi
      cases hi
    · rw [look_set, if_neg z]
      exact a1.at_ i d hi
theorem Dw.imp {f : M D} {Q' : D → Prop} (h : Dw j n L f Q) (k : ∀ d, Q d → Q' d) : Dw j n L f Q' := fun ρ a => by
  obtain ⟨d, ρ', e, q, a'⟩ := h ρ a
  exact ⟨d, ρ', e, k d q, a'⟩
theorem Ag.cons {ρ : PV.Env} (a : Ag j n L ρ) {i : Nat} {d : D} (hi : i < n) (hj : i ≠ j) : Ag j n ((i, d) :: L) (ρ.set i (some d)) := by
  refine ⟨by rw [List.length_set]; exact a.len, ?_, fun k e h => ?_⟩
  · obtain ⟨x, y, h⟩ := a.st
    exact ⟨x, y, by rw [look_set, if_neg (Ne.symm hj)]; exact h⟩
  · rw [look_set]
    rw [List.lookup_cons] at h
    by_cases z : k = i
    · subst z
      rw [if_pos rfl, if_pos (by rw [a.len]; exact hi)]
      simp at h
      rw [h]
    · rw [if_neg z]
      have : (k == i) = false := by simp [z]
      rw [this] at h
      exact a.at_ k e h
/-- x = f, f drawing -/
theorem dw_asg {i : Nat} {f : M D} (h : Dw j n L f Q) (hi : i < n) (hj : i ≠ j) {ρ : PV.Env} (a : Ag j n L ρ) : ∃ d ρ', Q d ∧ Ag j n ((i, d) :: L) ρ' ∧ ∀ k, sSeq (sAsg i f) k ρ = k ρ' := by
  obtain ⟨d, ρ1, e, q, a1⟩ := h ρ a
  refine ⟨d, ρ1.set i (some d), q, a1.cons hi hj, fun k => sSeq_of ?_⟩
  rw [sAsg_def, sDo_of e]
/-- several, stored at once -/
def DwL (j n : Nat) (L : List (Nat × D)) (f : M (List D)) (Q : List D → Prop) : Prop := ∀ ρ, Ag j n L ρ → ∃ ds ρ', f ρ = .ok (ds, ρ') ∧ Q ds ∧ Ag j n L ρ'
theorem dwl_nil {Q : List D → Prop} (h : Q []) : DwL j n L aNil Q := fun ρ a => ⟨[], ρ, rfl, h, a⟩
theorem dwl_cons {f : M D} {g : M (List D)} {Q : List D → Prop} (h : Dw j n L f fun x => DwL j n L g fun xs => Q (x :: xs)) : DwL j n L (aCons f g) Q := fun ρ a => by
  obtain ⟨x, ρ1, e1, h1, a1⟩ := h ρ a
  obtain ⟨xs, ρ2, e2', hq, a2⟩ := h1 ρ1 a1
  refine ⟨x :: xs, ρ2, ?_, hq, a2⟩
  unfold aCons
  rw [M.bind_of e1, M.bind_of e2']
  rfl
theorem Ag.all : ∀ (is : List Nat) (ds : List D) {L : List (Nat × D)} {ρ : PV.Env}, Ag j n L ρ → (∀ i ∈ is, i < n ∧ i ≠ j) → is.length = ds.length → Ag j n ((is.zip ds).reverse ++ L) (setAll is ds ρ)
  | [], [], _, _, a, _, _ => a
  | i :: is, d :: ds, L, ρ, a, h, hl => by
    rw [setAll_cons]
    have := Ag.all is ds (a.cons (d := d) (h i List.mem_cons_self).1 (h i List.mem_cons_self).2) (fun k hk => h k (List.mem_cons_of_mem _ hk)) (Nat.succ.inj hl)
    simpa using this
theorem dw_par {is : List Nat} {f : M (List D)} {Q : List D → Prop} (h : DwL j n L f Q) (hi : ∀ i ∈ is, i < n ∧ i ≠ j) (hl : ∀ ds, Q ds → is.length = ds.length) {ρ : PV.Env} (a : Ag j n L ρ) : ∃ ds ρ', Q ds ∧ Ag j n ((is.zip ds).reverse ++ L) ρ' ∧ ∀ k, sSeq (sPar is f) k ρ = k ρ' := by
  obtain ⟨ds, ρ1, e, q, a1⟩ := h ρ a
  refine ⟨ds, setAll is ds ρ1, q, Ag.all is ds a1 hi (hl ds q), fun k => sSeq_of ?_⟩
  unfold sPar
  rw [sDo_of e]
/-! [f for v in range(m)], f drawing -/
theorem Ag.sub {L' : List (Nat × D)} {ρ : PV.Env} (a : Ag j n L ρ) (h : ∀ i d, L'.lookup i = some d → L.lookup i = some d) : Ag j n L' ρ := ⟨a.len, a.st, fun i d e => a.at_ i d (h i d e)⟩
theorem dw_lcN {v : Nat} {f : M D} (hv : v < n) (hvj : v ≠ j) (hvL : L.lookup v = none) (hf : Dw j n L f Q) : ∀ (ds : List D) (ρ : PV.Env), Ag j n L ρ → ∃ ys ρ', lcN [v] (tgName v) tTrue f ds ρ = .ok (ys, ρ') ∧ ys.length = ds.length ∧ (∀ y ∈ ys, Q y) ∧ Ag j n L ρ'
  | [], ρ, a => ⟨[], ρ, rfl, rfl, (fun _ h => nomatch h), a⟩
  | d :: r, ρ, a => by
    have a1 : Ag j n L ((wipeG ρ [v]).set v (some d)) := by
      refine ⟨by rw [List.length_set, wipeG_len]; exact a.len, ?_, fun k e h => ?_⟩
      · obtain ⟨x, y, h⟩ := a.st
        exact ⟨x, y, by rw [look_set, if_neg (Ne.symm hvj), look_wipe, if_neg (by simp; exact Ne.symm hvj)]; exact h⟩
      · have kv : k ≠ v := fun z => by rw [z, hvL] at h; cases h
        rw [look_set, if_neg kv, look_wipe, if_neg (by simp; exact kv)]
        exact a.at_ k e h
    obtain ⟨y, ρ2, e2', q, a2⟩ := hf _ a1
    obtain ⟨ys, ρ3, e3, hl, hq, a3⟩ := dw_lcN hv hvj hvL hf r ρ2 a2
    refine ⟨y :: ys, ρ3, ?_, by rw [List.length_cons, List.length_cons, hl], fun z hz => (List.mem_cons.mp hz).elim (fun e => by rw [e]; exact q) (hq z), a3⟩
    rw [lcN_cons, tgName_def]
    dsimp only
    have et : tTrue ((wipeG ρ [v]).set v (some d)) = .ok (true, (wipeG ρ [v]).set v (some d)) := rfl
    rw [et]
    dsimp only
    rw [e2']
    dsimp only
    rw [← tgName_def, e3]
theorem dw_lc {v : Nat} {f : M D} {fi : M (List D)} {Q' : D → Prop} (hv : v < n) (hvj : v ≠ j) (hvL : L.lookup v = none) (hf : Dw j n L f Q) (hi : DwL j n L fi fun ds => ds.length ≤ 100000 ∧ ∀ ys : List D, ys.length = ds.length → (∀ y ∈ ys, Q y) → Q' (.lst ys)) : Dw j n L (eLc [v] fi (tgName v) tTrue f) Q' := fun ρ a => by
  obtain ⟨ds, ρ1, e1, ⟨hl, hq⟩, a1⟩ := hi ρ a
  obtain ⟨ys, ρ2, e2', hl2, hq2, a2⟩ := dw_lcN hv hvj hvL hf ds ρ1 a1
  refine ⟨.lst ys, restE ρ1 [v] ρ2, ?_, hq ys hl2 hq2, ⟨by rw [restE_len]; exact a2.len, ?_, fun k e h => ?_⟩⟩
  · unfold eLc
    rw [M.bind_of e1]
    rw [if_pos hl, e2']
  · obtain ⟨x, y, h⟩ := a2.st
    exact ⟨x, y, by rw [look_rest (by simp; exact Ne.symm hvj)]; exact h⟩
  · have kv : k ≠ v := fun z => by rw [z, hvL] at h; cases h
    rw [look_rest (by simp; exact kv)]
    exact a2.at_ k e h
theorem dwl_rg1 {fm : M D} {Q : List D → Prop} (h : Dw j n L fm fun d => ∃ m : Int, d = .int m ∧ 0 ≤ m ∧ m ≤ 1000000 ∧ Q (rgD 0 m)) : DwL j n L (iRg rg1 (aCons fm aNil)) Q := fun ρ a => by
  obtain ⟨d, ρ1, e1, ⟨m, rfl, h0, h1, q⟩, a1⟩ := h ρ a
  refine ⟨rgD 0 m, ρ1, ?_, q, a1⟩
  unfold iRg
  have : aCons fm aNil ρ = .ok ([.int m], ρ1) := by
    unfold aCons
    rw [M.bind_of e1, M.bind_of (a := ([] : List D)) (ρ1 := ρ1) rfl]
    rfl
  rw [M.bind_of this]
  have hr : rgOk 0 m = true := by unfold rgOk; exact decide_eq_true ⟨by decide, by decide, by omega, h1⟩
  show M.ofO (if rgOk 0 m = true then some (rgD 0 m) else none) ρ1 = _
  rw [if_pos hr]
  rfl
end
/-! ranges of drawn numbers -/
theorem all_range {n : Nat} {p : Int → Bool} (h : ((List.range n).all fun (k : Nat) => p k) = true) {v : Int} (h0 : 0 ≤ v) (h1 : v < n) : p v = true := by
  have := List.all_eq_true.mp h v.toNat (List.mem_range.mpr (by omega))
  rwa [Int.toNat_of_nonneg h0] at this
/-- run on some known slots, a part gives known values; slots that it does not store stay -/
def chkV (n : Nat) (g : List SM) (L0 L1 : List (Nat × D)) : Bool := match seqL g sNx (mkE n L0) with
  | .nx ρ => decide (ρ.length = n) && L1.all fun p => match look ρ p.1 with
    | some d => sameF 6 d p.2
    | none => false
  | _ => false
theorem lookup_mem {i : Nat} {d : D} : ∀ {L : List (Nat × D)}, L.lookup i = some d → (i, d) ∈ L
  | [], h => by cases h
  | (k, x) :: L, h => by
    rw [List.lookup_cons] at h
    cases e : i == k with
    | true =>
      rw [e] at h
      cases h
      rw [eq_of_beq e]
      exact List.mem_cons_self
    | false =>
      rw [e] at h
      exact List.mem_cons_of_mem _ (lookup_mem h)
theorem lookup_app {i : Nat} {d : D} : ∀ {A B : List (Nat × D)}, (A ++ B).lookup i = some d → A.lookup i = some d ∨ B.lookup i = some d
  | [], _, h => .inr h
  | (k, x) :: A, B, h => by
    rw [List.cons_append, List.lookup_cons] at h
    rw [List.lookup_cons]
    cases e : i == k with
    | true => rw [e] at h; exact .inl h
    | false => rw [e] at h; exact lookup_app h
theorem segX {j n : Nat} {g : List SM} {L L0 L1 Lx : List (Nat × D)} (fr : FrS j (seqL g sNx)) (frx : ∀ p ∈ Lx, FrS p.1 (seqL g sNx)) (c : chkV n g L0 L1 = true) (h0 : ∀ p ∈ L0, L.lookup p.1 = some p.2) (hx : ∀ p ∈ Lx, L.lookup p.1 = some p.2) {ρ : PV.Env} (a : Ag j n L ρ) :
    ∃ ρ', Ag j n (L1 ++ Lx) ρ' ∧ ∀ k, seqL g k ρ = k ρ' := by
  have a0 : Ag j n L0 ρ := ⟨a.len, a.st, fun i d h => a.at_ i d (h0 (i, d) (lookup_mem h))⟩
  unfold chkV at c
  split at c
  · rename_i ρ0 e
    rw [Bool.and_eq_true] at c
    obtain ⟨ρ', e', l⟩ := fr.mo _ _ _ a0.le e
    refine ⟨ρ', ⟨by rw [l.1]; exact of_decide_eq_true c.1, ?_, fun i d h => ?_⟩, fun k => seqL_nx g k e'⟩
    · obtain ⟨x, y, h⟩ := a.st
      exact ⟨x, y, by rw [fr.kp _ _ e']; exact h⟩
    · rcases lookup_app h with h | h
      · have := List.all_eq_true.mp c.2 (i, d) (lookup_mem h)
        dsimp only at this
        split at this
        · rename_i d1 h1
          have := sameF_ok 6 _ _ this
          subst this
          exact l.2 i _ h1
        · cases this
      · have hm := lookup_mem h
        rw [(frx (i, d) hm).kp _ _ e']
        exact a.at_ i d (hx (i, d) hm)
  · cases c
theorem frsL_nil {i : Nat} : FrS i (seqL [] sNx) := frs_nx
theorem frsL_cons {i : Nat} {s : SM} {l : List SM} (h : FrS i s) (k : FrS i (seqL l sNx)) : FrS i (seqL (s :: l) sNx) := frs_seq h k
theorem seqL_cons (s : SM) (l : List SM) (k : SM) (ρ : PV.Env) : seqL (s :: l) k ρ = sSeq s (seqL l k) ρ := rfl
theorem whileN_t {t : M Bool} {b : SM} {n : Nat} {ρ ρ1 ρ2 : PV.Env} (ht : t ρ = .ok (true, ρ1)) (hb : b ρ1 = .nx ρ2) : whileN t b (n + 1) ρ = whileN t b n ρ2 := by
  show sDo t _ ρ = _
  rw [sDo_of ht]
  show sSeq b (whileN t b n) ρ1 = _
  exact sSeq_of hb
theorem whileN_f {t : M Bool} {b : SM} {n : Nat} {ρ ρ1 : PV.Env} (ht : t ρ = .ok (false, ρ1)) : whileN t b (n + 1) ρ = .nx ρ1 := by
  show sDo t _ ρ = _
  rw [sDo_of ht]
  rfl
/-! a comprehension whose parts only read -/
theorem lcN_map {v : Nat} {f : M D} {h : D → D} {ρ : PV.Env} : ∀ (ds : List D) (ρ' : PV.Env), wipeG ρ' [v] = wipeG ρ [v] → (∀ d ∈ ds, f (ρ.set v (some d)) = .ok (h d, ρ.set v (some d))) → ∃ ρ2, lcN [v] (tgName v) tTrue f ds ρ' = .ok (ds.map h, ρ2) ∧ wipeG ρ2 [v] = wipeG ρ [v]
  | [], ρ', e, _ => ⟨ρ', rfl, e⟩
  | d :: r, ρ', e, hf => by
    have es : (wipeG ρ' [v]).set v (some d) = ρ.set v (some d) := by
      rw [e, wipeG_cons]
      show (ρ.set v none).set v (some d) = _
      rw [List.set_set]
    have ew : wipeG (ρ.set v (some d)) [v] = wipeG ρ [v] := wipeG_set (by simp)
    obtain ⟨ρ2, e2', ew2⟩ := lcN_map r (ρ.set v (some d)) ew fun x hx => hf x (List.mem_cons_of_mem _ hx)
    refine ⟨ρ2, ?_, ew2⟩
    rw [lcN_cons, tgName_def]
    dsimp only
    rw [es]
    have et : tTrue (ρ.set v (some d)) = .ok (true, ρ.set v (some d)) := rfl
    rw [et]
    dsimp only
    rw [hf d List.mem_cons_self]
    dsimp only
    rw [← tgName_def, e2']
    rfl
theorem eLc_map {v : Nat} {f : M D} {h : D → D} {fi : M (List D)} {ds : List D} {ρ : PV.Env} (hfi : fi ρ = .ok (ds, ρ)) (hl : ds.length ≤ 100000) (hf : ∀ d ∈ ds, f (ρ.set v (some d)) = .ok (h d, ρ.set v (some d))) : eLc [v] fi (tgName v) tTrue f ρ = .ok (.lst (ds.map h), ρ) := by
  unfold eLc
  rw [M.bind_of hfi]
  obtain ⟨ρ2, e, ew⟩ := lcN_map ds ρ rfl hf
  rw [if_pos hl, e]
  dsimp only
  rw [restE_wipe ew]
end
end PV

set_option Elab.async false
set_option linter.all false
set_option maxRecDepth 100000
set_option maxHeartbeats 0
namespace PV
noncomputable section
open PySem PySem.Spec
open PyProof.Rows L2

/-! ## 28. k in x -/
def flatD : D → Option V
  | .non => some .non
  | .bl b => some (.bl b)
  | .int i => some (.int i)
  | .str x => some (.str x)
  | _ => none
def flatsD : List D → Option (List V)
  | [] => some []
  | d :: r => match flatD d, flatsD r with
    | some v, some vs => some (v :: vs)
    | _, _ => none
/-- k among the items of a list or a tuple, all flat -/
def inFlat (k : D) (ds : List D) : Option Bool := match flatD k, flatsD ds with
  | some v, some vs => some (inV v vs)
  | _, _ => none
/-- k among a list's items, all of them data -/
def inDeep (k : D) : List D → Option Bool
  | [] => some false
  | d :: r => match eqS d k, inDeep k r with
    | some a, some b => some (a || b)
    | _, _ => none
def inAny (k : D) (ds : List D) : Option Bool := match inFlat k ds with
  | some b => some b
  | none => inDeep k ds
def inB : D → D → Option Bool
  | k, .tup ds => inFlat k ds
  | k, .lst ds => inFlat k ds
  | k, x => (dOpt x k).map Option.isSome
def gIn (k x : D) : Option D := (inB k x).map D.bl
def gNotIn (k x : D) : Option D := (inB k x).map fun b => D.bl (!b)
section
variable {K : PySem.W.Frag} {mg : Str → Option Value} {G H : Hp}
theorem flat_rp {d : D} {v u : V} (h : Rp K mg H v d) (e : flatD d = some u) : v = u ∧ flatV v = true := by
  cases h <;> first | (cases e; exact ⟨rfl, rfl⟩) | (cases e; done)
theorem flat_rd {d : D} {v u : V} {n : Nat} (gh : Same G H) (h : RdV K mg G H n d v) (e : flatD d = some u) : v = u ∧ flatV v = true := flat_rp (h.rp gh) e
theorem flats_all {n : Nat} (gh : Same G H) : ∀ {ds : List D} {vs us : List V}, All2 (RdV K mg G H n) ds vs → flatsD ds = some us → vs = us ∧ vs.all flatV = true
  | _, _, _, .nil, e => by cases e; exact ⟨rfl, rfl⟩
  | _, _, _, .cons h r, e => by
    simp only [flatsD] at e
    split at e
    · rename_i v vs e1 e2
      cases e
      obtain ⟨rfl, f1⟩ := flat_rd gh h e1
      obtain ⟨rfl, f2⟩ := flats_all gh r e2
      exact ⟨rfl, by rw [List.all_cons, f1, f2]; rfl⟩
    · cases e
/-- a dict, asked by a key -/
def rDIn (neg : Bool) : R2 := fun x y H Q => ∃ a o, y = .ref a ∧ DGet H a x o ∧ Q (.bl (if neg then !o.isSome else o.isSome)) H
variable {X : Cx}
theorem op_din (hu : X.A.units + 1 < cLine) : OpR X (compareOp .In) (rDIn false) := by
  rintro pins s σ H x _ v u Q I rx ry ⟨a, o, rfl, g, q⟩
  cases (show u = .ref a from ry)
  exact d_in hu I g rx fun s' I' => ⟨.bl o.isSome, H, I', rfl, q⟩
theorem op_dnot (hu : X.A.units + 1 < cLine) : OpR X (compareOp .NotIn) (rDIn true) := by
  rintro pins s σ H x _ v u Q I rx ry ⟨a, o, rfl, g, q⟩
  cases (show u = .ref a from ry)
  exact d_notIn hu I g rx fun s' I' => ⟨.bl (!o.isSome), H, I', rfl, q⟩
def rInA (K : PySem.W.Frag) (neg : Bool) : R2 := fun x y H Q => rIn K neg x y H Q ∨ rDIn neg x y H Q
theorem op_inA (hr : Rm X) : OpR X (compareOp .In) (rInA X.K false) := OpR.or op_in_seq (op_din hr.u1)
theorem op_notA (hr : Rm X) : OpR X (compareOp .NotIn) (rInA X.K true) := OpR.or op_notIn_seq (op_dnot hr.u1)
theorem inA_S {n m : Nat} (neg : Bool) {g : D → D → Option D} (hg : ∀ k x z, g k x = some z → ∃ b, inB k x = some b ∧ z = .bl (if neg then !b else b)) : Op2S K mg (.rd n) (.rd (m + 1)) (.rd 0) (rInA K neg) g := by
  intro G F H k x v u z Q gf fh q1 q2 hz fin
  have gh := gf.trans fh
  obtain ⟨b, hb, rfl⟩ := hg _ _ _ hz
  have fin : Q (.bl (if neg then !b else b)) H := fin _ G F H [] (.refl gf fh) ⟨.bl _, rfl⟩
  have q1 := q1.1
  have q2 := q2.1
  have seq : ∀ {ds : List D} {vs : List V} {p : Addr}, inFlat k ds = some b → All2 (RdV K mg G H m) ds vs → u = .ref p → (SqL K H p vs ∨ SqT K H p vs) → rIn K neg v u H Q := fun {ds vs p} e r eu sq => by
    unfold inFlat at e
    split at e
    · rename_i w ws e1 e2
      cases e
      obtain ⟨rfl, f1⟩ := flat_rd gh q1 e1
      obtain ⟨rfl, f2⟩ := flats_all gh r e2
      exact ⟨p, vs, eu, sq, f1, f2, fin⟩
    · cases e
  unfold inB at hb
  split at hb
  · rename_i ds
    obtain ⟨a, vs, eu, ha, r⟩ := (RdV.plain rfl q2).tup_inv
    exact .inl (seq hb (All2.ofRpl K mg r fun _ _ q => RdV.ofRp q) eu (.inr (.of (gh _ _ ha))))
  · rename_i ds
    obtain ⟨a, vs, eu, ha, r⟩ := q2.lst_inv gh
    exact .inl (seq hb r eu (.inl (.of ha)))
  · obtain ⟨o, ho, rfl⟩ := Option.map_eq_some_iff.mp hb
    obtain ⟨a, ov, eu, g, t⟩ := dopt_of gh q2 (q1.rp gh) ho
    refine .inr ⟨a, ov, eu, g, ?_⟩
    have same : ov.isSome = o.isSome := by
      rcases t with ⟨rfl, rfl⟩ | ⟨d, w, rfl, rfl, _⟩ <;> rfl
    rw [same]
    exact fin
end
section
variable {X : Cx} {W : WX} {c : Fc} {p1 p2 : Bool} {n m : Nat} {a b : Expr} {fa fb : M D} {pos : Pos}
theorem in_S {K : PySem.W.Frag} {mg : Str → Option Value} : Op2S K mg (.rd n) (.rd (m + 1)) (.rd 0) (rInA K false) gIn := inA_S false fun k x z h => by
  obtain ⟨b, e, rfl⟩ := Option.map_eq_some_iff.mp h
  exact ⟨b, e, rfl⟩
theorem notIn_S {K : PySem.W.Frag} {mg : Str → Option Value} : Op2S K mg (.rd n) (.rd (m + 1)) (.rd 0) (rInA K true) gNotIn := inA_S true fun k x z h => by
  obtain ⟨b, e, rfl⟩ := Option.map_eq_some_iff.mp h
  exact ⟨b, e, rfl⟩
theorem tx_in (hr : Rm X) (ha : EX X W c p1 (.rd n) a fa) (hb : EX X W c p2 (.rd (m + 1)) b fb) (w1 : Waits (.rd n) p2) (hm : behindInMarks .In b = false := by rfl) : TX X W c (p1 && p2) (.Compare a [.In] [b] pos) (tB (e2 gIn fa fb)) := tx_cmp (op_inA hr) in_S ha hb w1 wrd hm
theorem tx_notin (hr : Rm X) (ha : EX X W c p1 (.rd n) a fa) (hb : EX X W c p2 (.rd (m + 1)) b fb) (w1 : Waits (.rd n) p2) (hm : behindInMarks .NotIn b = false := by rfl) : TX X W c (p1 && p2) (.Compare a [.NotIn] [b] pos) (tB (e2 gNotIn fa fb)) := tx_cmp (op_notA hr) notIn_S ha hb w1 wrd hm
theorem ex_in (hr : Rm X) (ha : EX X W c p1 (.rd n) a fa) (hb : EX X W c p2 (.rd (m + 1)) b fb) (w1 : Waits (.rd n) p2) (hm : behindInMarks .In b = false := by rfl) : EX X W c (p1 && p2) (.rd 0) (.Compare a [.In] [b] pos) (e2 gIn fa fb) := ex_2 (fun h1 h2 => pe_cmpR (op_inA hr) h1 h2 hm) in_S ha hb w1 wrd
theorem ex_notin (hr : Rm X) (ha : EX X W c p1 (.rd n) a fa) (hb : EX X W c p2 (.rd (m + 1)) b fb) (w1 : Waits (.rd n) p2) (hm : behindInMarks .NotIn b = false := by rfl) : EX X W c (p1 && p2) (.rd 0) (.Compare a [.NotIn] [b] pos) (e2 gNotIn fa fb) := ex_2 (fun h1 h2 => pe_cmpR (op_notA hr) h1 h2 hm) notIn_S ha hb w1 wrd

/-! ## 29. isinstance of a row of types; whole numbers of the module -/
def gIsTs (bs : List Ty) : D → Option D := fun d => (tyD d).map fun a => .bl (bs.any (isTy a))
theorem kitAny_tab {K : PySem.W.Frag} (a : Ty) : ∀ bs : List Ty, PySem.W.kitAny K (.type (tyS a)) (bs.map fun b => .type (tyS b)) = some (bs.any (isTy a))
  | [] => rfl
  | b :: r => by
    rw [List.map_cons, List.any_cons]
    refine kitAny_cons (kit_ty (kit_tab a b)) (fun e => ?_) fun e => ?_
    · rw [e, Bool.false_or]; exact kitAny_tab a r
    · rw [e, Bool.true_or]
theorem cls_row : ∀ bs : List Ty, Paired ClsV (bs.map fun b => V.ty (tyS b)) (bs.map fun b => Value.type (tyS b))
  | [] => .nil
  | b :: r => .cons (.ty _) (cls_row r)
/-- the names of built-in types, as a row of values -/
structure TyName (X : Cx) (x : Str) (b : Ty) : Prop where
  free : X.mg x = none
  glob : Gl X x
  name : x = Str.ofString (tyS b)
  some : b ≠ .non
theorem pe_tyName {x : Str} {b : Ty} {pos : Pos} (t : TyName X x b) : PE X (.Name x pos) (tC (.ty (tyS b))) := by
  obtain ⟨hm, hg, rfl, hb⟩ := t
  have hv : bootBuiltins (Str.ofString (tyS b)) = .some (.type (tyS b)) := by cases b <;> first | exact absurd rfl hb | decide +kernel
  exact pe_bltn (v := .ty (tyS b)) hg hm hv rfl (by cases b <;> decide) (by cases b <;> decide)
theorem ex_isTs2 (b1 b2 : Ty) {x1 x2 : Str} {pp q1 q2 tp : Pos} {kt : Nat} (t1 : TyName X x1 b1) (t2 : TyName X x2 b2) (hm : X.mg "isinstance" = none) (ha : EX X W c p1 (.rd n) a fa) (hg : Gl X "isinstance" := by rfl)
    (h0 : starEach [.Name x1 q1, .Name x2 q2] X.env = (false, eval (.Name x1 q1) X.env) :: starEach [.Name x2 q2] X.env := by rfl) (h00 : starEach [.Name x2 q2] X.env = (false, eval (.Name x2 q2) X.env) :: starEach [] X.env := by rfl)
    (h1 : starEach [a, .Tuple [.Name x1 q1, .Name x2 q2] kt tp] X.env = (false, eval a X.env) :: starEach [.Tuple [.Name x1 q1, .Name x2 q2] kt tp] X.env := by rfl) (h2 : starEach [.Tuple [.Name x1 q1, .Name x2 q2] kt tp] X.env = (false, eval (.Tuple [.Name x1 q1, .Name x2 q2] kt tp) X.env) :: starEach [] X.env := by rfl)
    (hpl : (backTo pos (starEach [.Tuple [.Name x1 q1, .Name x2 q2] kt tp] X.env)).any (·.1) = false := by rfl) :
    EX X W c p1 (.rd 0) (.Call (.Name "isinstance" pp) [a, .Tuple [.Name x1 q1, .Name x2 q2] kt tp] [] pos) (e1 (gIsTs [b1, b2]) fa) := by
  obtain ⟨te, e1, e2⟩ := ha
  refine ⟨_, pe_callB call_isiT hg hm (by decide +kernel) (pa_cons e1 (pa_cons (pe_tup (pa_cons (pe_tyName t1) (pa_cons (pe_tyName t2) pa_nil h00) h0)) pa_nil h2) h1) (by decide) (by decide) h1 hpl, fun σ ρ G F H Q o w => ?_⟩
  refine EX.use te e2 o (Wp.ofBindM w) (fun r1 hr v1 G1 F1 H1 fp1 x1 o1 q1 hp1 => ?_) fun _ z => z
  unfold M.ofO at hr
  split at hr
  · rename_i z hz
    obtain ⟨t, et, rfl⟩ := Option.map_eq_some_iff.mp hz
    refine ⟨by show 2 ≤ sizeLine; decide, fun tp htp => ?_⟩
    have gw := Grow.sh (o := .tup [V.ty (tyS b1), V.ty (tyS b2)]) o1.gf o1.fh htp
    have rd := ((q1.1.mono gw.x.g gw.hh).rp (gw.gf.trans gw.fh))
    refine ⟨v1, tp, [.ty (tyS b1), .ty (tyS b2)], .type (tyS t), [.type (tyS b1), .type (tyS b2)], _, rfl, upd_same, cls_row [b1, b2], tyx_of rd et, kitAny_tab t [b1, b2], ?_⟩
    exact hr (.bl _) _ _ _ [] (x1.trans gw.x) (o1.drop.grown gw) ⟨.bl _, rfl⟩ fun hp => ⟨(hp1 hp).1, (hp1 hp).2.trans gw.hh⟩
  · exact hr.elim
end
end
end PV

set_option Elab.async false
set_option linter.all false
set_option maxRecDepth 100000
set_option maxHeartbeats 0
namespace PV
noncomputable section
open PySem PySem.Spec
open PyProof.Rows L2

/-! ## 30. whole numbers of the module; count -/
section
variable {X : Cx} {W : WX} {c : Fc} {p p1 p2 : Bool} {n m : Nat} {a b : Expr} {fa fb : M D} {pos : Pos}
theorem ex_gint {x : Str} {i : Int} (hm : ∃ t, X.mg x = some (.int i t)) (hg : Gl X x := by rfl) (hd : (x == ("__debug__" : Str)) = false := by decide) : EX X W c true (.rd 0) (.Name x pos) (eC (.int i)) := by
  obtain ⟨t, hm⟩ := hm
  exact ex_c (pe_glob (v := .int i) hg hm ⟨t, rfl⟩ hd) fun _ => .int i
/-- what is told of an object by a method that changes nothing, with one argument -/
def eRm1 (isT : D → Bool) (g : D → D → Option D) (fo fa : M D) : M D := fo.bind fun x => if isT x = true then fa.bind fun y => M.ofO (g x y) else fun _ => .fail
theorem ex_rm1 {T id : String} {name : Str} {o e : Expr} {r : V → List V → Hp → VK → Prop} {isT : D → Bool} {g : D → D → Option D} {apos cpos : Pos} (pa : PlainAttrs T) (slot : Slot T name id) (hty : typeOf (.builtin id) = pure (.type "method_descriptor")) (hm : MtR X id r)
    (hT : ∀ (G H : Hp) (x : D) (u : V), Same G H → isT x = true → RdV X.K X.mg G H n x u → tyV X.K T u H)
    (hS : ∀ (G F H : Hp) (x y z : D) (u w : V) (Q : VK), Same G F → Same F H → RdV X.K X.mg G H n x u → RdV X.K X.mg G H m y w → g x y = some z → (∀ v, Rp X.K X.mg G v z → Q v H) → r u [w] H Q)
    (hz : ∀ x y z, g x y = some z → ∃ k : Int, z = .int k)
    (ho : EX X W c true (.rd n) o fb) (ha : EX X W c true (.rd m) e fa)
    (base : attributeBase o name X.env (eval o X.env) = eval o X.env := by rfl)
    (few : ((backTo cpos (starEach [e] X.env)).all (fun x => !x.1) && (backToKw cpos (keywordEach [] X.env)).all (fun x => x.1.isSome) && decide (([e] : List Expr).length + ([] : List Keyword).length + (if ([] : List Keyword).isEmpty then 0 else 1) < 30)) = true := by rfl) (line : (apos.endLine == cpos.line) = true := by rfl)
    (star : starEach [e] X.env = (false, eval e X.env) :: starEach [] X.env := by rfl) (plain : (backTo cpos (starEach [] X.env)).any (·.1) = false := by rfl) :
    EX X W c true (.rd 0) (.Call (.Attribute o name apos) [e] [] cpos) (eRm1 isT g fb fa) := by
  obtain ⟨to, o1, o2⟩ := ho
  obtain ⟨te, e1, e2⟩ := ha
  refine ⟨_, pe_bm pa slot hty hm o1 (pa_cons e1 pa_nil star) base few line star plain, fun σ ρ G F H Q o w => ?_⟩
  refine EX.use to o2 o (Wp.ofBindM w) (fun r1 h1 u G1 F1 H1 fp1 x1 k1 q1 hp1 => ?_) fun _ z => z
  split at h1
  · rename_i ht
    refine ⟨hT G1 H1 r1.1 u k1.gh ht q1.1, ?_⟩
    refine EX.use te e2 k1.drop (Wp.nxExt x1 (Wp.ofBindM h1)) (fun r2 h2 v G2 F2 H2 fp2 x2 k2 q2 hp2 => ?_) fun _ z => z
    unfold M.ofO at h2
    split at h2
    · rename_i z hz'
      refine hS G2 F2 H2 r1.1 r2.1 z u v _ k2.gf k2.fh (q1.1.mono x2.g (hp2 rfl).2) q2.1 hz' fun y ry => ?_
      exact h2 y G2 F2 H2 [] (x1.trans x2) k2.drop ⟨ry, rfl⟩ fun _ => ⟨(hp2 rfl).1.trans (hp1 rfl).1, (hp1 rfl).2.trans (hp2 rfl).2⟩
    · exact h2.elim
  · exact h1.elim
def isL : D → Bool
  | .lst _ => true
  | _ => false
def gCnt : D → D → Option D
  | .lst ds, .int k => (intsOf ds).map fun is => .int ((is.count k : Nat) : Int)
  | _, _ => none
theorem lst_rd {K : PySem.W.Frag} {mg : Str → Option Value} {G H : Hp} {n : Nat} {ds : List D} {u : V} (gh : Same G H) (q : RdV K mg G H n (.lst ds) u) : ∃ a vs, u = .ref a ∧ H a = some (.lst vs) ∧ RpL K mg H vs ds := (q.rp gh).lst_inv
theorem ex_count {o e : Expr} {apos cpos : Pos} (ho : EX X W c true (.rd n) o fb) (ha : EX X W c true (.rd m) e fa)
    (base : attributeBase o "count" X.env (eval o X.env) = eval o X.env := by rfl)
    (few : ((backTo cpos (starEach [e] X.env)).all (fun x => !x.1) && (backToKw cpos (keywordEach [] X.env)).all (fun x => x.1.isSome) && decide (([e] : List Expr).length + ([] : List Keyword).length + (if ([] : List Keyword).isEmpty then 0 else 1) < 30)) = true := by rfl) (line : (apos.endLine == cpos.line) = true := by rfl)
    (star : starEach [e] X.env = (false, eval e X.env) :: starEach [] X.env := by rfl) (plain : (backTo cpos (starEach [] X.env)).any (·.1) = false := by rfl) :
    EX X W c true (.rd 0) (.Call (.Attribute o "count" apos) [e] [] cpos) (eRm1 isL gCnt fb fa) :=
  ex_rm1 F.plainAttrs_list F.slot_list_count F.type_list_count mt_lcount (fun G H x u gh ht q => by
    cases x <;> first | (cases ht; done) | skip
    obtain ⟨a, vs, rfl, ha, _⟩ := lst_rd gh q
    exact .inl ⟨rfl, vs, .of ha⟩)
    (fun G F H x y z u w Q gf fh q1 q2 hz fin => by
      have gh := gf.trans fh
      cases x <;> first | (cases hz; done) | skip
      cases y <;> first | (cases hz; done) | skip
      obtain ⟨is, e, rfl⟩ := Option.map_eq_some_iff.mp hz
      obtain ⟨a, vs, rfl, ha, r⟩ := lst_rd gh q1
      rw [intsOf_eq e] at r
      rw [r.ints] at ha
      have q2 := q2.rp gh
      cases q2
      exact ⟨a, is, _, rfl, rfl, .of ha, fin _ (.int _)⟩)
    (fun x y z h => by
      cases x <;> first | (cases h; done) | skip
      cases y <;> first | (cases h; done) | skip
      obtain ⟨is, _, rfl⟩ := Option.map_eq_some_iff.mp h
      exact ⟨_, rfl⟩) ho ha base few line star plain

/-! ## 31. dicts that are made -/
theorem ex_dnewK : EX X W c false (.own 1) (.Dict [] [] pos) (eC (.dct [])) :=
  ⟨_, pe_dnewK, fun σ ρ G F H Q o w a ha => w (.ref a) G F _ [a] (.refl _ _) (o.grown (Grow.own (o := .dK []) o.gf o.fh ha)) (Own.mkK (es := []) (kvs := []) upd_same rfl .nil) fun z => nomatch z⟩
theorem ex_dnewT : EX X W c false (.own 1) (.Dict [] [] pos) (eC (.dcT [])) :=
  ⟨_, pe_dnewT, fun σ ρ G F H Q o w a ha => w (.ref a) G F _ [a] (.refl _ _) (o.grown (Grow.own (o := .dT []) o.gf o.fh ha)) (Own.mkT (es := []) (kvs := []) upd_same rfl .nil) fun z => nomatch z⟩
/-- a key gets its value: in place, or behind the others -/
def dPut (kvs : List (D × D)) (k d : D) : List (D × D) := if (kvs.any fun p => keyEq p.1 k) = true then kvs.map (fun p => if keyEq p.1 k = true then (p.1, d) else p) else kvs ++ [(k, d)]
theorem put_rel {κ : Type} [DecidableEq κ] {kd : κ → D} (hk : ∀ a b, keyEq (kd a) (kd b) = decide (a = b)) {K : PySem.W.Frag} {mg : Str → Option Value} {G : Hp} (k : κ) {v : V} {d : D} (rv : Rp K mg G v d) {kvs : List (κ × V)} {ds : List (D × D)}
    (h : kvs.map (fun p => kd p.1) = ds.map (fun p => p.1)) (r : RpL K mg G (kvs.map fun p => p.2) (ds.map fun p => p.2)) :
    (putK kvs k v).map (fun p => kd p.1) = (dPut ds (kd k) d).map (fun p => p.1) ∧ RpL K mg G ((putK kvs k v).map fun p => p.2) ((dPut ds (kd k) d).map fun p => p.2) := by
  have both : ∀ {kvs : List (κ × V)} {ds : List (D × D)}, kvs.map (fun p => kd p.1) = ds.map (fun p => p.1) → RpL K mg G (kvs.map fun p => p.2) (ds.map fun p => p.2) →
      (kvs.any fun kv => decide (kv.1 = k)) = (ds.any fun p => keyEq p.1 (kd k)) ∧ (kvs.map fun kv => if kv.1 = k then (kv.1, v) else kv).map (fun p => kd p.1) = (ds.map fun p => if keyEq p.1 (kd k) = true then (p.1, d) else p).map (fun p => p.1) ∧
        RpL K mg G ((kvs.map fun kv => if kv.1 = k then (kv.1, v) else kv).map fun p => p.2) ((ds.map fun p => if keyEq p.1 (kd k) = true then (p.1, d) else p).map fun p => p.2) := by
    intro kvs
    induction kvs with
    | nil =>
      intro ds h r
      cases ds with
      | nil => exact ⟨rfl, rfl, .nil⟩
      | cons _ _ => exact nomatch h
    | cons p kvs ih =>
      intro ds h r
      cases ds with
      | nil => exact nomatch h
      | cons q ds =>
        simp only [List.cons.injEq, List.map_cons] at h
        rw [List.map_cons, List.map_cons] at r
        cases r with
        | cons r1 r2 =>
          obtain ⟨i1, i2, i3⟩ := ih h.2 r2
          have eq : keyEq q.1 (kd k) = decide (p.1 = k) := by rw [← h.1, hk]
          simp only [List.any_cons, List.map_cons, i1, i2, eq]
          by_cases z : p.1 = k
          · simp only [z, decide_true, if_true]
            exact ⟨trivial, by rw [← h.1, z], .cons rv i3⟩
          · simp only [z, decide_false, if_false, Bool.false_eq_true]
            exact ⟨trivial, by rw [h.1], .cons r1 i3⟩
  obtain ⟨i1, i2, i3⟩ := both h r
  unfold putK dPut
  rw [i1]
  split
  · exact ⟨i2, i3⟩
  · simp only [List.map_append, List.map_cons, List.map_nil]
    exact ⟨by rw [h], r.append (.cons rv .nil)⟩
def opSetD : D → D → D → Option D
  | .dct kvs, k, d => if isKeyK k = true then if kvs.length ≤ 100000 then some (.dct (dPut kvs k d)) else none else none
  | .dcT kvs, k, d => if isKeyT k = true then if kvs.length ≤ 100000 then some (.dcT (dPut kvs k d)) else none else none
  | _, _, _ => none
def rSetD : TSet := fun o k v H Q => ∃ (a : Addr) (H2 : Hp), o = .ref a ∧ DPut H a k v H2 ∧ Q H2
theorem set_dict (hr : Rm X) : PSet X rSetD := by
  rintro pins s σ H o i v ov iv u Q I ro ri rv ⟨a, H', rfl, g, q⟩
  cases (show ov = .ref a from ro)
  exact d_setItem hr.u1 I g ri rv fun s' I' => ⟨H', I', q⟩
/-- owned values without own objects -/
theorem own0L {K : PySem.W.Frag} {mg : Str → Option Value} {G H : Hp} : ∀ {ds : List D} {vs : List V} {fp : List Addr}, OwnL (Own K mg G H 0) ds vs fp → RpL K mg G vs ds ∧ fp = []
  | _, _, _, .nil => ⟨.nil, rfl⟩
  | _, _, _, .cons h r => by
    obtain ⟨r1, rfl⟩ := own0L r
    obtain ⟨h1, rfl⟩ := h
    exact ⟨.cons h1 r1, rfl⟩
theorem rpl_own0 {K : PySem.W.Frag} {mg : Str → Option Value} {G H : Hp} : ∀ {ds : List D} {vs : List V}, RpL K mg G vs ds → OwnL (Own K mg G H 0) ds vs []
  | _, _, .nil => .nil
  | _, _, .cons h r => .cons (fp := []) (fps := []) ⟨h, rfl⟩ (rpl_own0 r)
theorem small_lt {n : Nat} (h : n ≤ 100000) : n < sizeLine := by
  have : 100000 < sizeLine := by decide
  omega
theorem ps3_dct {K : PySem.W.Frag} {mg : Str → Option Value} : PS3 K mg 1 0 rSetD opSetD := by
  intro G F H x j d y u w v fp fq Q gf fh ow rj od nd hop fin
  obtain ⟨rv, rfl⟩ := od
  obtain ⟨a, rest, ps, us, rfl, rfl, ow, l⟩ := ow
  have done : ∀ {o : HO}, Own K mg G (upd H a o) 1 y (.ref a) [a] → Q (upd H a o) := fun {o} h => fin _ [a] h (fun b hb => upd_ne fun z => hb (by rw [z]; exact List.mem_cons_self)) (by simp) fun b hb => .inl (by rw [List.mem_singleton.mp hb]; exact List.mem_cons_self)
  unfold opSetD at hop
  split at hop
  · split at hop
    · split at hop
      · rename_i hk hl
        cases hop
        obtain ⟨kvs, ha, e, rfl, rfl⟩ := ow.dct
        obtain ⟨key, rfl⟩ := isKeyK_eq hk
        obtain ⟨r, rfl⟩ := own0L l
        obtain ⟨e', r'⟩ := put_rel (kd := keyD) keyK key rv e r
        have el := congrArg List.length e
        simp only [List.length_map] at el
        refine ⟨a, _, rfl, .inl ⟨kvs, key, ha, rp_key rj, small_lt (by rw [el]; exact hl), rfl⟩, done (Own.mkK upd_same e' (rpl_own0 r'))⟩
      · cases hop
    · cases hop
  · split at hop
    · split at hop
      · rename_i hk hl
        cases hop
        obtain ⟨kvs, ha, e, rfl, rfl⟩ := ow.dcT
        obtain ⟨key, rfl⟩ := isKeyT_eq hk
        obtain ⟨t, us, rfl, h3, r3⟩ := rj.tup_inv
        rw [rpl_keys r3] at h3
        obtain ⟨r, rfl⟩ := own0L l
        obtain ⟨e', r'⟩ := put_rel (kd := fun k => D.tup (k.map keyD)) keyT key rv e r
        have el := congrArg List.length e
        simp only [List.length_map] at el
        refine ⟨a, _, rfl, .inr ⟨kvs, key, t, ha, rfl, (gf.trans fh) _ _ h3, small_lt (by rw [el]; exact hl), rfl⟩, done (Own.mkT upd_same e' (rpl_own0 r'))⟩
      · cases hop
    · cases hop
  · cases hop
end
end
end PV

set_option Elab.async false
set_option linter.all false
set_option maxRecDepth 100000
set_option maxHeartbeats 0
namespace PV
noncomputable section
open PySem PySem.Spec
open PyProof.Rows L2

/-! ## 32. enumerate: of lists, and of tuples -/
/-- a tuple's items, each in a new pair with its place -/
def Itet (K : PySem.W.Frag) (a : Addr) (n : Nat) : It where
  go := fun i H => ∃ (xs : List V) (x : V), SqT K H a xs ∧ xs.length = n ∧ xs[i]? = some x
  yld := fun i H v H' => ∃ T x, v = .ref T ∧ H T = none ∧ H' = upd H T (.tup [.int (i : Nat), x]) ∧ ∀ xs, SqT K H a xs → xs[i]? = some x
  stop := fun i H => ∃ xs : List V, SqT K H a xs ∧ xs.length = n ∧ n ≤ i
theorem tup_ne_iter {h : Heap} {a it : Addr} {its : Array Value} {i : Nat} (t : h.IsTuple a its) (q : h.IsTupleIter it a i) : a ≠ it := by
  intro z
  obtain ⟨o1, e1, c1, _⟩ := t
  obtain ⟨o2, e2, c2, _⟩ := q
  rw [← z, e1] at e2
  cases e2
  rw [c1] at c2
  injection c2 with c2
  revert c2
  decide
theorem tup_ne_enum {h : Heap} {a e it : Addr} {its : Array Value} {k : Int} {old : Value} (t : h.IsTuple a its) (q : IsEnum h e it k old) : e ≠ a := by
  intro z
  obtain ⟨o1, e1, c1, _⟩ := t
  have q : h.get? e = some _ := q
  rw [z, e1] at q
  cases q
  injection c1 with c1
  revert c1
  decide
theorem turn_enumT {P : Program} {w : World} {K : PySem.W.Frag} {elts : List Expr} {kk : Nat} {tpos : Pos} (a e it : Addr) (n : Nat) :
    Turn P w K (.Tuple elts kk tpos) (Itet K a n) [e, it] e (fun i h => (∃ old, IsEnum h e it ((i : Nat) : Int) old) ∧ h.IsTupleIter it a i ∧ e ≠ it ∧ i ≤ n) where
  mem := List.mem_cons_self
  obj := by
    rintro i h ⟨⟨old, en⟩, ⟨o, at1, _, dt⟩, _, _⟩ b hb
    rw [List.mem_cons, List.mem_singleton] at hb
    rcases hb with rfl | rfl
    · exact ⟨_, en, fun v q => nomatch q⟩
    · exact ⟨o, at1, fun v q => by rw [dt] at q; exact nomatch q⟩
  keep := by
    rintro i h h' ⟨⟨old, en⟩, hit, ne, le⟩ k
    exact ⟨⟨old, k e (by simp) _ en⟩, hit.at fun o q => k it (by simp) o q, ne, le⟩
  self := fun A i s Q E st q => wpAny_pyIter_enum st.1.choose_spec q
  item := by
    rintro X rfl rfl rfl calm i pins s σ H E I own ⟨⟨old, en⟩, hit, ne, _⟩ ⟨xs, x, sq, len, at_⟩
    obtain ⟨its, rv, tp, _⟩ := I.tuple sq
    have tp : s.heap.IsTuple a its.toArray := tp
    obtain ⟨u, hu, ru⟩ := rv.get at_
    have less : i < its.toArray.size := by
      have := (List.getElem?_eq_some_iff.mp hu).1
      rw [List.size_toArray]; exact this
    have D := Draws.tuple (prog := X.prog) (w := X.w) (A := X.A.in1) (I.ok.hd calm) it a (tup_ne_iter tp hit) its.toArray
    have live_e : e < s.heap.objs.size := Heap.lt_size en
    have live_it : it < s.heap.objs.size := by obtain ⟨_, q, _⟩ := hit; exact Heap.lt_size q
    refine PySem.wpAny_pyNext_enum_itemC D en ⟨hit, tp⟩ less ne (by simp [ne, tup_ne_enum tp en]) fun y h1 tk hy out st1 made size kept => ?_
    have ey : y = u := by
      rw [List.getElem?_toArray, hu] at hy
      exact (Option.some.inj hy).symm
    subst ey
    refine ⟨_, rfl, wpAny_letOwnedTupleGo_enum (s := { s with heap := h1, toks := tk + 1 }) out fun h2 en2 but => ?_⟩
    have there : h2.get? s.heap.objs.size = some { cls := .type "tuple", data := .seq #[.int i tk, y] } := (but.2 _ (Nat.ne_of_gt live_e)).trans made
    have I2 : Inv X pins σ (upd H s.heap.objs.size (.tup [.int (i : Nat), x])) { s with heap := h2, toks := tk + 1 } := by
      refine I.turnedNew (ch := [e, it]) (fun b ob nb q => ?_) own (Nat.le_refl _) ⟨by show 2 ≤ sizeLine; decide, [.int i tk, y], .cons ⟨_, rfl⟩ (.cons ru .nil), ⟨_, there, rfl, _, rfl⟩⟩
      rw [List.mem_cons, List.mem_singleton, not_or] at nb
      exact (but.2 b nb.1).trans (kept b ob nb.1 nb.2 q)
    refine ⟨.ref s.heap.objs.size, _, I2, rfl, ⟨_, x, rfl, I.hok.fresh (Nat.le_refl _), rfl, fun ys hys => by rw [I.tuple_inj hys sq]; exact at_⟩, ⟨⟨y, ?_⟩, st1.1.at fun o q => (but.2 it (Ne.symm ne)).trans q, ne, by rw [← len]; exact (List.getElem?_eq_some_iff.mp at_).1⟩, fun b hb => ?_⟩
    · rw [show ((i + 1 : Nat) : Int) = (i : Int) + 1 by omega]
      exact en2
    · have lt : b < s.heap.objs.size := by
        rw [List.mem_cons, List.mem_singleton] at hb
        rcases hb with rfl | rfl <;> assumption
      rw [upd_ne (Nat.ne_of_lt lt)]
      exact (own b hb).1
  done := by
    rintro X rfl rfl rfl calm i pins s σ H E I own ⟨⟨old, en⟩, hit, ne, le⟩ ⟨xs, sq, len, ge⟩
    obtain ⟨its, rv, tp, _⟩ := I.tuple sq
    have tp : s.heap.IsTuple a its.toArray := tp
    have D := Draws.tuple (prog := X.prog) (w := X.w) (A := X.A.in1) (I.ok.hd calm) it a (tup_ne_iter tp hit) its.toArray
    have ei : its.toArray.size = i := by
      have same := rv.length
      rw [List.size_toArray]; omega
    obtain ⟨f0, f1, f2, f3, f4, f5⟩ := own it (by simp)
    refine wpAny_pyNext_enum_endD D en ⟨by rw [ei]; exact hit, tp⟩ fun h1 but => ⟨rfl, I.turned (t' := s.toks) (fun b o nb q => but b o nb q) f0 f1 f3 f4 f5⟩
/-- enumerate(v), v told by how its iterator begins -/
theorem meets_enum1 {v : Value} {o : Obj} {Hv : Heap → Prop} (B : Begins v o Hv) : Meets (Builtin.«enumerate.__new__» ⟨[.type "enumerate", v], []⟩) fun _ R s =>
    Hv s.heap ∧ R (.ok (.ret (.ref (s.heap.push o).objs.size))) { s with heap := (s.heap.push o).push { cls := .type "enumerate", data := .fields #[.none, .bool false, .ref s.heap.objs.size, rawInt 0, .none, .none] } } := by
  apply Meets.of_wp
  rintro prog w A R ⟨heap, gens, drawn, toks, os⟩ ⟨hv, q⟩
  have sub := sub_enumerate
  have go : ∀ {A' : Around} {E : Value → Shared → Prop} {Q : Value → Shared → Prop}, Q (.ref heap.objs.size) ⟨heap.push o, gens, drawn, toks, os⟩ → wpAny (model prog w) A' (pyIter v) Q E ⟨heap, gens, drawn, toks, os⟩ := fun k => B.iter prog w _ _ ⟨heap, gens, drawn, toks, os⟩ _ hv k
  wp_walk using go
  apply wpAny_stack_any
  intro st
  apply wpAny_pure
  split
  case' h_1 c _ _ _ _ _ => cases c == Value.type "enumerate"
  all_goals
    wp_walk using go
    exact ⟨_, rfl, q⟩
section
variable {prog : Program} {w : World} {A : Around} {s : Shared} {E : Value → Shared → Prop}
theorem call_enum1 {v : Value} {o : Obj} {Hv : Heap → Prop} {Q : Value → Shared → Prop} (B : Begins v o Hv) (hv : Hv s.heap)
    (q : ∀ h', IsEnum h' (s.heap.objs.size + 1) s.heap.objs.size 0 .none → h'.get? s.heap.objs.size = some o → (∀ b ob, s.heap.get? b = some ob → h'.get? b = some ob) → Q (.ref (s.heap.objs.size + 1)) { s with heap := h' }) :
    wpAny (model prog w) A (call (.type "enumerate") [v]) Q E s := by
  refine callType_new F.called_enumerate (by decide) (F.typeCall_enumerate_1 _) (F.newCall_enumerate_1 _) (fun obj => F.args_object_init_2 obj _) F.entry_enumerate_new (meets_enum1 B) ⟨hv, ?_⟩
  have one : (s.heap.push o).objs.size = s.heap.objs.size + 1 := Heap.size_push ..
  have en := Heap.get?_push_size (s.heap.push o) (o := { cls := .type "enumerate", data := .fields #[.none, .bool false, .ref s.heap.objs.size, rawInt 0, .none, .none] }) rfl
  rw [one] at en
  show _ ∧ _
  rw [one]
  exact ⟨⟨_, en, rfl⟩, q _ en (Heap.get?_push_of_some _ (Heap.get?_push_size _ B.free)) fun b ob z => Heap.get?_push_of_some _ (Heap.get?_push_of_some _ z)⟩
end
def iEnumT (K : PySem.W.Frag) (ta : TA) : TI := fun σ H R => ta σ H fun vs H1 => ∃ a xs, vs = [.ref a] ∧ SqT K H1 a xs ∧ R (Itet K a xs.length) H1
theorem pi_enumT {X : Cx} {e : Expr} {ta : TA} {p pos tpos : Pos} {elts : List Expr} {kk : Nat} (hg : Gl X "enumerate") (hm : X.mg "enumerate" = none) (ha : PA X [e] ta) (hs : starEach [e] X.env = [(false, eval e X.env)] := by rfl) :
    PI X (.Tuple elts kk tpos) (.Call (.Name "enumerate" p) [e] [] pos) (iEnumT X.K ta) := by
  constructor
  intro pins s σ H R I h
  refine Call_ (ld_blt I hg hm boot_enumerate (PyProof.Rows.callWith_type1 (thn (ha.run pos pins s σ H _ I h) ?_) hs rfl))
  rintro us s1 ⟨_, H1, I1, r1, a, xs, rfl, sq, q⟩
  obtain ⟨u, rfl, same⟩ := vals1 r1
  cases (show u = .ref a from same)
  obtain ⟨its, rv, tp, _⟩ := I1.tuple sq
  have tp : s1.heap.IsTuple a its.toArray := tp
  refine call_enum1 (begins_tuple a its.toArray) tp fun h' en itr kept => wpAny_pyIter_enum en ?_
  have I2 : Inv X pins σ H1 { s1 with heap := h' } := I1.kept (t' := s1.toks) kept
  refine ⟨s1.heap.objs.size + 1, [s1.heap.objs.size + 1, s1.heap.objs.size], _, _, H1, rfl, I2, turn_enumT a (s1.heap.objs.size + 1) s1.heap.objs.size xs.length, ⟨⟨.none, en⟩, ⟨_, itr, rfl, rfl⟩, Nat.succ_ne_self _, Nat.zero_le _⟩, fun b hb => ?_, q⟩
  have high : s1.heap.objs.size ≤ b := by
    rw [List.mem_cons, List.mem_singleton] at hb
    rcases hb with rfl | rfl
    · exact Nat.le_succ _
    · exact Nat.le_refl _
  exact I1.fpOk high (I1.hok.fresh high)
/-- the pairs of places and items -/
def enD : Nat → List D → List D
  | _, [] => []
  | i, d :: r => .tup [.int (i : Nat), d] :: enD (i + 1) r
theorem enD_len : ∀ (i : Nat) (ds : List D), (enD i ds).length = ds.length
  | _, [] => rfl
  | i, _ :: r => congrArg (· + 1) (enD_len (i + 1) r)
theorem enD_at : ∀ (i : Nat) (ds : List D) (j : Nat) (d : D), (enD i ds)[j]? = some d → ∃ x, ds[j]? = some x ∧ d = .tup [.int ((i + j : Nat) : Int), x]
  | _, [], _, _, h => nomatch h
  | i, x :: r, 0, d, h => ⟨x, rfl, (Option.some.inj h).symm⟩
  | i, _ :: r, j + 1, d, h => by
    obtain ⟨x, h1, h2⟩ := enD_at (i + 1) r j d h
    exact ⟨x, h1, by rw [h2, show i + 1 + j = i + (j + 1) from by omega]⟩
section
variable {K : PySem.W.Frag} {mg : Str → Option Value}
/-- a turn's pair is new and shared -/
theorem pair_grow {G0 G F H : Hp} {i : Nat} {T : Addr} {x : V} {dx : D} (gf : Same G F) (fh : Same F H) (new : H T = none) (r : Rp K mg G x dx) :
    ∃ G' F', Grow G F H G' F' (upd H T (.tup [.int (i : Nat), x])) [] ∧ Rp K mg G' (.ref T) (.tup [.int ((i : Nat) : Int), dx]) := by
  have g := Grow.sh (o := .tup [.int (i : Nat), x]) gf fh new
  exact ⟨_, _, g, .tup upd_same (.cons (.int _) (.cons (r.mono g.x.g) .nil))⟩
theorem itok_el {G0 : Hp} {a : Addr} {vs : List V} {ds : List D} (h : G0 a = some (.lst vs)) (r : RpL K mg G0 vs ds) : ItOk K mg (Ite K a) (enD 0 ds) G0 where
  stop := fun i H s hl => ⟨vs, .of (s _ _ h), by rw [r.length, ← enD_len 0 ds]; exact hl⟩
  go := fun i H s hl => by
    have hl' : i < vs.length := by rw [r.length, ← enD_len 0 ds]; exact hl
    exact ⟨vs, vs[i], .of (s _ _ h), List.getElem?_eq_getElem hl'⟩
  yld := by
    rintro i H v H' G F d ⟨T, x, rfl, new, rfl, at_⟩ s gf fh e
    obtain ⟨dx, e1, rfl⟩ := enD_at 0 ds i d e
    obtain ⟨w, e2, q⟩ := r.getD e1
    rw [at_ vs (.of (fh _ _ (gf _ _ (s _ _ h))))] at e2
    cases e2
    rw [Nat.zero_add]
    exact pair_grow (G0 := G0) gf fh new (q.mono s)
theorem itok_et {G0 : Hp} {a : Addr} {vs : List V} {ds : List D} (h : G0 a = some (.tup vs)) (r : RpL K mg G0 vs ds) : ItOk K mg (Itet K a vs.length) (enD 0 ds) G0 where
  stop := fun i H s hl => ⟨vs, .of (s _ _ h), rfl, by rw [r.length, ← enD_len 0 ds]; exact hl⟩
  go := fun i H s hl => by
    have hl' : i < vs.length := by rw [r.length, ← enD_len 0 ds]; exact hl
    exact ⟨vs, vs[i], .of (s _ _ h), rfl, List.getElem?_eq_getElem hl'⟩
  yld := by
    rintro i H v H' G F d ⟨T, x, rfl, new, rfl, at_⟩ s gf fh e
    obtain ⟨dx, e1, rfl⟩ := enD_at 0 ds i d e
    obtain ⟨w, e2, q⟩ := r.getD e1
    rw [at_ vs (.of (fh _ _ (gf _ _ (s _ _ h))))] at e2
    cases e2
    rw [Nat.zero_add]
    exact pair_grow (G0 := G0) gf fh new (q.mono s)
end
def rgEn : List D → Option (List D)
  | [x] => (itemsOf x).map (enD 0)
  | _ => none
theorem ix_enum {X : Cx} {W : WX} {c : Fc} {p : Bool} {elts : List Expr} {kk : Nat} {e : Expr} {fa : M (List D)} {pp pos tpos : Pos} (hm : X.mg "enumerate" = none) (h : AX X W c p [.val (.rd 0)] [e] fa) (hg : Gl X "enumerate" := by rfl) (hs : starEach [e] X.env = [(false, eval e X.env)] := by rfl) :
    IX X W c p (.Tuple elts kk tpos) (.Call (.Name "enumerate" pp) [e] [] pos) (iRg rgEn fa) := by
  obtain ⟨ta, h1, h2⟩ := h
  refine ⟨_, walk_or (pi_enum hg hm h1 hs) (pi_enumT hg hm h1 hs), fun σ ρ G F H Rr o w => ?_⟩
  have w := Wp.ofBindM w
  cases ef : fa ρ with
  | fail => rw [ef] at w; exact w.elim
  | exc x =>
    rw [ef] at w
    exact .inl (h2 σ ρ G F H _ o (by rw [ef]; exact w))
  | ok r =>
    rw [ef] at w
    obtain ⟨ds, ρ1⟩ := r
    have w : Wp (M.ofO (rgEn ds) ρ1) _ _ := w
    cases ds with
    | nil => exact w.elim
    | cons d r =>
      cases r with
      | cons _ _ => exact w.elim
      | nil =>
        cases d with
        | tup ds =>
          refine .inr (h2 σ ρ G F H _ o ?_)
          rw [ef]
          intro vs G1 F1 H1 x1 o1 q1 hp
          obtain ⟨d', v, fp, e1, rfl, q⟩ := valL1 q1
          cases e1
          have q : Rp X.K X.mg G1 v (.tup ds) := q.1
          obtain ⟨a, vs, rfl, ha, rr⟩ := q.tup_inv
          exact ⟨a, vs, rfl, .of (o1.gh _ _ ha), w _ G1 F1 H1 x1 o1 (itok_et ha rr) hp⟩
        | lst ds =>
          refine .inl (h2 σ ρ G F H _ o ?_)
          rw [ef]
          intro vs G1 F1 H1 x1 o1 q1 hp
          obtain ⟨d', v, fp, e1, rfl, q⟩ := valL1 q1
          cases e1
          have q : Rp X.K X.mg G1 v (.lst ds) := q.1
          obtain ⟨a, vs, rfl, ha, rr⟩ := q.lst_inv
          exact ⟨a, vs, rfl, .of (o1.gh _ _ ha), w _ G1 F1 H1 x1 o1 (itok_el ha rr) hp⟩
        | _ => exact w.elim
end
end PV

set_option Elab.async false
set_option linter.all false
set_option maxRecDepth 100000
set_option maxHeartbeats 0
namespace PV
noncomputable section
open PySem PySem.Spec
open PyProof.Rows L2

/-! ## 33. dict comprehensions: keys flat, values shared -/
def dcN (vs : List Nat) (g : D → PV.Env → Option PV.Env) (t : M Bool) (fk fv : M D) (ds : List D) : List (D × D) → PV.Env → R (List (D × D) × PV.Env) :=
  List.rec (motive := fun _ => List (D × D) → PV.Env → R (List (D × D) × PV.Env)) (fun acc ρ => .ok (acc, ρ)) (fun d _ ih acc ρ => match g d (wipeG ρ vs) with
    | none => .fail
    | some ρ1 => match t ρ1 with
      | .ok (true, ρ2) => match fk ρ2 with
        | .ok (k, ρ3) => match fv ρ3 with
          | .ok (v, ρ4) => if isKeyK k = true then ih (dPut acc k v) ρ4 else .fail
          | _ => .fail
        | _ => .fail
      | .ok (false, ρ2) => ih acc ρ2
      | _ => .fail) ds
theorem dcN_cons (vs : List Nat) (g : D → PV.Env → Option PV.Env) (t : M Bool) (fk fv : M D) (d : D) (r : List D) (acc : List (D × D)) (ρ : PV.Env) : dcN vs g t fk fv (d :: r) acc ρ = match g d (wipeG ρ vs) with
    | none => .fail
    | some ρ1 => match t ρ1 with
      | .ok (true, ρ2) => match fk ρ2 with
        | .ok (k, ρ3) => match fv ρ3 with
          | .ok (v, ρ4) => if isKeyK k = true then dcN vs g t fk fv r (dPut acc k v) ρ4 else .fail
          | _ => .fail
        | _ => .fail
      | .ok (false, ρ2) => dcN vs g t fk fv r acc ρ2
      | _ => .fail := rfl
def eDc (vs : List Nat) (fi : M (List D)) (g : D → PV.Env → Option PV.Env) (t : M Bool) (fk fv : M D) : M D := fi.bind fun ds ρ => if ds.length ≤ 100000 then match dcN vs g t fk fv ds [] ρ with
    | .ok (kvs, ρ2) => .ok (.dct kvs, restE ρ vs ρ2)
    | _ => .fail
  else .fail
theorem dPut_len (kvs : List (D × D)) (k d : D) : (dPut kvs k d).length ≤ kvs.length + 1 := by
  unfold dPut
  split
  · rw [List.length_map]; omega
  · simp only [List.length_append, List.length_singleton, Nat.le_refl]
/-- what stands while the new dict grows -/
structure DcS (K : PySem.W.Frag) (mg : Str → Option Value) (c : Fc) (P : Bool) (D0 : Addr) (G1 F1 H1 : Hp) (σ : L2.St) (ρ : PV.Env) (acc : List (D × D)) (H : Hp) : Prop where
  ex : ∃ G F kvs, Ext G1 F1 G F ∧ Ok K mg c [D0] G F H σ ρ ∧ H D0 = some (.dK kvs) ∧ kvs.map (fun p => keyD p.1) = acc.map (fun p => p.1) ∧ RpL K mg G (kvs.map fun p => p.2) (acc.map fun p => p.2) ∧ (P = true → Same H1 H)
section
variable {K : PySem.W.Frag} {mg : Str → Option Value} {c : Fc} {P : Bool} {D0 : Addr} {G1 F1 H1 H : Hp} {σ : L2.St} {ρ : PV.Env} {acc : List (D × D)}
theorem DcS.start (o : Ok K mg c [] G1 F1 H1 σ ρ) (h : H1 D0 = none) {vs : List Nat} (hv : ownVs c vs = true) : DcS K mg c P D0 G1 F1 H1 (wipe σ vs) (wipeG ρ vs) [] (upd H1 D0 (.dK [])) :=
  ⟨G1, F1, [], .refl _ _, (o.grown (Grow.own o.gf o.fh h)).wiped hv, upd_same, rfl, .nil, fun _ => same_upd h⟩
theorem DcS.wiped (s : DcS K mg c P D0 G1 F1 H1 σ ρ acc H) {vs : List Nat} (hv : ownVs c vs = true) : DcS K mg c P D0 G1 F1 H1 (wipe σ vs) (wipeG ρ vs) acc H := by
  obtain ⟨G, F, kvs, x1, o, at_, ks, r, hp⟩ := s.ex
  exact ⟨G, F, kvs, x1, o.wiped hv, at_, ks, r, hp⟩
/-- for the part that runs meanwhile: the dict is kept -/
theorem DcS.pin (s : DcS K mg c P D0 G1 F1 H1 σ ρ acc H) : ∃ G F, Same G1 G ∧ Ok K mg c [] G F H σ ρ ∧ ∀ {G' F' H' : Hp} {σ' : L2.St} {ρ' : PV.Env}, Ext G F G' F' → Ok K mg c [] G' F' H' σ' ρ' → (P = true → Same H H') →
    DcS K mg c P D0 G1 F1 H1 σ' ρ' acc H' ∧ ∀ {key : Key} {d : D} {v : V}, Rp K mg G' v d → H1 D0 = none → acc.length ≤ 100000 →
      ∃ kvs, H' D0 = some (.dK kvs) ∧ kvs.length < sizeLine ∧ DcS K mg c P D0 G1 F1 H1 σ' ρ' (dPut acc (keyD key) d) (upd H' D0 (.dK (putK kvs key v))) := by
  obtain ⟨G, F, kvs, x1, o, at_, ks, r, hp⟩ := s.ex
  have o0 : Ok K mg c ([D0] ++ []) G F H σ ρ := o
  obtain ⟨o1, xp⟩ := o0.pin
  obtain ⟨fps, _, _, _, _, _, nd, hT, _⟩ := o.slt
  have hF : ∀ a ∈ [D0], F a = none := hT
  refine ⟨G, join F H [D0], x1.g, o1, fun {G' F' H' σ' ρ'} x2 o2 hs => ?_⟩
  have inF : ∀ a ∈ [D0], F' a = some (.dK kvs) := fun a ha => by
    have e : a = D0 := List.mem_singleton.mp ha
    exact x2.f a _ (by unfold join; rw [if_pos ha, e]; exact at_)
  have live : ∀ a ∈ [D0], F' a ≠ none := fun a ha => by rw [inF a ha]; exact fun z => nomatch z
  have gn : ∀ a ∈ [D0], G' a = none := fun a ha => x2.n a (o.gf.free (hF a ha)) (by unfold join; rw [if_pos ha, List.mem_singleton.mp ha, at_]; exact fun z => nomatch z)
  have o3 := o2.unpin (fp := [D0]) gn (fun a ha => o.bf.free (hF a ha)) live nd
  rw [List.append_nil] at o3
  have x3 : Ext G F G' (less F' [D0]) := Ext.unpin hF xp.f x2
  have at' : H' D0 = some (.dK kvs) := o2.fh D0 _ (inF D0 (by simp))
  have grown : P = true → Same H1 H' := fun hP => (hp hP).trans (hs hP)
  refine ⟨⟨G', less F' [D0], kvs, x1.trans x3, o3, at', ks, r.mono x2.g, grown⟩, fun {key d v} rv fresh le => ?_⟩
  obtain ⟨ks', r'⟩ := put_rel (kd := keyD) keyK key rv ks (r.mono x2.g)
  have len := congrArg List.length ks
  simp only [List.length_map] at len
  exact ⟨kvs, at', small_lt (by rw [len]; exact le), G', less F' [D0], _, x1.trans x3, o3.reheap fun a ha => upd_ne fun z => ha (by rw [z]; simp), upd_same, ks', r', fun hP => same_off (grown hP) fresh⟩
end
section
variable {X : Cx} {W : WX} {c : Fc} {p q r1 r2 : Bool}
theorem ex_dc (ok : Cok X W) (hN : X.N.Nodup) {kx vx tg iter : Expr} {ifs : List Expr} {scope : Scope} {own : List (Str × Nat)} {is : List Nat} {pos : Pos} {fi : M (List D)} {g : D → PV.Env → Option PV.Env} {ft : M Bool} {fk fv : M D}
    (hi : IX X W c p tg iter fi) (bo : BlkOk X.N X.env.scope scope own) (hv : ownVs c (own.map (·.2)) = true) (his : ∀ i ∈ is, i ∈ own.map (·.2))
    (hg : ∀ (s : Shared) (H : Hp) (C : Addr) (cl : List (Str × Addr)) (fp : List Addr), GX (X.blk s H scope (compEnvC scope cl C X.env) fp) c tg is g)
    (ht : ∀ (s : Shared) (H : Hp) (C : Addr) (cl : List (Str × Addr)) (fp : List Addr), TXs (X.blk s H scope (compEnvC scope cl C X.env) fp) c q ifs ft)
    (hk : ∀ (s : Shared) (H : Hp) (C : Addr) (cl : List (Str × Addr)) (fp : List Addr), EX (X.blk s H scope (compEnvC scope cl C X.env) fp) W0 c r1 (.rd 0) kx fk)
    (he : ∀ (s : Shared) (H : Hp) (C : Addr) (cl : List (Str × Addr)) (fp : List Addr), EX (X.blk s H scope (compEnvC scope cl C X.env) fp) W0 c r2 (.rd 0) vx fv)
    (hs : ∀ x, foldedSetIterable iter X.env x = pure x := by intro _; rfl) : EX X W c (p && (q && (r1 && r2))) (.own 1) (.DictComp kx vx [⟨tg, iter, ifs, 0⟩] scope pos) (eDc (own.map (·.2)) fi g ft fk fv) := by
  obtain ⟨wi, i1, i2⟩ := hi
  have gw : ∀ (d : D) (ρ ρ' : PV.Env), g d ρ = some ρ' → ∀ vs : List Nat, (∀ i ∈ is, i ∈ vs) → wipeG ρ' vs = wipeG ρ vs := (hg X.s_0 (fun _ => none) 0 [] []).1
  have ig : ∀ (s : Shared) (H : Hp) (C : Addr) (cl : List (Str × Addr)) (fp : List Addr), PG (X.blk s H scope (compEnvC scope cl C X.env) fp) tg (canG X.K X.mg c is g) := fun s H C cl fp => (hg s H C cl fp).can
  have jt : ∀ (s : Shared) (H : Hp) (C : Addr) (cl : List (Str × Addr)) (fp : List Addr), PTs (X.blk s H scope (compEnvC scope cl C X.env) fp) ifs (canT X.K X.mg c q ft) := ht
  have ik : ∀ (s : Shared) (H : Hp) (C : Addr) (cl : List (Str × Addr)) (fp : List Addr), PE (X.blk s H scope (compEnvC scope cl C X.env) fp) kx (canE X.K X.mg c r1 (.rd 0) fk) := fun s H C cl fp => (hk s H C cl fp).can
  have iv : ∀ (s : Shared) (H : Hp) (C : Addr) (cl : List (Str × Addr)) (fp : List Addr), PE (X.blk s H scope (compEnvC scope cl C X.env) fp) vx (canE X.K X.mg c r2 (.rd 0) fv) := fun s H C cl fp => (he s H C cl fp).can
  refine ⟨_, pe_dc ok.calm hN i1 bo ig jt ik iv hs, fun σ ρ G F H Q o w => ?_⟩
  clear ig jt ik iv hg ht hk he
  generalize own.map (·.2) = vs at *
  refine i2 σ ρ G F H _ o ((Wp.ofBindM w).imp (fun rr hr => ?_) fun _ z => z)
  intro J G1 F1 H1 x1 o1 it hp1 D0 hD
  obtain ⟨ds, ρ1⟩ := rr
  dsimp only at hr
  split at hr
  case isFalse => exact hr.elim
  rename_i hlen
  have hr' : ∃ kvs ρ2, dcN vs g ft fk fv ds [] ρ1 = .ok (kvs, ρ2) ∧ EPost X c (p && (q && (r1 && r2))) (.own 1) σ ρ G F H Q (.dct kvs, restE ρ1 vs ρ2) := by
    split at hr
    · rename_i kvs ρ2 e
      exact ⟨kvs, ρ2, e, hr⟩
    · exact hr.elim
  obtain ⟨kvs, ρ2, eN, fin⟩ := hr'
  -- what holds ahead of turn i
  let Pure : Bool := p && (q && (r1 && r2))
  let Ahead : Nat → Hp → Prop := fun i H' => ∃ ρ' acc, DcS X.K X.mg c Pure D0 G1 F1 H1 (wipe σ vs) (wipeG ρ' vs) acc H' ∧ acc.length ≤ i ∧ (Pure = true → wipeG ρ' vs = wipeG ρ1 vs) ∧ dcN vs g ft fk fv (ds.drop i) acc ρ' = .ok (kvs, ρ2)
  refine ⟨fun i n H' => i + n = ds.length ∧ Ahead i H', ⟨ds.length, Nat.zero_add _, ρ1, [], DcS.start o1 hD hv, Nat.le_refl _, fun _ => rfl, eN⟩, ?_⟩
  rintro i n H2 ⟨en, ρ', acc, st, la, pw, eT⟩
  have parts : Pure = true → p = true ∧ q = true ∧ r1 = true ∧ r2 = true := fun h => by
    have h : (p && (q && (r1 && r2))) = true := h
    rwa [Bool.and_eq_true, Bool.and_eq_true, Bool.and_eq_true] at h
  rcases Nat.lt_or_ge i ds.length with hi | hi
  · obtain ⟨G2, F2, sg, o2, back⟩ := st.pin
    rw [List.drop_eq_getElem_cons hi, dcN_cons] at eT
    refine .inr ⟨it.go i H2 (sg.trans o2.gh) hi, fun H3 => i + 1 + (n - 1) = ds.length ∧ Ahead (i + 1) H3, fun H3 k => ⟨n - 1, by omega, k⟩, fun x H3 y => ?_⟩
    obtain ⟨G3, F3, gr, rp⟩ := it.yld i H2 x H3 G2 F2 _ y sg o2.gf o2.fh (List.getElem?_eq_getElem hi)
    have o3 := o2.grown gr
    split at eT
    · cases eT
    rename_i ρa ea
    refine ⟨wipeG ρ' vs, ρa, G3, F3, _, o3, rp, ea, fun σ4 o4 hl4 w4 => ?_⟩
    have w5 : wipe σ4 vs = wipe σ vs := (w4 vs his).trans (by rw [wipe_eq, wipe_eq]; exact wipeG_sub fun i hi => hi)
    have wa : wipeG ρa vs = wipeG ρ' vs := (gw _ _ _ ea vs his).trans (wipeG_sub fun i hi => hi)
    refine ⟨w5, ρa, G3, F3, o4, ?_⟩
    split at eT
    · rename_i ρb eb
      rw [eb]
      intro G5 F5 H5 x5 o5 hp5
      show if true = true then _ else _
      rw [if_pos rfl]
      refine ⟨ρb, G5, F5, o5, ?_⟩
      split at eT
      · rename_i k ρc ec
        rw [ec]
        intro ku G6 F6 H6 f6 x6 o6 q6 hp6
        refine ⟨ρc, G6, F6, o6.drop, ?_⟩
        split at eT
        · rename_i d ρd ed
          rw [ed]
          intro vu G7 F7 H7 f7 x7 o7 q7 hp7
          split at eT
          · rename_i isK
            obtain ⟨key, rfl⟩ := isKeyK_eq isK
            have x67 := x5.trans (x6.trans x7)
            have quiet : Pure = true → Same H2 H7 := fun hP => ((gr.hh.trans (hp5 (parts hP).2.1).2).trans (hp6 (parts hP).2.2.1).2).trans (hp7 (parts hP).2.2.2).2
            obtain ⟨kvs', at7, few, st'⟩ := (back (gr.x.trans x67) o7.drop quiet).2 (key := key) q7.1 hD (by omega)
            have kq : Rp X.K X.mg G6 ku (keyD key) := q6.1
            refine ⟨kvs', key, rp_key kq, at7, few, by omega, ρd, _, ?_, ?_, fun hP => ?_, eT⟩
            · rw [← w5]; exact st'.wiped hv
            · have := dPut_len acc (keyD key) d
              omega
            · have c7 : ρd = ρc := (hp7 (parts hP).2.2.2).1
              have c6 : ρc = ρb := (hp6 (parts hP).2.2.1).1
              have c5 : ρb = ρa := (hp5 (parts hP).2.1).1
              rw [c7, c6, c5, wa]
              exact pw hP
          · cases eT
        · cases eT
      · cases eT
    · rename_i ρb eb
      rw [eb]
      intro G5 F5 H5 x5 o5 hp5
      show if false = true then _ else _
      rw [if_neg (by simp : ¬ false = true)]
      have st' := (back (gr.x.trans x5) o5 fun hP => gr.hh.trans (hp5 (parts hP).2.1).2).1
      refine ⟨by omega, ρb, acc, ?_, by omega, fun hP => ?_, eT⟩
      · rw [← w5]; exact st'.wiped hv
      · have c5 : ρb = ρa := (hp5 (parts hP).2.1).1
        rw [c5, wa]
        exact pw hP
    · cases eT
  · rw [List.drop_eq_nil_of_le hi] at eT
    cases eT
    obtain ⟨G2, F2, kvs', x2, o2, at2, ks, r, h2⟩ := st.ex
    refine .inl ⟨it.stop i H2 (x2.g.trans o2.gh) hi, fin (.ref D0) G2 F2 H2 [D0] (x1.trans x2) (o1.rest x2 o2 hv) (Own.mkK at2 ks (rpl_own0 r)) fun hP => ?_⟩
    refine ⟨?_, (hp1 (parts hP).1).2.trans (h2 hP)⟩
    rw [restE_wipe (pw hP)]
    exact (hp1 (parts hP).1).1
end
/-! what the new mirrors keep -/
section
variable {i : Nat}
theorem fr_eRm1 {isT : D → Bool} {g : D → D → Option D} {a b : M D} (h : Fr i a) (k : Fr i b) : Fr i (eRm1 isT g a b) := fr_bind h fun _ => fr_ite (fr_bind k fun _ => fr_ofO) fr_fail
theorem fr_dcN {vs : List Nat} {g : D → PV.Env → Option PV.Env} {t : M Bool} {fk fv : M D} (hv : i ∉ vs) (hg : FrG i g) (ht : Fr i t) (hk : Fr i fk) (hf : Fr i fv) : ∀ (ds : List D) (acc : List (D × D)), Fr i (dcN vs g t fk fv ds acc)
  | [], acc => ⟨fun ρ ρ' a ρ1 l e => by cases e; exact ⟨ρ', rfl, l⟩, fun ρ a ρ1 e => by cases e; rfl⟩
  | d :: r, acc => by
    constructor
    · intro ρ ρ' a ρ1 l e
      rw [dcN_cons] at e ⊢
      split at e
      · cases e
      rename_i ρa ea
      obtain ⟨ρa', ea', la⟩ := hg.mo _ _ _ _ (l.wipe vs) ea
      rw [ea']
      dsimp only
      split at e
      · rename_i ρb eb
        obtain ⟨ρb', eb', lb⟩ := ht.mo _ _ _ _ la eb
        rw [eb']
        dsimp only
        split at e
        · rename_i k ρc ec
          obtain ⟨ρc', ec', lc⟩ := hk.mo _ _ _ _ lb ec
          rw [ec']
          dsimp only
          split at e
          · rename_i v ρd ed
            obtain ⟨ρd', ed', ld⟩ := hf.mo _ _ _ _ lc ed
            rw [ed']
            dsimp only
            split at e
            · rename_i isK
              rw [if_pos isK]
              exact (fr_dcN hv hg ht hk hf r _).mo _ _ _ _ ld e
            · cases e
          · cases e
        · cases e
      · rename_i ρb eb
        obtain ⟨ρb', eb', lb⟩ := ht.mo _ _ _ _ la eb
        rw [eb']
        exact (fr_dcN hv hg ht hk hf r _).mo _ _ _ _ lb e
      · cases e
    · intro ρ a ρ1 e
      rw [dcN_cons] at e
      split at e
      · cases e
      rename_i ρa ea
      have k1 := hg.kp _ _ _ ea
      rw [look_wipe, if_neg hv] at k1
      split at e
      · rename_i ρb eb
        have k2 := ht.kp _ _ _ eb
        split at e
        · rename_i k ρc ec
          have k3 := hk.kp _ _ _ ec
          split at e
          · rename_i v ρd ed
            have k4 := hf.kp _ _ _ ed
            split at e
            · exact ((fr_dcN hv hg ht hk hf r _).kp _ _ _ e).trans (k4.trans (k3.trans (k2.trans k1)))
            · cases e
          · cases e
        · cases e
      · rename_i ρb eb
        exact ((fr_dcN hv hg ht hk hf r _).kp _ _ _ e).trans ((ht.kp _ _ _ eb).trans k1)
      · cases e
theorem fr_eDc {vs : List Nat} {fi : M (List D)} {g : D → PV.Env → Option PV.Env} {t : M Bool} {fk fv : M D} (hi : Fr i fi) (hg : FrG i g) (ht : Fr i t) (hk : Fr i fk) (hf : Fr i fv) (hv : i ∉ vs := by decide) : Fr i (eDc vs fi g t fk fv) := by
  refine fr_bind hi fun ds => ?_
  have hn := fr_dcN hv hg ht hk hf ds []
  constructor
  · intro ρ ρ' a ρ1 l e
    split at e
    · rename_i hl
      simp only [hl, if_true]
      split at e
      · rename_i ys ρ2 e2
        cases e
        obtain ⟨ρ2', e2', l2⟩ := hn.mo _ _ _ _ l e2
        rw [e2']
        exact ⟨_, rfl, Le.rest l l2 vs⟩
      · cases e
    · cases e
  · intro ρ a ρ1 e
    split at e
    · split at e
      · rename_i ys ρ2 e2
        cases e
        rw [look_rest hv]
        exact hn.kp _ _ _ e2
      · cases e
    · cases e
end
end
end PV

set_option Elab.async false
set_option linter.all false
set_option maxRecDepth 100000
set_option maxHeartbeats 0
namespace PV
noncomputable section
open PySem PySem.Spec
open PyProof.Rows L2

/-! ## 34. instances: attributes -/
section
variable {K : PySem.W.Frag} {mg : Str → Option Value} {H : Hp}
theorem Rp.obj_inv {v : V} {c : Str} {ds : List (Str × D)} (h : Rp K mg H v (.obj c ds)) : ∃ a C dx us, v = .ref a ∧ H a = some (.ins C dx us) ∧ mg c = some (.ref C) ∧ us.map (fun p => p.1) = ds.map (fun p => p.1) ∧ RpL K mg H (us.map fun p => p.2) (ds.map fun p => p.2) := by
  cases h with
  | obj h1 h2 h3 h4 => exact ⟨_, _, _, _, rfl, h1, h2, h3, h4⟩
/-- attributes by name, both ways -/
theorem attr_rel (f : Str) : ∀ {us : List (Str × V)} {ds : List (Str × D)}, us.map (fun p => p.1) = ds.map (fun p => p.1) → RpL K mg H (us.map fun p => p.2) (ds.map fun p => p.2) →
    (us.lookup f = none ∧ ds.lookup f = none) ∨ ∃ v d, us.lookup f = some v ∧ ds.lookup f = some d ∧ Rp K mg H v d
  | [], [], _, _ => .inl ⟨rfl, rfl⟩
  | [], _ :: _, e, _ => nomatch e
  | _ :: _, [], e, _ => nomatch e
  | (x, v) :: us, (y, d) :: ds, e, r => by
    simp only [List.cons.injEq, List.map_cons] at e
    obtain ⟨rfl, e⟩ := e
    cases r with
    | cons r1 r2 =>
      rw [List.lookup_cons, List.lookup_cons]
      cases f == x with
      | true => exact .inr ⟨v, d, rfl, rfl, r1⟩
      | false => exact attr_rel f e r2
/-- an attribute gets its value: in place, or behind the others -/
def putA (f : Str) (d : D) : List (Str × D) → List (Str × D)
  | [] => [(f, d)]
  | (g, e) :: r => if g = f then (g, d) :: r else (g, e) :: putA f d r
end
def gFld (c f : Str) : D → Option D
  | .obj c' fs => if c' = c then fs.lookup f else none
  | _ => none
/-- what the text says of a class -/
structure ClsF (K : PySem.W.Frag) (mg : Str → Option Value) (c : Str) (C : Addr) : Prop where
  gl : mg c = some (.ref C)
  cls : Cls K C
section
variable {X : Cx} {W : WX} {c : Fc} {p : Bool} {n : Nat} {pos : Pos}
theorem ex_fld {k f : Str} {C : Addr} {e : Expr} {fa : M D} (T : ClsF X.K X.mg k C) (no : NoAttr X.K C f) (ha : EX X W c p (.rd 0) e fa) (hb : attributeBase e f X.env (eval e X.env) = eval e X.env := by rfl) : EX X W c p (.rd 0) (.Attribute e f pos) (e1 (gFld k f) fa) := by
  refine ex_1 (r := fun x H1 Q => ∃ a C dx fs v, x = .ref a ∧ H1 a = some (.ins C dx fs) ∧ Cls X.K C ∧ NoAttr X.K C f ∧ fs.lookup f = some v ∧ Q v H1) (fun h => pe_fld h hb) (fun G F H d v z Q gf fh q hz fin => ?_) ha wrd
  have q : Rp X.K X.mg G v d := q.1
  cases d <;> first | (cases hz; done) | skip
  have hz : (if _ then _ else _) = some z := hz
  split at hz
  · rename_i ec
    obtain ⟨a, C', dx, us, rfl, h1, h2, h3, h4⟩ := q.obj_inv
    rw [ec, T.gl] at h2
    cases h2
    rcases attr_rel f h3 h4 with ⟨_, e⟩ | ⟨v, d, e1, e2, r⟩
    · rw [e] at hz; cases hz
    · rw [e2] at hz
      cases hz
      exact ⟨a, C, dx, us, v, rfl, (gf.trans fh) _ _ h1, T.cls, no, e1, fin v G F H [] (.refl gf fh) ⟨r, rfl⟩⟩
  · cases hz
end
/-! ### an attribute is set: the slot's own instance -/
def sFldS (i : Nat) (k f : Str) (fe : M D) : SM := sDo fe fun d ρ => match look ρ i with
  | some (.obj c fs) => if c = k ∧ fs.length < 900 then .nx (put ρ i (some (.obj c (putA f d fs)))) else .fail
  | _ => .fail
theorem sFldS_def (i : Nat) (k f : Str) (fe : M D) : sFldS i k f fe = sDo fe fun d ρ => match look ρ i with
  | some (.obj c fs) => if c = k ∧ fs.length < 900 then .nx (ρ.set i (some (.obj c (putA f d fs)))) else .fail
  | _ => .fail := by
  unfold sFldS
  simp only [put_eq]
section
variable {K : PySem.W.Frag} {mg : Str → Option Value} {H : Hp}
theorem putA_rel (f : Str) {v : V} {d : D} (rv : Rp K mg H v d) : ∀ {us : List (Str × V)} {ds : List (Str × D)}, us.map (fun p => p.1) = ds.map (fun p => p.1) → RpL K mg H (us.map fun p => p.2) (ds.map fun p => p.2) →
    (putF f v us).map (fun p => p.1) = (putA f d ds).map (fun p => p.1) ∧ RpL K mg H ((putF f v us).map fun p => p.2) ((putA f d ds).map fun p => p.2)
  | [], [], _, _ => ⟨rfl, .cons rv .nil⟩
  | [], _ :: _, e, _ => nomatch e
  | _ :: _, [], e, _ => nomatch e
  | (x, u) :: us, (y, e0) :: ds, e, r => by
    simp only [List.cons.injEq, List.map_cons] at e
    obtain ⟨rfl, e⟩ := e
    cases r with
    | cons r1 r2 =>
      simp only [putF, putA]
      by_cases z : x = f
      · rw [if_pos z, if_pos z]
        exact ⟨by simp only [List.map_cons, e], .cons rv r2⟩
      · rw [if_neg z, if_neg z]
        obtain ⟨i1, i2⟩ := putA_rel f rv e r2
        exact ⟨by simp only [List.map_cons, i1], .cons r1 i2⟩
end
section
variable {X : Cx} {W : WX} {c : Fc} {p : Bool} {n rk : Nat} {pos : Pos}
theorem sx_fld (i : Nat) {k f x : Str} {C : Addr} {e : Expr} {fe : M D} {px pos' : Pos} (T : ClsF X.K X.mg k C) (no : NoAttr X.K C f) (he : EX X W c p (.rd 0) e fe) (hk : c.kd i = .own 1 := by rfl)
    (hN : X.N[i]? = some x := by rfl) (hvis : Vis X.env.scope x := by first | exact Or.inl rfl | exact Or.inr (Or.inl rfl) | exact Or.inr (Or.inr rfl)) (hd : (x == ("__debug__" : Str)) = false := by decide) (hcd : (x == ("__classdict__" : Str)) = false := by decide)
    (hs : swapsWith e (some (.Attribute (.Name x px) f pos')) pos.line X.env = pure false := by rfl) : SX X W c rk (.Assign [.Attribute (.Name x px) f pos'] e pos) (sFldS i k f fe) := by
  rw [sFldS_def]
  obtain ⟨te, e1, e2⟩ := he
  refine ⟨_, ps_fld (pe_var hN hvis hd hcd) e1 hs, fun D σ ρ G F H o w => ?_⟩
  refine EX.use te e2 o (WpS.ofDo w) (fun r hr v G1 F1 H1 fq x1 o1 qv hp => ?_) fun _ z => Nx.toS z
  have qv : Rp X.K X.mg G1 v r.1 := qv.1
  split at hr
  · rename_i k' fs e3
    split at hr
    · rename_i hkl
      obtain ⟨rfl, hlen⟩ := hkl
      obtain ⟨u, fp, es, ow, nd, hF, dj, nq, go⟩ := o1.mut e3 hk
      obtain ⟨a, rest, ds, vs, rfl, rfl, ct, l⟩ := ow
      obtain ⟨C', dx, us, ha, g, ks, rfl, rfl⟩ := ct.obj
      rw [T.gl] at g
      cases g
      obtain ⟨r0, rfl⟩ := own0L l
      obtain ⟨ks', r'⟩ := putA_rel f qv ks r0
      have len := congrArg List.length ks
      simp only [List.length_map] at len
      refine ⟨.ref a, es, a, C, dx, us, rfl, ha, T.cls, no, by omega, ?_⟩
      exact hr σ G1 F1 _ x1 (go _ _ [a] [] (Own.mkO upd_same T.gl ks' (rpl_own0 r')) (fun b hb => upd_ne fun z => hb (by rw [z]; exact List.mem_cons_self)) (by simp) fun b hb => .inl (by simpa using hb)) rfl
    · exact hr.elim
  · exact hr.elim

/-! ### a new instance: its __init__ fills it -/
def eMake (k : Str) (mI : List D → R (D × List D)) (dflt : List D) (fa : M (List D)) : M D := fa.bind fun ds ρ => match mI (.obj k [] :: (ds ++ dflt)) with
  | .ok (.non, [y]) => .ok (y, ρ)
  | .ok _ => .fail
  | .exc x => .exc x
  | .fail => .fail
/-- exceptions that are taken whatever the slots are -/
def Free (W : WX) (E : XK) : Prop := W = fun cls d _ H => E cls d H
theorem passFree {E : XK} (hW : Free W E) (ok : Cok X W) : Passes (L2.CX X.prog X.w) X E := fun pins σ H s e s' I c => passAt ok.tk σ pins H s e s' I (by subst hW; exact c)
theorem fitA_vals {K : PySem.W.Frag} {mg : Str → Option Value} {G H : Hp} {σ : L2.St} : ∀ {ps : List Pm} {ms : List Am} {ds : List D} {vs : List V}, allShP ps = true → fitA ps ms = true → ValL K mg G H σ ms ds vs → RpL K mg G vs ds ∧ ds.length = ps.length
  | [], [], _, _, _, _, .nil => ⟨.nil, rfl⟩
  | .sh :: ps, .val (.rd 0) :: ms, _, _, a, e, .val h r => by
    obtain ⟨r1, r2⟩ := fitA_vals (ps := ps) (ms := ms) a e r
    exact ⟨.cons h.1 r1, congrArg (· + 1) r2⟩
theorem argl_sh {K : PySem.W.Frag} {mg : Str → Option Value} {G F H : Hp} : ∀ {ps : List Pm} {ds : List D} {vs : List V}, allShP ps = true → ds.length = ps.length → RpL K mg G vs ds → ArgL K mg G F H ps ds vs []
  | [], [], _, _, _, .nil => .nil
  | .sh :: ps, _ :: _, _, h, l, .cons r rs => .sh r (argl_sh (ps := ps) h (Nat.succ.inj l) rs)
theorem out1 {K : PySem.W.Frag} {mg : Str → Option Value} {G H : Hp} {ps : List Pm} {vs : List V} {os : List D} {fo : List Addr} (h : allShP ps = true) (q : OutL K mg G H ps vs os fo) : os = [] ∧ fo = [] := by
  induction q with
  | nil => exact ⟨rfl, rfl⟩
  | sh r ih => exact ih h
  | rd r ih => cases h
  | io q r ih => cases h
theorem ex_make {k : Str} {E : XK} {C f : Addr} {fd : FuncData} {pn : List Str} {j : Nat} {ps qs : List Pm} {mI : List D → R (D × List D)} {dflt : List D} {dvs : List V} {dus : List Value} {ms : List Am} {pp : Pos} {e : Expr} {es : List Expr} {fa : M (List D)} (hW : Free W E) (ok : Cok X W) (T : ClsF X.K X.mg k C) (M : Mk X.K C f)
    (F : FnOk X.prog X.w X.K X.mg X.base (L2.CX X.prog X.w) j f fd pn (spM X.K X.mg (.io 1 :: (ps ++ qs)) 0 mI)) (hr : Room (j + 1) X.A) (hb : Binds X.K fd pn dus) (hd : Vals dvs dus) (hdf : ∀ G, RpL X.K X.mg G dvs dflt) (ha : AX X W c p ms (e :: es) fa)
    (hfit : fitA ps ms = true := by rfl) (hsh : allShP ps = true := by rfl) (hsq : allShP qs = true := by rfl) (hq : dflt.length = qs.length := by rfl) (hg : Gl X k := by rfl) (hdb : (k == ("__debug__" : Str)) = false := by decide) (he : starEach (e :: es) X.env = (false, eval e X.env) :: starEach es X.env := by rfl) (hpl : (backTo pos (starEach es X.env)).any (·.1) = false := by rfl) :
    EX X W c p (.own 1) (.Call (.Name k pp) (e :: es) [] pos) (eMake k mI dflt fa) := by
  obtain ⟨ta, a1, a2⟩ := ha
  refine ⟨_, pe_make M F hr hg T.gl hb hd (passFree hW ok) a1 hdb he hpl, fun σ ρ G F0 H Q o w => ?_⟩
  refine a2 σ ρ G F0 H _ o ((Wp.ofBindM w).imp (fun r hr => ?_) fun _ z => z)
  intro vs G1 F1 H1 x1 o1 q1 hp1 x dx nx ndx ne
  obtain ⟨rl, len⟩ := fitA_vals hsh hfit q1
  -- what is kept: all but the new instance
  have gF : Same G1 (upd H1 dx (.own x)) := o1.gh.trans (same_upd ndx)
  have nF : upd H1 dx (.own x) x = none := by rw [upd_ne (Ne.symm ne)]; exact nx
  have fH : Same (upd H1 dx (.own x)) (upd (upd H1 dx (.own x)) x (.ins C dx [])) := same_upd nF
  have allq : allShP (ps ++ qs) = true := by
    clear hfit F q1 len
    induction ps with
    | nil => exact hsq
    | cons p ps ih =>
      cases p with
      | sh => exact ih hsh
      | _ => cases hsh
  refine ⟨G1, upd H1 dx (.own x), .obj k [] :: (r.1 ++ dflt), [x] ++ [], gF, fH, .io (Own.mkO (es := []) (us := []) upd_same T.gl rfl .nil) (argl_sh allq (by rw [List.length_append, List.length_append, len, hq]) (rl.append (hdf G1))), by simp, fun a ha => by rw [List.append_nil] at ha; rw [List.mem_singleton.mp ha]; exact nF, ?_⟩
  have toH1 : ∀ {G2 F2 : Hp}, Ext G1 (upd H1 dx (.own x)) G2 F2 → Ext G1 H1 G2 F2 := fun x2 => ⟨x2.g, (same_upd ndx).trans x2.f, fun a h1 h2 => x2.n a h1 ((same_upd ndx).nn h2)⟩
  cases em : mI (.obj k [] :: (r.1 ++ dflt)) with
  | ok y =>
    rw [em] at hr
    intro v G2 F2 H2 fr fo x2 gf2 fh2 ow out nd hf
    obtain ⟨d, os⟩ := y
    cases out with
    | io q out' =>
      obtain ⟨rfl, rfl⟩ := out1 allq out'
      cases d <;> first | exact hr.elim | skip
      obtain ⟨rv, rfl⟩ := ow
      cases rv
      refine ⟨rfl, ?_⟩
      rw [List.append_nil] at nd hf
      obtain ⟨x3, o3, hh⟩ := o1.called (toH1 x2) gf2 fh2 q nd hf
      exact hr _ G2 _ H2 _ (x1.trans x3) o3 q fun hp => ⟨(hp1 hp).1, (hp1 hp).2.trans hh⟩
  | exc z =>
    rw [em] at hr
    intro cls dd G2 F2 H2 x2 gf2 fh2 xr
    have hr : Nx X.K X.mg W σ G F0 z := hr
    obtain ⟨x3, o3, _⟩ := o1.called (rk := 0) (d := .non) (v := .non) (fr := []) (toH1 x2) gf2 fh2 ⟨.non, rfl⟩ List.nodup_nil fun _ h => nomatch h
    subst hW
    exact hr cls dd G2 _ H2 (x1.trans x3) o3.gf o3.fh xr
  | fail => rw [em] at hr; exact hr.elim

/-! ### methods -/
def eMethC (k m : Str) (mm : List D → R D) (fo : M D) (fa : M (List D)) : M D := fo.bind fun x => match x with
  | .obj c fs => if c = k ∧ fs.lookup m = none then M.lift (fun ds => mm (x :: ds)) fa else fun _ => .fail
  | _ => fun _ => .fail
theorem spm_use {σ : L2.St} {ρ ρ1 : PV.Env} {G F0 H G1 F1 H1 : Hp} {m : List D → R D} {ps : List Pm} {ds : List D} {vs : List V} {Q : VK} (x1 : Ext G F0 G1 F1) (o1 : Ok X.K X.mg c [] G1 F1 H1 σ ρ1) (al : ArgL X.K X.mg G1 H1 H1 ps ds vs []) (hp1 : p = true → ρ1 = ρ ∧ Same H H1)
    (hr : Wp (M.lift m (M.pure ds) ρ1) (EPost X c p (.rd 0) σ ρ G F0 H Q) (Nx X.K X.mg W σ G F0)) : spM X.K X.mg ps 0 (m0 m) vs H1 Q (WE W σ) := by
  refine ⟨G1, H1, ds, [], o1.gh, .refl _, al, List.nodup_nil, fun _ h => (nomatch h), ?_⟩
  unfold m0
  unfold M.lift at hr
  rw [M.bind_of (a := ds) (ρ1 := ρ1) rfl] at hr
  cases em : m ds with
  | ok d =>
    rw [em] at hr
    intro v G2 F2 H2 fr fo x2 gf2 fh2 ow out nd hf
    have e2 := outs_nil out
    subst e2
    rw [List.append_nil] at nd hf
    obtain ⟨x3, o3, hh⟩ := o1.called x2 gf2 fh2 ow nd hf
    exact hr v G2 _ H2 fr (x1.trans x3) o3 ⟨ow.1, ow.2⟩ fun hp => ⟨(hp1 hp).1, (hp1 hp).2.trans hh⟩
  | exc z =>
    rw [em] at hr
    intro cls dd G2 F2 H2 x2 gf2 fh2 xr
    have hr : Nx X.K X.mg W σ G F0 z := hr
    obtain ⟨x3, o3, _⟩ := o1.called (rk := 0) (d := .non) (v := .non) (fr := []) x2 gf2 fh2 ⟨.non, rfl⟩ List.nodup_nil fun _ h => nomatch h
    exact hr cls dd G2 _ H2 (x1.trans x3) o3.gf o3.fh xr
  | fail => rw [em] at hr; exact hr.elim
theorem meth_sem {k m : Str} {E : XK} {C : Addr} {p2 : Bool} {ps : List Pm} {mm : List D → R D} {ms : List Am} {fo : M D} {fa : M (List D)} {to : TE} {t : TA} (hW : Free W E) (T : ClsF X.K X.mg k C) (a2 : Sound X W c p (.rd 0) to fo)
    (b2 : ∀ (σ : L2.St) (ρ : PV.Env) (G F H : Hp) (Q : List V → Hp → Prop), Ok X.K X.mg c [] G F H σ ρ →
      Wp (fa ρ) (fun r => ∀ vs G' F' H', Ext G F G' F' → Ok X.K X.mg c [] G' F' H' σ r.2 → ValL X.K X.mg G' H' σ ms r.1 vs → (p2 = true → r.2 = ρ ∧ Same H H') → Q vs H') (Nx X.K X.mg W σ G F) → t σ H Q)
    (hfit : fitA ps ms = true) (hsh : allShP ps = true) : Sound X W c (p && p2) (.rd 0) (tMeth C m (spM X.K X.mg (.sh :: ps) 0 (m0 mm)) [] E to t) (eMethC k m mm fo fa) := by
  intro σ ρ G F H Q o w
  refine EX.use to a2 o (Wp.ofBindM w) (fun r hr v G1 F1 H1 fp x1 o1 q1 hp1 => ?_) fun _ z => z
  have q1 : Rp X.K X.mg G1 v r.1 := q1.1
  obtain ⟨d, ρ1⟩ := r
  cases d <;> first | exact hr.elim | skip
  rename_i k' fs _
  have hr3 : Wp ((if k' = k ∧ fs.lookup m = none then M.lift (fun ds => mm (.obj k' fs :: ds)) fa else fun _ => .fail : M D) ρ1) _ _ := hr
  split at hr3
  · rename_i hk
    obtain ⟨rfl, hl⟩ := hk
    obtain ⟨a, C', dx, us, rfl, h1, h2, h3, h4⟩ := q1.obj_inv
    rw [T.gl] at h2
    cases h2
    have no : us.lookup m = none := by
      rcases attr_rel m h3 h4 with ⟨e, _⟩ | ⟨_, _, _, e, _⟩
      · exact e
      · rw [hl] at e; cases e
    refine ⟨a, dx, us, rfl, o1.gh _ _ h1, no, ?_⟩
    refine b2 σ ρ1 G1 F1 H1 _ o1.drop ((Wp.nxExt x1 (Wp.ofBindM hr3)).imp (fun r2 hr2 => ?_) fun _ z => z)
    intro vs G2 F2 H2 x2 o2 q2 hp2
    obtain ⟨rl, len⟩ := fitA_vals hsh hfit q2
    rw [List.append_nil]
    have eE : E = WE W σ := by subst hW; rfl
    rw [eE]
    refine spm_use (m := mm) (ds := .obj k' fs :: r2.1) (p := p && p2) (ρ := ρ) (H := H) (x1.trans x2) o2 (.sh (q1.mono x2.g) (argl_sh hsh len rl)) (fun hp => ?_) hr2
    rw [Bool.and_eq_true] at hp
    exact ⟨(hp2 hp.2).1.trans (hp1 hp.1).1, (hp1 hp.1).2.trans (hp2 hp.2).2⟩
  · exact hr3.elim
variable {p1 p2 : Bool}
/-- what the call of a method comes to -/
abbrev methRun (X : Cx) (o : Expr) (m : Str) (apos pos : Pos) (pl : Sem Bool) (l : List Expr) : Sem Value := eval o X.env >>= fun ov => standAt apos.atName >>= fun _ => holding [ov] (getMethod ov m pl) >>= fun q => callWith pos q.1 q.2 (backTo pos (starEach l X.env)) (backToKw pos (keywordEach [] X.env))
/-- o.m(e, ..) -/
theorem ex_meth {k m : Str} {E : XK} {C f : Addr} {fd : FuncData} {pn : List Str} {j : Nat} {ps : List Pm} {mm : List D → R D} {ms : List Am} {o e : Expr} {es : List Expr} {fo : M D} {fa : M (List D)} {apos : Pos} {pl : Sem Bool} (hW : Free W E) (ok : Cok X W) (T : ClsF X.K X.mg k C) (hm : Meth X.K C m f)
    (F : FnOk X.prog X.w X.K X.mg X.base (L2.CX X.prog X.w) j f fd pn (spM X.K X.mg (.sh :: ps) 0 (m0 mm))) (hr : Room j X.A) (hb : Binds X.K fd pn []) (ho : EX X W c p1 (.rd 0) o fo) (ha : AX X W c p2 ms (e :: es) fa) (hfit : fitA ps ms = true := by rfl) (hsh : allShP ps = true := by rfl)
    (ht : eval (.Call (.Attribute o m apos) (e :: es) [] pos) X.env = methRun X o m apos pos pl (e :: es) := by rfl) (hst : starEach (e :: es) X.env = (false, eval e X.env) :: starEach es X.env := by rfl) (hpl : (backTo pos (starEach es X.env)).any (·.1) = false := by rfl) :
    EX X W c (p1 && p2) (.rd 0) (.Call (.Attribute o m apos) (e :: es) [] pos) (eMethC k m mm fo fa) :=
  let ⟨_, a1, a2⟩ := ho; let ⟨_, b1, b2⟩ := ha
  ⟨_, pe_meth a1 T.cls hm F hr hb .nil (passFree hW ok) b1 hst hpl ht, meth_sem hW T a2 b2 hfit hsh⟩
/-- o.m() -/
theorem ex_meth00 {k m : Str} {E : XK} {C f : Addr} {fd : FuncData} {pn : List Str} {j : Nat} {mm : List D → R D} {o : Expr} {fo : M D} {apos : Pos} {pl : Sem Bool} (hW : Free W E) (ok : Cok X W) (T : ClsF X.K X.mg k C) (hm : Meth X.K C m f)
    (F : FnOk X.prog X.w X.K X.mg X.base (L2.CX X.prog X.w) j f fd pn (spM X.K X.mg [.sh] 0 (m0 mm))) (hr : Room j X.A) (hb : Binds X.K fd pn []) (ho : EX X W c p1 (.rd 0) o fo)
    (ht : eval (.Call (.Attribute o m apos) [] [] pos) X.env = methRun X o m apos pos pl [] := by rfl) :
    EX X W c (p1 && true) (.rd 0) (.Call (.Attribute o m apos) [] [] pos) (eMethC k m mm fo aNil) :=
  let ⟨_, a1, a2⟩ := ho
  ⟨_, pe_meth0 a1 T.cls hm F hr hb .nil (passFree hW ok) ht, meth_sem (ms := []) hW T a2 (fun σ ρ G F H Q o w => w [] G F H (.refl _ _) o .nil fun _ => ⟨rfl, .refl _⟩) rfl rfl⟩
end
end
end PV

set_option Elab.async false
set_option linter.all false
set_option maxRecDepth 100000
set_option maxHeartbeats 0
namespace PV
noncomputable section
open PySem PySem.Spec
open PyProof.Rows L2

/-! ## 35. raise Refused(..): an error that keeps its reason, over a class of errors -/
/-- what the text says of the two classes -/
structure RefK (K : PySem.W.Frag) (mg : Str → Option Value) (CF CR fI : Addr) : Prop where
  gF : mg "Fault" = some (.ref CF)
  gR : mg "Refused" = some (.ref CR)
  ga : PySem.W.specialIn K (.ref CF) "__getattribute__" = some (some (.builtin "type.__getattribute__"))
  rd : PySem.W.readsIn K CF (.type "type") = true
  fc : PySem.W.findCls K (.ref CF) (.type "type") "__init__" = some (.val (.builtin "ValueError.__init__"))
  ox : OexC K CR
  no : PySem.W.findIn K (.ref CR) "reason" = some none
  iC : PySem.W.findIn K (.ref CR) "__init__" = some (some (.ref fI))
  tI : PySem.W.typeIn K (.ref fI) = some (.type "function")
section
variable {X : Cx}
/-- Fault.__init__(self, e, ..) -/
theorem pe_faultInit {CF CR fI : Addr} {e : Expr} {es : List Expr} {ta : TA} {p1 p2 pos : Pos} {pl : Sem Bool} (T : RefK X.K X.mg CF CR fI) (hg : Gl X "Fault") (ha : PA X (e :: es) ta)
    (hc : eval (.Call (.Attribute (.Name "Fault" p1) "__init__" p2) (e :: es) [] pos) X.env = methRun X (.Name "Fault" p1) "__init__" p2 pos pl (e :: es) := by rfl) (he : starEach (e :: es) X.env = (false, eval e X.env) :: starEach es X.env := by rfl)
    (hpl : (backTo pos (starEach es X.env)).any (·.1) = false := by rfl) :
    PE X (.Call (.Attribute (.Name "Fault" p1) "__init__" p2) (e :: es) [] pos) (tVeI X.K ta) := by
  constructor
  intro pins s σ H Q I h
  refine PySem.W.methodCall_KW (ld_glob I hg T.gF ?_ (by decide)) hc
  apply PySem.W.method_cls I.kIn T.ga
  apply PySem.W.cls_value I.kIn T.rd T.fc (by decide +kernel)
  show wpAny _ _ (callWith pos (.builtin "ValueError.__init__") [] _ (backToKw pos [])) _ _ _
  refine callWith_method1 (thn (ha.run pos pins _ σ H _ (I.tok _) h) ?_) he hpl
  rintro us s1 ⟨_, H1, I1, r1, a, C, ws, rfl, few, ox, at_, q⟩
  cases r1 with
  | cons ra rest =>
    cases (show _ = Value.ref a from ra)
    have n := Paired.length rest
    exact oinit_ok ox I1 at_ (by rw [sizeLine_eq]; omega) fun s' J => ⟨.non, H1, J, rfl, q⟩
end
/-- the promise of Refused.__init__ -/
def spRef (K : PySem.W.Frag) : Sp := fun vs H Q _ => ∃ (a C : Addr) (v : V), vs = [.ref a, v] ∧ OexC K C ∧ PySem.W.findIn K (.ref C) "reason" = some none ∧ H a = some (exo a C none) ∧
  ∀ dx, H dx = none → dx ≠ a → Q .non (upd (upd H dx (exd dx [("reason", v)])) a (exo a C (some dx)))
section
variable {P : Program} {w : World} {K : PySem.W.Frag} {mg : Str → Option Value} {base : Heap} {CF CR fI : Addr} {fd : FuncData}
/-- what its body reads -/
def refT (K : PySem.W.Frag) : TS := tSeq (tDrop (tVeI K (tCons (tVar 0) (tCons (tVar 1) tNil)))) (tOst K "reason" (tVar 0) (tVar 1))
theorem ref_init {st : Stmt} (F : Fun K "__init__" "Refused.__init__" st fI fd) (S : FnScope ["self", "reason"] ["self", "reason"] (defScope st))
    (hb : ∀ (cdv : Value) (A : Around) (outer : List PySem.Env) (s0 : Shared) (H : Hp) (E : XK), PSs (cxOf (L2.CX P w) P w K mg base ["self", "reason"] "Refused.__init__" (defScope st) fI cdv A outer s0 H E) (defBody st) (refT K)) : FnOk P w K mg base (L2.CX P w) 1 fI fd ["self", "reason"] (spRef K) := by
  refine F.okX S (fun vs H Q E h => ?_) fun cdv A outer s0 H vs Q E hr h => ?_
  · obtain ⟨a, C, v, rfl, _⟩ := h
    rfl
  · obtain ⟨a, C, v, rfl, ox, no, at_, q⟩ := h
    exact ⟨_, hb cdv A outer s0 H E, _, rfl, _, rfl, a, C, [v], rfl, by simp, ox, at_, _, rfl, _, rfl, a, C, rfl, ox, no, .inl ⟨at_, fun dx nx ne => q dx nx ne⟩⟩
end
def sRaiseR (fe : M D) : SM := sDo fe fun d _ => .exc (.refu d)
section
variable {X : Cx} {W : WX} {c : Fc} {p : Bool} {rk : Nat}
/-- raise Refused(e) -/
theorem sx_raiseR (ok : Cok X W) {k : Nat} {CF CR fI : Addr} {fd : FuncData} {pn : List Str} {e : Expr} {fe : M D} {px pos pos2 : Pos} (T : RefK X.K X.mg CF CR fI) (F : FnOk X.prog X.w X.K X.mg X.base (L2.CX X.prog X.w) k fI fd pn (spRef X.K)) (hr : Room (k + 1) X.A) (hb : Binds X.K fd pn [])
    (he : EX X W c p (.rd 0) e fe) (hg : Gl X "Refused" := by rfl) (hst : starEach [e] X.env = (false, eval e X.env) :: starEach [] X.env := by rfl) (hpl : (backTo pos (starEach [] X.env)).any (·.1) = false := by rfl) :
    SX X W c rk (.Raise (some (.Call (.Name "Refused" px) [e] [] pos)) none pos2) (sRaiseR fe) := by
  obtain ⟨te, e1, e2⟩ := he
  have no : Passes (L2.CX X.prog X.w) X (fun _ _ _ => False) := fun pins σ H s e s' I q => by
    have q' := passAt (W := fun _ _ _ _ => False) (X := X) (fun u s' ⟨_, _, _, _, _, _, _, _, _, _, _, _, _, _, _, _, z⟩ => z.elim) σ
    exact q' pins H s e s' I q
  refine ⟨_, ps_raise ok.calm ok.tk (pmk_oex T.ox T.iC T.tI F hr hb .nil no hg T.gR (pa_cons e1 pa_nil hst) (by decide) hst hpl), fun D σ ρ G F0 H o w => ?_⟩
  refine EX.use te e2 o (WpS.ofDo w) (fun r hr v G1 F1 H1 fp x1 o1 q1 hp => ?_) fun _ z => Nx.toS z
  have q1 : Rp X.K X.mg G1 v r.1 := q1.1
  refine ⟨by simp, fun a ha => ⟨a, CR, v, rfl, T.ox, T.no, upd_same, fun dx nx ne => ⟨rfl, dx, [("reason", v)], upd_same, by rw [upd_ne ne, upd_same], ?_, ?_⟩⟩⟩
  · by_cases z : dx = a
    · exact absurd z ne
    · rwa [upd_ne z] at nx
  · have nd : H1 dx = none := by rwa [upd_ne ne] at nx
    have hr : NxS X.K X.mg W σ.length G F0 (.refu r.1) := hr
    refine hr σ rfl (.ref CR) (some dx) G1 F1 _ x1 o1.gf (fun b u e => ?_) ⟨CR, dx, v, T.gR, rfl, rfl, upd_same, q1⟩
    have hb := o1.fh b u e
    have b1 : b ≠ dx := ne_of_none hb nd
    have b2 : b ≠ a := ne_of_none hb ha
    rw [upd_ne b1, del_ne b2, upd_ne b2, upd_ne b1, upd_ne b2]
    exact hb
end
end
end PV

set_option Elab.async false
set_option linter.all false
set_option maxRecDepth 100000
set_option maxHeartbeats 0
namespace PV
noncomputable section
open PySem PySem.Spec
open PyProof.Rows L2

/-! ## 36. operators of one's own classes -/
section
open PySem.W
variable {prog : Program} {w : World} {K : Frag} {A : Around} {s : Shared} {E : Value → Shared → Prop} {f C x : Addr} {od : Option Obj} {ox : Obj}
/-- a op b, both of the class -/
theorem bin_same {op : Operator} {y : Addr} {Q : Value → Shared → Prop} (X : K.In s.heap) (I : InstAt s.heap x ox C od) (Ly : Looks (model prog w) s.heap (typeOf (.ref y)) (.ref C)) (hc : selfFirst K C = true)
    (hs : findIn K (.ref C) (PySem.dunder op.info.2) = some (some (.ref f))) (hf : isFn K (.ref f) = true) (h : wpAny (model prog w) A (call (.ref f) [.ref x, .ref y]) (PySem.W.CmpBack Q) E s) :
    wpAny (model prog w) A (binaryOp op (.ref x) (.ref y)) Q E s := by
  obtain ⟨c0, r0, at0, keep0⟩ := ksp_first hc
  rcases e : op.info with ⟨sign, name⟩
  rw [e] at hs
  have said := ksp_try X I hs hf h
  have fills : Looks (model prog w) s.heap (fillsNumberSlot (.ref C) name) true := fills_K X at0 keep0 hs
  have Lx : Looks (model prog w) s.heap (typeOf (.ref x)) (.ref C) := I.type
  have alike : (Value.ref C == Value.ref C) = true := beq_self_eq_true _
  obtain ⟨z1, z2, z3, z4, z5⟩ := s
  simp only [binaryOp, e]
  apply wpAny_holding
  apply wpAny_bind
  unfold binaryOp1
  refine wpAny_bind (Lx.at (wpAny_bind (Ly.at (wpAny_bind (fills.at ?_)))))
  simp only [alike, if_true]
  ksp_lk
  refine wpAny_mono said (fun r s' q => ?_) fun _ _ z => z
  obtain ⟨v, rfl, q⟩ := q
  ksp_lk
  exact q
/-- what decides that the left operand's own method is asked first, the right one being of the built-in type T -/
structure LeftOwn (K : Frag) (C : Addr) (name T : String) : Prop where
  refl : ∃ rc, findIn K (.ref C) (dunderR name) = some rc ∧ (rc = none ∨ ∃ g : Addr, rc = some (.ref g))
  fwd : ∃ fo, findIn K (.type T) (PySem.dunder name) = some fo
  bwd : ∃ ro, findIn K (.type T) (dunderR name) = some ro
  apart : subIn K (.type T) (.ref C) = some false
/-- a op b, b of a built-in type -/
theorem bin_blt {op : Operator} {b : Value} {T : String} {Q : Value → Shared → Prop} (X : K.In s.heap) (I : InstAt s.heap x ox C od) (Lb : Looks (model prog w) s.heap (typeOf b) (.type T)) (hc : selfFirst K C = true)
    (hs : findIn K (.ref C) (PySem.dunder op.info.2) = some (some (.ref f))) (hf : isFn K (.ref f) = true) (L : LeftOwn K C op.info.2 T) (h : wpAny (model prog w) A (call (.ref f) [.ref x, b]) (PySem.W.CmpBack Q) E s) :
    wpAny (model prog w) A (binaryOp op (.ref x) b) Q E s := by
  obtain ⟨c0, r0, at0, keep0⟩ := ksp_first hc
  rcases e : op.info with ⟨sign, name⟩
  rw [e] at hs L
  obtain ⟨⟨rc, hr, hp⟩, ⟨fo, h1⟩, ⟨ro, h2⟩, hsub⟩ := L
  have said := ksp_try X I hs hf h
  have unlike : (Value.ref C == Value.type T) = false := by
    cases z : (Value.ref C == Value.type T)
    · rfl
    · cases beq_iff_eq.mp z
  have L1 : Looks (model prog w) s.heap (typeOf (.ref x)) (.ref C) := I.type
  have L2 : Looks (model prog w) s.heap (fillsNumberSlot (.ref C) name) true := fills_K X at0 keep0 hs
  have L3 := ksp_fillsT (M := model prog w) X h1 h2
  have L4 : Looks (model prog w) s.heap (isSubtype (.type T) (.ref C)) false := looks_subIn X hsub
  have L5 : Looks (model prog w) s.heap (numberSlotInPython (.ref C) name) true := ksp_inPy X hs hr hp
  have L6 : Looks (model prog w) s.heap (numberSlotInPython (.type T) name) false := Looks.of_pure rfl
  have L7 : Looks (model prog w) s.heap (typeLookup (.type T) (dunderR name)) ro := looks_findIn X h2
  revert L3
  generalize ((fo.isSome && !isSeqSlot fo) || (ro.isSome && !isSeqSlot ro)) = other
  intro L3
  obtain ⟨z1, z2, z3, z4, z5⟩ := s
  simp only [binaryOp, e]
  apply wpAny_holding
  apply wpAny_bind
  unfold binaryOp1
  refine wpAny_bind (L1.at (wpAny_bind (Lb.at (wpAny_bind (L2.at ?_)))))
  simp only [unlike, Bool.false_eq_true, if_false]
  cases other
  all_goals
    ksp_lk
    refine wpAny_mono said (fun r s' q => ?_) fun _ _ z => z
    obtain ⟨v, rfl, q⟩ := q
    ksp_lk
    exact q
end
/-! ### as rules -/
/-- an operator's own method -/
structure OpM (K : PySem.W.Frag) (C : Addr) (name : Str) (f : Addr) : Prop where
  at_ : PySem.W.findIn K (.ref C) name = some (some (.ref f))
  isFn_ : (PySem.W.isFn K (Value.ref f)) = true
section
variable {X : Cx} {C f : Addr} {k : Nat} {fd : FuncData} {pn : List Str} {sp : Sp} {E : XK}
/-- how the right operand looks -/
inductive RightOf (C : Addr) (H : Hp) : V → Prop
  | own {a dx : Addr} {us : List (Str × V)} : H a = some (.ins C dx us) → RightOf C H (.ref a)
  | non : RightOf C H .non
  | bl (b : Bool) : RightOf C H (.bl b)
  | int (i : Int) : RightOf C H (.int i)
  | str (x : Str) : RightOf C H (.str x)
  | tup {a : Addr} {xs : List V} : H a = some (.tup xs) → RightOf C H (.ref a)
  | lst {a : Addr} {xs : List V} : H a = some (.lst xs) → RightOf C H (.ref a)
def rightT : List String := ["NoneType", "bool", "int", "str", "tuple", "list"]
theorem ins_type {pins : List (Addr × Obj)} {s : Shared} {σ : L2.St} {H : Hp} {M : Model} {a dx : Addr} {us : List (Str × V)} (I : Inv X pins σ H s) (e : H a = some (.ins C dx us)) : ∃ ox od, PySem.W.InstAt s.heap a ox C od ∧ PySem.W.Looks M s.heap (typeOf (.ref a)) (.ref C) := by
  obtain ⟨mA, O, _⟩ := ins_get I.hok e
  obtain ⟨od, J, _⟩ := O.look
  exact ⟨_, _, J, J.type⟩
theorem right_type {pins : List (Addr × Obj)} {s : Shared} {σ : L2.St} {H : Hp} {M : Model} {y : V} {u : Value} (I : Inv X pins σ H s) (r : RelV y u) (h : RightOf C H y) :
    ((∃ b, u = .ref b ∧ PySem.W.Looks M s.heap (typeOf (.ref b)) (.ref C)) ∨ ∃ T ∈ rightT, PySem.W.Looks M s.heap (typeOf u) (.type T)) := by
  cases h with
  | own e =>
    cases (show u = .ref _ from r)
    obtain ⟨_, _, _, l⟩ := ins_type (M := M) I e
    exact .inl ⟨_, rfl, l⟩
  | non => cases (show u = .none from r); exact .inr ⟨"NoneType", by decide, PySem.W.Looks.of_pure rfl⟩
  | bl b => cases (show u = .bool b from r); exact .inr ⟨"bool", by decide, PySem.W.Looks.of_pure rfl⟩
  | int i => obtain ⟨t, rfl⟩ := r; exact .inr ⟨"int", by decide, PySem.W.Looks.of_pure rfl⟩
  | str x => obtain ⟨t, rfl⟩ := r; exact .inr ⟨"str", by decide, PySem.W.Looks.of_pure rfl⟩
  | tup e =>
    cases (show u = .ref _ from r)
    obtain ⟨_, its, _, o, h1, h2, _⟩ := (show ObjOk X.prog X.w H s.heap _ (.tup _) from I.hok _ _ e)
    exact .inr ⟨"tuple", by decide, fun _ _ _ _ same q => wpAny_typeOf_ref (same _ _ h1) (h2.symm ▸ q)⟩
  | lst e =>
    cases (show u = .ref _ from r)
    obtain ⟨_, its, n, _, h1⟩ := (show ObjOk X.prog X.w H s.heap _ (.lst _) from I.hok _ _ e)
    exact .inr ⟨"list", by decide, fun _ _ _ _ same q => wpAny_typeOf_ref (same _ _ h1) q⟩
theorem relv_ok {v : V} {u : Value} (r : RelV v u) : u ≠ .notImplemented := by
  intro z
  subst z
  cases v with
  | non => cases r
  | bl b => cases r
  | int i => obtain ⟨t, e⟩ := r; cases e
  | str x => obtain ⟨t, e⟩ := r; cases e
  | byt b => obtain ⟨t, e⟩ := r; cases e
  | flt b => obtain ⟨t, e⟩ := r; cases e
  | ref a => cases r
  | ty n => cases r
theorem back_of {pins : List (Addr × Obj)} {σ : L2.St} {Q : VK} {u : Value} {s : Shared} (h : EP X pins σ Q u s) : PySem.W.CmpBack (EP X pins σ Q) u s := by
  obtain ⟨v, H', I, r, q⟩ := id h
  have ok := relv_ok r
  cases u <;> first | exact h | exact absurd rfl ok
/-- x op y, x an instance whose class tells what op is -/
def rOpOwn (C : Addr) (sp : Sp) (E : XK) : R2 := fun x y H Q => ∃ a dx us, x = .ref a ∧ H a = some (.ins C dx us) ∧ RightOf C H y ∧ sp [x, y] H Q E
theorem op_own {op : Operator} (hc : PySem.W.selfFirst X.K C = true) (Mo : OpM X.K C (PySem.dunder op.info.2) f) (L : ∀ T ∈ rightT, LeftOwn X.K C op.info.2 T) (F : FnOk X.prog X.w X.K X.mg X.base (L2.CX X.prog X.w) k f fd pn sp) (hr : Room k X.A) (hb : Binds X.K fd pn [])
    (hx : Passes (L2.CX X.prog X.w) X E) : OpR X (binaryOp op) (rOpOwn C sp E) := by
  rintro pins s σ H _ y v u Q I rx ry ⟨a, dx, us, rfl, ea, right, q⟩
  cases (show v = .ref a from rx)
  obtain ⟨ox, od, J, _⟩ := ins_type (M := model X.prog X.w) I ea
  have run : wpAny (model X.prog X.w) X.A (call (.ref f) [.ref a, u]) (PySem.W.CmpBack (EP X pins σ Q)) X.xe s :=
    wpAny_mono (run_fn (dvs := []) (ds := []) (vs := [.ref a, y]) F hr hb .nil hx I (.cons rfl (.cons ry .nil)) (by rw [List.append_nil]; exact q)) (fun _ _ z => back_of z) fun _ _ z => z
  rcases right_type (M := model X.prog X.w) I ry right with ⟨b, rfl, l⟩ | ⟨T, hT, l⟩
  · exact bin_same I.kIn J l hc Mo.at_ Mo.isFn_ run
  · exact bin_blt I.kIn J l hc Mo.at_ Mo.isFn_ (L T hT) run
end
def isObj (k : Str) : D → Bool
  | .obj c _ => decide (c = k)
  | _ => false
def rightD (k : Str) : D → Bool
  | .obj c _ => decide (c = k)
  | .non => true
  | .bl _ => true
  | .int _ => true
  | .str _ => true
  | .tup _ => true
  | .lst _ => true
  | _ => false
/-- a op b: by the class of a, or as g says -/
def eOpX (k : Str) (mm : List D → R D) (g : D → D → Option D) (fa fb : M D) : M D := fa.bind fun x => fb.bind fun y => if isObj k x = true then (if rightD k y = true then M.lift mm (M.pure [x, y]) else fun _ => .fail) else M.ofO (g x y)
section
variable {X : Cx} {W : WX} {c : Fc} {p p1 p2 : Bool} {pos : Pos} {a b : Expr} {fa fb : M D}
theorem isObj_eq {k : Str} {d : D} (h : isObj k d = true) : ∃ fs, d = .obj k fs := by
  cases d <;> first | (cases h; done) | skip
  cases of_decide_eq_true (show decide _ = true from h)
  exact ⟨_, rfl⟩
theorem right_of {K : PySem.W.Frag} {mg : Str → Option Value} {H : Hp} {k : Str} {C : Addr} (T : ClsF K mg k C) {v : V} {d : D} (r : Rp K mg H v d) (h : rightD k d = true) : RightOf C H v := by
  cases r <;> first | (cases h; done) | skip
  · exact .non
  · exact .bl _
  · exact .int _
  · exact .str _
  · exact .tup ‹_›
  · exact .lst ‹_›
  · rename_i h1 h2 _ _
    cases of_decide_eq_true (show decide _ = true from h)
    rw [T.gl] at h2
    cases h2
    exact .own h1
/-- an operation of two parts: the class's own, or the built-in one -/
theorem ex_ownX {e : Expr} {k : Str} {E : XK} {C : Addr} {mm : List D → R D} {r : R2} {g : D → D → Option D} (hW : Free W E) (T : ClsF X.K X.mg k C) (hpe : ∀ {ta tb}, PE X a ta → PE X b tb → PE X e (tOp (fun x y H Q => rOpOwn C (spM X.K X.mg [.sh, .sh] 0 (m0 mm)) E x y H Q ∨ r x y H Q) ta tb))
    (hS : Op2S X.K X.mg (.rd 0) (.rd 0) (.rd 0) r g) (ha : EX X W c p1 (.rd 0) a fa) (hb' : EX X W c p2 (.rd 0) b fb) : EX X W c (p1 && p2) (.rd 0) e (eOpX k mm g fa fb) := by
  obtain ⟨ta, a1, a2⟩ := ha
  obtain ⟨tb, b1, b2⟩ := hb'
  refine ⟨_, hpe a1 b1, fun σ ρ G F0 H Q o w => ?_⟩
  refine EX.use ta a2 o (Wp.ofBindM w) (fun r1 h1 v1 G1 F1 H1 fp1 x1 o1 q1 hp1 => ?_) fun _ z => z
  refine EX.use tb b2 o1.drop (Wp.nxExt x1 (Wp.ofBindM h1)) (fun r2 h2 v2 G2 F2 H2 fp2 x2 o2 q2 hp2 => ?_) fun _ z => z
  have q1 : Rp X.K X.mg G2 v1 r1.1 := (show Rp X.K X.mg G1 v1 r1.1 from q1.1).mono x2.g
  have q2 : Rp X.K X.mg G2 v2 r2.1 := q2.1
  have pure_ : (p1 && p2) = true → r2.2 = ρ ∧ Same H H2 := fun hp => by
    rw [Bool.and_eq_true] at hp
    exact ⟨(hp2 hp.2).1.trans (hp1 hp.1).1, (hp1 hp.1).2.trans (hp2 hp.2).2⟩
  split at h2
  · rename_i io
    obtain ⟨fs, eq⟩ := isObj_eq io
    split at h2
    · rename_i ir
      refine .inl ?_
      rw [eq] at q1
      obtain ⟨x, C', dx, us, rfl, e1, e2, _⟩ := q1.obj_inv
      rw [T.gl] at e2
      cases e2
      refine ⟨x, dx, us, rfl, o2.gh _ _ e1, right_of T (q2.mono o2.gh) ir, ?_⟩
      have eE : E = WE W σ := by subst hW; rfl
      rw [eE]
      rw [eq] at h2
      exact spm_use (m := mm) (ds := [.obj k fs, r2.1]) (p := p1 && p2) (ρ := ρ) (H := H) (x1.trans x2) o2.drop (.sh q1 (.sh q2 .nil)) pure_ h2
    · exact h2.elim
  · unfold M.ofO at h2
    split at h2
    · rename_i z hz
      exact .inr (hS G2 F2 H2 r1.1 r2.1 v1 v2 z _ o2.gf o2.fh ⟨q1, rfl⟩ ⟨q2, rfl⟩ hz fun wv G3 F3 H3 fr g3 q3 => h2 wv G3 F3 H3 fr ((x1.trans x2).trans g3.x) (o2.drop.grown g3) q3 fun hp => ⟨(pure_ hp).1, (pure_ hp).2.trans g3.hh⟩)
    · exact h2.elim
theorem ex_opX {op : Operator} {k : Str} {E : XK} {C f : Addr} {fd : FuncData} {pn : List Str} {j : Nat} {mm : List D → R D} {r : R2} {g : D → D → Option D} (hW : Free W E) (ok : Cok X W) (T : ClsF X.K X.mg k C) (hc : PySem.W.selfFirst X.K C = true) (Mo : OpM X.K C (PySem.dunder op.info.2) f)
    (L : ∀ T ∈ rightT, LeftOwn X.K C op.info.2 T) (F : FnOk X.prog X.w X.K X.mg X.base (L2.CX X.prog X.w) j f fd pn (spM X.K X.mg [.sh, .sh] 0 (m0 mm))) (hr : Room j X.A) (hb : Binds X.K fd pn []) (ho : OpR X (binaryOp op) r) (hS : Op2S X.K X.mg (.rd 0) (.rd 0) (.rd 0) r g)
    (ha : EX X W c p1 (.rd 0) a fa) (hb' : EX X W c p2 (.rd 0) b fb) : EX X W c (p1 && p2) (.rd 0) (.BinOp a op b pos) (eOpX k mm g fa fb) := 
  ex_ownX hW T (fun h1 h2 => pe_op (OpR.or (op_own hc Mo L F hr hb (passFree hW ok)) ho) h1 h2) hS ha hb'
end
end
end PV

set_option Elab.async false
set_option linter.all false
set_option maxRecDepth 100000
set_option maxHeartbeats 0
namespace PV
noncomputable section
open PySem PySem.Spec
open PyProof.Rows L2

/-! ## 38. own equality, own minus, own text -/
section
variable {X : Cx} {C f : Addr} {k : Nat} {fd : FuncData} {pn : List Str} {sp : Sp} {E : XK}
/-- the def at f is called deeper than its caller stands -/
theorem run_in {A : Around} {pins : List (Addr × Obj)} {σ : L2.St} {H : Hp} {s : Shared} {Q : VK} {us : List Value} {vs : List V} (F : FnOk X.prog X.w X.K X.mg X.base (L2.CX X.prog X.w) k f fd pn sp) (hr : Room k A) (e0 : Env0 X.prog X.w X.K X.mg X.base A X.stack s H) (hb : Binds X.K fd pn []) (hx : Passes (L2.CX X.prog X.w) X E)
    (I : Inv X pins σ H s) (r : Vals vs us) (q : sp vs H Q E) : wpAny (model X.prog X.w) A (call (.ref f) us) (EP X pins σ Q) X.xe s := by
  have len : (us ++ []).length = pn.length := by rw [List.append_nil, ← r.length]; exact F.len _ _ _ _ q
  have bd := hb s us I.kIn len
  rw [List.append_nil] at bd
  refine wpAny_call (codeAny_mono (F.run A X.stack s H ⟨us, []⟩ us vs Q E hr e0 bd r q) ?_)
  rintro (e | fl) s' z
  · exact hx pins σ H s e s' I z
  · cases fl <;> first | exact I.after z | exact z.elim
theorem cmp_own {op : CmpOp} (hop : ∀ a b, compareOp op a b = richCompare op a b) (Mo : OpM X.K C (cmpInfo op).2.1 f) (L : ∀ T ∈ rightT, PySem.W.notFirst X.K C (.type T) = true) (F : FnOk X.prog X.w X.K X.mg X.base (L2.CX X.prog X.w) k f fd pn sp) (hr : Room k X.A) (hb : Binds X.K fd pn [])
    (hx : Passes (L2.CX X.prog X.w) X E) : OpR X (compareOp op) (rOpOwn C sp E) := by
  rintro pins s σ H _ y v u Q I rx ry ⟨a, dx, us, rfl, ea, right, q⟩
  cases (show v = .ref a from rx)
  obtain ⟨ox, od, J, _⟩ := ins_type (M := model X.prog X.w) I ea
  obtain ⟨m, hF⟩ := I.fr
  have run : wpAny (model X.prog X.w) X.A (call (.ref f) [.ref a, u]) (PySem.W.CmpBack (EP X pins σ Q)) X.xe s :=
    wpAny_mono (run_in (vs := [.ref a, y]) F hr I.env0 hb hx I (.cons rfl (.cons ry .nil)) q) (fun _ _ z => back_of z) fun _ _ z => z
  rw [hop]
  rcases right_type (M := model X.prog X.w) I ry right with ⟨b, rfl, l⟩ | ⟨T, hT, l⟩
  · exact PySem.W.cmp_K (tb := .ref C) hr.units0 hF I.ok.mod.kin J l (by simp [PySem.W.notFirst]) Mo.at_ Mo.isFn_ run
  · exact PySem.W.cmp_K (tb := .type T) hr.units0 hF I.ok.mod.kin J l (L T hT) Mo.at_ Mo.isFn_ run
/-- of one instance -/
def rOne (C : Addr) (sp : Sp) (E : XK) : V → Hp → VK → Prop := fun x H Q => ∃ a dx us, x = .ref a ∧ H a = some (.ins C dx us) ∧ sp [x] H Q E
theorem un_own (Mo : OpM X.K C "__neg__" f) (F : FnOk X.prog X.w X.K X.mg X.base (L2.CX X.prog X.w) k f fd pn sp) (hr : Room k X.A) (hb : Binds X.K fd pn []) (hx : Passes (L2.CX X.prog X.w) X E) : UnR X (unaryOp .USub) (rOne C sp E) := by
  rintro pins s σ H _ v Q I rx ⟨a, dx, us, rfl, ea, q⟩
  cases (show v = .ref a from rx)
  obtain ⟨ox, od, J, _⟩ := ins_type (M := model X.prog X.w) I ea
  obtain ⟨m, hF⟩ := I.fr
  exact PySem.W.ksp_neg hF I.ok.mod.kin J Mo.at_ Mo.isFn_ (run_in (vs := [.ref a]) F hr I.env0 hb hx I (.cons rfl .nil) q)
/-- str(x) -/
theorem str_own (Mo : OpM X.K C "__str__" f) (F : FnOk X.prog X.w X.K X.mg X.base (L2.CX X.prog X.w) k f fd pn sp) (hr : Room (k + 2) X.A) (hb : Binds X.K fd pn []) (hx : Passes (L2.CX X.prog X.w) X E) :
    CallR X (.type "str") (fun xs H Q => ∃ x, xs = [x] ∧ rOne C sp E x H fun z H' => ∃ y, z = .str y ∧ Q z H') := by
  rintro pins s σ H xs us Q I r ⟨_, rfl, a, dx, ws, rfl, ea, q⟩
  obtain ⟨u, rfl, ru⟩ := r.one
  cases (show u = .ref a from ru)
  obtain ⟨ox, od, J, _⟩ := ins_type (M := model X.prog X.w) I ea
  have hr2 : Room k X.A.in1.in1 := (show Room (k + 1) X.A.in1 from Room.in1 hr).in1
  refine PySem.W.kso_call hr2.units0 I.kIn J Mo.at_ Mo.isFn_ (wpAny_mono (run_in (vs := [.ref a]) F hr2 I.env0.in1.in1 hb hx I (.cons rfl .nil) q) (fun v s' z => ?_) fun _ _ z => z)
  obtain ⟨z, H', I', rz, y, rfl, qz⟩ := z
  obtain ⟨t, rfl⟩ := rz
  exact ⟨.str y, H', I', ⟨t, rfl⟩, qz⟩
end
def e1X (k : Str) (mm : List D → R D) (fa : M D) : M D := fa.bind fun x => if isObj k x = true then M.lift mm (M.pure [x]) else fun _ => .fail
def toStr (d : D) : M D := match d with
  | .str _ => M.pure d
  | _ => fun _ => .fail
def eStrX (k : Str) (mm : List D → R D) (fa : M D) : M D := fa.bind fun x => if isObj k x = true then (M.lift mm (M.pure [x])).bind toStr else fun _ => .fail
section
variable {X : Cx} {W : WX} {c : Fc} {p p1 p2 : Bool} {pos : Pos} {a b : Expr} {fa fb : M D} {k : Str} {E : XK} {C f : Addr} {fd : FuncData} {pn : List Str} {j : Nat} {mm : List D → R D}
theorem eE_of {σ : L2.St} (hW : Free W E) : E = WE W σ := by subst hW; rfl
theorem one_sem {to : TE} {fo : M D} (hW : Free W E) (T : ClsF X.K X.mg k C) (a2 : Sound X W c p (.rd 0) to fo) {kk : D → M D} {QQ : VK → VK} {σ : L2.St} {ρ : PV.Env} {G F H : Hp} {Q : VK} (o : Ok X.K X.mg c [] G F H σ ρ)
    (hk : ∀ d ρ1 G1 F1 H1, Ext G F G1 F1 → (p = true → ρ1 = ρ ∧ Same H H1) → Wp (kk d ρ1) (EPost X c p (.rd 0) σ ρ G F H Q) (Nx X.K X.mg W σ G F) → isObj k d = true ∧ Wp (M.lift mm (M.pure [d]) ρ1) (EPost X c p (.rd 0) σ ρ G F H (QQ Q)) (Nx X.K X.mg W σ G F))
    (w : Wp ((fo.bind kk) ρ) (EPost X c p (.rd 0) σ ρ G F H Q) (Nx X.K X.mg W σ G F)) {R : V → Hp → Prop} (fin : ∀ x H1, rOne C (spM X.K X.mg [.sh] 0 (m0 mm)) E x H1 (QQ Q) → R x H1) : to σ H R := by
  refine EX.use to a2 o (Wp.ofBindM w) (fun r hr v G1 F1 H1 fp x1 o1 q1 hp1 => ?_) fun _ z => z
  have q1 : Rp X.K X.mg G1 v r.1 := q1.1
  obtain ⟨io, hr⟩ := hk _ _ _ _ _ x1 hp1 hr
  obtain ⟨fs, eq⟩ := isObj_eq io
  rw [eq] at q1 hr
  obtain ⟨x, C', dx, us, rfl, e1, e2, _⟩ := q1.obj_inv
  rw [T.gl] at e2
  cases e2
  refine fin _ _ ⟨x, dx, us, rfl, o1.gh _ _ e1, ?_⟩
  rw [eE_of (σ := σ) hW]
  exact spm_use (m := mm) (ds := [.obj k fs]) (p := p) (ρ := ρ) (H := H) x1 o1.drop (.sh q1 .nil) hp1 hr
theorem ex_negX (hW : Free W E) (ok : Cok X W) (T : ClsF X.K X.mg k C) (Mo : OpM X.K C "__neg__" f) (F : FnOk X.prog X.w X.K X.mg X.base (L2.CX X.prog X.w) j f fd pn (spM X.K X.mg [.sh] 0 (m0 mm))) (hr : Room j X.A) (hb : Binds X.K fd pn []) (ha : EX X W c p (.rd 0) a fa) :
    EX X W c p (.rd 0) (.UnaryOp .USub a pos) (e1X k mm fa) := by
  obtain ⟨ta, a1, a2⟩ := ha
  refine ⟨_, pe_un (un_own Mo F hr hb (passFree hW ok)) a1, fun σ ρ G F0 H Q o w => ?_⟩
  refine one_sem (QQ := id) hW T a2 o (fun d ρ1 G1 F1 H1 x1 hp1 h => ?_) w fun _ _ z => z
  split at h
  · exact ⟨‹_›, h⟩
  · exact h.elim
theorem ex_strX {pp : Pos} (hW : Free W E) (ok : Cok X W) (T : ClsF X.K X.mg k C) (Mo : OpM X.K C "__str__" f) (F : FnOk X.prog X.w X.K X.mg X.base (L2.CX X.prog X.w) j f fd pn (spM X.K X.mg [.sh] 0 (m0 mm))) (hr : Room (j + 2) X.A) (hb : Binds X.K fd pn []) (hm : X.mg "str" = none) (ha : EX X W c p (.rd 0) a fa) (hg : Gl X "str" := by rfl)
    (h1 : starEach [a] X.env = (false, eval a X.env) :: starEach [] X.env := by rfl) (hpl : (backTo pos (starEach [] X.env)).any (·.1) = false := by rfl) : EX X W c p (.rd 0) (.Call (.Name "str" pp) [a] [] pos) (eStrX k mm fa) := by
  obtain ⟨ta, a1, a2⟩ := ha
  refine ⟨_, pe_callTy (str_own Mo F hr hb (passFree hW ok)) hg hm (by decide +kernel) (pa_cons a1 pa_nil h1) (by decide) (by decide) h1 hpl, fun σ ρ G F0 H Q o w => ?_⟩
  refine one_sem (mm := mm) (QQ := fun Q z H' => ∃ y, z = .str y ∧ Q z H') hW T a2 o (fun d ρ1 G1 F1 H1 x1 hp1 h => ?_) w fun x H1 z => ⟨x, rfl, z⟩
  · split at h
    · refine ⟨‹_›, (Wp.ofBindM h).imp (fun r hr => ?_) fun _ z => z⟩
      intro v G' F' H' fp x2 o2 q2 hp2
      obtain ⟨d', ρ2⟩ := r
      cases d' <;> first | exact hr.elim | skip
      have qv : Rp X.K X.mg G' v (.str _) := q2.1
      cases qv
      exact ⟨_, rfl, hr _ G' F' H' fp x2 o2 q2 hp2⟩
    · exact h.elim
/-- a == b: by the class of a, or as the built-in ones do -/
theorem ex_eqX (hm : Rm X) (hW : Free W E) (ok : Cok X W) (T : ClsF X.K X.mg k C) (Mo : OpM X.K C "__eq__" f) (L : ∀ T ∈ rightT, PySem.W.notFirst X.K C (.type T) = true) (F : FnOk X.prog X.w X.K X.mg X.base (L2.CX X.prog X.w) j f fd pn (spM X.K X.mg [.sh, .sh] 0 (m0 mm))) (hr : Room j X.A) (hb : Binds X.K fd pn [])
    (ha : EX X W c p1 (.rd 0) a fa) (hb' : EX X W c p2 (.rd 0) b fb) : EX X W c (p1 && p2) (.rd 0) (.Compare a [.Eq] [b] pos) (eOpX k mm gEq fa fb) :=
  ex_ownX hW T (fun h1 h2 => pe_cmpR (OpR.or (cmp_own (op := .Eq) (fun _ _ => rfl) Mo L F hr hb (passFree hW ok)) (op_eqD hm.u64)) h1 h2 (nomark b)) eq_S ha hb'
end

/-! ## 39. isinstance of one's own class -/
/-- what the text says for it -/
structure IsK (K : PySem.W.Frag) (C : Addr) : Prop where
  cl : PySem.W.findIn K (.ref C) "__class__" = some (some (.builtin "object.__class__"))
  gt : PySem.W.specialIn K (.builtin "object.__class__") "__get__" = some (some (.builtin "getset_descriptor.__get__"))
  tk : PySem.W.takesIn K (.builtin "object.__class__") = some true
  ob : PySem.W.mroIn K C (.type "object") = some true
  off : ∀ t : Ty, PySem.W.kitOne K (.type (tyS t)) (.ref C) = some false
def gIsK (k : Str) : D → Option D
  | .obj c _ => if c = k then some (.bl true) else none
  | d => (tyD d).map fun _ => .bl false
section
variable {X : Cx} {W : WX} {c : Fc} {p : Bool} {n : Nat} {k : Str} {C : Addr}
theorem isK_S (T : ClsF X.K X.mg k C) (Z : IsK X.K C) {G F H : Hp} {d : D} {v : V} {z : D} {Q : VK} (gf : Same G F) (fh : Same F H) (q : Rp X.K X.mg G v d) (hz : gIsK k d = some z) (fin : ∀ w G' F' H' fr, Grow G F H G' F' H' fr → Val X.K X.mg (.rd 0) G' H' z w fr → Q w H') : rIsi X.K [v, .ref C] H Q := by
  have other : ∀ a, tyD d = some a → z = .bl false → rIsi X.K [v, .ref C] H Q := fun a e ez => by
    subst ez
    exact ⟨v, .ref C, .type (tyS a), .ref C, false, rfl, .own C, tyx_of (q.mono (gf.trans fh)) e, Z.off a, fin _ G F H [] (.refl gf fh) ⟨.bl _, rfl⟩⟩
  cases d <;> first | (cases hz; done) | (cases hz; exact other _ rfl rfl) | skip
  rename_i c' fs
  by_cases ek : c' = k
  · subst ek
    have hz2 : gIsK c' (.obj c' fs) = some (.bl true) := if_pos rfl
    rw [hz2] at hz
    cases hz
    obtain ⟨x, C', dx, us, rfl, e1, e2, _⟩ := q.obj_inv
    rw [T.gl] at e2
    cases e2
    exact ⟨.ref x, .ref C, .ref C, .ref C, true, rfl, .own C, .base (.ins ((gf.trans fh) _ _ e1) T.cls Z.cl Z.gt Z.tk Z.ob), by unfold PySem.W.kitOne; rw [beq_self_eq_true]; rfl, fin _ G F H [] (.refl gf fh) ⟨.bl _, rfl⟩⟩
  · have hz2 : gIsK k (.obj c' fs) = none := if_neg ek
    rw [hz2] at hz
    cases hz
theorem ex_isK {a : Expr} {fa : M D} {pp pq pos : Pos} (T : ClsF X.K X.mg k C) (Z : IsK X.K C) (hm : X.mg "isinstance" = none) (ha : EX X W c p (.rd 0) a fa) (hg : Gl X "isinstance" := by rfl) (hg2 : Gl X k := by rfl) (hd : (k == ("__debug__" : Str)) = false := by decide)
    (h1 : starEach [a, .Name k pq] X.env = (false, eval a X.env) :: starEach [.Name k pq] X.env := by rfl) (h2 : starEach [.Name k pq] X.env = (false, eval (.Name k pq) X.env) :: starEach [] X.env := by rfl) (hpl : (backTo pos (starEach [.Name k pq] X.env)).any (·.1) = false := by rfl) :
    EX X W c p (.rd 0) (.Call (.Name "isinstance" pp) [a, .Name k pq] [] pos) (e1 (gIsK k) fa) := by
  obtain ⟨te, e1, e2⟩ := ha
  refine ⟨_, pe_callB call_isi hg hm (by decide +kernel) (pa_cons e1 (pa_cons (pe_glob (v := .ref C) hg2 T.gl rfl hd) pa_nil h2) h1) (by decide) (by decide) h1 hpl, fun σ ρ G F H Q o w => ?_⟩
  refine EX.use te e2 o (Wp.ofBindM w) (fun r1 h1 v1 G1 F1 H1 fp1 x1 o1 q1 hp1 => ?_) fun _ z => z
  unfold M.ofO at h1
  split at h1
  · rename_i z hz
    exact isK_S T Z o1.gf o1.fh q1.1 hz fun wv G3 F3 H3 fr g3 q3 => h1 wv G3 F3 H3 fr (x1.trans g3.x) (o1.drop.grown g3) q3 fun hp => ⟨(hp1 hp).1, (hp1 hp).2.trans g3.hh⟩
  · exact h1.elim
end

/-! ## 40. f-strings of texts and ints -/
def gFmt : D → Option D
  | .str y => if small y.length = true then some (.str y) else none
  | .int i => if i.natAbs.log2 < 1920 then some (.str (toString i)) else none
  | _ => none
def strOf? : D → Option Str
  | .str y => some y
  | _ => none
theorem strOf_eq {d : D} {y : Str} (h : strOf? d = some y) : d = .str y := by
  cases d <;> first | (cases h; done) | skip
  cases h
  rfl
def eJs : List (M D) → Str → M D
  | [], acc => M.pure (.str acc)
  | g :: r, acc => g.bind fun d => match strOf? d with
    | some y => if small (acc ++ y).length = true then eJs r (acc ++ y) else fun _ => .fail
    | none => fun _ => .fail
section
variable {X : Cx} {W : WX} {c : Fc} {p : Bool} {n : Nat} {pos : Pos}
theorem szl_small {n : Nat} (h : small n = true) : n ≤ sizeLine := szl (of_decide_eq_true h)
theorem ex_fmt {e : Expr} {fe : M D} (h : EX X W c p (.rd n) e fe) : EX X W c p (.rd 0) (.FormattedValue e (-1) none pos) (e1 gFmt fe) := by
  refine ex_1 (r := fun x H1 Q => (∃ y : Str, x = .str y ∧ y.length ≤ sizeLine ∧ Q (.str y) H1) ∨ ∃ i : Int, x = .int i ∧ i.natAbs.log2 < 1920 ∧ Q (.str (toString i)) H1) (fun h => pe_fmt h) (fun G F H d v z Q gf fh q hz fin => ?_) h wrd
  have q := q.1.rp (gf.trans fh)
  cases q <;> first | (cases hz; done) | skip
  · have hz : (if _ then _ else _) = some z := hz
    split at hz
    · rename_i hl
      cases hz
      exact .inr ⟨_, rfl, hl, fin _ G F H [] (.refl gf fh) ⟨.str _, rfl⟩⟩
    · cases hz
  · have hz : (if _ then _ else _) = some z := hz
    split at hz
    · rename_i hl
      cases hz
      exact .inl ⟨_, rfl, szl_small hl, fin _ G F H [] (.refl gf fh) ⟨.str _, rfl⟩⟩
    · cases hz
inductive FJ (X : Cx) (W : WX) (c : Fc) : List Expr → List (M D) → Prop where
  | nil : FJ X W c [] []
  | cons {p : Bool} {e : Expr} {es : List Expr} {g : M D} {gs : List (M D)} (h : EX X W c p (.rd 0) e g) (r : FJ X W c es gs) : FJ X W c (e :: es) (g :: gs)
theorem fj_sem {es : List Expr} {gs : List (M D)} (h : FJ X W c es gs) : ∃ ts, PJ X es ts ∧ ∀ (σ : L2.St) (ρ : PV.Env) (G F H : Hp) (Q : VK) (acc : Str), Ok X.K X.mg c [] G F H σ ρ →
    Wp (eJs gs acc ρ) (EPost X c false (.rd 0) σ ρ G F H Q) (Nx X.K X.mg W σ G F) → tJs ts acc σ H fun out H1 => Q (.str out) H1 := by
  induction h with
  | nil => exact ⟨[], .nil, fun σ ρ G F H Q acc o w => w (.str acc) G F H [] (.refl _ _) o ⟨.str _, rfl⟩ fun z => nomatch z⟩
  | cons h r ih =>
    obtain ⟨ts, j, sem⟩ := ih
    obtain ⟨t, h1, h2⟩ := h
    refine ⟨t :: ts, .cons h1 j, fun σ ρ G F H Q acc o w => ?_⟩
    refine EX.use t h2 o (Wp.ofBindM w) (fun r hr v G1 F1 H1 fp x1 o1 q1 _ => ?_) fun _ z => z
    have q1 : Rp X.K X.mg G1 v r.1 := q1.1
    cases ey : strOf? r.1 with
    | none =>
      rw [ey] at hr
      exact hr.elim
    | some y =>
      have ed := strOf_eq ey
      rw [ey] at hr
      dsimp only at hr
      split at hr
      · rename_i hl
        rw [ed] at q1
        cases q1
        refine ⟨y, rfl, szl_small hl, sem σ _ G1 F1 H1 Q _ o1.drop ?_⟩
        exact (Wp.nxExt x1 hr).imp (fun r q v G' F' H' fp x o vl _ => q v G' F' H' fp (x1.trans x) o vl fun z => nomatch z) fun _ z => z
      · exact hr.elim
theorem ex_fstr {v1 v2 : Expr} {rest : List Expr} {gs : List (M D)} (h : FJ X W c (v1 :: v2 :: rest) gs) : EX X W c false (.rd 0) (.JoinedStr (v1 :: v2 :: rest) pos) (eJs gs Str.empty) := by
  obtain ⟨ts, j, sem⟩ := fj_sem h
  exact ⟨_, pe_joined j, fun σ ρ G F H Q o w => sem σ ρ G F H Q _ o w⟩
end
end
end PV

set_option Elab.async false
set_option linter.all false
set_option maxRecDepth 100000
set_option maxHeartbeats 0
namespace PV
noncomputable section
open PySem PySem.Spec
open PyProof.Rows L2

/-! ## 41. methods: their promises, and what the text says of them -/
structure MetAt (K : PySem.W.Frag) (C : Addr) (m qual : Str) (st : Stmt) (pn : List Str) (dvs : List V) (f : Addr) (fd : FuncData) : Prop where
  F : FunD K m qual (defArgs st) (defBody st) (defScope st) dvs [] f fd
  me : Meth K C m f
  b : Binds K fd pn []
section
variable {P : Program} {w : World} {K : PySem.W.Frag} {mg : Str → Option Value} {base : Heap} {x qual : Str} {st : Stmt} {f C : Addr} {fd : FuncData} {N pn : List Str} {k rk : Nat} {ps : List Pm} {ls : List Kd} {s : SM} {dvs : List V} {kws : List (Str × V)}
theorem fn_metI (F : FunD K x qual (defArgs st) (defBody st) (defScope st) dvs kws f fd) (S : FnScope N pn (defScope st)) (hl : pn.length = ps.length) (hb : BodyOk P w K mg base qual st f N k rk ps ls s) {n : Nat} (hn : N.length = n) {m : List D → R (D × List D)} (hm : m = runB n ps rk s) :
    FnOk P w K mg base (L2.CX P w) (k + 1) f fd pn (spM K mg ps rk m) := by
  rw [hm, ← hn]
  exact fn_bodyG (fun len body => F.ok S len body) hl hb
theorem fn_metP (F : FunD K x qual (defArgs st) (defBody st) (defScope st) dvs kws f fd) (S : FnScope N pn (defScope st)) (hl : pn.length = ps.length) (hb : BodyOk P w K mg base qual st f N k rk ps ls s) {n : Nat} (hn : N.length = n) {m : List D → R D} (hm : m = runF n rk s) (hp : noIoP ps = true) :
    FnOk P w K mg base (L2.CX P w) (k + 1) f fd pn (spM K mg ps rk (m0 m)) := by
  have h := fn_metI (m := runB n ps rk s) F S hl hb hn rfl
  rw [hm]
  exact PV.FnOk.plain h hp
theorem MetAt.op (h : MetAt K C x qual st pn dvs f fd) : OpM K C x f := ⟨h.me.at_, h.me.fn⟩
end
/-- one method, out of the facts -/
def mD (k m qual : Str) (st : Stmt) (dfl : List He.Dv) : He.DefD := ⟨(k, some m), m, qual, defArgs st, defBody st, defScope st, dfl, []⟩
section
variable {K : PySem.W.Frag} {k m qual : Str} {st : Stmt} {pn : List Str}
theorem met_at0 (e : He.fnW K (k, some m) = (mD k m qual st []).val) (c : (mD k m qual st []).ok K = true) (cm : (He.Fa.meth k m).ok K = true)
    (hb : ∀ (kV doc pm : Value) (an : Option Addr) (cdv ct : Value) (us : List Value), us.length = pn.length → bindArgs (PySem.W.fnOf m qual (defArgs st) (defBody st) (defScope st) .none kV doc pm an cdv ct) ⟨us, []⟩ = pure (pn.zip us)) : ∃ fd, MetAt K (He.ga K k) m qual st pn [] (He.ma K (He.ga K k) m) fd := by
  obtain ⟨fd, F⟩ := He.DefD.funD e c
  exact ⟨fd, F, He.meth_ok cm, F.bindsN hb⟩
/-- a method with one default, an int -/
theorem met_at1 (i : Int) (n : Nat) (hn : pn.length = n + 1) (e : He.fnW K (k, some m) = (mD k m qual st [.int i]).val) (c : (mD k m qual st [.int i]).ok K = true) (cm : (He.Fa.meth k m).ok K = true)
    (h0 : ∀ (T : Addr) (kV doc pm : Value) (an : Option Addr) (cdv ct : Value) (us its : List Value), us.length = n → its.length = 1 → ∃ k, bindArgs (PySem.W.fnOf m qual (defArgs st) (defBody st) (defScope st) (.ref T) kV doc pm an cdv ct) ⟨us, []⟩ = seqItems? (.ref T) >>= k ∧ k (some its.toArray) = pure (pn.zip (us ++ its)))
    (h1 : ∀ (T : Addr) (kV doc pm : Value) (an : Option Addr) (cdv ct : Value) (us its : List Value), us.length = n + 1 → its.length = 1 → ∃ k, bindArgs (PySem.W.fnOf m qual (defArgs st) (defBody st) (defScope st) (.ref T) kV doc pm an cdv ct) ⟨us, []⟩ = seqItems? (.ref T) >>= k ∧ k (some its.toArray) = pure (pn.zip us)) :
    ∃ fd, MetAt K (He.ga K k) m qual st pn [.int i] (He.ma K (He.ga K k) m) fd ∧ ∃ ds, Vals [V.int i] ds ∧ Binds K fd pn ds := by
  obtain ⟨fd, F⟩ := He.DefD.funD e c
  have F' : FunD K m qual (defArgs st) (defBody st) (defScope st) [.int i] [] (He.ma K (He.ga K k) m) fd := F
  obtain ⟨ds, r, b⟩ := F'.binds1 (ps := pn) n 0 (by simp) (by rw [hn]; rfl) fun T kV doc pm an cdv ct us its l1 l2 => h0 T kV doc pm an cdv ct us its l1 l2
  obtain ⟨ds', r', b'⟩ := F'.binds1 (ps := pn) (n + 1) 1 (by simp) (by rw [hn]; rfl) fun T kV doc pm an cdv ct us its l1 l2 => by
    obtain ⟨k, e1, e2⟩ := h1 T kV doc pm an cdv ct us its l1 l2
    have l2' : its.length = 1 := l2
    have z : its.drop 1 = [] := List.drop_eq_nil_of_le (by omega)
    exact ⟨k, e1, by rw [z, List.append_nil]; exact e2⟩
  cases r'
  exact ⟨fd, ⟨F', He.meth_ok cm, b'⟩, ds, r, b⟩
end
theorem dk_at {K : PySem.W.Frag} {l : List He.DefD} (c : l.all (He.DefD.ok K) = true) (i : Nat) {d : He.DefD} (h : l[i]? = some d) : d.ok K = true := List.all_eq_true.mp c d (List.mem_of_getElem? h)
theorem dw_at {K : PySem.W.Frag} {l : List He.DefD} (c : l.map (fun d => He.fnW K d.at_) = l.map He.DefD.val) (i : Nat) {d : He.DefD} (h : l[i]? = some d) : He.fnW K d.at_ = d.val := by
  have z := congrArg (fun l => l[i]?) c
  simp only [List.getElem?_map, h, Option.map_some, Option.some.injEq] at z
  exact z
/-! ### what is checked of a class of one's own -/
def leftB (K : PySem.W.Frag) (C : Addr) (nm T : String) : Bool := (match PySem.W.findIn K (.ref C) (dunderR nm) with
    | some none => true
    | some (some (.ref _)) => true
    | _ => false) && ((PySem.W.findIn K (.type T) (PySem.dunder nm)).isSome && ((PySem.W.findIn K (.type T) (dunderR nm)).isSome && decide (PySem.W.subIn K (.type T) (.ref C) = some false)))
theorem leftB_ok {K : PySem.W.Frag} {C : Addr} {nm T : String} (h : leftB K C nm T = true) : LeftOwn K C nm T := by
  unfold leftB at h
  rw [Bool.and_eq_true, Bool.and_eq_true, Bool.and_eq_true] at h
  obtain ⟨h1, h2, h3, h4⟩ := h
  refine ⟨?_, Option.isSome_iff_exists.mp h2, Option.isSome_iff_exists.mp h3, of_decide_eq_true h4⟩
  split at h1
  · exact ⟨_, ‹_›, .inl rfl⟩
  · exact ⟨_, ‹_›, .inr ⟨_, rfl⟩⟩
  · cases h1
def allTy : List Ty := [.non, .bl, .int, .str, .tup, .lst, .dct]
def isKB (K : PySem.W.Frag) (C : Addr) : Bool := He.eqO (PySem.W.findIn K (.ref C) "__class__") (some (some (.builtin "object.__class__"))) && (He.eqO (PySem.W.specialIn K (.builtin "object.__class__") "__get__") (some (some (.builtin "getset_descriptor.__get__"))) &&
  (decide (PySem.W.takesIn K (.builtin "object.__class__") = some true) && (decide (PySem.W.mroIn K C (.type "object") = some true) && allTy.all fun t => decide (PySem.W.kitOne K (.type (tyS t)) (.ref C) = some false))))
theorem isKB_ok {K : PySem.W.Frag} {C : Addr} (h : isKB K C = true) : IsK K C := by
  unfold isKB at h
  rw [Bool.and_eq_true, Bool.and_eq_true, Bool.and_eq_true, Bool.and_eq_true] at h
  obtain ⟨h1, h2, h3, h4, h5⟩ := h
  exact ⟨He.eqO_ok h1, He.eqO_ok h2, of_decide_eq_true h3, of_decide_eq_true h4, fun t => of_decide_eq_true (List.all_eq_true.mp h5 t (by cases t <;> decide))⟩
structure OwnF (K : PySem.W.Frag) (C : Addr) (ops : List String) : Prop where
  first : PySem.W.selfFirst K C = true
  left : ∀ nm ∈ ops, ∀ T ∈ rightT, LeftOwn K C nm T
  eq : ∀ T ∈ rightT, PySem.W.notFirst K C (.type T) = true
  is : IsK K C
def ownB (K : PySem.W.Frag) (C : Addr) (ops : List String) : Bool := PySem.W.selfFirst K C && ((ops.all fun nm => rightT.all fun T => leftB K C nm T) && ((rightT.all fun T => PySem.W.notFirst K C (.type T)) && isKB K C))
theorem ownB_ok {K : PySem.W.Frag} {C : Addr} {ops : List String} (h : ownB K C ops = true) : OwnF K C ops := by
  unfold ownB at h
  rw [Bool.and_eq_true, Bool.and_eq_true, Bool.and_eq_true] at h
  obtain ⟨h1, h2, h3, h4⟩ := h
  exact ⟨h1, fun nm hn T hT => leftB_ok (List.all_eq_true.mp (List.all_eq_true.mp h2 nm hn) T hT), fun T hT => List.all_eq_true.mp h3 T hT, isKB_ok h4⟩
/-! ### what is checked of Refused -/
def sixSlots : List (Option Value) → Bool
  | [_, _, _, _, some (.builtin n), _] => decide (n = "ValueError.__new__")
  | _ => false
theorem sixSlots_eq {l : List (Option Value)} (h : sixSlots l = true) : ∃ a b c d e, l = [a, b, c, d, some (.builtin "ValueError.__new__"), e] := by
  unfold sixSlots at h
  split at h
  · have en := of_decide_eq_true h
    rw [en]
    exact ⟨_, _, _, _, _, rfl⟩
  · cases h
def mroB (C : Addr) : List Value → Bool
  | .ref c :: bm => decide (c = C) && PySem.HandSPX.refsVE bm
  | _ => false
theorem mroB_eq {C : Addr} {l : List Value} (h : mroB C l = true) : ∃ bm, l = .ref C :: bm ∧ PySem.HandSPX.refsVE bm = true := by
  unfold mroB at h
  split at h
  · rw [Bool.and_eq_true] at h
    have ec := of_decide_eq_true h.1
    rw [ec]
    exact ⟨_, rfl, h.2⟩
  · cases h
def kindB (C : Addr) (o : Obj) : Bool := decide (o.cls = .type "type") && (sixSlots o.slots.toList && match o.data with
  | .cls cd => mroB C cd.mro && (cd.hasDict && !cd.hasDel)
  | _ => false)
theorem kindB_eq {C : Addr} {o : Obj} (h : kindB C o = true) : ∃ nm q N bs bm sn sub ab col dd k0 k1 k2 k3 k5, o = excClassObj nm q C N bs bm true sn sub ab col dd k0 k1 k2 k3 k5 "ValueError.__new__" ∧ PySem.HandSPX.refsVE bm = true := by
  obtain ⟨oc, od, dt, ⟨sl⟩⟩ := o
  unfold kindB at h
  rw [Bool.and_eq_true, Bool.and_eq_true] at h
  obtain ⟨h1, h2, h3⟩ := h
  have e1 : oc = .type "type" := of_decide_eq_true h1
  obtain ⟨a, b, c, d, e, e2⟩ := sixSlots_eq h2
  have e2' : sl = [a, b, c, d, some (.builtin "ValueError.__new__"), e] := e2
  clear e2
  cases dt <;> first | (cases h3; done) | skip
  rename_i cd
  obtain ⟨c1, c2, c3, c4, c5, c6, c7, c8, c9, c10, c11⟩ := cd
  dsimp only at h3
  rw [Bool.and_eq_true, Bool.and_eq_true, Bool.not_eq_true'] at h3
  obtain ⟨h4, h5, h6⟩ := h3
  obtain ⟨bm, e3, h7⟩ := mroB_eq h4
  subst e1 e2' e3 h5 h6
  exact ⟨_, _, _, _, bm, _, _, _, _, _, _, _, _, _, _, rfl, h7⟩
def oexB (K : PySem.W.Frag) (C : Addr) : Bool := (match K.lookup C with
  | some o => kindB C o
  | none => false) && (He.eqO (PySem.W.findIn K (.ref C) "__setattr__") (some (some (.builtin "object.__setattr__"))) && (decide (PySem.W.subIn K (.ref C) (.type "BaseException") = some true) &&
    (decide (PySem.W.typeIn K (.ref C) = some (.type "type")) && PySem.W.keepIn K (.ref C))))
theorem oexB_ok {K : PySem.W.Frag} {C : Addr} (h : oexB K C = true) : OexC K C := by
  unfold oexB at h
  rw [Bool.and_eq_true, Bool.and_eq_true, Bool.and_eq_true, Bool.and_eq_true] at h
  obtain ⟨h1, h2, h3, h4, h5⟩ := h
  refine ⟨?_, He.eqO_ok h2, of_decide_eq_true h3, of_decide_eq_true h4, h5⟩
  cases q : K.lookup C with
  | none => rw [q] at h1; cases h1
  | some o =>
    rw [q] at h1
    obtain ⟨nm, q', N, bs, bm, sn, sub, ab, col, dd, k0, k1, k2, k3, k5, e, hb⟩ := kindB_eq h1
    exact ⟨nm, q', N, bs, bm, sn, sub, ab, col, dd, k0, k1, k2, k3, k5, by rw [e], hb⟩
def refB (K : PySem.W.Frag) : Bool := He.eqO (PySem.W.specialIn K (.ref (He.ga K "Fault")) "__getattribute__") (some (some (.builtin "type.__getattribute__"))) && (PySem.W.readsIn K (He.ga K "Fault") (.type "type") &&
  ((match PySem.W.findCls K (.ref (He.ga K "Fault")) (.type "type") "__init__" with
    | some (.val v) => decide (v = .builtin "ValueError.__init__")
    | _ => false) && (oexB K (He.ga K "Refused") && decide (PySem.W.typeIn K (.ref (He.ma K (He.ga K "Refused") "__init__")) = some (.type "function")))))
section
variable {mg : Str → Option Value} {K : PySem.W.Frag} {h : Heap}
theorem refK_at (X : K.In h) (G : h.Ns mainGlobals mg) (c1 : (He.Fa.glo "Fault").ok K = true) (c2 : (He.Fa.glo "Refused").ok K = true) (c3 : (He.Fa.noat "Refused" "reason").ok K = true) (c4 : (He.Fa.meth "Refused" "__init__").ok K = true) (c5 : refB K = true) :
    RefK K mg (He.ga K "Fault") (He.ga K "Refused") (He.ma K (He.ga K "Refused") "__init__") := by
  unfold refB at c5
  rw [Bool.and_eq_true, Bool.and_eq_true, Bool.and_eq_true, Bool.and_eq_true] at c5
  obtain ⟨h1, h2, h3, h4, h5⟩ := c5
  refine ⟨He.glo_ok X G c1, He.glo_ok X G c2, He.eqO_ok h1, h2, ?_, oexB_ok h4, He.noat_ok c3, (He.meth_ok c4).at_, of_decide_eq_true h5⟩
  cases q : PySem.W.findCls K (.ref (He.ga K "Fault")) (.type "type") "__init__" with
  | none => rw [q] at h3; cases h3
  | some r =>
    rw [q] at h3
    cases r <;> first | (cases h3; done) | skip
    have e := of_decide_eq_true h3
    rw [e]
theorem cls_at (X : K.In h) (G : h.Ns mainGlobals mg) {k : Str} (c1 : (He.Fa.glo k).ok K = true) (c2 : (He.Fa.cls k).ok K = true) : ClsF K mg k (He.ga K k) := ⟨He.glo_ok X G c1, He.cls_ok c2⟩
end
/-! the def of Refused.__init__ -/
section
variable {P : Program} {w : World} {K : PySem.W.Frag} {mg : Str → Option Value} {base : Heap} {CF CR fI : Addr} {fd : FuncData} {st : Stmt}
theorem plain_of {x qual : Str} {f : Addr} {kws : List (Str × V)} (F : FunD K x qual (defArgs st) (defBody st) (defScope st) [] kws f fd) : Fun K x qual st f fd := by
  obtain ⟨oc, od, dV, kV, doc, pm, an, cdv, ct, osl, e, l, cc, hd, _⟩ := F.ex
  have ed : dV = .none := by
    rcases hd with ⟨_, z⟩ | ⟨z, _⟩
    · exact z
    · exact (z rfl).elim
  rw [ed] at e
  exact ⟨⟨oc, od, kV, doc, pm, an, cdv, ct, osl, e, l, cc⟩, F.kp⟩
end
end
end PV

set_option Elab.async false
set_option linter.all false
set_option maxRecDepth 100000
set_option maxHeartbeats 0
namespace PV
noncomputable section
open PySem PySem.Spec
open PyProof.Rows L2

/-! ## 42. three names at once -/
section
variable {X : Cx} {W : WX} {c : Fc} {rk : Nat}
theorem sx_par3 (ok : Cok X W) (i j l : Nat) {ki kj kl : Nat} {x y z : Str} {a b e : Expr} {f : M (List D)} {px py pz pt : Pos} {kt k2 pt2} {pos : Pos} (h : AP X W c [ki, kj, kl] [a, b, e] f) (hN : X.N.Nodup) (hij : i ≠ j ∧ i ≠ l ∧ j ≠ l) (hki : c.kd i = .own ki := by rfl) (hkj : c.kd j = .own kj := by rfl) (hkl : c.kd l = .own kl := by rfl)
    (hioi : noIo c i = true := by rfl) (hioj : noIo c j = true := by rfl) (hiol : noIo c l = true := by rfl) (hi : X.N[i]? = some x := by rfl) (hj : X.N[j]? = some y := by rfl) (hl : X.N[l]? = some z := by rfl) (hx : X.env.scope.names.lookup x = some .local := by rfl) (hy : X.env.scope.names.lookup y = some .local := by rfl) (hz : X.env.scope.names.lookup z = some .local := by rfl)
    (hw : swappedStores [.Tuple [.Name x px, .Name y py, .Name z pz] kt pt] (.Tuple [a, b, e] k2 pt2) X.env = pure (some [x, y, z]) := by rfl) (hs : swapsWithSole [.Tuple [.Name x px, .Name y py, .Name z pz] kt pt] (.Tuple [a, b, e] k2 pt2) pos.line X.env = pure false := by rfl) :
    SX X W c rk (.Assign [.Tuple [.Name x px, .Name y py, .Name z pz] kt pt] (.Tuple [a, b, e] k2 pt2) pos) (sPar [i, j, l] f) := by
  obtain ⟨ta, h1, h2⟩ := h
  refine ⟨_, ps_par3 ok.calm hN hi hj hl hij.1 hij.2.1 hij.2.2 hx hy hz h1 hw hs, fun D σ ρ G F H o w => ?_⟩
  refine h2 σ ρ G F H _ o ((WpS.ofDo w).imp (fun r hr => ?_) fun _ z => Nx.toS z)
  obtain ⟨ds, ρ1⟩ := r
  rintro vs G1 F1 H1 fp x1 o1 vl
  have vl : VL X.K X.mg G1 H1 [ki, kj, kl] ds vs fp := vl
  rcases vl with _ | ⟨q1, _ | ⟨q2, _ | ⟨q3, _ | _⟩⟩⟩
  have p1 := Ok.set (T := _) o1 (i := i) (by rw [hki]; exact q1) hioi
  have p2 := Ok.set (T := _) p1 (i := j) (by rw [hkj]; exact q2) hioj
  have p3 := Ok.set (T := _) p2 (i := l) (by rw [hkl]; exact q3) hiol
  refine ⟨_, _, _, rfl, hr _ G1 F1 H1 x1 ?_ (by simp only [List.length_set])⟩
  rw [setAll_cons, setAll_cons, setAll_cons, setAll_nil]
  exact p3
end
/-! the built-in parts of the three operators that a class may have -/
section
variable {K : PySem.W.Frag} {mg : Str → Option Value}
theorem addI_S : Op2S K mg (.rd 0) (.rd 0) (.rd 0) (rAddA K) gAdd := add_S
theorem subI_S : Op2S K mg (.rd 0) (.rd 0) (.rd 0) (rI (fun _ _ => True) fun i j => .int (i - j)) gSub := op2_int (k := fun i j => .int (i - j)) (fun x y z h => by
  obtain ⟨i, j, e1, e2, h⟩ := int_inv (g := fun i j => some (.int (i - j))) h
  exact ⟨i, j, e1, e2, trivial, (Option.some.inj h).symm⟩) fun i j _ => .int _
theorem mulI_S : Op2S K mg (.rd 0) (.rd 0) (.rd 0) (rI (fun i j => mulOk i j = true) fun i j => .int (i * j)) gMul := op2_int (k := fun i j => .int (i * j)) (fun x y z h => by
  obtain ⟨i, j, e1, e2, h⟩ := int_inv (g := fun i j => if mulOk i j = true then some (.int (i * j)) else none) h
  by_cases hc : mulOk i j = true
  · rw [if_pos hc] at h
    exact ⟨i, j, e1, e2, hc, (Option.some.inj h).symm⟩
  · rw [if_neg hc] at h
    cases h) fun i j _ => .int _
theorem addI_op {X : Cx} : OpR X (binaryOp .Add) (rAddA X.K) := op_addA
theorem subI_op {X : Cx} : OpR X (binaryOp .Sub) (rI (fun _ _ => True) fun i j => .int (i - j)) := OpR.imp op_sub rI0_I
theorem mulI_op {X : Cx} : OpR X (binaryOp .Mult) (rI (fun i j => mulOk i j = true) fun i j => .int (i * j)) := mul_wide
end
/-! ## 43. a class's statement, its body -/
def clsS : Stmt → List Stmt
  | .ClassDef _ _ _ b _ _ _ _ _ _ _ => b
  | _ => []
/-! ## 44. what leaves a slot alone -/
section
variable {i : Nat} {k m : Str}
theorem fr_eOpX {mm : List D → R D} {g : D → D → Option D} {fa fb : M D} (h : Fr i fa) (h' : Fr i fb) : Fr i (eOpX k mm g fa fb) := fr_bind h fun _ => fr_bind h' fun _ => fr_ite (fr_ite (fr_lift fr_pure) fr_fail) fr_ofO
theorem fr_e1X {mm : List D → R D} {fa : M D} (h : Fr i fa) : Fr i (e1X k mm fa) := fr_bind h fun _ => fr_ite (fr_lift fr_pure) fr_fail
theorem fr_toStr {d : D} : Fr i (toStr d) := by
  unfold toStr
  split
  · exact fr_pure
  · exact fr_fail
theorem fr_eStrX {mm : List D → R D} {fa : M D} (h : Fr i fa) : Fr i (eStrX k mm fa) := fr_bind h fun _ => fr_ite (fr_bind (fr_lift fr_pure) fun _ => fr_toStr) fr_fail
theorem fr_eMake {mI : List D → R (D × List D)} {dflt : List D} {fa : M (List D)} (h : Fr i fa) : Fr i (eMake k mI dflt fa) := by
  refine fr_bind h fun ds => ?_
  generalize mI (.obj k [] :: (ds ++ dflt)) = r
  rcases r with ⟨d, os⟩ | x | _
  · cases d <;> first | exact fr_fail | skip
    rcases os with _ | ⟨y, _ | ⟨_, _⟩⟩
    · exact fr_fail
    · exact fr_pure
    · exact fr_fail
  · exact ⟨fun _ _ _ _ _ e => (nomatch e), fun _ _ _ e => (nomatch e)⟩
  · exact fr_fail
theorem fr_eMethC {mm : List D → R D} {fo : M D} {fa : M (List D)} (h : Fr i fo) (h' : Fr i fa) : Fr i (eMethC k m mm fo fa) := by
  refine fr_bind h fun x => ?_
  cases x <;> first | exact fr_fail | exact fr_ite (fr_lift h') fr_fail
end
end
end PV

set_option Elab.async false
set_option linter.all false
set_option maxRecDepth 100000
set_option maxHeartbeats 0
namespace PV
noncomputable section
open PySem PySem.Spec
open PyProof.Rows L2

/-! ## 45. mirrors worked out by hand: what each part gives -/
def upM {α : Type} (ρ : PV.Env) : R α → R (α × PV.Env)
  | .ok d => .ok (d, ρ)
  | .exc x => .exc x
  | .fail => .fail
section
variable {ρ ρ1 ρ2 ρ3 : PV.Env} {fa fb : M D} {t u : M Bool} {x y : Int} {v w : D} {b c : Bool}
theorem var_of {i : Nat} (h : look ρ i = some v) : eVar i ρ = .ok (v, ρ) := by
  simp [eVar, h]
theorem e1_of {g : D → Option D} (ha : fa ρ = .ok (v, ρ1)) (hg : g v = some w) : e1 g fa ρ = .ok (w, ρ1) := by
  simp [e1, M.bind, M.ofO, M.pure, ha, hg]
theorem e2_of {g : D → D → Option D} {z : D} (ha : fa ρ = .ok (v, ρ1)) (hb : fb ρ1 = .ok (w, ρ2)) (hg : g v w = some z) : e2 g fa fb ρ = .ok (z, ρ2) := by
  simp [e2, M.bind, M.ofO, M.pure, ha, hb, hg]
theorem e1L_of {g : D → Option D} (ha : fa ρ = .ok (v, ρ1)) (hg : g v = some w) : e1L g fa ρ = .ok (w, ρ1) := by
  simp [e1L, eL, PV.g1, aCons, aNil, M.bind, M.ofO, M.pure, ha, hg]
theorem mul_of (ha : fa ρ = .ok (.int x, ρ1)) (hb : fb ρ1 = .ok (.int y, ρ2)) (h : mulOk x y = true) : e2 gMul fa fb ρ = .ok (.int (x * y), ρ2) := e2_of ha hb (if_pos h)
theorem add_of (ha : fa ρ = .ok (.int x, ρ1)) (hb : fb ρ1 = .ok (.int y, ρ2)) : e2 gAdd fa fb ρ = .ok (.int (x + y), ρ2) := e2_of ha hb rfl
theorem sub_of (ha : fa ρ = .ok (.int x, ρ1)) (hb : fb ρ1 = .ok (.int y, ρ2)) : e2 PV.gSub fa fb ρ = .ok (.int (x - y), ρ2) := e2_of ha hb rfl
theorem neg_of (ha : fa ρ = .ok (.int x, ρ1)) : e1 gNeg fa ρ = .ok (.int (-x), ρ1) := e1_of ha rfl
theorem abs_of (ha : fa ρ = .ok (.int x, ρ1)) : e1L gAbs fa ρ = .ok (.int (if x < 0 then -x else x), ρ1) := e1L_of ha rfl
theorem eqI_of (ha : fa ρ = .ok (.int x, ρ1)) (hb : fb ρ1 = .ok (.int y, ρ2)) : e2 gEq fa fb ρ = .ok (.bl (decide (x = y)), ρ2) := e2_of ha hb rfl
theorem neI_of (ha : fa ρ = .ok (.int x, ρ1)) (hb : fb ρ1 = .ok (.int y, ρ2)) : e2 gNe fa fb ρ = .ok (.bl (!decide (x = y)), ρ2) := e2_of ha hb rfl
theorem ltI_of (ha : fa ρ = .ok (.int x, ρ1)) (hb : fb ρ1 = .ok (.int y, ρ2)) : e2 gLt fa fb ρ = .ok (.bl (decide (x < y)), ρ2) := e2_of ha hb rfl
theorem gtI_of (ha : fa ρ = .ok (.int x, ρ1)) (hb : fb ρ1 = .ok (.int y, ρ2)) : e2 gGt fa fb ρ = .ok (.bl (decide (y < x)), ρ2) := e2_of ha hb rfl
theorem nil_of : aNil ρ = .ok ([], ρ) := rfl
theorem cons_of {fs : M (List D)} {l : List D} (ha : fa ρ = .ok (v, ρ1)) (hb : fs ρ1 = .ok (l, ρ2)) : aCons fa fs ρ = .ok (v :: l, ρ2) := by
  simp [aCons, M.bind, M.pure, ha, hb]
theorem two_of (ha : fa ρ = .ok (v, ρ1)) (hb : fb ρ1 = .ok (w, ρ2)) : aCons fa (aCons fb aNil) ρ = .ok ([v, w], ρ2) := cons_of ha (cons_of hb nil_of)
theorem lift_up {m : List D → R D} {fs : M (List D)} {l : List D} (ha : fs ρ = .ok (l, ρ1)) : M.lift m fs ρ = upM ρ1 (m l) := by
  unfold M.lift
  rw [M.bind_of ha]
  cases m l <;> rfl
theorem call_up {m : List D → R D} {fs : M (List D)} {l : List D} (ha : fs ρ = .ok (l, ρ1)) : eCall m fs ρ = upM ρ1 (m l) := lift_up ha
theorem call_of {m : List D → R D} {fs : M (List D)} {l : List D} (ha : fs ρ = .ok (l, ρ1)) (h : m l = .ok v) : eCall m fs ρ = .ok (v, ρ1) := by
  rw [call_up ha, h]
  rfl
theorem tup_of {fs : M (List D)} {l : List D} (ha : fs ρ = .ok (l, ρ1)) (hl : l.length ≤ 100000) : eTup fs ρ = .ok (.tup l, ρ1) := by
  unfold eTup eL
  rw [M.bind_of ha]
  show M.ofO (if _ then _ else _) ρ1 = _
  rw [if_pos hl]
  rfl
theorem lst_of {fs : M (List D)} {l : List D} (ha : fs ρ = .ok (l, ρ1)) (hl : l.length ≤ 100000) : eLst fs ρ = .ok (.lst l, ρ1) := by
  unfold eLst eL
  rw [M.bind_of ha]
  show M.ofO (if _ then _ else _) ρ1 = _
  rw [if_pos hl]
  rfl
theorem tB_of (h : fa ρ = .ok (.bl b, ρ1)) : PV.tB fa ρ = .ok (b, ρ1) := by
  unfold PV.tB
  rw [M.bind_of h]
  rfl
theorem tNot_of (h : t ρ = .ok (b, ρ1)) : PV.tNot t ρ = .ok (!b, ρ1) := by
  unfold PV.tNot
  rw [M.bind_of h]
  rfl
theorem tOr_f (h : t ρ = .ok (false, ρ1)) (k : u ρ1 = .ok (b, ρ2)) : PV.tOr t u ρ = .ok (b, ρ2) := by
  unfold PV.tOr
  rw [M.bind_of h]
  exact k
theorem tAnd_t (h : t ρ = .ok (true, ρ1)) (k : u ρ1 = .ok (b, ρ2)) : PV.tAnd t u ρ = .ok (b, ρ2) := by
  unfold PV.tAnd
  rw [M.bind_of h]
  exact k
theorem tAnd_f (h : t ρ = .ok (false, ρ1)) : PV.tAnd t u ρ = .ok (false, ρ1) := by
  unfold PV.tAnd
  rw [M.bind_of h]
  rfl
/-- a test that must hold, asked the other way round -/
theorem nope (h : fa ρ = .ok (.bl true, ρ1)) : PV.tNot (PV.tB fa) ρ = .ok (false, ρ1) := tNot_of (tB_of h)
theorem if_no {a : SM} (h : t ρ = .ok (false, ρ1)) : sIf t a sNx ρ = .nx ρ1 := by
  unfold sIf
  rw [sDo_of h]
  rfl
theorem eIf_t (h : t ρ = .ok (true, ρ1)) (k : fa ρ1 = .ok (v, ρ2)) : eIf t fa fb ρ = .ok (v, ρ2) := by
  unfold eIf
  rw [M.bind_of h]
  exact k
theorem eIf_f (h : t ρ = .ok (false, ρ1)) (k : fb ρ1 = .ok (v, ρ2)) : eIf t fa fb ρ = .ok (v, ρ2) := by
  unfold eIf
  rw [M.bind_of h]
  exact k
theorem ret_of {n : Nat} {ds : List D} {yy : R D} {f : M D} (h : f (PV.envOf n ds) = upM (PV.envOf n ds) yy) : runF n 0 (sRet f) ds = yy := by
  unfold runF sRet sDo
  rw [h]
  cases yy <;> rfl
theorem seq_run {s k : SM} {n : Nat} {ds : List D} (h : s (PV.envOf n ds) = .nx (PV.envOf n ds)) : runF n 0 (sSeq s k) ds = runF n 0 k ds := by
  unfold runF
  rw [sSeq_of h]
end
/-! own classes -/
section
variable {ρ ρ1 ρ2 : PV.Env} {fa fb : M D} {v w : D} {k : Str} {fs : List (Str × D)}
theorem opx_of {mm : List D → R D} {g : D → D → Option D} (ha : fa ρ = .ok (.obj k fs, ρ1)) (hb : fb ρ1 = .ok (w, ρ2)) (hr : rightD k w = true) : eOpX k mm g fa fb ρ = upM ρ2 (mm [.obj k fs, w]) := by
  unfold eOpX
  rw [M.bind_of ha, M.bind_of hb, if_pos (show isObj k (.obj k fs) = true from decide_eq_true rfl), if_pos hr]
  unfold M.lift
  rw [M.bind_of (a := [.obj k fs, w]) (ρ1 := ρ2) rfl]
  cases mm [.obj k fs, w] <;> rfl
theorem e1x_of {mm : List D → R D} (ha : fa ρ = .ok (.obj k fs, ρ1)) : e1X k mm fa ρ = upM ρ1 (mm [.obj k fs]) := by
  unfold e1X
  rw [M.bind_of ha, if_pos (show isObj k (.obj k fs) = true from decide_eq_true rfl)]
  unfold M.lift
  rw [M.bind_of (a := [.obj k fs]) (ρ1 := ρ1) rfl]
  cases mm [.obj k fs] <;> rfl
theorem strx_of {mm : List D → R D} {z : Str} (ha : fa ρ = .ok (.obj k fs, ρ1)) (h : mm [.obj k fs] = .ok (.str z)) : eStrX k mm fa ρ = .ok (.str z, ρ1) := by
  unfold eStrX
  rw [M.bind_of ha, if_pos (show isObj k (.obj k fs) = true from decide_eq_true rfl)]
  have e : M.lift mm (M.pure [D.obj k fs]) ρ1 = .ok (.str z, ρ1) := by
    unfold M.lift
    rw [M.bind_of (a := [.obj k fs]) (ρ1 := ρ1) rfl, h]
  rw [M.bind_of e]
  rfl
theorem meth_of {m : Str} {mm : List D → R D} {fl : M (List D)} {l : List D} (ha : fa ρ = .ok (.obj k fs, ρ1)) (hl : fl ρ1 = .ok (l, ρ2)) (no : fs.lookup m = none) : eMethC k m mm fa fl ρ = upM ρ2 (mm (.obj k fs :: l)) := by
  unfold eMethC
  rw [M.bind_of ha]
  show (if k = k ∧ fs.lookup m = none then M.lift (fun ds => mm (.obj k fs :: ds)) fl else fun _ => .fail) ρ1 = _
  rw [if_pos ⟨rfl, no⟩]
  exact lift_up hl
end
/-! comprehensions whose parts only read, any target -/
theorem wipeG_twice (vs : List Nat) : ∀ (us : List Nat) (ρ : PV.Env), (∀ v ∈ us, v ∈ vs) → wipeG (wipeG ρ us) vs = wipeG ρ vs
  | [], ρ, _ => rfl
  | u :: us, ρ, h => by
    rw [wipeG_cons]
    exact (wipeG_set (h u List.mem_cons_self)).trans (wipeG_twice vs us ρ fun v hv => h v (List.mem_cons_of_mem _ hv))
theorem lcN_gen {vs : List Nat} {tg : D → PV.Env → Option PV.Env} {f : M D} {h : D → D} {ρ : PV.Env} : ∀ (ds : List D) (ρ' : PV.Env), wipeG ρ' vs = wipeG ρ vs → (∀ d ∈ ds, ∃ ρd, tg d (wipeG ρ vs) = some ρd ∧ wipeG ρd vs = wipeG ρ vs ∧ f ρd = .ok (h d, ρd)) → ∃ ρ2, lcN vs tg tTrue f ds ρ' = .ok (ds.map h, ρ2) ∧ wipeG ρ2 vs = wipeG ρ vs
  | [], ρ', e, _ => ⟨ρ', rfl, e⟩
  | d :: r, ρ', e, hf => by
    obtain ⟨ρd, e1, e2, e3⟩ := hf d List.mem_cons_self
    obtain ⟨ρ2, q, ew⟩ := lcN_gen r ρd e2 fun x hx => hf x (List.mem_cons_of_mem _ hx)
    refine ⟨ρ2, ?_, ew⟩
    rw [lcN_cons, e, e1]
    have et : tTrue ρd = .ok (true, ρd) := rfl
    simp only [et, e3, q]
    rfl
theorem eLc_gen {vs : List Nat} {tg : D → PV.Env → Option PV.Env} {f : M D} {h : D → D} {fi : M (List D)} {ds : List D} {ρ : PV.Env} (hfi : fi ρ = .ok (ds, ρ)) (hl : ds.length ≤ 100000)
    (hf : ∀ d ∈ ds, ∃ ρd, tg d (wipeG ρ vs) = some ρd ∧ wipeG ρd vs = wipeG ρ vs ∧ f ρd = .ok (h d, ρd)) : eLc vs fi tg tTrue f ρ = .ok (.lst (ds.map h), ρ) := by
  obtain ⟨ρ2, e, ew⟩ := lcN_gen ds ρ rfl hf
  unfold eLc
  rw [M.bind_of hfi, if_pos hl, e]
  show R.ok (D.lst (ds.map h), restE ρ vs ρ2) = _
  rw [restE_wipe ew]
end
end PV

open PySem PySem.Spec
open PyProof.Rows L2
set_option Elab.async false
set_option linter.all false
set_option maxRecDepth 100000
set_option maxHeartbeats 0
namespace K01
open PV
noncomputable section
def topS (i : Nat) : Stmt := PySem.Challenge.pw_surfaceroads_k01_whole_ratios_of_counts.main.body.getD i (.Pass ⟨0, 0, 0, 0⟩)
def u_is_integer : {st : Stmt // topS 5 = st} := by
  refine ⟨?_, ?_⟩
  rotate_left
  conv => lhs; whnf
abbrev t_is_integer : Stmt := u_is_integer.1
def u_common : {st : Stmt // topS 6 = st} := by
  refine ⟨?_, ?_⟩
  rotate_left
  conv => lhs; whnf
abbrev t_common : Stmt := u_common.1
def u_check_ratio : {st : Stmt // topS 9 = st} := by
  refine ⟨?_, ?_⟩
  rotate_left
  conv => lhs; whnf
abbrev t_check_ratio : Stmt := u_check_ratio.1
def u__law_state : {st : Stmt // topS 11 = st} := by
  refine ⟨?_, ?_⟩
  rotate_left
  conv => lhs; whnf
abbrev t__law_state : Stmt := u__law_state.1
def u__law_take : {st : Stmt // topS 12 = st} := by
  refine ⟨?_, ?_⟩
  rotate_left
  conv => lhs; whnf
abbrev t__law_take : Stmt := u__law_take.1
def u__law_says : {st : Stmt // topS 13 = st} := by
  refine ⟨?_, ?_⟩
  rotate_left
  conv => lhs; whnf
abbrev t__law_says : Stmt := u__law_says.1
def u__law_is_whole : {st : Stmt // topS 14 = st} := by
  refine ⟨?_, ?_⟩
  rotate_left
  conv => lhs; whnf
abbrev t__law_is_whole : Stmt := u__law_is_whole.1
def u__law_same : {st : Stmt // topS 15 = st} := by
  refine ⟨?_, ?_⟩
  rotate_left
  conv => lhs; whnf
abbrev t__law_same : Stmt := u__law_same.1
def u__law_common : {st : Stmt // topS 16 = st} := by
  refine ⟨?_, ?_⟩
  rotate_left
  conv => lhs; whnf
abbrev t__law_common : Stmt := u__law_common.1
def u__law_result : {st : Stmt // topS 17 = st} := by
  refine ⟨?_, ?_⟩
  rotate_left
  conv => lhs; whnf
abbrev t__law_result : Stmt := u__law_result.1
def u__law_sign_at : {st : Stmt // topS 18 = st} := by
  refine ⟨?_, ?_⟩
  rotate_left
  conv => lhs; whnf
abbrev t__law_sign_at : Stmt := u__law_sign_at.1
def u__law_made : {st : Stmt // topS 19 = st} := by
  refine ⟨?_, ?_⟩
  rotate_left
  conv => lhs; whnf
abbrev t__law_made : Stmt := u__law_made.1
def u__law_did : {st : Stmt // topS 20 = st} := by
  refine ⟨?_, ?_⟩
  rotate_left
  conv => lhs; whnf
abbrev t__law_did : Stmt := u__law_did.1
def u__law_fits : {st : Stmt // topS 21 = st} := by
  refine ⟨?_, ?_⟩
  rotate_left
  conv => lhs; whnf
abbrev t__law_fits : Stmt := u__law_fits.1
def u_law : {st : Stmt // topS 22 = st} := by
  refine ⟨?_, ?_⟩
  rotate_left
  conv => lhs; whnf
abbrev t_law : Stmt := u_law.1
def u_Refused___init__ : {st : Stmt // (clsS (topS 3)).getD 0 (.Pass ⟨0, 0, 0, 0⟩) = st} := by
  refine ⟨?_, ?_⟩
  rotate_left
  conv => lhs; whnf
abbrev t_Refused___init__ : Stmt := u_Refused___init__.1
def u_Ratio___init__ : {st : Stmt // (clsS (topS 8)).getD 0 (.Pass ⟨0, 0, 0, 0⟩) = st} := by
  refine ⟨?_, ?_⟩
  rotate_left
  conv => lhs; whnf
abbrev t_Ratio___init__ : Stmt := u_Ratio___init__.1
def u_Ratio___add__ : {st : Stmt // (clsS (topS 8)).getD 1 (.Pass ⟨0, 0, 0, 0⟩) = st} := by
  refine ⟨?_, ?_⟩
  rotate_left
  conv => lhs; whnf
abbrev t_Ratio___add__ : Stmt := u_Ratio___add__.1
def u_Ratio___sub__ : {st : Stmt // (clsS (topS 8)).getD 2 (.Pass ⟨0, 0, 0, 0⟩) = st} := by
  refine ⟨?_, ?_⟩
  rotate_left
  conv => lhs; whnf
abbrev t_Ratio___sub__ : Stmt := u_Ratio___sub__.1
def u_Ratio___mul__ : {st : Stmt // (clsS (topS 8)).getD 3 (.Pass ⟨0, 0, 0, 0⟩) = st} := by
  refine ⟨?_, ?_⟩
  rotate_left
  conv => lhs; whnf
abbrev t_Ratio___mul__ : Stmt := u_Ratio___mul__.1
def u_Ratio___neg__ : {st : Stmt // (clsS (topS 8)).getD 4 (.Pass ⟨0, 0, 0, 0⟩) = st} := by
  refine ⟨?_, ?_⟩
  rotate_left
  conv => lhs; whnf
abbrev t_Ratio___neg__ : Stmt := u_Ratio___neg__.1
def u_Ratio___eq__ : {st : Stmt // (clsS (topS 8)).getD 5 (.Pass ⟨0, 0, 0, 0⟩) = st} := by
  refine ⟨?_, ?_⟩
  rotate_left
  conv => lhs; whnf
abbrev t_Ratio___eq__ : Stmt := u_Ratio___eq__.1
def u_Ratio_less : {st : Stmt // (clsS (topS 8)).getD 6 (.Pass ⟨0, 0, 0, 0⟩) = st} := by
  refine ⟨?_, ?_⟩
  rotate_left
  conv => lhs; whnf
abbrev t_Ratio_less : Stmt := u_Ratio_less.1
def u_Ratio___str__ : {st : Stmt // (clsS (topS 8)).getD 7 (.Pass ⟨0, 0, 0, 0⟩) = st} := by
  refine ⟨?_, ?_⟩
  rotate_left
  conv => lhs; whnf
abbrev t_Ratio___str__ : Stmt := u_Ratio___str__.1
def u_Ratio_over : {st : Stmt // (clsS (topS 8)).getD 8 (.Pass ⟨0, 0, 0, 0⟩) = st} := by
  refine ⟨?_, ?_⟩
  rotate_left
  conv => lhs; whnf
abbrev t_Ratio_over : Stmt := u_Ratio_over.1
def u_Ratio_times : {st : Stmt // (clsS (topS 8)).getD 9 (.Pass ⟨0, 0, 0, 0⟩) = st} := by
  refine ⟨?_, ?_⟩
  rotate_left
  conv => lhs; whnf
abbrev t_Ratio_times : Stmt := u_Ratio_times.1
def u_Ratio_sign : {st : Stmt // (clsS (topS 8)).getD 10 (.Pass ⟨0, 0, 0, 0⟩) = st} := by
  refine ⟨?_, ?_⟩
  rotate_left
  conv => lhs; whnf
abbrev t_Ratio_sign : Stmt := u_Ratio_sign.1
def u_Ratio_is_zero : {st : Stmt // (clsS (topS 8)).getD 11 (.Pass ⟨0, 0, 0, 0⟩) = st} := by
  refine ⟨?_, ?_⟩
  rotate_left
  conv => lhs; whnf
abbrev t_Ratio_is_zero : Stmt := u_Ratio_is_zero.1
def u_Ratio_is_whole : {st : Stmt // (clsS (topS 8)).getD 12 (.Pass ⟨0, 0, 0, 0⟩) = st} := by
  refine ⟨?_, ?_⟩
  rotate_left
  conv => lhs; whnf
abbrev t_Ratio_is_whole : Stmt := u_Ratio_is_whole.1
def u_Ratio_floor : {st : Stmt // (clsS (topS 8)).getD 13 (.Pass ⟨0, 0, 0, 0⟩) = st} := by
  refine ⟨?_, ?_⟩
  rotate_left
  conv => lhs; whnf
abbrev t_Ratio_floor : Stmt := u_Ratio_floor.1
def u_Ratio_size : {st : Stmt // (clsS (topS 8)).getD 14 (.Pass ⟨0, 0, 0, 0⟩) = st} := by
  refine ⟨?_, ?_⟩
  rotate_left
  conv => lhs; whnf
abbrev t_Ratio_size : Stmt := u_Ratio_size.1
theorem sc_is_integer : FnScope ["value"] ["value"] (defScope t_is_integer) := ⟨rfl, rfl, rfl, by decide +kernel, rfl, by decide +kernel, by decide +kernel⟩
theorem sc_common : FnScope ["a", "b"] ["a", "b"] (defScope t_common) := ⟨rfl, rfl, rfl, by decide +kernel, rfl, by decide +kernel, by decide +kernel⟩
theorem sc_check_ratio : FnScope ["value"] ["value"] (defScope t_check_ratio) := ⟨rfl, rfl, rfl, by decide +kernel, rfl, by decide +kernel, by decide +kernel⟩
theorem sc__law_state : FnScope ["script", "seed", "total", "cell"] ["script"] (defScope t__law_state) := ⟨rfl, rfl, rfl, by decide +kernel, rfl, by decide +kernel, by decide +kernel⟩
theorem sc__law_take : FnScope ["state", "m", "value"] ["state", "m"] (defScope t__law_take) := ⟨rfl, rfl, rfl, by decide +kernel, rfl, by decide +kernel, by decide +kernel⟩
theorem sc__law_says : FnScope ["value", "due"] ["value", "due"] (defScope t__law_says) := ⟨rfl, rfl, rfl, by decide +kernel, rfl, by decide +kernel, by decide +kernel⟩
theorem sc__law_is_whole : FnScope ["value"] ["value"] (defScope t__law_is_whole) := ⟨rfl, rfl, rfl, by decide +kernel, rfl, by decide +kernel, by decide +kernel⟩
theorem sc__law_same : FnScope ["one", "two", "k"] ["one", "two"] (defScope t__law_same) := ⟨rfl, rfl, rfl, by decide +kernel, rfl, by decide +kernel, by decide +kernel⟩
theorem sc__law_common : FnScope ["a", "b"] ["a", "b"] (defScope t__law_common) := ⟨rfl, rfl, rfl, by decide +kernel, rfl, by decide +kernel, by decide +kernel⟩
theorem sc__law_result : FnScope ["act", "given", "refused"] ["act", "given"] (defScope t__law_result) := ⟨rfl, rfl, rfl, by decide +kernel, rfl, by decide +kernel, by decide +kernel⟩
theorem sc__law_sign_at : FnScope ["c"] ["c"] (defScope t__law_sign_at) := ⟨rfl, rfl, rfl, by decide +kernel, rfl, by decide +kernel, by decide +kernel⟩
theorem sc__law_made : FnScope ["n", "d"] ["n", "d"] (defScope t__law_made) := ⟨rfl, rfl, rfl, by decide +kernel, rfl, by decide +kernel, by decide +kernel⟩
theorem sc__law_did : FnScope ["word", "a", "b"] ["word", "a", "b"] (defScope t__law_did) := ⟨rfl, rfl, rfl, by decide +kernel, rfl, by decide +kernel, by decide +kernel⟩
theorem sc__law_fits : FnScope ["x", "n", "d"] ["x", "n", "d"] (defScope t__law_fits) := ⟨rfl, rfl, rfl, by decide +kernel, rfl, by decide +kernel, by decide +kernel⟩
theorem sc_law : FnScope ["script", "state", "wide", "turn", "a", "b", "c", "d", "k", "x", "y", "up", "asked", "told", "low", "bad", "z", "n", "m", "value", "word"] ["script"] (defScope t_law) := ⟨rfl, rfl, rfl, by decide +kernel, rfl, by decide +kernel, by decide +kernel⟩
theorem sc_Refused___init__ : FnScope ["self", "reason"] ["self", "reason"] (defScope t_Refused___init__) := ⟨rfl, rfl, rfl, by decide +kernel, rfl, by decide +kernel, by decide +kernel⟩
theorem sc_Ratio___init__ : FnScope ["self", "n", "d", "g"] ["self", "n", "d"] (defScope t_Ratio___init__) := ⟨rfl, rfl, rfl, by decide +kernel, rfl, by decide +kernel, by decide +kernel⟩
theorem sc_Ratio___add__ : FnScope ["self", "other"] ["self", "other"] (defScope t_Ratio___add__) := ⟨rfl, rfl, rfl, by decide +kernel, rfl, by decide +kernel, by decide +kernel⟩
theorem sc_Ratio___sub__ : FnScope ["self", "other"] ["self", "other"] (defScope t_Ratio___sub__) := ⟨rfl, rfl, rfl, by decide +kernel, rfl, by decide +kernel, by decide +kernel⟩
theorem sc_Ratio___mul__ : FnScope ["self", "other"] ["self", "other"] (defScope t_Ratio___mul__) := ⟨rfl, rfl, rfl, by decide +kernel, rfl, by decide +kernel, by decide +kernel⟩
theorem sc_Ratio___neg__ : FnScope ["self"] ["self"] (defScope t_Ratio___neg__) := ⟨rfl, rfl, rfl, by decide +kernel, rfl, by decide +kernel, by decide +kernel⟩
theorem sc_Ratio___eq__ : FnScope ["self", "other"] ["self", "other"] (defScope t_Ratio___eq__) := ⟨rfl, rfl, rfl, by decide +kernel, rfl, by decide +kernel, by decide +kernel⟩
theorem sc_Ratio_less : FnScope ["self", "other"] ["self", "other"] (defScope t_Ratio_less) := ⟨rfl, rfl, rfl, by decide +kernel, rfl, by decide +kernel, by decide +kernel⟩
theorem sc_Ratio___str__ : FnScope ["self"] ["self"] (defScope t_Ratio___str__) := ⟨rfl, rfl, rfl, by decide +kernel, rfl, by decide +kernel, by decide +kernel⟩
theorem sc_Ratio_over : FnScope ["self", "other"] ["self", "other"] (defScope t_Ratio_over) := ⟨rfl, rfl, rfl, by decide +kernel, rfl, by decide +kernel, by decide +kernel⟩
theorem sc_Ratio_times : FnScope ["self", "k"] ["self", "k"] (defScope t_Ratio_times) := ⟨rfl, rfl, rfl, by decide +kernel, rfl, by decide +kernel, by decide +kernel⟩
theorem sc_Ratio_sign : FnScope ["self"] ["self"] (defScope t_Ratio_sign) := ⟨rfl, rfl, rfl, by decide +kernel, rfl, by decide +kernel, by decide +kernel⟩
theorem sc_Ratio_is_zero : FnScope ["self"] ["self"] (defScope t_Ratio_is_zero) := ⟨rfl, rfl, rfl, by decide +kernel, rfl, by decide +kernel, by decide +kernel⟩
theorem sc_Ratio_is_whole : FnScope ["self"] ["self"] (defScope t_Ratio_is_whole) := ⟨rfl, rfl, rfl, by decide +kernel, rfl, by decide +kernel, by decide +kernel⟩
theorem sc_Ratio_floor : FnScope ["self"] ["self"] (defScope t_Ratio_floor) := ⟨rfl, rfl, rfl, by decide +kernel, rfl, by decide +kernel, by decide +kernel⟩
theorem sc_Ratio_size : FnScope ["self"] ["self"] (defScope t_Ratio_size) := ⟨rfl, rfl, rfl, by decide +kernel, rfl, by decide +kernel, by decide +kernel⟩
def s_is_integer : SM := sRet (eAnd (e1 (gIsT .int) (eVar 0)) (eNot (e1 (gIsT .bl) (eVar 0))))
def m_is_integer : List D → R D := runF 1 0 s_is_integer
def s_common : SM := sSeq (sPar [0, 1] (aCons (e1L gAbs (eVar 0)) (aCons (e1L gAbs (eVar 1)) (aNil))))
  (sSeq (sWhile (tB (e2 gGt (eVar 1) (eC (.int 0)))) (sPar [0, 1] (aCons (eVar 1) (aCons (e2 gMod (eVar 0) (eVar 1)) (aNil)))))
  (sRet (eVar 0)))
def m_common : List D → R D := runF 2 0 s_common
def s_check_ratio : SM := sIf (tNot (tB (e1 (gIsK "Ratio") (eVar 0)))) (sRaise .mal) (sNx)
def m_check_ratio : List D → R D := runF 1 0 s_check_ratio
def s__law_state : SM := sSeq (sAsg 1 (eC (.int 0)))
  (sSeq (sAsg 2 (eC (.int 1)))
  (sSeq (sFor (iSeqM (eSlL (eVar 0) (pNone) (pSome (eC (.int 63))))) (tgName 3) (sSeq (sAsg 1 (e2 gAdd (e2 gMul (eVar 1) (eC (.int 1000003))) (e1L gAbs (eVar 3))))
  (sAsg 2 (e2 gMod (e1L gInt (e2 gAdd (e2 gMul (eVar 2) (eC (.int 48271))) (eVar 3))) (eC (.int 2147483647))))))
  (sRet (eLst (aCons (eVar 1) (aCons (eIf (tB (e2 gNe (eVar 2) (eC (.int 1973665155)))) (eVar 2) (eC (.int 7))) (aNil)))))))
def m__law_state : List D → R D := runF 4 1 s__law_state
def s__law_take : SM := sSeq (sIf (tB (e2 gGt (e2 gIx (eVar 0) (eC (.int 0))) (eC (.int 0)))) (sSeq (sAsg 2 (e2 gMod (e1L gInt (e2 gIx (eVar 0) (eC (.int 0)))) (eVar 1)))
  (sSeq (sPut 0 opSetL (e2 gDiv (e2 gIx (eVar 0) (eC (.int 0))) (eVar 1)) (eC (.int 0)))
  (sRet (eVar 2)))) (sNx))
  (sSeq (sPut 0 opSetL (e2 gMod (e1L gInt (e2 gAdd (e2 gMul (e2 gIx (eVar 0) (eC (.int 1))) (eC (.int 48271))) (eC (.int 11)))) (eC (.int 2147483647))) (eC (.int 1)))
  (sRet (e2 gMod (e1L gInt (e2 gDiv (e2 gIx (eVar 0) (eC (.int 1))) (eC (.int 7)))) (eVar 1))))
def m__law_take : List D → R (D × List D) := runB 3 [.io 1, .sh] 0 s__law_take
def s__law_says : SM := sRet (eAnd (e1 (gIsT .bl) (eVar 0)) (e2 gEq (eVar 0) (eVar 1)))
def m__law_says : List D → R D := runF 2 0 s__law_says
def s__law_is_whole : SM := sRet (eAnd (e1 (gIsT .int) (eVar 0)) (eNot (e1 (gIsT .bl) (eVar 0))))
def m__law_is_whole : List D → R D := runF 1 0 s__law_is_whole
def s__law_common : SM := sSeq (sWhile (tB (e2 gNe (eVar 1) (eC (.int 0)))) (sPar [0, 1] (aCons (eVar 1) (aCons (e2 gMod (e1L gInt (eVar 0)) (eVar 1)) (aNil)))))
  (sRet (e1L gAbs (eVar 0)))
def m__law_common : List D → R D := runF 2 0 s__law_common
def s__law_sign_at : SM := sRet (eIf (tB (e2 gGt (eVar 0) (eC (.int 0)))) (eC (.int 1)) (eIf (tB (e2 gLt (eVar 0) (eC (.int 0)))) (e1 gNeg (eC (.int 1))) (eC (.int 0))))
def m__law_sign_at : List D → R D := runF 1 0 s__law_sign_at
def s_Ratio___eq__ : SM := sRet (eAnd (e1 (gIsK "Ratio") (eVar 1)) (eAnd (e2 gEq (e1 (gFld "Ratio" "n") (eVar 0)) (e1 (gFld "Ratio" "n") (eVar 1))) (e2 gEq (e1 (gFld "Ratio" "d") (eVar 0)) (e1 (gFld "Ratio" "d") (eVar 1)))))
def m_Ratio___eq__ : List D → R D := runF 2 0 s_Ratio___eq__
def s_Ratio___str__ : SM := sSeq (sIf (tB (e2 gEq (e1 (gFld "Ratio" "d") (eVar 0)) (eC (.int 1)))) (sRet (e1L gStr (e1 (gFld "Ratio" "n") (eVar 0)))) (sNx))
  (sRet (eJs [e1 gFmt (e1 (gFld "Ratio" "n") (eVar 0)), eC (.str "/"), e1 gFmt (e1 (gFld "Ratio" "d") (eVar 0))] Str.empty))
def m_Ratio___str__ : List D → R D := runF 1 0 s_Ratio___str__
def s_Ratio_sign : SM := sRet (eIf (tB (e2 gGt (e1 (gFld "Ratio" "n") (eVar 0)) (eC (.int 0)))) (eC (.int 1)) (eIf (tB (e2 gLt (e1 (gFld "Ratio" "n") (eVar 0)) (eC (.int 0)))) (e1 gNeg (eC (.int 1))) (eC (.int 0))))
def m_Ratio_sign : List D → R D := runF 1 0 s_Ratio_sign
def s_Ratio_is_zero : SM := sRet (e2 gEq (e1 (gFld "Ratio" "n") (eVar 0)) (eC (.int 0)))
def m_Ratio_is_zero : List D → R D := runF 1 0 s_Ratio_is_zero
def s_Ratio_is_whole : SM := sRet (e2 gEq (e1 (gFld "Ratio" "d") (eVar 0)) (eC (.int 1)))
def m_Ratio_is_whole : List D → R D := runF 1 0 s_Ratio_is_whole
def s_Ratio_floor : SM := sRet (e2 gDiv (e1 (gFld "Ratio" "n") (eVar 0)) (e1 (gFld "Ratio" "d") (eVar 0)))
def m_Ratio_floor : List D → R D := runF 1 0 s_Ratio_floor
def s__law_fits : SM := sSeq (sIf (tOr (tNot (tB (e1 (gIsK "Ratio") (eVar 0)))) (tOr (tNot (tB (eCall (m__law_is_whole) (aCons (e1 (gFld "Ratio" "n") (eVar 0)) (aNil))))) (tOr (tNot (tB (eCall (m__law_is_whole) (aCons (e1 (gFld "Ratio" "d") (eVar 0)) (aNil))))) (tOr (tB (e2 gLt (e1 (gFld "Ratio" "d") (eVar 0)) (eC (.int 1)))) (tB (e2 gNe (eCall (m__law_common) (aCons (e1 (gFld "Ratio" "n") (eVar 0)) (aCons (e1 (gFld "Ratio" "d") (eVar 0)) (aNil)))) (eC (.int 1)))))))) (sRet (eC (.bl false))) (sNx))
  (sRet (e2 gEq (e2 gMul (e1 (gFld "Ratio" "n") (eVar 0)) (eVar 2)) (e2 gMul (eVar 1) (e1 (gFld "Ratio" "d") (eVar 0)))))
def m__law_fits : List D → R D := runF 3 0 s__law_fits
def s_Ratio_less : SM := sSeq (sDrop (eCall (m_check_ratio) (aCons (eVar 1) (aNil))))
  (sRet (e2 gLt (e2 gMul (e1 (gFld "Ratio" "n") (eVar 0)) (e1 (gFld "Ratio" "d") (eVar 1))) (e2 gMul (e1 (gFld "Ratio" "n") (eVar 1)) (e1 (gFld "Ratio" "d") (eVar 0)))))
def m_Ratio_less : List D → R D := runF 2 0 s_Ratio_less
def s_Ratio___init__ : SM := sSeq (sIf (tOr (tNot (tB (eCall (m_is_integer) (aCons (eVar 1) (aNil))))) (tNot (tB (eCall (m_is_integer) (aCons (eVar 2) (aNil)))))) (sRaise .mal) (sNx))
  (sSeq (sIf (tB (e2 gEq (eVar 2) (eC (.int 0)))) (sRaiseR (eC (.str "zero"))) (sNx))
  (sSeq (sAsg 3 (eCall (m_common) (aCons (eVar 1) (aCons (eVar 2) (aNil)))))
  (sSeq (sFldS 0 "Ratio" "n" (eIf (tB (e2 gGt (eVar 2) (eC (.int 0)))) (e2 gDiv (eVar 1) (eVar 3)) (e2 gDiv (e1 gNeg (eVar 1)) (eVar 3))))
  (sFldS 0 "Ratio" "d" (e2 gDiv (e1L gAbs (eVar 2)) (eVar 3))))))
def m_Ratio___init__ : List D → R (D × List D) := runB 4 [.io 1, .sh, .sh] 0 s_Ratio___init__
def s__law_made : SM := sRet (eMake "Ratio" m_Ratio___init__ [] (aCons (eVar 0) (aCons (eVar 1) (aNil))))
def m__law_made : List D → R D := runF 2 0 s__law_made
def s_Ratio___add__ : SM := sSeq (sDrop (eCall (m_check_ratio) (aCons (eVar 1) (aNil))))
  (sRet (eMake "Ratio" m_Ratio___init__ [] (aCons (e2 gAdd (e2 gMul (e1 (gFld "Ratio" "n") (eVar 0)) (e1 (gFld "Ratio" "d") (eVar 1))) (e2 gMul (e1 (gFld "Ratio" "n") (eVar 1)) (e1 (gFld "Ratio" "d") (eVar 0)))) (aCons (e2 gMul (e1 (gFld "Ratio" "d") (eVar 0)) (e1 (gFld "Ratio" "d") (eVar 1))) (aNil)))))
def m_Ratio___add__ : List D → R D := runF 2 0 s_Ratio___add__
def s_Ratio___sub__ : SM := sSeq (sDrop (eCall (m_check_ratio) (aCons (eVar 1) (aNil))))
  (sRet (eMake "Ratio" m_Ratio___init__ [] (aCons (e2 gSub (e2 gMul (e1 (gFld "Ratio" "n") (eVar 0)) (e1 (gFld "Ratio" "d") (eVar 1))) (e2 gMul (e1 (gFld "Ratio" "n") (eVar 1)) (e1 (gFld "Ratio" "d") (eVar 0)))) (aCons (e2 gMul (e1 (gFld "Ratio" "d") (eVar 0)) (e1 (gFld "Ratio" "d") (eVar 1))) (aNil)))))
def m_Ratio___sub__ : List D → R D := runF 2 0 s_Ratio___sub__
def s_Ratio___mul__ : SM := sSeq (sDrop (eCall (m_check_ratio) (aCons (eVar 1) (aNil))))
  (sRet (eMake "Ratio" m_Ratio___init__ [] (aCons (e2 gMul (e1 (gFld "Ratio" "n") (eVar 0)) (e1 (gFld "Ratio" "n") (eVar 1))) (aCons (e2 gMul (e1 (gFld "Ratio" "d") (eVar 0)) (e1 (gFld "Ratio" "d") (eVar 1))) (aNil)))))
def m_Ratio___mul__ : List D → R D := runF 2 0 s_Ratio___mul__
def s_Ratio___neg__ : SM := sRet (eMake "Ratio" m_Ratio___init__ [] (aCons (e1 gNeg (e1 (gFld "Ratio" "n") (eVar 0))) (aCons (e1 (gFld "Ratio" "d") (eVar 0)) (aNil))))
def m_Ratio___neg__ : List D → R D := runF 1 0 s_Ratio___neg__
def s_Ratio_over : SM := sSeq (sDrop (eCall (m_check_ratio) (aCons (eVar 1) (aNil))))
  (sRet (eMake "Ratio" m_Ratio___init__ [] (aCons (e2 gMul (e1 (gFld "Ratio" "n") (eVar 0)) (e1 (gFld "Ratio" "d") (eVar 1))) (aCons (e2 gMul (e1 (gFld "Ratio" "d") (eVar 0)) (e1 (gFld "Ratio" "n") (eVar 1))) (aNil)))))
def m_Ratio_over : List D → R D := runF 2 0 s_Ratio_over
def s_Ratio_times : SM := sRet (eMake "Ratio" m_Ratio___init__ [] (aCons (e2 gMul (e1 (gFld "Ratio" "n") (eVar 0)) (eVar 1)) (aCons (e1 (gFld "Ratio" "d") (eVar 0)) (aNil))))
def m_Ratio_times : List D → R D := runF 2 0 s_Ratio_times
def s_Ratio_size : SM := sRet (eMake "Ratio" m_Ratio___init__ [] (aCons (e1L gAbs (e1 (gFld "Ratio" "n") (eVar 0))) (aCons (e1 (gFld "Ratio" "d") (eVar 0)) (aNil))))
def m_Ratio_size : List D → R D := runF 1 0 s_Ratio_size
def s__law_did : SM := sSeq (sIf (tB (e2 gEq (eVar 0) (eC (.str "plus")))) (sRet (eOpX "Ratio" m_Ratio___add__ gAdd (eVar 1) (eVar 2))) (sNx))
  (sSeq (sIf (tB (e2 gEq (eVar 0) (eC (.str "less")))) (sRet (eOpX "Ratio" m_Ratio___sub__ gSub (eVar 1) (eVar 2))) (sNx))
  (sSeq (sIf (tB (e2 gEq (eVar 0) (eC (.str "times")))) (sRet (eOpX "Ratio" m_Ratio___mul__ gMul (eVar 1) (eVar 2))) (sNx))
  (sRet (eIf (tB (e2 gEq (eVar 0) (eC (.str "below")))) (eMethC "Ratio" "less" m_Ratio_less (eVar 1) (aCons (eVar 2) (aNil))) (eMethC "Ratio" "over" m_Ratio_over (eVar 1) (aCons (eVar 2) (aNil)))))))
def m__law_did : List D → R D := runF 3 0 s__law_did
def held : FTab := fun y => if y = "_law_did" then some (3, m__law_did) else if y = "_law_made" then some (2, m__law_made) else none
def s__law_result : SM := sTryR 2 (sSeq (sIf (tB (e2 gEq (e1L gLen (eVar 1)) (eC (.int 1)))) (sRet (eTup (aCons (eC (.str "told")) (aCons (eCallL 0 held (aCons (e2 gIx (eVar 1) (eC (.int 0))) (aNil))) (aNil))))) (sNx))
  (sSeq (sIf (tB (e2 gEq (e1L gLen (eVar 1)) (eC (.int 2)))) (sRet (eTup (aCons (eC (.str "told")) (aCons (eCallL 0 held (aCons (e2 gIx (eVar 1) (eC (.int 0))) (aCons (e2 gIx (eVar 1) (eC (.int 1))) (aNil)))) (aNil))))) (sNx))
  (sSeq (sIf (tB (e2 gEq (e1L gLen (eVar 1)) (eC (.int 3)))) (sRet (eTup (aCons (eC (.str "told")) (aCons (eCallL 0 held (aCons (e2 gIx (eVar 1) (eC (.int 0))) (aCons (e2 gIx (eVar 1) (eC (.int 1))) (aCons (e2 gIx (eVar 1) (eC (.int 2))) (aNil))))) (aNil))))) (sNx))
  (sSeq (sIf (tB (e2 gEq (e1L gLen (eVar 1)) (eC (.int 4)))) (sRet (eTup (aCons (eC (.str "told")) (aCons (eCallL 0 held (aCons (e2 gIx (eVar 1) (eC (.int 0))) (aCons (e2 gIx (eVar 1) (eC (.int 1))) (aCons (e2 gIx (eVar 1) (eC (.int 2))) (aCons (e2 gIx (eVar 1) (eC (.int 3))) (aNil)))))) (aNil))))) (sNx))
  (sRet (eTup (aCons (eC (.str "told")) (aCons (eCallL 0 held (aCons (e2 gIx (eVar 1) (eC (.int 0))) (aCons (e2 gIx (eVar 1) (eC (.int 1))) (aCons (e2 gIx (eVar 1) (eC (.int 2))) (aCons (e2 gIx (eVar 1) (eC (.int 3))) (aCons (e2 gIx (eVar 1) (eC (.int 4))) (aNil))))))) (aNil)))))))))
def m__law_result : List D → R D := runF 3 0 s__law_result
def s__law_same (rec : List D → R D) : SM := sSeq (sIf (tB (e1 (gIsT .tup) (eVar 1))) (sRet (eAnd (e1 (gIsT .tup) (eVar 0)) (eAnd (e2 gEq (e1L gLen (eVar 0)) (e1L gLen (eVar 1))) (e1L gAll (eLc [2] (iRg rg1 (aCons (e1L gLen (eVar 1)) (aNil))) (tgName 2) (tTrue) (eCall (rec) (aCons (e2 gIx (eVar 0) (eVar 2)) (aCons (e2 gIx (eVar 1) (eVar 2)) (aNil))))))))) (sNx))
  (sSeq (sIf (tB (e1 (gIsT .str) (eVar 1))) (sRet (eAnd (e1 (gIsT .str) (eVar 0)) (e2 gEq (eVar 0) (eVar 1)))) (sNx))
  (sSeq (sIf (tB (e1 gIs (eVar 1))) (sRet (e1 gIs (eVar 0))) (sNx))
  (sRet (eAnd (eCall (m__law_is_whole) (aCons (eVar 0) (aNil))) (e2 gEq (eVar 0) (eVar 1))))))
def m__law_same_at : Nat → List D → R D
  | 0 => fun _ => .fail
  | n + 1 => runF 3 0 (s__law_same (m__law_same_at n))
def m__law_same : List D → R D := m__law_same_at 40
def s_law : SM := sSeq (sAsg 1 (eCall (m__law_state) (aCons (eVar 0) (aNil))))
  (sSeq (sAsg 2 (eC (.int 1)))
  (sSeq (sFor (iRg rg1 (aCons (e2 gIx (eLst (aCons (eC (.int 0)) (aCons (eC (.int 0)) (aCons (eC (.int 5)) (aCons (eC (.int 200)) (aNil)))))) (eCallIO 1 [.io 1, .val (.rd 0)] (m__law_take) (aIo 1 (aCons (eC (.int 4)) (aNil))))) (aNil))) (tgName 3) (sAsg 2 (e2 gMul (eVar 2) (eC (.int 10)))))
  (sSeq (sPar [4, 5] (aCons (e2 gAdd (e2 gMul (e2 gSub (eCallIO 1 [.io 1, .val (.rd 0)] (m__law_take) (aIo 1 (aCons (eC (.int 41)) (aNil)))) (eC (.int 20))) (eVar 2)) (eCallIO 1 [.io 1, .val (.rd 0)] (m__law_take) (aIo 1 (aCons (eC (.int 5)) (aNil))))) (aCons (e2 gMul (e2 gAdd (eC (.int 1)) (eCallIO 1 [.io 1, .val (.rd 0)] (m__law_take) (aIo 1 (aCons (eC (.int 30)) (aNil))))) (eIf (tB (e2 gEq (eCallIO 1 [.io 1, .val (.rd 0)] (m__law_take) (aIo 1 (aCons (eC (.int 2)) (aNil)))) (eC (.int 0)))) (eC (.int 1)) (e1 gNeg (eC (.int 1))))) (aNil))))
  (sSeq (sPar [6, 7, 8] (aCons (e2 gSub (eCallIO 1 [.io 1, .val (.rd 0)] (m__law_take) (aIo 1 (aCons (eC (.int 41)) (aNil)))) (eC (.int 20))) (aCons (e2 gAdd (eC (.int 1)) (eCallIO 1 [.io 1, .val (.rd 0)] (m__law_take) (aIo 1 (aCons (eC (.int 30)) (aNil))))) (aCons (e2 gSub (eCallIO 1 [.io 1, .val (.rd 0)] (m__law_take) (aIo 1 (aCons (eC (.int 21)) (aNil)))) (eC (.int 10))) (aNil)))))
  (sSeq (sPar [9, 10] (aCons (eMake "Ratio" m_Ratio___init__ [] (aCons (eVar 4) (aCons (eVar 5) (aNil)))) (aCons (eMake "Ratio" m_Ratio___init__ [] (aCons (eVar 6) (aCons (eVar 7) (aNil)))) (aNil))))
  (sSeq (sAsg 11 (eIf (tB (e2 gGt (eVar 5) (eC (.int 0)))) (eC (.int 1)) (e1 gNeg (eC (.int 1)))))
  (sSeq (sAsg 12 (eLst (aCons (eTup (aCons (eVar 9) (aCons (eVar 4) (aCons (eVar 5) (aNil))))) (aCons (eTup (aCons (eMake "Ratio" m_Ratio___init__ [.int 1] (aCons (eVar 4) (aNil))) (aCons (eVar 4) (aCons (eC (.int 1)) (aNil))))) (aCons (eTup (aCons (eOpX "Ratio" m_Ratio___add__ gAdd (eVar 9) (eVar 10)) (aCons (e2 gAdd (e2 gMul (eVar 4) (eVar 7)) (e2 gMul (eVar 6) (eVar 5))) (aCons (e2 gMul (eVar 5) (eVar 7)) (aNil))))) (aCons (eTup (aCons (eOpX "Ratio" m_Ratio___sub__ gSub (eVar 9) (eVar 10)) (aCons (e2 gSub (e2 gMul (eVar 4) (eVar 7)) (e2 gMul (eVar 6) (eVar 5))) (aCons (e2 gMul (eVar 5) (eVar 7)) (aNil))))) (aCons (eTup (aCons (eOpX "Ratio" m_Ratio___mul__ gMul (eVar 9) (eVar 10)) (aCons (e2 gMul (eVar 4) (eVar 6)) (aCons (e2 gMul (eVar 5) (eVar 7)) (aNil))))) (aCons (eTup (aCons (e1X "Ratio" m_Ratio___neg__ (eVar 9)) (aCons (e1 gNeg (eVar 4)) (aCons (eVar 5) (aNil))))) (aNil)))))))))
  (sSeq (sAsg 12 (e2 gCat (eVar 12) (eLst (aCons (eTup (aCons (eMethC "Ratio" "times" m_Ratio_times (eVar 9) (aCons (eVar 8) (aNil))) (aCons (e2 gMul (eVar 4) (eVar 8)) (aCons (eVar 5) (aNil))))) (aCons (eTup (aCons (eMethC "Ratio" "size" m_Ratio_size (eVar 9) aNil) (aCons (e1L gAbs (eVar 4)) (aCons (e1L gAbs (eVar 5)) (aNil))))) (aNil))))))
  (sSeq (sIf (tNot (tB (e1L gAll (eLc [16, 17, 18] (iSeqM (eVar 12)) (tgTup (tgCons (tgName 16) (tgCons (tgName 17) (tgCons (tgName 18) (tgNil)))) 3) (tTrue) (eCall (m__law_fits) (aCons (eVar 16) (aCons (eVar 17) (aCons (eVar 18) (aNil))))))))) (sRet (eC (.bl false))) (sNx))
  (sSeq (sAsg 13 (eCall (m__law_result) (aCons (eC (.fn "_law_did")) (aCons (eTup (aCons (eC (.str "over")) (aCons (eVar 9) (aCons (eVar 10) (aNil))))) (aNil)))))
  (sSeq (sIf (tOr (tAnd (tB (e2 gEq (eVar 6) (eC (.int 0)))) (tB (e2 gNe (eVar 13) (eTup (aCons (eC (.str "refused")) (aCons (eC (.str "zero")) (aNil))))))) (tAnd (tB (e2 gNe (eVar 6) (eC (.int 0)))) (tOr (tB (e2 gNe (e2 gIx (eVar 13) (eC (.int 0))) (eC (.str "told")))) (tNot (tB (eCall (m__law_fits) (aCons (e2 gIx (eVar 13) (eC (.int 1))) (aCons (e2 gMul (eVar 4) (eVar 7)) (aCons (e2 gMul (eVar 5) (eVar 6)) (aNil)))))))))) (sRet (eC (.bl false))) (sNx))
  (sSeq (sIf (tOr (tNot (tB (eCall (m__law_says) (aCons (eOpX "Ratio" m_Ratio___eq__ gEq (eVar 9) (eVar 10)) (aCons (e2 gEq (e2 gMul (eVar 4) (eVar 7)) (e2 gMul (eVar 5) (eVar 6))) (aNil)))))) (tOr (tNot (tB (eCall (m__law_says) (aCons (eOpX "Ratio" m_Ratio___eq__ gEq (eVar 9) (eMake "Ratio" m_Ratio___init__ [] (aCons (e2 gMul (eC (.int 3)) (eVar 4)) (aCons (e2 gMul (eC (.int 3)) (eVar 5)) (aNil))))) (aCons (eC (.bl true)) (aNil)))))) (tNot (tB (e1L gAll (eLc [19] (iSeqM (eTup (aCons (e2 gAdd (eVar 4) (eC (.int 1))) (aCons (eC .non) (aCons (eC (.str "x")) (aCons (eTup (aCons (eVar 9) (aNil))) (aNil))))))) (tgName 19) (tTrue) (eCall (m__law_says) (aCons (eOpX "Ratio" m_Ratio___eq__ gEq (eVar 9) (eVar 19)) (aCons (eC (.bl false)) (aNil)))))))))) (sRet (eC (.bl false))) (sNx))
  (sSeq (sIf (tOr (tNot (tB (eCall (m__law_says) (aCons (eMethC "Ratio" "less" m_Ratio_less (eVar 9) (aCons (eVar 10) (aNil))) (aCons (e2 gLt (e2 gMul (e2 gMul (eVar 4) (eVar 7)) (eVar 11)) (e2 gMul (e2 gMul (eVar 6) (eVar 5)) (eVar 11))) (aNil)))))) (tNot (tB (eCall (m__law_says) (aCons (eMethC "Ratio" "less" m_Ratio_less (eVar 10) (aCons (eVar 10) (aNil))) (aCons (eC (.bl false)) (aNil))))))) (sRet (eC (.bl false))) (sNx))
  (sSeq (sAsg 14 (e2 gDiv (e1L gInt (e2 gMul (eVar 4) (eVar 11))) (e1L gAbs (eVar 5))))
  (sSeq (sIf (tOr (tNot (tB (eCall (m__law_same) (aCons (eMethC "Ratio" "floor" m_Ratio_floor (eVar 9) aNil) (aCons (eVar 14) (aNil)))))) (tOr (tNot (tB (eCall (m__law_same) (aCons (eMethC "Ratio" "sign" m_Ratio_sign (eVar 9) aNil) (aCons (eCall (m__law_sign_at) (aCons (e2 gMul (eVar 4) (eVar 11)) (aNil))) (aNil)))))) (tOr (tNot (tB (eCall (m__law_says) (aCons (eMethC "Ratio" "is_zero" m_Ratio_is_zero (eVar 9) aNil) (aCons (e2 gEq (eVar 4) (eC (.int 0))) (aNil)))))) (tNot (tB (eCall (m__law_says) (aCons (eMethC "Ratio" "is_whole" m_Ratio_is_whole (eVar 9) aNil) (aCons (e2 gEq (e2 gMod (e1L gInt (eVar 4)) (e1L gAbs (eVar 5))) (eC (.int 0))) (aNil))))))))) (sRet (eC (.bl false))) (sNx))
  (sSeq (sIf (tNot (tB (eCall (m__law_same) (aCons (eStrX "Ratio" m_Ratio___str__ (eVar 9)) (aCons (e2 gAdd (e1L gStr (e1 (gFld "Ratio" "n") (eVar 9))) (eIf (tB (e2 gEq (e1 (gFld "Ratio" "d") (eVar 9)) (eC (.int 1)))) (eC (.str "")) (e2 gAdd (eC (.str "/")) (e1L gStr (e1 (gFld "Ratio" "d") (eVar 9)))))) (aNil)))))) (sRet (eC (.bl false))) (sNx))
  (sSeq (sFor (iSeqM (eTup (aCons (eC .non) (aCons (eC (.bl true)) (aCons (eC (.str "1")) (aCons (eTup (aCons (eC (.int 1)) (aNil))) (aCons (eC (.int 5)) (aNil)))))))) (tgName 15) (sSeq (sIf (tB (e2 gNe (eLc [20] (iSeqM (eTup (aCons (eC (.str "plus")) (aCons (eC (.str "less")) (aCons (eC (.str "times")) (aCons (eC (.str "below")) (aCons (eC (.str "over")) (aNil)))))))) (tgName 20) (tTrue) (e2 gIx (eCall (m__law_result) (aCons (eC (.fn "_law_did")) (aCons (eTup (aCons (eVar 20) (aCons (eVar 9) (aCons (eVar 15) (aNil))))) (aNil)))) (eC (.int 0)))) (e2 gRep (eLst (aCons (eC (.str "malformed")) (aNil))) (eC (.int 5))))) (sRet (eC (.bl false))) (sNx))
  (sIf (tAnd (tB (e2 gNe (eVar 15) (eC (.int 5)))) (tB (e2 gNe (eTup (aCons (eC (.str "malformed")) (aCons (eC (.str "malformed")) (aNil)))) (eTup (aCons (e2 gIx (eCall (m__law_result) (aCons (eC (.fn "_law_made")) (aCons (eTup (aCons (eVar 15) (aCons (eC (.int 1)) (aNil)))) (aNil)))) (eC (.int 0))) (aCons (e2 gIx (eCall (m__law_result) (aCons (eC (.fn "_law_made")) (aCons (eTup (aCons (eC (.int 1)) (aCons (eVar 15) (aNil)))) (aNil)))) (eC (.int 0))) (aNil))))))) (sRet (eC (.bl false))) (sNx))))
  (sRet (e2 gEq (eCall (m__law_result) (aCons (eC (.fn "_law_made")) (aCons (eTup (aCons (eVar 4) (aCons (eC (.int 0)) (aNil)))) (aNil)))) (eTup (aCons (eC (.str "refused")) (aCons (eC (.str "zero")) (aNil)))))))))))))))))))))))
def m_law : List D → R D := runF 21 0 s_law
def g0 : SM := sAsg 1 (eCall (m__law_state) (aCons (eVar 0) (aNil)))
def g1 : SM := sAsg 2 (eC (.int 1))
def g2 : SM := sFor (iRg rg1 (aCons (e2 gIx (eLst (aCons (eC (.int 0)) (aCons (eC (.int 0)) (aCons (eC (.int 5)) (aCons (eC (.int 200)) (aNil)))))) (eCallIO 1 [.io 1, .val (.rd 0)] (m__law_take) (aIo 1 (aCons (eC (.int 4)) (aNil))))) (aNil))) (tgName 3) (sAsg 2 (e2 gMul (eVar 2) (eC (.int 10))))
def g3 : SM := sPar [4, 5] (aCons (e2 gAdd (e2 gMul (e2 gSub (eCallIO 1 [.io 1, .val (.rd 0)] (m__law_take) (aIo 1 (aCons (eC (.int 41)) (aNil)))) (eC (.int 20))) (eVar 2)) (eCallIO 1 [.io 1, .val (.rd 0)] (m__law_take) (aIo 1 (aCons (eC (.int 5)) (aNil))))) (aCons (e2 gMul (e2 gAdd (eC (.int 1)) (eCallIO 1 [.io 1, .val (.rd 0)] (m__law_take) (aIo 1 (aCons (eC (.int 30)) (aNil))))) (eIf (tB (e2 gEq (eCallIO 1 [.io 1, .val (.rd 0)] (m__law_take) (aIo 1 (aCons (eC (.int 2)) (aNil)))) (eC (.int 0)))) (eC (.int 1)) (e1 gNeg (eC (.int 1))))) (aNil)))
def g4 : SM := sPar [6, 7, 8] (aCons (e2 gSub (eCallIO 1 [.io 1, .val (.rd 0)] (m__law_take) (aIo 1 (aCons (eC (.int 41)) (aNil)))) (eC (.int 20))) (aCons (e2 gAdd (eC (.int 1)) (eCallIO 1 [.io 1, .val (.rd 0)] (m__law_take) (aIo 1 (aCons (eC (.int 30)) (aNil))))) (aCons (e2 gSub (eCallIO 1 [.io 1, .val (.rd 0)] (m__law_take) (aIo 1 (aCons (eC (.int 21)) (aNil)))) (eC (.int 10))) (aNil))))
def g5 : SM := sPar [9, 10] (aCons (eMake "Ratio" m_Ratio___init__ [] (aCons (eVar 4) (aCons (eVar 5) (aNil)))) (aCons (eMake "Ratio" m_Ratio___init__ [] (aCons (eVar 6) (aCons (eVar 7) (aNil)))) (aNil)))
def g6 : SM := sAsg 11 (eIf (tB (e2 gGt (eVar 5) (eC (.int 0)))) (eC (.int 1)) (e1 gNeg (eC (.int 1))))
def g7 : SM := sAsg 12 (eLst (aCons (eTup (aCons (eVar 9) (aCons (eVar 4) (aCons (eVar 5) (aNil))))) (aCons (eTup (aCons (eMake "Ratio" m_Ratio___init__ [.int 1] (aCons (eVar 4) (aNil))) (aCons (eVar 4) (aCons (eC (.int 1)) (aNil))))) (aCons (eTup (aCons (eOpX "Ratio" m_Ratio___add__ gAdd (eVar 9) (eVar 10)) (aCons (e2 gAdd (e2 gMul (eVar 4) (eVar 7)) (e2 gMul (eVar 6) (eVar 5))) (aCons (e2 gMul (eVar 5) (eVar 7)) (aNil))))) (aCons (eTup (aCons (eOpX "Ratio" m_Ratio___sub__ gSub (eVar 9) (eVar 10)) (aCons (e2 gSub (e2 gMul (eVar 4) (eVar 7)) (e2 gMul (eVar 6) (eVar 5))) (aCons (e2 gMul (eVar 5) (eVar 7)) (aNil))))) (aCons (eTup (aCons (eOpX "Ratio" m_Ratio___mul__ gMul (eVar 9) (eVar 10)) (aCons (e2 gMul (eVar 4) (eVar 6)) (aCons (e2 gMul (eVar 5) (eVar 7)) (aNil))))) (aCons (eTup (aCons (e1X "Ratio" m_Ratio___neg__ (eVar 9)) (aCons (e1 gNeg (eVar 4)) (aCons (eVar 5) (aNil))))) (aNil))))))))
def g8 : SM := sAsg 12 (e2 gCat (eVar 12) (eLst (aCons (eTup (aCons (eMethC "Ratio" "times" m_Ratio_times (eVar 9) (aCons (eVar 8) (aNil))) (aCons (e2 gMul (eVar 4) (eVar 8)) (aCons (eVar 5) (aNil))))) (aCons (eTup (aCons (eMethC "Ratio" "size" m_Ratio_size (eVar 9) aNil) (aCons (e1L gAbs (eVar 4)) (aCons (e1L gAbs (eVar 5)) (aNil))))) (aNil)))))
def g9 : SM := sIf (tNot (tB (e1L gAll (eLc [16, 17, 18] (iSeqM (eVar 12)) (tgTup (tgCons (tgName 16) (tgCons (tgName 17) (tgCons (tgName 18) (tgNil)))) 3) (tTrue) (eCall (m__law_fits) (aCons (eVar 16) (aCons (eVar 17) (aCons (eVar 18) (aNil))))))))) (sRet (eC (.bl false))) (sNx)
def g10 : SM := sAsg 13 (eCall (m__law_result) (aCons (eC (.fn "_law_did")) (aCons (eTup (aCons (eC (.str "over")) (aCons (eVar 9) (aCons (eVar 10) (aNil))))) (aNil))))
def g11 : SM := sIf (tOr (tAnd (tB (e2 gEq (eVar 6) (eC (.int 0)))) (tB (e2 gNe (eVar 13) (eTup (aCons (eC (.str "refused")) (aCons (eC (.str "zero")) (aNil))))))) (tAnd (tB (e2 gNe (eVar 6) (eC (.int 0)))) (tOr (tB (e2 gNe (e2 gIx (eVar 13) (eC (.int 0))) (eC (.str "told")))) (tNot (tB (eCall (m__law_fits) (aCons (e2 gIx (eVar 13) (eC (.int 1))) (aCons (e2 gMul (eVar 4) (eVar 7)) (aCons (e2 gMul (eVar 5) (eVar 6)) (aNil)))))))))) (sRet (eC (.bl false))) (sNx)
def g12 : SM := sIf (tOr (tNot (tB (eCall (m__law_says) (aCons (eOpX "Ratio" m_Ratio___eq__ gEq (eVar 9) (eVar 10)) (aCons (e2 gEq (e2 gMul (eVar 4) (eVar 7)) (e2 gMul (eVar 5) (eVar 6))) (aNil)))))) (tOr (tNot (tB (eCall (m__law_says) (aCons (eOpX "Ratio" m_Ratio___eq__ gEq (eVar 9) (eMake "Ratio" m_Ratio___init__ [] (aCons (e2 gMul (eC (.int 3)) (eVar 4)) (aCons (e2 gMul (eC (.int 3)) (eVar 5)) (aNil))))) (aCons (eC (.bl true)) (aNil)))))) (tNot (tB (e1L gAll (eLc [19] (iSeqM (eTup (aCons (e2 gAdd (eVar 4) (eC (.int 1))) (aCons (eC .non) (aCons (eC (.str "x")) (aCons (eTup (aCons (eVar 9) (aNil))) (aNil))))))) (tgName 19) (tTrue) (eCall (m__law_says) (aCons (eOpX "Ratio" m_Ratio___eq__ gEq (eVar 9) (eVar 19)) (aCons (eC (.bl false)) (aNil)))))))))) (sRet (eC (.bl false))) (sNx)
def g13 : SM := sIf (tOr (tNot (tB (eCall (m__law_says) (aCons (eMethC "Ratio" "less" m_Ratio_less (eVar 9) (aCons (eVar 10) (aNil))) (aCons (e2 gLt (e2 gMul (e2 gMul (eVar 4) (eVar 7)) (eVar 11)) (e2 gMul (e2 gMul (eVar 6) (eVar 5)) (eVar 11))) (aNil)))))) (tNot (tB (eCall (m__law_says) (aCons (eMethC "Ratio" "less" m_Ratio_less (eVar 10) (aCons (eVar 10) (aNil))) (aCons (eC (.bl false)) (aNil))))))) (sRet (eC (.bl false))) (sNx)
def g14 : SM := sAsg 14 (e2 gDiv (e1L gInt (e2 gMul (eVar 4) (eVar 11))) (e1L gAbs (eVar 5)))
def g15 : SM := sIf (tOr (tNot (tB (eCall (m__law_same) (aCons (eMethC "Ratio" "floor" m_Ratio_floor (eVar 9) aNil) (aCons (eVar 14) (aNil)))))) (tOr (tNot (tB (eCall (m__law_same) (aCons (eMethC "Ratio" "sign" m_Ratio_sign (eVar 9) aNil) (aCons (eCall (m__law_sign_at) (aCons (e2 gMul (eVar 4) (eVar 11)) (aNil))) (aNil)))))) (tOr (tNot (tB (eCall (m__law_says) (aCons (eMethC "Ratio" "is_zero" m_Ratio_is_zero (eVar 9) aNil) (aCons (e2 gEq (eVar 4) (eC (.int 0))) (aNil)))))) (tNot (tB (eCall (m__law_says) (aCons (eMethC "Ratio" "is_whole" m_Ratio_is_whole (eVar 9) aNil) (aCons (e2 gEq (e2 gMod (e1L gInt (eVar 4)) (e1L gAbs (eVar 5))) (eC (.int 0))) (aNil))))))))) (sRet (eC (.bl false))) (sNx)
def g16 : SM := sIf (tNot (tB (eCall (m__law_same) (aCons (eStrX "Ratio" m_Ratio___str__ (eVar 9)) (aCons (e2 gAdd (e1L gStr (e1 (gFld "Ratio" "n") (eVar 9))) (eIf (tB (e2 gEq (e1 (gFld "Ratio" "d") (eVar 9)) (eC (.int 1)))) (eC (.str "")) (e2 gAdd (eC (.str "/")) (e1L gStr (e1 (gFld "Ratio" "d") (eVar 9)))))) (aNil)))))) (sRet (eC (.bl false))) (sNx)
def g17 : SM := sFor (iSeqM (eTup (aCons (eC .non) (aCons (eC (.bl true)) (aCons (eC (.str "1")) (aCons (eTup (aCons (eC (.int 1)) (aNil))) (aCons (eC (.int 5)) (aNil)))))))) (tgName 15) (sSeq (sIf (tB (e2 gNe (eLc [20] (iSeqM (eTup (aCons (eC (.str "plus")) (aCons (eC (.str "less")) (aCons (eC (.str "times")) (aCons (eC (.str "below")) (aCons (eC (.str "over")) (aNil)))))))) (tgName 20) (tTrue) (e2 gIx (eCall (m__law_result) (aCons (eC (.fn "_law_did")) (aCons (eTup (aCons (eVar 20) (aCons (eVar 9) (aCons (eVar 15) (aNil))))) (aNil)))) (eC (.int 0)))) (e2 gRep (eLst (aCons (eC (.str "malformed")) (aNil))) (eC (.int 5))))) (sRet (eC (.bl false))) (sNx))
  (sIf (tAnd (tB (e2 gNe (eVar 15) (eC (.int 5)))) (tB (e2 gNe (eTup (aCons (eC (.str "malformed")) (aCons (eC (.str "malformed")) (aNil)))) (eTup (aCons (e2 gIx (eCall (m__law_result) (aCons (eC (.fn "_law_made")) (aCons (eTup (aCons (eVar 15) (aCons (eC (.int 1)) (aNil)))) (aNil)))) (eC (.int 0))) (aCons (e2 gIx (eCall (m__law_result) (aCons (eC (.fn "_law_made")) (aCons (eTup (aCons (eC (.int 1)) (aCons (eVar 15) (aNil)))) (aNil)))) (eC (.int 0))) (aNil))))))) (sRet (eC (.bl false))) (sNx)))
def g18 : SM := sRet (e2 gEq (eCall (m__law_result) (aCons (eC (.fn "_law_made")) (aCons (eTup (aCons (eVar 4) (aCons (eC (.int 0)) (aNil)))) (aNil)))) (eTup (aCons (eC (.str "refused")) (aCons (eC (.str "zero")) (aNil)))))
theorem law_parts : s_law = seqL [g0, g1, g2, g3, g4, g5, g6, g7, g8, g9, g10, g11, g12, g13, g14, g15, g16, g17] g18 := rfl

theorem fr_g1 : FrS 1 g1 := by
  unfold g1
  repeat (first | exact fr_var | exact fr_c | exact fr_aNil | exact fr_pNone | exact fr_tTrue | exact frs_nx | exact frs_raise | exact frs_retN | exact frg_nil | exact frg_name (by decide) | exact fr_take (by decide) | refine fr_e2 ?_ ?_ | refine fr_e1 ?_ | refine fr_e1L ?_ | refine fr_e2L ?_ ?_ | refine fr_aCons ?_ ?_ | refine fr_eTup ?_ | refine fr_eLst ?_ | refine fr_tB ?_ | refine fr_tAnd ?_ ?_ | refine fr_tOr ?_ ?_ | refine fr_tNot ?_ | refine fr_eIf ?_ ?_ ?_ | refine fr_eAnd ?_ ?_ | refine fr_eOr ?_ ?_ | refine fr_eNot ?_ | refine fr_e3c ?_ ?_ ?_ | refine fr_pSome ?_ | refine fr_eSl ?_ ?_ ?_ | refine fr_eSlL ?_ ?_ ?_ | refine fr_eM1 ?_ ?_ | refine fr_eCall ?_ | refine fr_iSeqM ?_ | refine fr_iRg ?_ | refine fr_eLc ?_ ?_ ?_ ?_ | refine fr_eLc2 ?_ ?_ ?_ ?_ ?_ ?_ ?_ | refine fr_eMeth1 ?_ | refine fr_eMeth0 | refine fr_eRm1 ?_ ?_ | refine fr_eDc ?_ ?_ ?_ ?_ ?_ | refine fr_eOpX ?_ ?_ | refine fr_e1X ?_ | refine fr_eStrX ?_ | refine fr_eMake ?_ | refine fr_eMethC ?_ ?_ | refine frs_for ?_ ?_ ?_ | refine frs_while ?_ ?_ | refine frs_if ?_ ?_ ?_ | refine frs_seq ?_ ?_ | refine frs_asg ?_ | refine frs_ret ?_ | refine frs_drop ?_ | refine frs_par ?_ | refine frs_put ?_ ?_ | refine frg_tup ?_ | refine frg_cons ?_ ?_)
theorem fr_g5 : FrS 1 g5 := by
  unfold g5
  repeat (first | exact fr_var | exact fr_c | exact fr_aNil | exact fr_pNone | exact fr_tTrue | exact frs_nx | exact frs_raise | exact frs_retN | exact frg_nil | exact frg_name (by decide) | exact fr_take (by decide) | refine fr_e2 ?_ ?_ | refine fr_e1 ?_ | refine fr_e1L ?_ | refine fr_e2L ?_ ?_ | refine fr_aCons ?_ ?_ | refine fr_eTup ?_ | refine fr_eLst ?_ | refine fr_tB ?_ | refine fr_tAnd ?_ ?_ | refine fr_tOr ?_ ?_ | refine fr_tNot ?_ | refine fr_eIf ?_ ?_ ?_ | refine fr_eAnd ?_ ?_ | refine fr_eOr ?_ ?_ | refine fr_eNot ?_ | refine fr_e3c ?_ ?_ ?_ | refine fr_pSome ?_ | refine fr_eSl ?_ ?_ ?_ | refine fr_eSlL ?_ ?_ ?_ | refine fr_eM1 ?_ ?_ | refine fr_eCall ?_ | refine fr_iSeqM ?_ | refine fr_iRg ?_ | refine fr_eLc ?_ ?_ ?_ ?_ | refine fr_eLc2 ?_ ?_ ?_ ?_ ?_ ?_ ?_ | refine fr_eMeth1 ?_ | refine fr_eMeth0 | refine fr_eRm1 ?_ ?_ | refine fr_eDc ?_ ?_ ?_ ?_ ?_ | refine fr_eOpX ?_ ?_ | refine fr_e1X ?_ | refine fr_eStrX ?_ | refine fr_eMake ?_ | refine fr_eMethC ?_ ?_ | refine frs_for ?_ ?_ ?_ | refine frs_while ?_ ?_ | refine frs_if ?_ ?_ ?_ | refine frs_seq ?_ ?_ | refine frs_asg ?_ | refine frs_ret ?_ | refine frs_drop ?_ | refine frs_par ?_ | refine frs_put ?_ ?_ | refine frg_tup ?_ | refine frg_cons ?_ ?_)
theorem fr_g6 : FrS 1 g6 := by
  unfold g6
  repeat (first | exact fr_var | exact fr_c | exact fr_aNil | exact fr_pNone | exact fr_tTrue | exact frs_nx | exact frs_raise | exact frs_retN | exact frg_nil | exact frg_name (by decide) | exact fr_take (by decide) | refine fr_e2 ?_ ?_ | refine fr_e1 ?_ | refine fr_e1L ?_ | refine fr_e2L ?_ ?_ | refine fr_aCons ?_ ?_ | refine fr_eTup ?_ | refine fr_eLst ?_ | refine fr_tB ?_ | refine fr_tAnd ?_ ?_ | refine fr_tOr ?_ ?_ | refine fr_tNot ?_ | refine fr_eIf ?_ ?_ ?_ | refine fr_eAnd ?_ ?_ | refine fr_eOr ?_ ?_ | refine fr_eNot ?_ | refine fr_e3c ?_ ?_ ?_ | refine fr_pSome ?_ | refine fr_eSl ?_ ?_ ?_ | refine fr_eSlL ?_ ?_ ?_ | refine fr_eM1 ?_ ?_ | refine fr_eCall ?_ | refine fr_iSeqM ?_ | refine fr_iRg ?_ | refine fr_eLc ?_ ?_ ?_ ?_ | refine fr_eLc2 ?_ ?_ ?_ ?_ ?_ ?_ ?_ | refine fr_eMeth1 ?_ | refine fr_eMeth0 | refine fr_eRm1 ?_ ?_ | refine fr_eDc ?_ ?_ ?_ ?_ ?_ | refine fr_eOpX ?_ ?_ | refine fr_e1X ?_ | refine fr_eStrX ?_ | refine fr_eMake ?_ | refine fr_eMethC ?_ ?_ | refine frs_for ?_ ?_ ?_ | refine frs_while ?_ ?_ | refine frs_if ?_ ?_ ?_ | refine frs_seq ?_ ?_ | refine frs_asg ?_ | refine frs_ret ?_ | refine frs_drop ?_ | refine frs_par ?_ | refine frs_put ?_ ?_ | refine frg_tup ?_ | refine frg_cons ?_ ?_)
theorem fr_g7 : FrS 1 g7 := by
  unfold g7
  repeat (first | exact fr_var | exact fr_c | exact fr_aNil | exact fr_pNone | exact fr_tTrue | exact frs_nx | exact frs_raise | exact frs_retN | exact frg_nil | exact frg_name (by decide) | exact fr_take (by decide) | refine fr_e2 ?_ ?_ | refine fr_e1 ?_ | refine fr_e1L ?_ | refine fr_e2L ?_ ?_ | refine fr_aCons ?_ ?_ | refine fr_eTup ?_ | refine fr_eLst ?_ | refine fr_tB ?_ | refine fr_tAnd ?_ ?_ | refine fr_tOr ?_ ?_ | refine fr_tNot ?_ | refine fr_eIf ?_ ?_ ?_ | refine fr_eAnd ?_ ?_ | refine fr_eOr ?_ ?_ | refine fr_eNot ?_ | refine fr_e3c ?_ ?_ ?_ | refine fr_pSome ?_ | refine fr_eSl ?_ ?_ ?_ | refine fr_eSlL ?_ ?_ ?_ | refine fr_eM1 ?_ ?_ | refine fr_eCall ?_ | refine fr_iSeqM ?_ | refine fr_iRg ?_ | refine fr_eLc ?_ ?_ ?_ ?_ | refine fr_eLc2 ?_ ?_ ?_ ?_ ?_ ?_ ?_ | refine fr_eMeth1 ?_ | refine fr_eMeth0 | refine fr_eRm1 ?_ ?_ | refine fr_eDc ?_ ?_ ?_ ?_ ?_ | refine fr_eOpX ?_ ?_ | refine fr_e1X ?_ | refine fr_eStrX ?_ | refine fr_eMake ?_ | refine fr_eMethC ?_ ?_ | refine frs_for ?_ ?_ ?_ | refine frs_while ?_ ?_ | refine frs_if ?_ ?_ ?_ | refine frs_seq ?_ ?_ | refine frs_asg ?_ | refine frs_ret ?_ | refine frs_drop ?_ | refine frs_par ?_ | refine frs_put ?_ ?_ | refine frg_tup ?_ | refine frg_cons ?_ ?_)
theorem fr_g8 : FrS 1 g8 := by
  unfold g8
  repeat (first | exact fr_var | exact fr_c | exact fr_aNil | exact fr_pNone | exact fr_tTrue | exact frs_nx | exact frs_raise | exact frs_retN | exact frg_nil | exact frg_name (by decide) | exact fr_take (by decide) | refine fr_e2 ?_ ?_ | refine fr_e1 ?_ | refine fr_e1L ?_ | refine fr_e2L ?_ ?_ | refine fr_aCons ?_ ?_ | refine fr_eTup ?_ | refine fr_eLst ?_ | refine fr_tB ?_ | refine fr_tAnd ?_ ?_ | refine fr_tOr ?_ ?_ | refine fr_tNot ?_ | refine fr_eIf ?_ ?_ ?_ | refine fr_eAnd ?_ ?_ | refine fr_eOr ?_ ?_ | refine fr_eNot ?_ | refine fr_e3c ?_ ?_ ?_ | refine fr_pSome ?_ | refine fr_eSl ?_ ?_ ?_ | refine fr_eSlL ?_ ?_ ?_ | refine fr_eM1 ?_ ?_ | refine fr_eCall ?_ | refine fr_iSeqM ?_ | refine fr_iRg ?_ | refine fr_eLc ?_ ?_ ?_ ?_ | refine fr_eLc2 ?_ ?_ ?_ ?_ ?_ ?_ ?_ | refine fr_eMeth1 ?_ | refine fr_eMeth0 | refine fr_eRm1 ?_ ?_ | refine fr_eDc ?_ ?_ ?_ ?_ ?_ | refine fr_eOpX ?_ ?_ | refine fr_e1X ?_ | refine fr_eStrX ?_ | refine fr_eMake ?_ | refine fr_eMethC ?_ ?_ | refine frs_for ?_ ?_ ?_ | refine frs_while ?_ ?_ | refine frs_if ?_ ?_ ?_ | refine frs_seq ?_ ?_ | refine frs_asg ?_ | refine frs_ret ?_ | refine frs_drop ?_ | refine frs_par ?_ | refine frs_put ?_ ?_ | refine frg_tup ?_ | refine frg_cons ?_ ?_)
theorem fr_g9 : FrS 1 g9 := by
  unfold g9
  repeat (first | exact fr_var | exact fr_c | exact fr_aNil | exact fr_pNone | exact fr_tTrue | exact frs_nx | exact frs_raise | exact frs_retN | exact frg_nil | exact frg_name (by decide) | exact fr_take (by decide) | refine fr_e2 ?_ ?_ | refine fr_e1 ?_ | refine fr_e1L ?_ | refine fr_e2L ?_ ?_ | refine fr_aCons ?_ ?_ | refine fr_eTup ?_ | refine fr_eLst ?_ | refine fr_tB ?_ | refine fr_tAnd ?_ ?_ | refine fr_tOr ?_ ?_ | refine fr_tNot ?_ | refine fr_eIf ?_ ?_ ?_ | refine fr_eAnd ?_ ?_ | refine fr_eOr ?_ ?_ | refine fr_eNot ?_ | refine fr_e3c ?_ ?_ ?_ | refine fr_pSome ?_ | refine fr_eSl ?_ ?_ ?_ | refine fr_eSlL ?_ ?_ ?_ | refine fr_eM1 ?_ ?_ | refine fr_eCall ?_ | refine fr_iSeqM ?_ | refine fr_iRg ?_ | refine fr_eLc ?_ ?_ ?_ ?_ | refine fr_eLc2 ?_ ?_ ?_ ?_ ?_ ?_ ?_ | refine fr_eMeth1 ?_ | refine fr_eMeth0 | refine fr_eRm1 ?_ ?_ | refine fr_eDc ?_ ?_ ?_ ?_ ?_ | refine fr_eOpX ?_ ?_ | refine fr_e1X ?_ | refine fr_eStrX ?_ | refine fr_eMake ?_ | refine fr_eMethC ?_ ?_ | refine frs_for ?_ ?_ ?_ | refine frs_while ?_ ?_ | refine frs_if ?_ ?_ ?_ | refine frs_seq ?_ ?_ | refine frs_asg ?_ | refine frs_ret ?_ | refine frs_drop ?_ | refine frs_par ?_ | refine frs_put ?_ ?_ | refine frg_tup ?_ | refine frg_cons ?_ ?_)
theorem fr_g10 : FrS 1 g10 := by
  unfold g10
  repeat (first | exact fr_var | exact fr_c | exact fr_aNil | exact fr_pNone | exact fr_tTrue | exact frs_nx | exact frs_raise | exact frs_retN | exact frg_nil | exact frg_name (by decide) | exact fr_take (by decide) | refine fr_e2 ?_ ?_ | refine fr_e1 ?_ | refine fr_e1L ?_ | refine fr_e2L ?_ ?_ | refine fr_aCons ?_ ?_ | refine fr_eTup ?_ | refine fr_eLst ?_ | refine fr_tB ?_ | refine fr_tAnd ?_ ?_ | refine fr_tOr ?_ ?_ | refine fr_tNot ?_ | refine fr_eIf ?_ ?_ ?_ | refine fr_eAnd ?_ ?_ | refine fr_eOr ?_ ?_ | refine fr_eNot ?_ | refine fr_e3c ?_ ?_ ?_ | refine fr_pSome ?_ | refine fr_eSl ?_ ?_ ?_ | refine fr_eSlL ?_ ?_ ?_ | refine fr_eM1 ?_ ?_ | refine fr_eCall ?_ | refine fr_iSeqM ?_ | refine fr_iRg ?_ | refine fr_eLc ?_ ?_ ?_ ?_ | refine fr_eLc2 ?_ ?_ ?_ ?_ ?_ ?_ ?_ | refine fr_eMeth1 ?_ | refine fr_eMeth0 | refine fr_eRm1 ?_ ?_ | refine fr_eDc ?_ ?_ ?_ ?_ ?_ | refine fr_eOpX ?_ ?_ | refine fr_e1X ?_ | refine fr_eStrX ?_ | refine fr_eMake ?_ | refine fr_eMethC ?_ ?_ | refine frs_for ?_ ?_ ?_ | refine frs_while ?_ ?_ | refine frs_if ?_ ?_ ?_ | refine frs_seq ?_ ?_ | refine frs_asg ?_ | refine frs_ret ?_ | refine frs_drop ?_ | refine frs_par ?_ | refine frs_put ?_ ?_ | refine frg_tup ?_ | refine frg_cons ?_ ?_)
theorem fr_g11 : FrS 1 g11 := by
  unfold g11
  repeat (first | exact fr_var | exact fr_c | exact fr_aNil | exact fr_pNone | exact fr_tTrue | exact frs_nx | exact frs_raise | exact frs_retN | exact frg_nil | exact frg_name (by decide) | exact fr_take (by decide) | refine fr_e2 ?_ ?_ | refine fr_e1 ?_ | refine fr_e1L ?_ | refine fr_e2L ?_ ?_ | refine fr_aCons ?_ ?_ | refine fr_eTup ?_ | refine fr_eLst ?_ | refine fr_tB ?_ | refine fr_tAnd ?_ ?_ | refine fr_tOr ?_ ?_ | refine fr_tNot ?_ | refine fr_eIf ?_ ?_ ?_ | refine fr_eAnd ?_ ?_ | refine fr_eOr ?_ ?_ | refine fr_eNot ?_ | refine fr_e3c ?_ ?_ ?_ | refine fr_pSome ?_ | refine fr_eSl ?_ ?_ ?_ | refine fr_eSlL ?_ ?_ ?_ | refine fr_eM1 ?_ ?_ | refine fr_eCall ?_ | refine fr_iSeqM ?_ | refine fr_iRg ?_ | refine fr_eLc ?_ ?_ ?_ ?_ | refine fr_eLc2 ?_ ?_ ?_ ?_ ?_ ?_ ?_ | refine fr_eMeth1 ?_ | refine fr_eMeth0 | refine fr_eRm1 ?_ ?_ | refine fr_eDc ?_ ?_ ?_ ?_ ?_ | refine fr_eOpX ?_ ?_ | refine fr_e1X ?_ | refine fr_eStrX ?_ | refine fr_eMake ?_ | refine fr_eMethC ?_ ?_ | refine frs_for ?_ ?_ ?_ | refine frs_while ?_ ?_ | refine frs_if ?_ ?_ ?_ | refine frs_seq ?_ ?_ | refine frs_asg ?_ | refine frs_ret ?_ | refine frs_drop ?_ | refine frs_par ?_ | refine frs_put ?_ ?_ | refine frg_tup ?_ | refine frg_cons ?_ ?_)
theorem fr_g12 : FrS 1 g12 := by
  unfold g12
  repeat (first | exact fr_var | exact fr_c | exact fr_aNil | exact fr_pNone | exact fr_tTrue | exact frs_nx | exact frs_raise | exact frs_retN | exact frg_nil | exact frg_name (by decide) | exact fr_take (by decide) | refine fr_e2 ?_ ?_ | refine fr_e1 ?_ | refine fr_e1L ?_ | refine fr_e2L ?_ ?_ | refine fr_aCons ?_ ?_ | refine fr_eTup ?_ | refine fr_eLst ?_ | refine fr_tB ?_ | refine fr_tAnd ?_ ?_ | refine fr_tOr ?_ ?_ | refine fr_tNot ?_ | refine fr_eIf ?_ ?_ ?_ | refine fr_eAnd ?_ ?_ | refine fr_eOr ?_ ?_ | refine fr_eNot ?_ | refine fr_e3c ?_ ?_ ?_ | refine fr_pSome ?_ | refine fr_eSl ?_ ?_ ?_ | refine fr_eSlL ?_ ?_ ?_ | refine fr_eM1 ?_ ?_ | refine fr_eCall ?_ | refine fr_iSeqM ?_ | refine fr_iRg ?_ | refine fr_eLc ?_ ?_ ?_ ?_ | refine fr_eLc2 ?_ ?_ ?_ ?_ ?_ ?_ ?_ | refine fr_eMeth1 ?_ | refine fr_eMeth0 | refine fr_eRm1 ?_ ?_ | refine fr_eDc ?_ ?_ ?_ ?_ ?_ | refine fr_eOpX ?_ ?_ | refine fr_e1X ?_ | refine fr_eStrX ?_ | refine fr_eMake ?_ | refine fr_eMethC ?_ ?_ | refine frs_for ?_ ?_ ?_ | refine frs_while ?_ ?_ | refine frs_if ?_ ?_ ?_ | refine frs_seq ?_ ?_ | refine frs_asg ?_ | refine frs_ret ?_ | refine frs_drop ?_ | refine frs_par ?_ | refine frs_put ?_ ?_ | refine frg_tup ?_ | refine frg_cons ?_ ?_)
theorem fr_g13 : FrS 1 g13 := by
  unfold g13
  repeat (first | exact fr_var | exact fr_c | exact fr_aNil | exact fr_pNone | exact fr_tTrue | exact frs_nx | exact frs_raise | exact frs_retN | exact frg_nil | exact frg_name (by decide) | exact fr_take (by decide) | refine fr_e2 ?_ ?_ | refine fr_e1 ?_ | refine fr_e1L ?_ | refine fr_e2L ?_ ?_ | refine fr_aCons ?_ ?_ | refine fr_eTup ?_ | refine fr_eLst ?_ | refine fr_tB ?_ | refine fr_tAnd ?_ ?_ | refine fr_tOr ?_ ?_ | refine fr_tNot ?_ | refine fr_eIf ?_ ?_ ?_ | refine fr_eAnd ?_ ?_ | refine fr_eOr ?_ ?_ | refine fr_eNot ?_ | refine fr_e3c ?_ ?_ ?_ | refine fr_pSome ?_ | refine fr_eSl ?_ ?_ ?_ | refine fr_eSlL ?_ ?_ ?_ | refine fr_eM1 ?_ ?_ | refine fr_eCall ?_ | refine fr_iSeqM ?_ | refine fr_iRg ?_ | refine fr_eLc ?_ ?_ ?_ ?_ | refine fr_eLc2 ?_ ?_ ?_ ?_ ?_ ?_ ?_ | refine fr_eMeth1 ?_ | refine fr_eMeth0 | refine fr_eRm1 ?_ ?_ | refine fr_eDc ?_ ?_ ?_ ?_ ?_ | refine fr_eOpX ?_ ?_ | refine fr_e1X ?_ | refine fr_eStrX ?_ | refine fr_eMake ?_ | refine fr_eMethC ?_ ?_ | refine frs_for ?_ ?_ ?_ | refine frs_while ?_ ?_ | refine frs_if ?_ ?_ ?_ | refine frs_seq ?_ ?_ | refine frs_asg ?_ | refine frs_ret ?_ | refine frs_drop ?_ | refine frs_par ?_ | refine frs_put ?_ ?_ | refine frg_tup ?_ | refine frg_cons ?_ ?_)
theorem fr_g14 : FrS 1 g14 := by
  unfold g14
  repeat (first | exact fr_var | exact fr_c | exact fr_aNil | exact fr_pNone | exact fr_tTrue | exact frs_nx | exact frs_raise | exact frs_retN | exact frg_nil | exact frg_name (by decide) | exact fr_take (by decide) | refine fr_e2 ?_ ?_ | refine fr_e1 ?_ | refine fr_e1L ?_ | refine fr_e2L ?_ ?_ | refine fr_aCons ?_ ?_ | refine fr_eTup ?_ | refine fr_eLst ?_ | refine fr_tB ?_ | refine fr_tAnd ?_ ?_ | refine fr_tOr ?_ ?_ | refine fr_tNot ?_ | refine fr_eIf ?_ ?_ ?_ | refine fr_eAnd ?_ ?_ | refine fr_eOr ?_ ?_ | refine fr_eNot ?_ | refine fr_e3c ?_ ?_ ?_ | refine fr_pSome ?_ | refine fr_eSl ?_ ?_ ?_ | refine fr_eSlL ?_ ?_ ?_ | refine fr_eM1 ?_ ?_ | refine fr_eCall ?_ | refine fr_iSeqM ?_ | refine fr_iRg ?_ | refine fr_eLc ?_ ?_ ?_ ?_ | refine fr_eLc2 ?_ ?_ ?_ ?_ ?_ ?_ ?_ | refine fr_eMeth1 ?_ | refine fr_eMeth0 | refine fr_eRm1 ?_ ?_ | refine fr_eDc ?_ ?_ ?_ ?_ ?_ | refine fr_eOpX ?_ ?_ | refine fr_e1X ?_ | refine fr_eStrX ?_ | refine fr_eMake ?_ | refine fr_eMethC ?_ ?_ | refine frs_for ?_ ?_ ?_ | refine frs_while ?_ ?_ | refine frs_if ?_ ?_ ?_ | refine frs_seq ?_ ?_ | refine frs_asg ?_ | refine frs_ret ?_ | refine frs_drop ?_ | refine frs_par ?_ | refine frs_put ?_ ?_ | refine frg_tup ?_ | refine frg_cons ?_ ?_)
theorem fr_g15 : FrS 1 g15 := by
  unfold g15
  repeat (first | exact fr_var | exact fr_c | exact fr_aNil | exact fr_pNone | exact fr_tTrue | exact frs_nx | exact frs_raise | exact frs_retN | exact frg_nil | exact frg_name (by decide) | exact fr_take (by decide) | refine fr_e2 ?_ ?_ | refine fr_e1 ?_ | refine fr_e1L ?_ | refine fr_e2L ?_ ?_ | refine fr_aCons ?_ ?_ | refine fr_eTup ?_ | refine fr_eLst ?_ | refine fr_tB ?_ | refine fr_tAnd ?_ ?_ | refine fr_tOr ?_ ?_ | refine fr_tNot ?_ | refine fr_eIf ?_ ?_ ?_ | refine fr_eAnd ?_ ?_ | refine fr_eOr ?_ ?_ | refine fr_eNot ?_ | refine fr_e3c ?_ ?_ ?_ | refine fr_pSome ?_ | refine fr_eSl ?_ ?_ ?_ | refine fr_eSlL ?_ ?_ ?_ | refine fr_eM1 ?_ ?_ | refine fr_eCall ?_ | refine fr_iSeqM ?_ | refine fr_iRg ?_ | refine fr_eLc ?_ ?_ ?_ ?_ | refine fr_eLc2 ?_ ?_ ?_ ?_ ?_ ?_ ?_ | refine fr_eMeth1 ?_ | refine fr_eMeth0 | refine fr_eRm1 ?_ ?_ | refine fr_eDc ?_ ?_ ?_ ?_ ?_ | refine fr_eOpX ?_ ?_ | refine fr_e1X ?_ | refine fr_eStrX ?_ | refine fr_eMake ?_ | refine fr_eMethC ?_ ?_ | refine frs_for ?_ ?_ ?_ | refine frs_while ?_ ?_ | refine frs_if ?_ ?_ ?_ | refine frs_seq ?_ ?_ | refine frs_asg ?_ | refine frs_ret ?_ | refine frs_drop ?_ | refine frs_par ?_ | refine frs_put ?_ ?_ | refine frg_tup ?_ | refine frg_cons ?_ ?_)
theorem fr_g16 : FrS 1 g16 := by
  unfold g16
  repeat (first | exact fr_var | exact fr_c | exact fr_aNil | exact fr_pNone | exact fr_tTrue | exact frs_nx | exact frs_raise | exact frs_retN | exact frg_nil | exact frg_name (by decide) | exact fr_take (by decide) | refine fr_e2 ?_ ?_ | refine fr_e1 ?_ | refine fr_e1L ?_ | refine fr_e2L ?_ ?_ | refine fr_aCons ?_ ?_ | refine fr_eTup ?_ | refine fr_eLst ?_ | refine fr_tB ?_ | refine fr_tAnd ?_ ?_ | refine fr_tOr ?_ ?_ | refine fr_tNot ?_ | refine fr_eIf ?_ ?_ ?_ | refine fr_eAnd ?_ ?_ | refine fr_eOr ?_ ?_ | refine fr_eNot ?_ | refine fr_e3c ?_ ?_ ?_ | refine fr_pSome ?_ | refine fr_eSl ?_ ?_ ?_ | refine fr_eSlL ?_ ?_ ?_ | refine fr_eM1 ?_ ?_ | refine fr_eCall ?_ | refine fr_iSeqM ?_ | refine fr_iRg ?_ | refine fr_eLc ?_ ?_ ?_ ?_ | refine fr_eLc2 ?_ ?_ ?_ ?_ ?_ ?_ ?_ | refine fr_eMeth1 ?_ | refine fr_eMeth0 | refine fr_eRm1 ?_ ?_ | refine fr_eDc ?_ ?_ ?_ ?_ ?_ | refine fr_eOpX ?_ ?_ | refine fr_e1X ?_ | refine fr_eStrX ?_ | refine fr_eMake ?_ | refine fr_eMethC ?_ ?_ | refine frs_for ?_ ?_ ?_ | refine frs_while ?_ ?_ | refine frs_if ?_ ?_ ?_ | refine frs_seq ?_ ?_ | refine frs_asg ?_ | refine frs_ret ?_ | refine frs_drop ?_ | refine frs_par ?_ | refine frs_put ?_ ?_ | refine frg_tup ?_ | refine frg_cons ?_ ?_)
theorem fr_g17 : FrS 1 g17 := by
  unfold g17
  repeat (first | exact fr_var | exact fr_c | exact fr_aNil | exact fr_pNone | exact fr_tTrue | exact frs_nx | exact frs_raise | exact frs_retN | exact frg_nil | exact frg_name (by decide) | exact fr_take (by decide) | refine fr_e2 ?_ ?_ | refine fr_e1 ?_ | refine fr_e1L ?_ | refine fr_e2L ?_ ?_ | refine fr_aCons ?_ ?_ | refine fr_eTup ?_ | refine fr_eLst ?_ | refine fr_tB ?_ | refine fr_tAnd ?_ ?_ | refine fr_tOr ?_ ?_ | refine fr_tNot ?_ | refine fr_eIf ?_ ?_ ?_ | refine fr_eAnd ?_ ?_ | refine fr_eOr ?_ ?_ | refine fr_eNot ?_ | refine fr_e3c ?_ ?_ ?_ | refine fr_pSome ?_ | refine fr_eSl ?_ ?_ ?_ | refine fr_eSlL ?_ ?_ ?_ | refine fr_eM1 ?_ ?_ | refine fr_eCall ?_ | refine fr_iSeqM ?_ | refine fr_iRg ?_ | refine fr_eLc ?_ ?_ ?_ ?_ | refine fr_eLc2 ?_ ?_ ?_ ?_ ?_ ?_ ?_ | refine fr_eMeth1 ?_ | refine fr_eMeth0 | refine fr_eRm1 ?_ ?_ | refine fr_eDc ?_ ?_ ?_ ?_ ?_ | refine fr_eOpX ?_ ?_ | refine fr_e1X ?_ | refine fr_eStrX ?_ | refine fr_eMake ?_ | refine fr_eMethC ?_ ?_ | refine frs_for ?_ ?_ ?_ | refine frs_while ?_ ?_ | refine frs_if ?_ ?_ ?_ | refine frs_seq ?_ ?_ | refine frs_asg ?_ | refine frs_ret ?_ | refine frs_drop ?_ | refine frs_par ?_ | refine frs_put ?_ ?_ | refine frg_tup ?_ | refine frg_cons ?_ ?_)
theorem fr_g18 : FrS 1 g18 := by
  unfold g18
  repeat (first | exact fr_var | exact fr_c | exact fr_aNil | exact fr_pNone | exact fr_tTrue | exact frs_nx | exact frs_raise | exact frs_retN | exact frg_nil | exact frg_name (by decide) | exact fr_take (by decide) | refine fr_e2 ?_ ?_ | refine fr_e1 ?_ | refine fr_e1L ?_ | refine fr_e2L ?_ ?_ | refine fr_aCons ?_ ?_ | refine fr_eTup ?_ | refine fr_eLst ?_ | refine fr_tB ?_ | refine fr_tAnd ?_ ?_ | refine fr_tOr ?_ ?_ | refine fr_tNot ?_ | refine fr_eIf ?_ ?_ ?_ | refine fr_eAnd ?_ ?_ | refine fr_eOr ?_ ?_ | refine fr_eNot ?_ | refine fr_e3c ?_ ?_ ?_ | refine fr_pSome ?_ | refine fr_eSl ?_ ?_ ?_ | refine fr_eSlL ?_ ?_ ?_ | refine fr_eM1 ?_ ?_ | refine fr_eCall ?_ | refine fr_iSeqM ?_ | refine fr_iRg ?_ | refine fr_eLc ?_ ?_ ?_ ?_ | refine fr_eLc2 ?_ ?_ ?_ ?_ ?_ ?_ ?_ | refine fr_eMeth1 ?_ | refine fr_eMeth0 | refine fr_eRm1 ?_ ?_ | refine fr_eDc ?_ ?_ ?_ ?_ ?_ | refine fr_eOpX ?_ ?_ | refine fr_e1X ?_ | refine fr_eStrX ?_ | refine fr_eMake ?_ | refine fr_eMethC ?_ ?_ | refine frs_for ?_ ?_ ?_ | refine frs_while ?_ ?_ | refine frs_if ?_ ?_ ?_ | refine frs_seq ?_ ?_ | refine frs_asg ?_ | refine frs_ret ?_ | refine frs_drop ?_ | refine frs_par ?_ | refine frs_put ?_ ?_ | refine frg_tup ?_ | refine frg_cons ?_ ?_)
structure Txt (K : PySem.W.Frag) (mg : Str → Option Value) (fs : Nat → Addr) (fds : Nat → FuncData) : Prop where
  c_Ratio : ClsF K mg "Ratio" (He.ga K "Ratio")
  o_Ratio : OwnF K (He.ga K "Ratio") ["add", "mul", "sub"]
  n_Ratio_d : NoAttr K (He.ga K "Ratio") "d"
  n_Ratio_n : NoAttr K (He.ga K "Ratio") "n"
  k_Ratio : Mk K (He.ga K "Ratio") (fs 16)
  d_Refused___init__ : MetAt K (He.ga K "Refused") "__init__" "Refused.__init__" t_Refused___init__ ["self", "reason"] [] (fs 15) (fds 15)
  d_Ratio___init__ : MetAt K (He.ga K "Ratio") "__init__" "Ratio.__init__" t_Ratio___init__ ["self", "n", "d"] [V.int 1] (fs 16) (fds 16)
  d_Ratio___add__ : MetAt K (He.ga K "Ratio") "__add__" "Ratio.__add__" t_Ratio___add__ ["self", "other"] [] (fs 17) (fds 17)
  d_Ratio___sub__ : MetAt K (He.ga K "Ratio") "__sub__" "Ratio.__sub__" t_Ratio___sub__ ["self", "other"] [] (fs 18) (fds 18)
  d_Ratio___mul__ : MetAt K (He.ga K "Ratio") "__mul__" "Ratio.__mul__" t_Ratio___mul__ ["self", "other"] [] (fs 19) (fds 19)
  d_Ratio___neg__ : MetAt K (He.ga K "Ratio") "__neg__" "Ratio.__neg__" t_Ratio___neg__ ["self"] [] (fs 20) (fds 20)
  d_Ratio___eq__ : MetAt K (He.ga K "Ratio") "__eq__" "Ratio.__eq__" t_Ratio___eq__ ["self", "other"] [] (fs 21) (fds 21)
  d_Ratio_less : MetAt K (He.ga K "Ratio") "less" "Ratio.less" t_Ratio_less ["self", "other"] [] (fs 22) (fds 22)
  d_Ratio___str__ : MetAt K (He.ga K "Ratio") "__str__" "Ratio.__str__" t_Ratio___str__ ["self"] [] (fs 23) (fds 23)
  d_Ratio_over : MetAt K (He.ga K "Ratio") "over" "Ratio.over" t_Ratio_over ["self", "other"] [] (fs 24) (fds 24)
  d_Ratio_times : MetAt K (He.ga K "Ratio") "times" "Ratio.times" t_Ratio_times ["self", "k"] [] (fs 25) (fds 25)
  d_Ratio_sign : MetAt K (He.ga K "Ratio") "sign" "Ratio.sign" t_Ratio_sign ["self"] [] (fs 26) (fds 26)
  d_Ratio_is_zero : MetAt K (He.ga K "Ratio") "is_zero" "Ratio.is_zero" t_Ratio_is_zero ["self"] [] (fs 27) (fds 27)
  d_Ratio_is_whole : MetAt K (He.ga K "Ratio") "is_whole" "Ratio.is_whole" t_Ratio_is_whole ["self"] [] (fs 28) (fds 28)
  d_Ratio_floor : MetAt K (He.ga K "Ratio") "floor" "Ratio.floor" t_Ratio_floor ["self"] [] (fs 29) (fds 29)
  d_Ratio_size : MetAt K (He.ga K "Ratio") "size" "Ratio.size" t_Ratio_size ["self"] [] (fs 30) (fds 30)
  b1_Ratio___init__ : ∃ ds, Vals [V.int 1] ds ∧ Binds K (fds 16) ["self", "n", "d"] ds
  rf : RefK K mg (He.ga K "Fault") (He.ga K "Refused") (fs 15)
  d_is_integer : DefAt K mg "is_integer" t_is_integer ["value"] (fs 0) (fds 0)
  d_common : DefAt K mg "common" t_common ["a", "b"] (fs 1) (fds 1)
  d_check_ratio : DefAt K mg "check_ratio" t_check_ratio ["value"] (fs 2) (fds 2)
  d__law_state : DefAt K mg "_law_state" t__law_state ["script"] (fs 3) (fds 3)
  d__law_take : DefAt K mg "_law_take" t__law_take ["state", "m"] (fs 4) (fds 4)
  d__law_says : DefAt K mg "_law_says" t__law_says ["value", "due"] (fs 5) (fds 5)
  d__law_is_whole : DefAt K mg "_law_is_whole" t__law_is_whole ["value"] (fs 6) (fds 6)
  d__law_same : DefAt K mg "_law_same" t__law_same ["one", "two"] (fs 7) (fds 7)
  d__law_common : DefAt K mg "_law_common" t__law_common ["a", "b"] (fs 8) (fds 8)
  d__law_result : DefAt K mg "_law_result" t__law_result ["act", "given"] (fs 9) (fds 9)
  d__law_sign_at : DefAt K mg "_law_sign_at" t__law_sign_at ["c"] (fs 10) (fds 10)
  d__law_made : DefAt K mg "_law_made" t__law_made ["n", "d"] (fs 11) (fds 11)
  d__law_did : DefAt K mg "_law_did" t__law_did ["word", "a", "b"] (fs 12) (fds 12)
  d__law_fits : DefAt K mg "_law_fits" t__law_fits ["x", "n", "d"] (fs 13) (fds 13)
  d_law : DefAt K mg "law" t_law ["script"] (fs 14) (fds 14)
  z_abs : mg "abs" = none
  z_all : mg "all" = none
  z_bool : mg "bool" = none
  z_int : mg "int" = none
  z_isinstance : mg "isinstance" = none
  z_len : mg "len" = none
  z_range : mg "range" = none
  z_str : mg "str" = none
  z_tuple : mg "tuple" = none
  mal : ∃ C, MalC K mg "Malformed" C
  xc : ∃ CM CR, XcR K mg CM CR
  nn : mg "NoText" = none
section
variable {P : Program} {w : World} {K : PySem.W.Frag} {mg : Str → Option Value} {base : Heap} {fs : Nat → Addr} {fds : Nat → FuncData}
theorem ok_Refused___init__ (T : Txt K mg fs fds) : FnOk P w K mg base (L2.CX P w) 1 (fs 15) (fds 15) ["self", "reason"] (spRef K) := by
  refine ref_init (plain_of T.d_Refused___init__.F) sc_Refused___init__ fun cdv A outer s0 H E => ?_
  exact pss_cons (ps_expr (pe_faultInit T.rf rfl (pa_cons (pv 0) (pa_cons (pv 1) pa_nil)))) (pss_one (ps_ost (pv 0) (pv 1)))
theorem ok_is_integer (T : Txt K mg fs fds) : FnOk P w K mg base (L2.CX P w) 1 (fs 0) (fds 0) ["value"] (spM K mg [.sh] 0 (m0 m_is_integer)) := by
  refine fn_okP (k := 0) (ps := [.sh]) (rk := 0) (ls := []) (s := s_is_integer) T.d_is_integer.F sc_is_integer rfl ?_ rfl rfl rfl
  intro cdv A outer s0 H E vs B hr ok po
  exact sxs_one (sx_ret (ex_and (ex_isT .int (T.z_isinstance) (T.z_int) (ex_vo 0 0)) (ex_one (ex_not (ex_isT .bl (T.z_isinstance) (T.z_bool) (ex_vo 0 0))))))
theorem ok_common (T : Txt K mg fs fds) : FnOk P w K mg base (L2.CX P w) 1 (fs 1) (fds 1) ["a", "b"] (spM K mg [.sh, .sh] 0 (m0 m_common)) := by
  refine fn_okP (k := 0) (ps := [.sh, .sh]) (rk := 0) (ls := []) (s := s_common) T.d_common.F sc_common rfl ?_ rfl rfl rfl
  intro cdv A outer s0 H E vs B hr ok po
  exact sxs_cons (sx_par2 ok 0 1 (ap_cons (k := 0) (ex_abs (T.z_abs) (ex_vo 0 0)) (ap_cons (k := 0) (ex_abs (T.z_abs) (ex_vo 1 0)) (ap_nil))) sc_common.nd (by decide))
    (sxs_cons (sx_while po (tx_gt (ex_vo 1 0) (ex_int) w00) (sxs_one (sx_par2 ok 0 1 (ap_cons (k := 0) (ex_vo 1 0) (ap_cons (k := 0) (ex_mod (ex_vo 0 0) (ex_vo 1 0) w00) (ap_nil))) sc_common.nd (by decide))))
    (sxs_one (sx_ret (ex_vo 0 0))))
theorem ok_check_ratio (T : Txt K mg fs fds) : FnOk P w K mg base (L2.CX P w) 1 (fs 2) (fds 2) ["value"] (spM K mg [.sh] 0 (m0 m_check_ratio)) := by
  obtain ⟨C, M⟩ := T.mal
  refine fn_okP (k := 0) (ps := [.sh]) (rk := 0) (ls := []) (s := s_check_ratio) T.d_check_ratio.F sc_check_ratio rfl ?_ rfl rfl rfl
  intro cdv A outer s0 H E vs B hr ok po
  exact sxs_one (sx_if (tx_not (tx_val (ex_isK T.c_Ratio T.o_Ratio.is (T.z_isinstance) (ex_vo 0 0)))) (sxs_one (sx_raise ok M)) (sxs_nil))
theorem ok__law_state (T : Txt K mg fs fds) : FnOk P w K mg base (L2.CX P w) 1 (fs 3) (fds 3) ["script"] (spM K mg [.sh] 1 (m0 m__law_state)) := by
  refine fn_okP (k := 0) (ps := [.sh]) (rk := 1) (ls := [.own 0, .own 0, .own 0]) (s := s__law_state) T.d__law_state.F sc__law_state rfl ?_ rfl rfl rfl
  intro cdv A outer s0 H E vs B hr ok po
  exact sxs_cons (sx_asg 1 (ex_int) sc__law_state.nd)
    (sxs_cons (sx_asg 2 (ex_int) sc__law_state.nd)
    (sxs_cons (sx_for ok po (ix_seqS (ex_sh (ex_slL (ex_up (ex_vo 0 0)) (px_none) (px_some (ex_int)) wrd))) (gx_name 3 sc__law_state.nd) (sxs_cons (sx_asg 1 (ex_add (ex_mul (ex_vo 1 0) (ex_int) w00) (ex_abs (T.z_abs) (ex_vo 3 0))) sc__law_state.nd)
    (sxs_one (sx_asg 2 (ex_mod (ex_intc (T.z_int) (ex_add (ex_mul (ex_vo 2 0) (ex_int) w00) (ex_vo 3 0))) (ex_int) w00) sc__law_state.nd))))
    (sxs_one (sx_retO (ex_lst (ax_cons (ex_vo 1 0) (ax_cons (ex_if (tx_ne (rmOf hr) (ex_vo 2 0) (ex_int) w00) (ex_vo 2 0) (ex_int)) (ax_nil) w00) w00))))))
theorem ok__law_take (T : Txt K mg fs fds) : FnOk P w K mg base (L2.CX P w) 1 (fs 4) (fds 4) ["state", "m"] (spM K mg [.io 1, .sh] 0 (m__law_take)) := by
  refine fn_okI (k := 0) (ps := [.io 1, .sh]) (rk := 0) (ls := [.own 0]) (s := s__law_take) T.d__law_take.F sc__law_take rfl ?_ rfl rfl
  intro cdv A outer s0 H E vs B hr ok po
  exact sxs_cons (sx_if (tx_gt (ex_ix (rmOf hr) (ex_vo 0 1) (ex_int) wrd) (ex_int) w00) (sxs_cons (sx_asg 2 (ex_mod (ex_intc (T.z_int) (ex_ix (rmOf hr) (ex_vo 0 1) (ex_int) wrd)) (ex_vo 1 0) w00) sc__law_take.nd)
    (sxs_cons (sx_put 0 (k := 0) set_list ps3_lst (ex_div (ex_ix (rmOf hr) (ex_vo 0 1) (ex_int) wrd) (ex_vo 1 0) w00) (ex_int))
    (sxs_one (sx_ret (ex_vo 2 0))))) (sxs_nil))
    (sxs_cons (sx_put 0 (k := 0) set_list ps3_lst (ex_mod (ex_intc (T.z_int) (ex_add (ex_mul (ex_ix (rmOf hr) (ex_vo 0 1) (ex_int) wrd) (ex_int) w00) (ex_int))) (ex_int) w00) (ex_int))
    (sxs_one (sx_ret (ex_mod (ex_intc (T.z_int) (ex_div (ex_ix (rmOf hr) (ex_vo 0 1) (ex_int) wrd) (ex_int) w00)) (ex_vo 1 0) w00))))
theorem ok__law_says (T : Txt K mg fs fds) : FnOk P w K mg base (L2.CX P w) 1 (fs 5) (fds 5) ["value", "due"] (spM K mg [.sh, .sh] 0 (m0 m__law_says)) := by
  refine fn_okP (k := 0) (ps := [.sh, .sh]) (rk := 0) (ls := []) (s := s__law_says) T.d__law_says.F sc__law_says rfl ?_ rfl rfl rfl
  intro cdv A outer s0 H E vs B hr ok po
  exact sxs_one (sx_ret (ex_and (ex_isT .bl (T.z_isinstance) (T.z_bool) (ex_vo 0 0)) (ex_one (ex_eq (rmOf hr) (ex_vo 0 0) (ex_vo 1 0) w00))))
theorem ok__law_is_whole (T : Txt K mg fs fds) : FnOk P w K mg base (L2.CX P w) 1 (fs 6) (fds 6) ["value"] (spM K mg [.sh] 0 (m0 m__law_is_whole)) := by
  refine fn_okP (k := 0) (ps := [.sh]) (rk := 0) (ls := []) (s := s__law_is_whole) T.d__law_is_whole.F sc__law_is_whole rfl ?_ rfl rfl rfl
  intro cdv A outer s0 H E vs B hr ok po
  exact sxs_one (sx_ret (ex_and (ex_isT .int (T.z_isinstance) (T.z_int) (ex_vo 0 0)) (ex_one (ex_not (ex_isT .bl (T.z_isinstance) (T.z_bool) (ex_vo 0 0))))))
theorem ok__law_common (T : Txt K mg fs fds) : FnOk P w K mg base (L2.CX P w) 1 (fs 8) (fds 8) ["a", "b"] (spM K mg [.sh, .sh] 0 (m0 m__law_common)) := by
  refine fn_okP (k := 0) (ps := [.sh, .sh]) (rk := 0) (ls := []) (s := s__law_common) T.d__law_common.F sc__law_common rfl ?_ rfl rfl rfl
  intro cdv A outer s0 H E vs B hr ok po
  exact sxs_cons (sx_while po (tx_ne (rmOf hr) (ex_vo 1 0) (ex_int) w00) (sxs_one (sx_par2 ok 0 1 (ap_cons (k := 0) (ex_vo 1 0) (ap_cons (k := 0) (ex_mod (ex_intc (T.z_int) (ex_vo 0 0)) (ex_vo 1 0) w00) (ap_nil))) sc__law_common.nd (by decide))))
    (sxs_one (sx_ret (ex_abs (T.z_abs) (ex_vo 0 0))))
theorem ok__law_sign_at (T : Txt K mg fs fds) : FnOk P w K mg base (L2.CX P w) 1 (fs 10) (fds 10) ["c"] (spM K mg [.sh] 0 (m0 m__law_sign_at)) := by
  refine fn_okP (k := 0) (ps := [.sh]) (rk := 0) (ls := []) (s := s__law_sign_at) T.d__law_sign_at.F sc__law_sign_at rfl ?_ rfl rfl rfl
  intro cdv A outer s0 H E vs B hr ok po
  exact sxs_one (sx_ret (ex_if (tx_gt (ex_vo 0 0) (ex_int) w00) (ex_int) (ex_if (tx_lt (ex_vo 0 0) (ex_int) w00) (ex_neg (ex_int)) (ex_int))))
theorem ok_Ratio___eq__ (T : Txt K mg fs fds) : FnOk P w K mg base (L2.CX P w) 1 (fs 21) (fds 21) ["self", "other"] (spM K mg [.sh, .sh] 0 (m0 m_Ratio___eq__)) := by
  refine fn_metP (k := 0) (ps := [.sh, .sh]) (rk := 0) (ls := []) (s := s_Ratio___eq__) T.d_Ratio___eq__.F sc_Ratio___eq__ rfl ?_ rfl rfl rfl
  intro cdv A outer s0 H E vs B hr ok po
  exact sxs_one (sx_ret (ex_and (ex_isK T.c_Ratio T.o_Ratio.is (T.z_isinstance) (ex_vo 1 0)) (ex_and (ex_eq (rmOf hr) (ex_fld T.c_Ratio T.n_Ratio_n (ex_vo 0 0)) (ex_fld T.c_Ratio T.n_Ratio_n (ex_vo 1 0)) w00) (ex_one (ex_eq (rmOf hr) (ex_fld T.c_Ratio T.n_Ratio_d (ex_vo 0 0)) (ex_fld T.c_Ratio T.n_Ratio_d (ex_vo 1 0)) w00)))))
theorem ok_Ratio___str__ (T : Txt K mg fs fds) : FnOk P w K mg base (L2.CX P w) 1 (fs 23) (fds 23) ["self"] (spM K mg [.sh] 0 (m0 m_Ratio___str__)) := by
  refine fn_metP (k := 0) (ps := [.sh]) (rk := 0) (ls := []) (s := s_Ratio___str__) T.d_Ratio___str__.F sc_Ratio___str__ rfl ?_ rfl rfl rfl
  intro cdv A outer s0 H E vs B hr ok po
  exact sxs_cons (sx_if (tx_eq (rmOf hr) (ex_fld T.c_Ratio T.n_Ratio_d (ex_vo 0 0)) (ex_int) w00) (sxs_one (sx_ret (ex_strc (T.z_str) (ex_fld T.c_Ratio T.n_Ratio_n (ex_vo 0 0))))) (sxs_nil))
    (sxs_one (sx_ret (ex_fstr (.cons (ex_fmt (ex_fld T.c_Ratio T.n_Ratio_n (ex_vo 0 0))) (.cons (ex_str) (.cons (ex_fmt (ex_fld T.c_Ratio T.n_Ratio_d (ex_vo 0 0))) (.nil)))))))
theorem ok_Ratio_sign (T : Txt K mg fs fds) : FnOk P w K mg base (L2.CX P w) 1 (fs 26) (fds 26) ["self"] (spM K mg [.sh] 0 (m0 m_Ratio_sign)) := by
  refine fn_metP (k := 0) (ps := [.sh]) (rk := 0) (ls := []) (s := s_Ratio_sign) T.d_Ratio_sign.F sc_Ratio_sign rfl ?_ rfl rfl rfl
  intro cdv A outer s0 H E vs B hr ok po
  exact sxs_one (sx_ret (ex_if (tx_gt (ex_fld T.c_Ratio T.n_Ratio_n (ex_vo 0 0)) (ex_int) w00) (ex_int) (ex_if (tx_lt (ex_fld T.c_Ratio T.n_Ratio_n (ex_vo 0 0)) (ex_int) w00) (ex_neg (ex_int)) (ex_int))))
theorem ok_Ratio_is_zero (T : Txt K mg fs fds) : FnOk P w K mg base (L2.CX P w) 1 (fs 27) (fds 27) ["self"] (spM K mg [.sh] 0 (m0 m_Ratio_is_zero)) := by
  refine fn_metP (k := 0) (ps := [.sh]) (rk := 0) (ls := []) (s := s_Ratio_is_zero) T.d_Ratio_is_zero.F sc_Ratio_is_zero rfl ?_ rfl rfl rfl
  intro cdv A outer s0 H E vs B hr ok po
  exact sxs_one (sx_ret (ex_eq (rmOf hr) (ex_fld T.c_Ratio T.n_Ratio_n (ex_vo 0 0)) (ex_int) w00))
theorem ok_Ratio_is_whole (T : Txt K mg fs fds) : FnOk P w K mg base (L2.CX P w) 1 (fs 28) (fds 28) ["self"] (spM K mg [.sh] 0 (m0 m_Ratio_is_whole)) := by
  refine fn_metP (k := 0) (ps := [.sh]) (rk := 0) (ls := []) (s := s_Ratio_is_whole) T.d_Ratio_is_whole.F sc_Ratio_is_whole rfl ?_ rfl rfl rfl
  intro cdv A outer s0 H E vs B hr ok po
  exact sxs_one (sx_ret (ex_eq (rmOf hr) (ex_fld T.c_Ratio T.n_Ratio_d (ex_vo 0 0)) (ex_int) w00))
theorem ok_Ratio_floor (T : Txt K mg fs fds) : FnOk P w K mg base (L2.CX P w) 1 (fs 29) (fds 29) ["self"] (spM K mg [.sh] 0 (m0 m_Ratio_floor)) := by
  refine fn_metP (k := 0) (ps := [.sh]) (rk := 0) (ls := []) (s := s_Ratio_floor) T.d_Ratio_floor.F sc_Ratio_floor rfl ?_ rfl rfl rfl
  intro cdv A outer s0 H E vs B hr ok po
  exact sxs_one (sx_ret (ex_div (ex_fld T.c_Ratio T.n_Ratio_n (ex_vo 0 0)) (ex_fld T.c_Ratio T.n_Ratio_d (ex_vo 0 0)) w00))
theorem ok__law_fits (T : Txt K mg fs fds) : FnOk P w K mg base (L2.CX P w) 2 (fs 13) (fds 13) ["x", "n", "d"] (spM K mg [.sh, .sh, .sh] 0 (m0 m__law_fits)) := by
  refine fn_okP (k := 1) (ps := [.sh, .sh, .sh]) (rk := 0) (ls := []) (s := s__law_fits) T.d__law_fits.F sc__law_fits rfl ?_ rfl rfl rfl
  intro cdv A outer s0 H E vs B hr ok po
  exact sxs_cons (sx_if (tw_tx (tw_or (tx_not (tx_val (ex_isK T.c_Ratio T.o_Ratio.is (T.z_isinstance) (ex_vo 0 0)))) (tw_or (tx_not (tx_val (ex_call ok (ok__law_is_whole T) (hr.mono (by decide)) (T.d__law_is_whole.g) (T.d__law_is_whole.F.kp) (T.d__law_is_whole.b) (ax_cons (ex_fld T.c_Ratio T.n_Ratio_n (ex_vo 0 0)) (ax_nil) w00)))) (tw_or (tx_not (tx_val (ex_call ok (ok__law_is_whole T) (hr.mono (by decide)) (T.d__law_is_whole.g) (T.d__law_is_whole.F.kp) (T.d__law_is_whole.b) (ax_cons (ex_fld T.c_Ratio T.n_Ratio_d (ex_vo 0 0)) (ax_nil) w00)))) (tw_or (tx_lt (ex_fld T.c_Ratio T.n_Ratio_d (ex_vo 0 0)) (ex_int) w00) (tw_or1 (tx_ne (rmOf hr) (ex_call ok (ok__law_common T) (hr.mono (by decide)) (T.d__law_common.g) (T.d__law_common.F.kp) (T.d__law_common.b) (ax_cons (ex_fld T.c_Ratio T.n_Ratio_n (ex_vo 0 0)) (ax_cons (ex_fld T.c_Ratio T.n_Ratio_d (ex_vo 0 0)) (ax_nil) w00) w00)) (ex_int) w00))))))) (sxs_one (sx_ret (ex_bl))) (sxs_nil))
    (sxs_one (sx_ret (ex_eq (rmOf hr) (ex_mul (ex_fld T.c_Ratio T.n_Ratio_n (ex_vo 0 0)) (ex_vo 2 0) w00) (ex_mul (ex_vo 1 0) (ex_fld T.c_Ratio T.n_Ratio_d (ex_vo 0 0)) w00) w00)))
theorem ok_Ratio_less (T : Txt K mg fs fds) : FnOk P w K mg base (L2.CX P w) 2 (fs 22) (fds 22) ["self", "other"] (spM K mg [.sh, .sh] 0 (m0 m_Ratio_less)) := by
  refine fn_metP (k := 1) (ps := [.sh, .sh]) (rk := 0) (ls := []) (s := s_Ratio_less) T.d_Ratio_less.F sc_Ratio_less rfl ?_ rfl rfl rfl
  intro cdv A outer s0 H E vs B hr ok po
  exact sxs_cons (sx_drop (ex_call ok (ok_check_ratio T) (hr.mono (by decide)) (T.d_check_ratio.g) (T.d_check_ratio.F.kp) (T.d_check_ratio.b) (ax_cons (ex_vo 1 0) (ax_nil) w00)))
    (sxs_one (sx_ret (ex_lt (ex_mul (ex_fld T.c_Ratio T.n_Ratio_n (ex_vo 0 0)) (ex_fld T.c_Ratio T.n_Ratio_d (ex_vo 1 0)) w00) (ex_mul (ex_fld T.c_Ratio T.n_Ratio_n (ex_vo 1 0)) (ex_fld T.c_Ratio T.n_Ratio_d (ex_vo 0 0)) w00) w00)))
theorem ok_Ratio___init__ (T : Txt K mg fs fds) : FnOk P w K mg base (L2.CX P w) 3 (fs 16) (fds 16) ["self", "n", "d"] (spM K mg [.io 1, .sh, .sh] 0 (m_Ratio___init__)) := by
  obtain ⟨C, M⟩ := T.mal
  refine fn_metI (k := 2) (ps := [.io 1, .sh, .sh]) (rk := 0) (ls := [.own 0]) (s := s_Ratio___init__) T.d_Ratio___init__.F sc_Ratio___init__ rfl ?_ rfl rfl
  intro cdv A outer s0 H E vs B hr ok po
  exact sxs_cons (sx_if (tw_tx (tw_or (tx_not (tx_val (ex_call ok (ok_is_integer T) (hr.mono (by decide)) (T.d_is_integer.g) (T.d_is_integer.F.kp) (T.d_is_integer.b) (ax_cons (ex_vo 1 0) (ax_nil) w00)))) (tw_or1 (tx_not (tx_val (ex_call ok (ok_is_integer T) (hr.mono (by decide)) (T.d_is_integer.g) (T.d_is_integer.F.kp) (T.d_is_integer.b) (ax_cons (ex_vo 2 0) (ax_nil) w00))))))) (sxs_one (sx_raise ok M)) (sxs_nil))
    (sxs_cons (sx_if (tx_eq (rmOf hr) (ex_vo 2 0) (ex_int) w00) (sxs_one (sx_raiseR ok T.rf (ok_Refused___init__ T) (hr.mono (by decide)) T.d_Refused___init__.b (ex_str))) (sxs_nil))
    (sxs_cons (sx_asg 3 (ex_call ok (ok_common T) (hr.mono (by decide)) (T.d_common.g) (T.d_common.F.kp) (T.d_common.b) (ax_cons (ex_vo 1 0) (ax_cons (ex_vo 2 0) (ax_nil) w00) w00)) sc_Ratio___init__.nd)
    (sxs_cons (sx_fld 0 T.c_Ratio T.n_Ratio_n (ex_if (tx_gt (ex_vo 2 0) (ex_int) w00) (ex_div (ex_vo 1 0) (ex_vo 3 0) w00) (ex_div (ex_neg (ex_vo 1 0)) (ex_vo 3 0) w00)))
    (sxs_one (sx_fld 0 T.c_Ratio T.n_Ratio_d (ex_div (ex_abs (T.z_abs) (ex_vo 2 0)) (ex_vo 3 0) w00))))))
theorem ok__law_made (T : Txt K mg fs fds) : FnOk P w K mg base (L2.CX P w) 5 (fs 11) (fds 11) ["n", "d"] (spM K mg [.sh, .sh] 0 (m0 m__law_made)) := by
  refine fn_okP (k := 4) (ps := [.sh, .sh]) (rk := 0) (ls := []) (s := s__law_made) T.d__law_made.F sc__law_made rfl ?_ rfl rfl rfl
  intro cdv A outer s0 H E vs B hr ok po
  exact sxs_one (sx_ret (ex_sh (ex_make (ps := [.sh, .sh]) (qs := []) (mI := m_Ratio___init__) (dflt := []) rfl ok T.c_Ratio T.k_Ratio (ok_Ratio___init__ T) (hr.mono (by decide)) T.d_Ratio___init__.b .nil (fun _ => .nil) (ax_cons (ex_vo 0 0) (ax_cons (ex_vo 1 0) (ax_nil) w00) w00))))
theorem ok_Ratio___add__ (T : Txt K mg fs fds) : FnOk P w K mg base (L2.CX P w) 5 (fs 17) (fds 17) ["self", "other"] (spM K mg [.sh, .sh] 0 (m0 m_Ratio___add__)) := by
  refine fn_metP (k := 4) (ps := [.sh, .sh]) (rk := 0) (ls := []) (s := s_Ratio___add__) T.d_Ratio___add__.F sc_Ratio___add__ rfl ?_ rfl rfl rfl
  intro cdv A outer s0 H E vs B hr ok po
  exact sxs_cons (sx_drop (ex_call ok (ok_check_ratio T) (hr.mono (by decide)) (T.d_check_ratio.g) (T.d_check_ratio.F.kp) (T.d_check_ratio.b) (ax_cons (ex_vo 1 0) (ax_nil) w00)))
    (sxs_one (sx_ret (ex_sh (ex_make (ps := [.sh, .sh]) (qs := []) (mI := m_Ratio___init__) (dflt := []) rfl ok T.c_Ratio T.k_Ratio (ok_Ratio___init__ T) (hr.mono (by decide)) T.d_Ratio___init__.b .nil (fun _ => .nil) (ax_cons (ex_add (ex_mul (ex_fld T.c_Ratio T.n_Ratio_n (ex_vo 0 0)) (ex_fld T.c_Ratio T.n_Ratio_d (ex_vo 1 0)) w00) (ex_mul (ex_fld T.c_Ratio T.n_Ratio_n (ex_vo 1 0)) (ex_fld T.c_Ratio T.n_Ratio_d (ex_vo 0 0)) w00)) (ax_cons (ex_mul (ex_fld T.c_Ratio T.n_Ratio_d (ex_vo 0 0)) (ex_fld T.c_Ratio T.n_Ratio_d (ex_vo 1 0)) w00) (ax_nil) w00) w00)))))
theorem ok_Ratio___sub__ (T : Txt K mg fs fds) : FnOk P w K mg base (L2.CX P w) 5 (fs 18) (fds 18) ["self", "other"] (spM K mg [.sh, .sh] 0 (m0 m_Ratio___sub__)) := by
  refine fn_metP (k := 4) (ps := [.sh, .sh]) (rk := 0) (ls := []) (s := s_Ratio___sub__) T.d_Ratio___sub__.F sc_Ratio___sub__ rfl ?_ rfl rfl rfl
  intro cdv A outer s0 H E vs B hr ok po
  exact sxs_cons (sx_drop (ex_call ok (ok_check_ratio T) (hr.mono (by decide)) (T.d_check_ratio.g) (T.d_check_ratio.F.kp) (T.d_check_ratio.b) (ax_cons (ex_vo 1 0) (ax_nil) w00)))
    (sxs_one (sx_ret (ex_sh (ex_make (ps := [.sh, .sh]) (qs := []) (mI := m_Ratio___init__) (dflt := []) rfl ok T.c_Ratio T.k_Ratio (ok_Ratio___init__ T) (hr.mono (by decide)) T.d_Ratio___init__.b .nil (fun _ => .nil) (ax_cons (ex_sub (ex_mul (ex_fld T.c_Ratio T.n_Ratio_n (ex_vo 0 0)) (ex_fld T.c_Ratio T.n_Ratio_d (ex_vo 1 0)) w00) (ex_mul (ex_fld T.c_Ratio T.n_Ratio_n (ex_vo 1 0)) (ex_fld T.c_Ratio T.n_Ratio_d (ex_vo 0 0)) w00) w00) (ax_cons (ex_mul (ex_fld T.c_Ratio T.n_Ratio_d (ex_vo 0 0)) (ex_fld T.c_Ratio T.n_Ratio_d (ex_vo 1 0)) w00) (ax_nil) w00) w00)))))
theorem ok_Ratio___mul__ (T : Txt K mg fs fds) : FnOk P w K mg base (L2.CX P w) 5 (fs 19) (fds 19) ["self", "other"] (spM K mg [.sh, .sh] 0 (m0 m_Ratio___mul__)) := by
  refine fn_metP (k := 4) (ps := [.sh, .sh]) (rk := 0) (ls := []) (s := s_Ratio___mul__) T.d_Ratio___mul__.F sc_Ratio___mul__ rfl ?_ rfl rfl rfl
  intro cdv A outer s0 H E vs B hr ok po
  exact sxs_cons (sx_drop (ex_call ok (ok_check_ratio T) (hr.mono (by decide)) (T.d_check_ratio.g) (T.d_check_ratio.F.kp) (T.d_check_ratio.b) (ax_cons (ex_vo 1 0) (ax_nil) w00)))
    (sxs_one (sx_ret (ex_sh (ex_make (ps := [.sh, .sh]) (qs := []) (mI := m_Ratio___init__) (dflt := []) rfl ok T.c_Ratio T.k_Ratio (ok_Ratio___init__ T) (hr.mono (by decide)) T.d_Ratio___init__.b .nil (fun _ => .nil) (ax_cons (ex_mul (ex_fld T.c_Ratio T.n_Ratio_n (ex_vo 0 0)) (ex_fld T.c_Ratio T.n_Ratio_n (ex_vo 1 0)) w00) (ax_cons (ex_mul (ex_fld T.c_Ratio T.n_Ratio_d (ex_vo 0 0)) (ex_fld T.c_Ratio T.n_Ratio_d (ex_vo 1 0)) w00) (ax_nil) w00) w00)))))
theorem ok_Ratio___neg__ (T : Txt K mg fs fds) : FnOk P w K mg base (L2.CX P w) 5 (fs 20) (fds 20) ["self"] (spM K mg [.sh] 0 (m0 m_Ratio___neg__)) := by
  refine fn_metP (k := 4) (ps := [.sh]) (rk := 0) (ls := []) (s := s_Ratio___neg__) T.d_Ratio___neg__.F sc_Ratio___neg__ rfl ?_ rfl rfl rfl
  intro cdv A outer s0 H E vs B hr ok po
  exact sxs_one (sx_ret (ex_sh (ex_make (ps := [.sh, .sh]) (qs := []) (mI := m_Ratio___init__) (dflt := []) rfl ok T.c_Ratio T.k_Ratio (ok_Ratio___init__ T) (hr.mono (by decide)) T.d_Ratio___init__.b .nil (fun _ => .nil) (ax_cons (ex_neg (ex_fld T.c_Ratio T.n_Ratio_n (ex_vo 0 0))) (ax_cons (ex_fld T.c_Ratio T.n_Ratio_d (ex_vo 0 0)) (ax_nil) w00) w00))))
theorem ok_Ratio_over (T : Txt K mg fs fds) : FnOk P w K mg base (L2.CX P w) 5 (fs 24) (fds 24) ["self", "other"] (spM K mg [.sh, .sh] 0 (m0 m_Ratio_over)) := by
  refine fn_metP (k := 4) (ps := [.sh, .sh]) (rk := 0) (ls := []) (s := s_Ratio_over) T.d_Ratio_over.F sc_Ratio_over rfl ?_ rfl rfl rfl
  intro cdv A outer s0 H E vs B hr ok po
  exact sxs_cons (sx_drop (ex_call ok (ok_check_ratio T) (hr.mono (by decide)) (T.d_check_ratio.g) (T.d_check_ratio.F.kp) (T.d_check_ratio.b) (ax_cons (ex_vo 1 0) (ax_nil) w00)))
    (sxs_one (sx_ret (ex_sh (ex_make (ps := [.sh, .sh]) (qs := []) (mI := m_Ratio___init__) (dflt := []) rfl ok T.c_Ratio T.k_Ratio (ok_Ratio___init__ T) (hr.mono (by decide)) T.d_Ratio___init__.b .nil (fun _ => .nil) (ax_cons (ex_mul (ex_fld T.c_Ratio T.n_Ratio_n (ex_vo 0 0)) (ex_fld T.c_Ratio T.n_Ratio_d (ex_vo 1 0)) w00) (ax_cons (ex_mul (ex_fld T.c_Ratio T.n_Ratio_d (ex_vo 0 0)) (ex_fld T.c_Ratio T.n_Ratio_n (ex_vo 1 0)) w00) (ax_nil) w00) w00)))))
theorem ok_Ratio_times (T : Txt K mg fs fds) : FnOk P w K mg base (L2.CX P w) 5 (fs 25) (fds 25) ["self", "k"] (spM K mg [.sh, .sh] 0 (m0 m_Ratio_times)) := by
  refine fn_metP (k := 4) (ps := [.sh, .sh]) (rk := 0) (ls := []) (s := s_Ratio_times) T.d_Ratio_times.F sc_Ratio_times rfl ?_ rfl rfl rfl
  intro cdv A outer s0 H E vs B hr ok po
  exact sxs_one (sx_ret (ex_sh (ex_make (ps := [.sh, .sh]) (qs := []) (mI := m_Ratio___init__) (dflt := []) rfl ok T.c_Ratio T.k_Ratio (ok_Ratio___init__ T) (hr.mono (by decide)) T.d_Ratio___init__.b .nil (fun _ => .nil) (ax_cons (ex_mul (ex_fld T.c_Ratio T.n_Ratio_n (ex_vo 0 0)) (ex_vo 1 0) w00) (ax_cons (ex_fld T.c_Ratio T.n_Ratio_d (ex_vo 0 0)) (ax_nil) w00) w00))))
theorem ok_Ratio_size (T : Txt K mg fs fds) : FnOk P w K mg base (L2.CX P w) 5 (fs 30) (fds 30) ["self"] (spM K mg [.sh] 0 (m0 m_Ratio_size)) := by
  refine fn_metP (k := 4) (ps := [.sh]) (rk := 0) (ls := []) (s := s_Ratio_size) T.d_Ratio_size.F sc_Ratio_size rfl ?_ rfl rfl rfl
  intro cdv A outer s0 H E vs B hr ok po
  exact sxs_one (sx_ret (ex_sh (ex_make (ps := [.sh, .sh]) (qs := []) (mI := m_Ratio___init__) (dflt := []) rfl ok T.c_Ratio T.k_Ratio (ok_Ratio___init__ T) (hr.mono (by decide)) T.d_Ratio___init__.b .nil (fun _ => .nil) (ax_cons (ex_abs (T.z_abs) (ex_fld T.c_Ratio T.n_Ratio_n (ex_vo 0 0))) (ax_cons (ex_fld T.c_Ratio T.n_Ratio_d (ex_vo 0 0)) (ax_nil) w00) w00))))
theorem ok__law_did (T : Txt K mg fs fds) : FnOk P w K mg base (L2.CX P w) 6 (fs 12) (fds 12) ["word", "a", "b"] (spM K mg [.sh, .sh, .sh] 0 (m0 m__law_did)) := by
  refine fn_okP (k := 5) (ps := [.sh, .sh, .sh]) (rk := 0) (ls := []) (s := s__law_did) T.d__law_did.F sc__law_did rfl ?_ rfl rfl rfl
  intro cdv A outer s0 H E vs B hr ok po
  exact sxs_cons (sx_if (tx_eq (rmOf hr) (ex_vo 0 0) (ex_str) w00) (sxs_one (sx_ret (ex_opX (g := gAdd) rfl ok T.c_Ratio T.o_Ratio.first T.d_Ratio___add__.op (T.o_Ratio.left "add" (by decide)) (ok_Ratio___add__ T) (hr.mono (by decide)) T.d_Ratio___add__.b addI_op addI_S (ex_vo 1 0) (ex_vo 2 0)))) (sxs_nil))
    (sxs_cons (sx_if (tx_eq (rmOf hr) (ex_vo 0 0) (ex_str) w00) (sxs_one (sx_ret (ex_opX (g := gSub) rfl ok T.c_Ratio T.o_Ratio.first T.d_Ratio___sub__.op (T.o_Ratio.left "sub" (by decide)) (ok_Ratio___sub__ T) (hr.mono (by decide)) T.d_Ratio___sub__.b subI_op subI_S (ex_vo 1 0) (ex_vo 2 0)))) (sxs_nil))
    (sxs_cons (sx_if (tx_eq (rmOf hr) (ex_vo 0 0) (ex_str) w00) (sxs_one (sx_ret (ex_opX (g := gMul) rfl ok T.c_Ratio T.o_Ratio.first T.d_Ratio___mul__.op (T.o_Ratio.left "mul" (by decide)) (ok_Ratio___mul__ T) (hr.mono (by decide)) T.d_Ratio___mul__.b mulI_op mulI_S (ex_vo 1 0) (ex_vo 2 0)))) (sxs_nil))
    (sxs_one (sx_ret (ex_if (tx_eq (rmOf hr) (ex_vo 0 0) (ex_str) w00) (ex_meth (ps := [.sh]) rfl ok T.c_Ratio T.d_Ratio_less.me (ok_Ratio_less T) (hr.mono (by decide)) T.d_Ratio_less.b (ex_vo 1 0) (ax_cons (ex_vo 2 0) (ax_nil) w00)) (ex_meth (ps := [.sh]) rfl ok T.c_Ratio T.d_Ratio_over.me (ok_Ratio_over T) (hr.mono (by decide)) T.d_Ratio_over.b (ex_vo 1 0) (ax_cons (ex_vo 2 0) (ax_nil) w00)))))))
theorem hHeld0 (T : Txt K mg fs fds) : ∀ y n m, held y = some (n, m) → HeldM P w K mg base 6 y n m := by
  intro y n m h
  unfold held at h
  split at h
  · rename_i e
    subst e
    cases h
    exact ⟨_, _, _, _, _, (ok__law_did T).mono (by decide), T.d__law_did.g, T.d__law_did.F.kp, T.d__law_did.b, rfl, rfl⟩
  split at h
  · rename_i e
    subst e
    cases h
    exact ⟨_, _, _, _, _, (ok__law_made T).mono (by decide), T.d__law_made.g, T.d__law_made.F.kp, T.d__law_made.b, rfl, rfl⟩
  cases h
theorem ok__law_result (T : Txt K mg fs fds) : FnOk P w K mg base (L2.CX P w) 7 (fs 9) (fds 9) ["act", "given"] (spM K mg [.sh, .sh] 0 (m0 m__law_result)) := by
  obtain ⟨CM, CR, xc⟩ := T.xc
  have hHeld := hHeld0 (P := P) (w := w) (base := base) T
  refine fn_okP (k := 6) (ps := [.sh, .sh]) (rk := 0) (ls := [.own 0]) (s := s__law_result) T.d__law_result.F sc__law_result rfl ?_ rfl rfl rfl
  intro cdv A outer s0 H E vs B hr ok po
  exact sxs_one (sx_tryR ok rfl rfl sc__law_result.nd xc 2 (fun W' pn xe ok po => sxs_cons (sx_if (tx_eq (rmOf hr) (ex_len (T.z_len) (ex_vo 1 0)) (ex_int) w00) (sxs_one (sx_ret (ex_tup (ax_cons (ex_str) (ax_cons (ex_callL 0 ok hHeld (hr.mono (by decide)) (ax_cons (ex_ix0 (rmOf hr) (ex_vo 1 0) (ex_int)) (ax_nil) w00)) (ax_nil) w00) w00)))) (sxs_nil))
    (sxs_cons (sx_if (tx_eq (rmOf hr) (ex_len (T.z_len) (ex_vo 1 0)) (ex_int) w00) (sxs_one (sx_ret (ex_tup (ax_cons (ex_str) (ax_cons (ex_callL 0 ok hHeld (hr.mono (by decide)) (ax_cons (ex_ix0 (rmOf hr) (ex_vo 1 0) (ex_int)) (ax_cons (ex_ix0 (rmOf hr) (ex_vo 1 0) (ex_int)) (ax_nil) w00) w00)) (ax_nil) w00) w00)))) (sxs_nil))
    (sxs_cons (sx_if (tx_eq (rmOf hr) (ex_len (T.z_len) (ex_vo 1 0)) (ex_int) w00) (sxs_one (sx_ret (ex_tup (ax_cons (ex_str) (ax_cons (ex_callL 0 ok hHeld (hr.mono (by decide)) (ax_cons (ex_ix0 (rmOf hr) (ex_vo 1 0) (ex_int)) (ax_cons (ex_ix0 (rmOf hr) (ex_vo 1 0) (ex_int)) (ax_cons (ex_ix0 (rmOf hr) (ex_vo 1 0) (ex_int)) (ax_nil) w00) w00) w00)) (ax_nil) w00) w00)))) (sxs_nil))
    (sxs_cons (sx_if (tx_eq (rmOf hr) (ex_len (T.z_len) (ex_vo 1 0)) (ex_int) w00) (sxs_one (sx_ret (ex_tup (ax_cons (ex_str) (ax_cons (ex_callL 0 ok hHeld (hr.mono (by decide)) (ax_cons (ex_ix0 (rmOf hr) (ex_vo 1 0) (ex_int)) (ax_cons (ex_ix0 (rmOf hr) (ex_vo 1 0) (ex_int)) (ax_cons (ex_ix0 (rmOf hr) (ex_vo 1 0) (ex_int)) (ax_cons (ex_ix0 (rmOf hr) (ex_vo 1 0) (ex_int)) (ax_nil) w00) w00) w00) w00)) (ax_nil) w00) w00)))) (sxs_nil))
    (sxs_one (sx_ret (ex_tup (ax_cons (ex_str) (ax_cons (ex_callL 0 ok hHeld (hr.mono (by decide)) (ax_cons (ex_ix0 (rmOf hr) (ex_vo 1 0) (ex_int)) (ax_cons (ex_ix0 (rmOf hr) (ex_vo 1 0) (ex_int)) (ax_cons (ex_ix0 (rmOf hr) (ex_vo 1 0) (ex_int)) (ax_cons (ex_ix0 (rmOf hr) (ex_vo 1 0) (ex_int)) (ax_cons (ex_ix0 (rmOf hr) (ex_vo 1 0) (ex_int)) (ax_nil) w00) w00) w00) w00) w00)) (ax_nil) w00) w00)))))))) (.inl T.nn))
theorem ok__law_same_at (T : Txt K mg fs fds) : ∀ n : Nat, FnOk P w K mg base (L2.CX P w) (1 + n) (fs 7) (fds 7) ["one", "two"] (spM K mg [.sh, .sh] 0 (m0 (m__law_same_at n)))
  | 0 => fn_fail
  | n + 1 => by
    have ihF := ok__law_same_at T n
    refine fn_okP (k := 1 + n) (ps := [.sh, .sh]) (rk := 0) (ls := [.own 0]) (s := s__law_same (m__law_same_at n)) T.d__law_same.F sc__law_same rfl ?_ rfl rfl rfl
    intro cdv A outer s0 H E vs B hr ok po
    exact sxs_cons (sx_if (tx_val (ex_isT .tup (T.z_isinstance) (T.z_tuple) (ex_vo 1 0))) (sxs_one (sx_ret (ex_and (ex_isT .tup (T.z_isinstance) (T.z_tuple) (ex_vo 0 0)) (ex_and (ex_eq (rmOf hr) (ex_len (T.z_len) (ex_vo 0 0)) (ex_len (T.z_len) (ex_vo 1 0)) w00) (ex_one (ex_all ok (T.z_all) (ex_rd (LX.ex (lx_lc (k := 0) (own := [("k", 2)]) ok sc__law_same.nd (ix_rg1 (T.z_range) (ax_cons (ex_len (T.z_len) (ex_vo 1 0)) (ax_nil) w00)) (blkB_ok rfl) rfl (by decide) rfl (fun s H C cl fp => gx_name 2 sc__law_same.nd) (fun s H C cl fp => txs_nil) (fun s H C cl fp => ex_call (cok_blk ok) (ihF) hr (T.d__law_same.g) (T.d__law_same.F.kp) (T.d__law_same.b) (ax_cons (ex_ix0 (rmOf hr) (ex_vo 0 0) (ex_vo 2 0)) (ax_cons (ex_ix0 (rmOf hr) (ex_vo 1 0) (ex_vo 2 0)) (ax_nil) w00) w00))))))))))) (sxs_nil))
        (sxs_cons (sx_if (tx_val (ex_isT .str (T.z_isinstance) (T.z_str) (ex_vo 1 0))) (sxs_one (sx_ret (ex_and (ex_isT .str (T.z_isinstance) (T.z_str) (ex_vo 0 0)) (ex_one (ex_eq (rmOf hr) (ex_vo 0 0) (ex_vo 1 0) w00))))) (sxs_nil))
        (sxs_cons (sx_if (tx_is (ex_vo 1 0)) (sxs_one (sx_ret (ex_is (ex_vo 0 0)))) (sxs_nil))
        (sxs_one (sx_ret (ex_and (ex_call ok (ok__law_is_whole T) (hr.mono (by omega)) (T.d__law_is_whole.g) (T.d__law_is_whole.F.kp) (T.d__law_is_whole.b) (ax_cons (ex_vo 0 0) (ax_nil) w00)) (ex_one (ex_eq (rmOf hr) (ex_vo 0 0) (ex_vo 1 0) w00)))))))
theorem ok__law_same (T : Txt K mg fs fds) : FnOk P w K mg base (L2.CX P w) 41 (fs 7) (fds 7) ["one", "two"] (spM K mg [.sh, .sh] 0 (m0 m__law_same)) := ok__law_same_at T 40
theorem ok_law (T : Txt K mg fs fds) : FnOk P w K mg base (L2.CX P w) 43 (fs 14) (fds 14) ["script"] (spM K mg [.sh] 0 (m0 m_law)) := by
  refine fn_okP (k := 42) (ps := [.sh]) (rk := 0) (ls := [.own 1, .own 0, .own 0, .own 0, .own 0, .own 0, .own 0, .own 0, .own 0, .own 0, .own 0, .own 0, .own 0, .own 0, .own 0, .own 0, .own 0, .own 0, .own 0, .own 0]) (s := s_law) T.d_law.F sc_law rfl ?_ rfl rfl rfl
  intro cdv A outer s0 H E vs B hr ok po
  exact sxs_cons (sx_asg 1 (ex_call ok (ok__law_state T) (hr.mono (by decide)) (T.d__law_state.g) (T.d__law_state.F.kp) (T.d__law_state.b) (ax_cons (ex_vo 0 0) (ax_nil) w00)) sc_law.nd)
    (sxs_cons (sx_asg 2 (ex_int) sc_law.nd)
    (sxs_cons (sx_for ok po (ix_rg1 (T.z_range) (ax_cons (ex_ix0 (rmOf hr) (ex_sh (ex_lst (ax_cons (ex_int) (ax_cons (ex_int) (ax_cons (ex_int) (ax_cons (ex_int) (ax_nil) w00) w00) w00) w00))) (ex_callIO 1 (n := 1) ok (ok__law_take T) (hr.mono (by decide)) (T.d__law_take.g) (T.d__law_take.F.kp) (T.d__law_take.b) (ax_io 1 (ax_cons (ex_int) (ax_nil) w00)))) (ax_nil) w00)) (gx_name 3 sc_law.nd) (sxs_one (sx_asg 2 (ex_mul (ex_vo 2 0) (ex_int) w00) sc_law.nd)))
    (sxs_cons (sx_par2 ok 4 5 (ap_cons (k := 0) (ex_add (ex_mul (ex_sub (ex_callIO 1 (n := 1) ok (ok__law_take T) (hr.mono (by decide)) (T.d__law_take.g) (T.d__law_take.F.kp) (T.d__law_take.b) (ax_io 1 (ax_cons (ex_int) (ax_nil) w00))) (ex_int) w00) (ex_vo 2 0) w00) (ex_callIO 1 (n := 1) ok (ok__law_take T) (hr.mono (by decide)) (T.d__law_take.g) (T.d__law_take.F.kp) (T.d__law_take.b) (ax_io 1 (ax_cons (ex_int) (ax_nil) w00)))) (ap_cons (k := 0) (ex_mul (ex_add (ex_int) (ex_callIO 1 (n := 1) ok (ok__law_take T) (hr.mono (by decide)) (T.d__law_take.g) (T.d__law_take.F.kp) (T.d__law_take.b) (ax_io 1 (ax_cons (ex_int) (ax_nil) w00)))) (ex_if (tx_eq (rmOf hr) (ex_callIO 1 (n := 1) ok (ok__law_take T) (hr.mono (by decide)) (T.d__law_take.g) (T.d__law_take.F.kp) (T.d__law_take.b) (ax_io 1 (ax_cons (ex_int) (ax_nil) w00))) (ex_int) w00) (ex_int) (ex_neg (ex_int))) w00) (ap_nil))) sc_law.nd (by decide))
    (sxs_cons (sx_par3 ok 6 7 8 (ap_cons (k := 0) (ex_sub (ex_callIO 1 (n := 1) ok (ok__law_take T) (hr.mono (by decide)) (T.d__law_take.g) (T.d__law_take.F.kp) (T.d__law_take.b) (ax_io 1 (ax_cons (ex_int) (ax_nil) w00))) (ex_int) w00) (ap_cons (k := 0) (ex_add (ex_int) (ex_callIO 1 (n := 1) ok (ok__law_take T) (hr.mono (by decide)) (T.d__law_take.g) (T.d__law_take.F.kp) (T.d__law_take.b) (ax_io 1 (ax_cons (ex_int) (ax_nil) w00)))) (ap_cons (k := 0) (ex_sub (ex_callIO 1 (n := 1) ok (ok__law_take T) (hr.mono (by decide)) (T.d__law_take.g) (T.d__law_take.F.kp) (T.d__law_take.b) (ax_io 1 (ax_cons (ex_int) (ax_nil) w00))) (ex_int) w00) (ap_nil)))) sc_law.nd (by decide))
    (sxs_cons (sx_parN (n := 2) ok (ap_cons (k := 0) (ex_sh (ex_make (ps := [.sh, .sh]) (qs := []) (mI := m_Ratio___init__) (dflt := []) rfl ok T.c_Ratio T.k_Ratio (ok_Ratio___init__ T) (hr.mono (by decide)) T.d_Ratio___init__.b .nil (fun _ => .nil) (ax_cons (ex_vo 4 0) (ax_cons (ex_vo 5 0) (ax_nil) w00) w00))) (ap_cons (k := 0) (ex_sh (ex_make (ps := [.sh, .sh]) (qs := []) (mI := m_Ratio___init__) (dflt := []) rfl ok T.c_Ratio T.k_Ratio (ok_Ratio___init__ T) (hr.mono (by decide)) T.d_Ratio___init__.b .nil (fun _ => .nil) (ax_cons (ex_vo 6 0) (ax_cons (ex_vo 7 0) (ax_nil) w00) w00))) (ap_nil))) (gn_cons 9 (k := 0) (gn_cons 10 (k := 0) (gn_nil) sc_law.nd) sc_law.nd))
    (sxs_cons (sx_asg 11 (ex_if (tx_gt (ex_vo 5 0) (ex_int) w00) (ex_int) (ex_neg (ex_int))) sc_law.nd)
    (sxs_cons (sx_asg 12 (ex_sh (ex_lst (ax_cons (ex_tup (ax_cons (ex_vo 9 0) (ax_cons (ex_vo 4 0) (ax_cons (ex_vo 5 0) (ax_nil) w00) w00) w00)) (ax_cons (ex_tup (ax_cons (ex_sh (ex_make (ps := [.sh]) (qs := [.sh]) (mI := m_Ratio___init__) (dflt := [.int 1]) rfl ok T.c_Ratio T.k_Ratio (ok_Ratio___init__ T) (hr.mono (by decide)) T.b1_Ratio___init__.choose_spec.2 T.b1_Ratio___init__.choose_spec.1 (fun _ => .cons (.int _) .nil) (ax_cons (ex_vo 4 0) (ax_nil) w00))) (ax_cons (ex_vo 4 0) (ax_cons (ex_int) (ax_nil) w00) w00) w00)) (ax_cons (ex_tup (ax_cons (ex_opX (g := gAdd) rfl ok T.c_Ratio T.o_Ratio.first T.d_Ratio___add__.op (T.o_Ratio.left "add" (by decide)) (ok_Ratio___add__ T) (hr.mono (by decide)) T.d_Ratio___add__.b addI_op addI_S (ex_vo 9 0) (ex_vo 10 0)) (ax_cons (ex_add (ex_mul (ex_vo 4 0) (ex_vo 7 0) w00) (ex_mul (ex_vo 6 0) (ex_vo 5 0) w00)) (ax_cons (ex_mul (ex_vo 5 0) (ex_vo 7 0) w00) (ax_nil) w00) w00) w00)) (ax_cons (ex_tup (ax_cons (ex_opX (g := gSub) rfl ok T.c_Ratio T.o_Ratio.first T.d_Ratio___sub__.op (T.o_Ratio.left "sub" (by decide)) (ok_Ratio___sub__ T) (hr.mono (by decide)) T.d_Ratio___sub__.b subI_op subI_S (ex_vo 9 0) (ex_vo 10 0)) (ax_cons (ex_sub (ex_mul (ex_vo 4 0) (ex_vo 7 0) w00) (ex_mul (ex_vo 6 0) (ex_vo 5 0) w00) w00) (ax_cons (ex_mul (ex_vo 5 0) (ex_vo 7 0) w00) (ax_nil) w00) w00) w00)) (ax_cons (ex_tup (ax_cons (ex_opX (g := gMul) rfl ok T.c_Ratio T.o_Ratio.first T.d_Ratio___mul__.op (T.o_Ratio.left "mul" (by decide)) (ok_Ratio___mul__ T) (hr.mono (by decide)) T.d_Ratio___mul__.b mulI_op mulI_S (ex_vo 9 0) (ex_vo 10 0)) (ax_cons (ex_mul (ex_vo 4 0) (ex_vo 6 0) w00) (ax_cons (ex_mul (ex_vo 5 0) (ex_vo 7 0) w00) (ax_nil) w00) w00) w00)) (ax_cons (ex_tup (ax_cons (ex_negX rfl ok T.c_Ratio T.d_Ratio___neg__.op (ok_Ratio___neg__ T) (hr.mono (by decide)) T.d_Ratio___neg__.b (ex_vo 9 0)) (ax_cons (ex_neg (ex_vo 4 0)) (ax_cons (ex_vo 5 0) (ax_nil) w00) w00) w00)) (ax_nil) w00) w00) w00) w00) w00) w00))) sc_law.nd)
    (sxs_cons (sx_asg 12 (ex_sh (ex_cat (ex_up (ex_vo 12 0)) (ex_rd (ex_lst (ax_cons (ex_tup (ax_cons (ex_meth (ps := [.sh]) rfl ok T.c_Ratio T.d_Ratio_times.me (ok_Ratio_times T) (hr.mono (by decide)) T.d_Ratio_times.b (ex_vo 9 0) (ax_cons (ex_vo 8 0) (ax_nil) w00)) (ax_cons (ex_mul (ex_vo 4 0) (ex_vo 8 0) w00) (ax_cons (ex_vo 5 0) (ax_nil) w00) w00) w00)) (ax_cons (ex_tup (ax_cons (ex_meth00 rfl ok T.c_Ratio T.d_Ratio_size.me (ok_Ratio_size T) (hr.mono (by decide)) T.d_Ratio_size.b (ex_vo 9 0)) (ax_cons (ex_abs (T.z_abs) (ex_vo 4 0)) (ax_cons (ex_abs (T.z_abs) (ex_vo 5 0)) (ax_nil) w00) w00) w00)) (ax_nil) w00) w00))) wrd)) sc_law.nd)
    (sxs_cons (sx_if (tx_not (tx_val (ex_all ok (T.z_all) (ex_rd (LX.ex (lx_lc (k := 0) (own := [("z", 16), ("n", 17), ("m", 18)]) ok sc_law.nd (ix_seqS (ex_vo 12 0)) (blkB_ok rfl) rfl (by decide) rfl (fun s H C cl fp => gx_tup rfl (gxs_cons (gx_name 16 sc_law.nd) (gxs_cons (gx_name 17 sc_law.nd) (gxs_cons (gx_name 18 sc_law.nd) (gxs_nil))))) (fun s H C cl fp => txs_nil) (fun s H C cl fp => ex_call (cok_blk ok) (ok__law_fits T) (hr.mono (by decide)) (T.d__law_fits.g) (T.d__law_fits.F.kp) (T.d__law_fits.b) (ax_cons (ex_vo 16 0) (ax_cons (ex_vo 17 0) (ax_cons (ex_vo 18 0) (ax_nil) w00) w00) w00)))))))) (sxs_one (sx_ret (ex_bl))) (sxs_nil))
    (sxs_cons (sx_asg 13 (ex_call ok (ok__law_result T) (hr.mono (by decide)) (T.d__law_result.g) (T.d__law_result.F.kp) (T.d__law_result.b) (ax_cons (ex_fn (T.d__law_did.g)) (ax_cons (ex_tup (ax_cons (ex_str) (ax_cons (ex_vo 9 0) (ax_cons (ex_vo 10 0) (ax_nil) w00) w00) w00)) (ax_nil) w00) w00)) sc_law.nd)
    (sxs_cons (sx_if (tw_tx (tw_or (tw_tx (tw_and (tx_eq (rmOf hr) (ex_vo 6 0) (ex_int) w00) (tw_and1 (tx_ne (rmOf hr) (ex_vo 13 0) (ex_tup (ax_cons (ex_str) (ax_cons (ex_str) (ax_nil) w00) w00)) w00)))) (tw_or1 (tw_tx (tw_and (tx_ne (rmOf hr) (ex_vo 6 0) (ex_int) w00) (tw_and1 (tw_tx (tw_or (tx_ne (rmOf hr) (ex_ix0 (rmOf hr) (ex_vo 13 0) (ex_int)) (ex_str) w00) (tw_or1 (tx_not (tx_val (ex_call ok (ok__law_fits T) (hr.mono (by decide)) (T.d__law_fits.g) (T.d__law_fits.F.kp) (T.d__law_fits.b) (ax_cons (ex_ix0 (rmOf hr) (ex_vo 13 0) (ex_int)) (ax_cons (ex_mul (ex_vo 4 0) (ex_vo 7 0) w00) (ax_cons (ex_mul (ex_vo 5 0) (ex_vo 6 0) w00) (ax_nil) w00) w00) w00))))))))))))) (sxs_one (sx_ret (ex_bl))) (sxs_nil))
    (sxs_cons (sx_if (tw_tx (tw_or (tx_not (tx_val (ex_call ok (ok__law_says T) (hr.mono (by decide)) (T.d__law_says.g) (T.d__law_says.F.kp) (T.d__law_says.b) (ax_cons (ex_eqX (rmOf hr) rfl ok T.c_Ratio T.d_Ratio___eq__.op T.o_Ratio.eq (ok_Ratio___eq__ T) (hr.mono (by decide)) T.d_Ratio___eq__.b (ex_vo 9 0) (ex_vo 10 0)) (ax_cons (ex_eq (rmOf hr) (ex_mul (ex_vo 4 0) (ex_vo 7 0) w00) (ex_mul (ex_vo 5 0) (ex_vo 6 0) w00) w00) (ax_nil) w00) w00)))) (tw_or (tx_not (tx_val (ex_call ok (ok__law_says T) (hr.mono (by decide)) (T.d__law_says.g) (T.d__law_says.F.kp) (T.d__law_says.b) (ax_cons (ex_eqX (rmOf hr) rfl ok T.c_Ratio T.d_Ratio___eq__.op T.o_Ratio.eq (ok_Ratio___eq__ T) (hr.mono (by decide)) T.d_Ratio___eq__.b (ex_vo 9 0) (ex_sh (ex_make (ps := [.sh, .sh]) (qs := []) (mI := m_Ratio___init__) (dflt := []) rfl ok T.c_Ratio T.k_Ratio (ok_Ratio___init__ T) (hr.mono (by decide)) T.d_Ratio___init__.b .nil (fun _ => .nil) (ax_cons (ex_mul (ex_int) (ex_vo 4 0) w00) (ax_cons (ex_mul (ex_int) (ex_vo 5 0) w00) (ax_nil) w00) w00)))) (ax_cons (ex_bl) (ax_nil) w00) w00)))) (tw_or1 (tx_not (tx_val (ex_all ok (T.z_all) (ex_rd (LX.ex (lx_lc (k := 0) (own := [("value", 19)]) ok sc_law.nd (ix_seqS (ex_tup (ax_cons (ex_add (ex_vo 4 0) (ex_int)) (ax_cons (ex_non) (ax_cons (ex_str) (ax_cons (ex_tup (ax_cons (ex_vo 9 0) (ax_nil) w00)) (ax_nil) w00) w00) w00) w00))) (blkB_ok rfl) rfl (by decide) rfl (fun s H C cl fp => gx_name 19 sc_law.nd) (fun s H C cl fp => txs_nil) (fun s H C cl fp => ex_call (cok_blk ok) (ok__law_says T) (hr.mono (by decide)) (T.d__law_says.g) (T.d__law_says.F.kp) (T.d__law_says.b) (ax_cons (ex_eqX (rmOf hr) rfl (cok_blk ok) T.c_Ratio T.d_Ratio___eq__.op T.o_Ratio.eq (ok_Ratio___eq__ T) (hr.mono (by decide)) T.d_Ratio___eq__.b (ex_vo 9 0) (ex_vo 19 0)) (ax_cons (ex_bl) (ax_nil) w00) w00)))))))))))) (sxs_one (sx_ret (ex_bl))) (sxs_nil))
    (sxs_cons (sx_if (tw_tx (tw_or (tx_not (tx_val (ex_call ok (ok__law_says T) (hr.mono (by decide)) (T.d__law_says.g) (T.d__law_says.F.kp) (T.d__law_says.b) (ax_cons (ex_meth (ps := [.sh]) rfl ok T.c_Ratio T.d_Ratio_less.me (ok_Ratio_less T) (hr.mono (by decide)) T.d_Ratio_less.b (ex_vo 9 0) (ax_cons (ex_vo 10 0) (ax_nil) w00)) (ax_cons (ex_lt (ex_mul (ex_mul (ex_vo 4 0) (ex_vo 7 0) w00) (ex_vo 11 0) w00) (ex_mul (ex_mul (ex_vo 6 0) (ex_vo 5 0) w00) (ex_vo 11 0) w00) w00) (ax_nil) w00) w00)))) (tw_or1 (tx_not (tx_val (ex_call ok (ok__law_says T) (hr.mono (by decide)) (T.d__law_says.g) (T.d__law_says.F.kp) (T.d__law_says.b) (ax_cons (ex_meth (ps := [.sh]) rfl ok T.c_Ratio T.d_Ratio_less.me (ok_Ratio_less T) (hr.mono (by decide)) T.d_Ratio_less.b (ex_vo 10 0) (ax_cons (ex_vo 10 0) (ax_nil) w00)) (ax_cons (ex_bl) (ax_nil) w00) w00))))))) (sxs_one (sx_ret (ex_bl))) (sxs_nil))
    (sxs_cons (sx_asg 14 (ex_div (ex_intc (T.z_int) (ex_mul (ex_vo 4 0) (ex_vo 11 0) w00)) (ex_abs (T.z_abs) (ex_vo 5 0)) w00) sc_law.nd)
    (sxs_cons (sx_if (tw_tx (tw_or (tx_not (tx_val (ex_call ok (ok__law_same T) (hr.mono (by decide)) (T.d__law_same.g) (T.d__law_same.F.kp) (T.d__law_same.b) (ax_cons (ex_meth00 rfl ok T.c_Ratio T.d_Ratio_floor.me (ok_Ratio_floor T) (hr.mono (by decide)) T.d_Ratio_floor.b (ex_vo 9 0)) (ax_cons (ex_vo 14 0) (ax_nil) w00) w00)))) (tw_or (tx_not (tx_val (ex_call ok (ok__law_same T) (hr.mono (by decide)) (T.d__law_same.g) (T.d__law_same.F.kp) (T.d__law_same.b) (ax_cons (ex_meth00 rfl ok T.c_Ratio T.d_Ratio_sign.me (ok_Ratio_sign T) (hr.mono (by decide)) T.d_Ratio_sign.b (ex_vo 9 0)) (ax_cons (ex_call ok (ok__law_sign_at T) (hr.mono (by decide)) (T.d__law_sign_at.g) (T.d__law_sign_at.F.kp) (T.d__law_sign_at.b) (ax_cons (ex_mul (ex_vo 4 0) (ex_vo 11 0) w00) (ax_nil) w00)) (ax_nil) w00) w00)))) (tw_or (tx_not (tx_val (ex_call ok (ok__law_says T) (hr.mono (by decide)) (T.d__law_says.g) (T.d__law_says.F.kp) (T.d__law_says.b) (ax_cons (ex_meth00 rfl ok T.c_Ratio T.d_Ratio_is_zero.me (ok_Ratio_is_zero T) (hr.mono (by decide)) T.d_Ratio_is_zero.b (ex_vo 9 0)) (ax_cons (ex_eq (rmOf hr) (ex_vo 4 0) (ex_int) w00) (ax_nil) w00) w00)))) (tw_or1 (tx_not (tx_val (ex_call ok (ok__law_says T) (hr.mono (by decide)) (T.d__law_says.g) (T.d__law_says.F.kp) (T.d__law_says.b) (ax_cons (ex_meth00 rfl ok T.c_Ratio T.d_Ratio_is_whole.me (ok_Ratio_is_whole T) (hr.mono (by decide)) T.d_Ratio_is_whole.b (ex_vo 9 0)) (ax_cons (ex_eq (rmOf hr) (ex_mod (ex_intc (T.z_int) (ex_vo 4 0)) (ex_abs (T.z_abs) (ex_vo 5 0)) w00) (ex_int) w00) (ax_nil) w00) w00))))))))) (sxs_one (sx_ret (ex_bl))) (sxs_nil))
    (sxs_cons (sx_if (tx_not (tx_val (ex_call ok (ok__law_same T) (hr.mono (by decide)) (T.d__law_same.g) (T.d__law_same.F.kp) (T.d__law_same.b) (ax_cons (ex_strX rfl ok T.c_Ratio T.d_Ratio___str__.op (ok_Ratio___str__ T) (hr.mono (by decide)) T.d_Ratio___str__.b (T.z_str) (ex_vo 9 0)) (ax_cons (ex_add (ex_strc (T.z_str) (ex_fld T.c_Ratio T.n_Ratio_n (ex_vo 9 0))) (ex_if (tx_eq (rmOf hr) (ex_fld T.c_Ratio T.n_Ratio_d (ex_vo 9 0)) (ex_int) w00) (ex_str) (ex_add (ex_str) (ex_strc (T.z_str) (ex_fld T.c_Ratio T.n_Ratio_d (ex_vo 9 0)))))) (ax_nil) w00) w00)))) (sxs_one (sx_ret (ex_bl))) (sxs_nil))
    (sxs_cons (sx_for ok po (ix_seqS (ex_tup (ax_cons (ex_non) (ax_cons (ex_bl) (ax_cons (ex_str) (ax_cons (ex_tup (ax_cons (ex_int) (ax_nil) w00)) (ax_cons (ex_int) (ax_nil) w00) w00) w00) w00) w00))) (gx_name 15 sc_law.nd) (sxs_cons (sx_if (tx_ne (rmOf hr) (ex_rd (LX.ex (lx_lc (k := 0) (own := [("word", 20)]) ok sc_law.nd (ix_seqS (ex_tup (ax_cons (ex_str) (ax_cons (ex_str) (ax_cons (ex_str) (ax_cons (ex_str) (ax_cons (ex_str) (ax_nil) w00) w00) w00) w00) w00))) (blkB_ok rfl) rfl (by decide) rfl (fun s H C cl fp => gx_name 20 sc_law.nd) (fun s H C cl fp => txs_nil) (fun s H C cl fp => ex_ix0 (rmOf hr) (ex_call (cok_blk ok) (ok__law_result T) (hr.mono (by decide)) (T.d__law_result.g) (T.d__law_result.F.kp) (T.d__law_result.b) (ax_cons (ex_fn (T.d__law_did.g)) (ax_cons (ex_tup (ax_cons (ex_vo 20 0) (ax_cons (ex_vo 9 0) (ax_cons (ex_vo 15 0) (ax_nil) w00) w00) w00)) (ax_nil) w00) w00)) (ex_int))))) (ex_rd (ex_rep (ex_rd (ex_lst (ax_cons (ex_str) (ax_nil) w00))) (ex_int) wrd)) wrd) (sxs_one (sx_ret (ex_bl))) (sxs_nil))
    (sxs_one (sx_if (tw_tx (tw_and (tx_ne (rmOf hr) (ex_vo 15 0) (ex_int) w00) (tw_and1 (tx_ne (rmOf hr) (ex_tup (ax_cons (ex_str) (ax_cons (ex_str) (ax_nil) w00) w00)) (ex_tup (ax_cons (ex_ix0 (rmOf hr) (ex_call ok (ok__law_result T) (hr.mono (by decide)) (T.d__law_result.g) (T.d__law_result.F.kp) (T.d__law_result.b) (ax_cons (ex_fn (T.d__law_made.g)) (ax_cons (ex_tup (ax_cons (ex_vo 15 0) (ax_cons (ex_int) (ax_nil) w00) w00)) (ax_nil) w00) w00)) (ex_int)) (ax_cons (ex_ix0 (rmOf hr) (ex_call ok (ok__law_result T) (hr.mono (by decide)) (T.d__law_result.g) (T.d__law_result.F.kp) (T.d__law_result.b) (ax_cons (ex_fn (T.d__law_made.g)) (ax_cons (ex_tup (ax_cons (ex_int) (ax_cons (ex_vo 15 0) (ax_nil) w00) w00)) (ax_nil) w00) w00)) (ex_int)) (ax_nil) w00) w00)) w00)))) (sxs_one (sx_ret (ex_bl))) (sxs_nil)))))
    (sxs_one (sx_ret (ex_eq (rmOf hr) (ex_call ok (ok__law_result T) (hr.mono (by decide)) (T.d__law_result.g) (T.d__law_result.F.kp) (T.d__law_result.b) (ax_cons (ex_fn (T.d__law_made.g)) (ax_cons (ex_tup (ax_cons (ex_vo 4 0) (ax_cons (ex_int) (ax_nil) w00) w00)) (ax_nil) w00) w00)) (ex_tup (ax_cons (ex_str) (ax_cons (ex_str) (ax_nil) w00) w00)) w00))))))))))))))))))))
end
def fa0 : List He.Fa := [.glo "is_integer", .keep "is_integer", .code ("is_integer", none) "is_integer", .glo "common", .keep "common", .code ("common", none) "common", .glo "check_ratio", .keep "check_ratio", .code ("check_ratio", none) "check_ratio", .glo "_law_state", .keep "_law_state", .code ("_law_state", none) "_law_state", .glo "_law_take", .keep "_law_take", .code ("_law_take", none) "_law_take", .glo "_law_says", .keep "_law_says", .code ("_law_says", none) "_law_says", .glo "_law_is_whole", .keep "_law_is_whole", .code ("_law_is_whole", none) "_law_is_whole", .glo "_law_same", .keep "_law_same", .code ("_law_same", none) "_law_same", .glo "_law_common", .keep "_law_common", .code ("_law_common", none) "_law_common", .glo "_law_result", .keep "_law_result", .code ("_law_result", none) "_law_result"]
def fa1 : List He.Fa := [.glo "_law_sign_at", .keep "_law_sign_at", .code ("_law_sign_at", none) "_law_sign_at", .glo "_law_made", .keep "_law_made", .code ("_law_made", none) "_law_made", .glo "_law_did", .keep "_law_did", .code ("_law_did", none) "_law_did", .glo "_law_fits", .keep "_law_fits", .code ("_law_fits", none) "_law_fits", .glo "law", .keep "law", .code ("law", none) "law", .meth "Refused" "__init__", .meth "Ratio" "__init__", .meth "Ratio" "__add__", .meth "Ratio" "__sub__", .meth "Ratio" "__mul__", .meth "Ratio" "__neg__", .meth "Ratio" "__eq__", .meth "Ratio" "less", .meth "Ratio" "__str__", .meth "Ratio" "over", .meth "Ratio" "times", .meth "Ratio" "sign", .meth "Ratio" "is_zero", .meth "Ratio" "is_whole", .meth "Ratio" "floor"]
def fa2 : List He.Fa := [.meth "Ratio" "size", .glo "Ratio", .cls "Ratio", .noat "Ratio" "d", .noat "Ratio" "n", .mkr "Ratio", .glo "Fault", .glo "Refused", .noat "Refused" "reason", .free "abs", .free "all", .free "bool", .free "int", .free "isinstance", .free "len", .free "range", .free "str", .free "tuple", .glo "Malformed", .exc "Malformed", .glo "Refused", .exm "Malformed" "Malformed" true, .exm "Refused" "Malformed" false, .exm "Refused" "Refused" true, .noat "Refused" "reason", .free "NoText"]
def faL : List He.Fa := fa0 ++ fa1 ++ fa2
def fnp0 : List He.FnD := [⟨("is_integer", none), "is_integer", "is_integer", defArgs t_is_integer, defBody t_is_integer, defScope t_is_integer⟩, ⟨("common", none), "common", "common", defArgs t_common, defBody t_common, defScope t_common⟩, ⟨("check_ratio", none), "check_ratio", "check_ratio", defArgs t_check_ratio, defBody t_check_ratio, defScope t_check_ratio⟩, ⟨("_law_state", none), "_law_state", "_law_state", defArgs t__law_state, defBody t__law_state, defScope t__law_state⟩, ⟨("_law_take", none), "_law_take", "_law_take", defArgs t__law_take, defBody t__law_take, defScope t__law_take⟩, ⟨("_law_says", none), "_law_says", "_law_says", defArgs t__law_says, defBody t__law_says, defScope t__law_says⟩, ⟨("_law_is_whole", none), "_law_is_whole", "_law_is_whole", defArgs t__law_is_whole, defBody t__law_is_whole, defScope t__law_is_whole⟩, ⟨("_law_same", none), "_law_same", "_law_same", defArgs t__law_same, defBody t__law_same, defScope t__law_same⟩, ⟨("_law_common", none), "_law_common", "_law_common", defArgs t__law_common, defBody t__law_common, defScope t__law_common⟩, ⟨("_law_result", none), "_law_result", "_law_result", defArgs t__law_result, defBody t__law_result, defScope t__law_result⟩, ⟨("_law_sign_at", none), "_law_sign_at", "_law_sign_at", defArgs t__law_sign_at, defBody t__law_sign_at, defScope t__law_sign_at⟩, ⟨("_law_made", none), "_law_made", "_law_made", defArgs t__law_made, defBody t__law_made, defScope t__law_made⟩, ⟨("_law_did", none), "_law_did", "_law_did", defArgs t__law_did, defBody t__law_did, defScope t__law_did⟩, ⟨("_law_fits", none), "_law_fits", "_law_fits", defArgs t__law_fits, defBody t__law_fits, defScope t__law_fits⟩, ⟨("law", none), "law", "law", defArgs t_law, defBody t_law, defScope t_law⟩]
def fnL : List He.FnD := fnp0
def dmL : List He.DefD := [mD "Refused" "__init__" "Refused.__init__" t_Refused___init__ [], mD "Ratio" "__init__" "Ratio.__init__" t_Ratio___init__ [.int 1], mD "Ratio" "__add__" "Ratio.__add__" t_Ratio___add__ [], mD "Ratio" "__sub__" "Ratio.__sub__" t_Ratio___sub__ [], mD "Ratio" "__mul__" "Ratio.__mul__" t_Ratio___mul__ [], mD "Ratio" "__neg__" "Ratio.__neg__" t_Ratio___neg__ [], mD "Ratio" "__eq__" "Ratio.__eq__" t_Ratio___eq__ [], mD "Ratio" "less" "Ratio.less" t_Ratio_less [], mD "Ratio" "__str__" "Ratio.__str__" t_Ratio___str__ [], mD "Ratio" "over" "Ratio.over" t_Ratio_over [], mD "Ratio" "times" "Ratio.times" t_Ratio_times [], mD "Ratio" "sign" "Ratio.sign" t_Ratio_sign [], mD "Ratio" "is_zero" "Ratio.is_zero" t_Ratio_is_zero [], mD "Ratio" "is_whole" "Ratio.is_whole" t_Ratio_is_whole [], mD "Ratio" "floor" "Ratio.floor" t_Ratio_floor [], mD "Ratio" "size" "Ratio.size" t_Ratio_size []]
def clB (K : PySem.W.Frag) : Bool := ownB K (He.ga K "Ratio") ["add", "mul", "sub"] && refB K && true
theorem txt {K : PySem.W.Frag} {h : Heap} {mg : Str → Option Value} (X : K.In h) (G : h.Ns mainGlobals mg) (c : faL.all (He.Fa.ok K) = true) (e : fnL.map (fun d => He.fnObs K d.at_) = fnL.map He.FnD.val) (c7 : xfB K (He.ga K "Refused") = true) (c8 : dmL.all (He.DefD.ok K) = true) (e8 : dmL.map (fun d => He.fnW K d.at_) = dmL.map He.DefD.val) (c9 : clB K = true) : ∃ fs fds, Txt K mg fs fds ∧ mg "law" = some (.ref (fs 14)) := by
  obtain ⟨fd0, h0⟩ := def_at (st := t_is_integer) (ps := ["value"]) X G (fn_at e 0 rfl) (fa_at c 2 rfl) (fa_at c 0 rfl) (fa_at c 1 rfl) fun _ _ _ _ _ _ us hl => match us, hl with | [_], _ => rfl
  obtain ⟨fd1, h1⟩ := def_at (st := t_common) (ps := ["a", "b"]) X G (fn_at e 1 rfl) (fa_at c 5 rfl) (fa_at c 3 rfl) (fa_at c 4 rfl) fun _ _ _ _ _ _ us hl => match us, hl with | [_, _], _ => rfl
  obtain ⟨fd2, h2⟩ := def_at (st := t_check_ratio) (ps := ["value"]) X G (fn_at e 2 rfl) (fa_at c 8 rfl) (fa_at c 6 rfl) (fa_at c 7 rfl) fun _ _ _ _ _ _ us hl => match us, hl with | [_], _ => rfl
  obtain ⟨fd3, h3⟩ := def_at (st := t__law_state) (ps := ["script"]) X G (fn_at e 3 rfl) (fa_at c 11 rfl) (fa_at c 9 rfl) (fa_at c 10 rfl) fun _ _ _ _ _ _ us hl => match us, hl with | [_], _ => rfl
  obtain ⟨fd4, h4⟩ := def_at (st := t__law_take) (ps := ["state", "m"]) X G (fn_at e 4 rfl) (fa_at c 14 rfl) (fa_at c 12 rfl) (fa_at c 13 rfl) fun _ _ _ _ _ _ us hl => match us, hl with | [_, _], _ => rfl
  obtain ⟨fd5, h5⟩ := def_at (st := t__law_says) (ps := ["value", "due"]) X G (fn_at e 5 rfl) (fa_at c 17 rfl) (fa_at c 15 rfl) (fa_at c 16 rfl) fun _ _ _ _ _ _ us hl => match us, hl with | [_, _], _ => rfl
  obtain ⟨fd6, h6⟩ := def_at (st := t__law_is_whole) (ps := ["value"]) X G (fn_at e 6 rfl) (fa_at c 20 rfl) (fa_at c 18 rfl) (fa_at c 19 rfl) fun _ _ _ _ _ _ us hl => match us, hl with | [_], _ => rfl
  obtain ⟨fd7, h7⟩ := def_at (st := t__law_same) (ps := ["one", "two"]) X G (fn_at e 7 rfl) (fa_at c 23 rfl) (fa_at c 21 rfl) (fa_at c 22 rfl) fun _ _ _ _ _ _ us hl => match us, hl with | [_, _], _ => rfl
  obtain ⟨fd8, h8⟩ := def_at (st := t__law_common) (ps := ["a", "b"]) X G (fn_at e 8 rfl) (fa_at c 26 rfl) (fa_at c 24 rfl) (fa_at c 25 rfl) fun _ _ _ _ _ _ us hl => match us, hl with | [_, _], _ => rfl
  obtain ⟨fd9, h9⟩ := def_at (st := t__law_result) (ps := ["act", "given"]) X G (fn_at e 9 rfl) (fa_at c 29 rfl) (fa_at c 27 rfl) (fa_at c 28 rfl) fun _ _ _ _ _ _ us hl => match us, hl with | [_, _], _ => rfl
  obtain ⟨fd10, h10⟩ := def_at (st := t__law_sign_at) (ps := ["c"]) X G (fn_at e 10 rfl) (fa_at c 32 rfl) (fa_at c 30 rfl) (fa_at c 31 rfl) fun _ _ _ _ _ _ us hl => match us, hl with | [_], _ => rfl
  obtain ⟨fd11, h11⟩ := def_at (st := t__law_made) (ps := ["n", "d"]) X G (fn_at e 11 rfl) (fa_at c 35 rfl) (fa_at c 33 rfl) (fa_at c 34 rfl) fun _ _ _ _ _ _ us hl => match us, hl with | [_, _], _ => rfl
  obtain ⟨fd12, h12⟩ := def_at (st := t__law_did) (ps := ["word", "a", "b"]) X G (fn_at e 12 rfl) (fa_at c 38 rfl) (fa_at c 36 rfl) (fa_at c 37 rfl) fun _ _ _ _ _ _ us hl => match us, hl with | [_, _, _], _ => rfl
  obtain ⟨fd13, h13⟩ := def_at (st := t__law_fits) (ps := ["x", "n", "d"]) X G (fn_at e 13 rfl) (fa_at c 41 rfl) (fa_at c 39 rfl) (fa_at c 40 rfl) fun _ _ _ _ _ _ us hl => match us, hl with | [_, _, _], _ => rfl
  obtain ⟨fd14, h14⟩ := def_at (st := t_law) (ps := ["script"]) X G (fn_at e 14 rfl) (fa_at c 44 rfl) (fa_at c 42 rfl) (fa_at c 43 rfl) fun _ _ _ _ _ _ us hl => match us, hl with | [_], _ => rfl
  obtain ⟨fd15, h15⟩ := met_at0 (st := t_Refused___init__) (pn := ["self", "reason"]) (dw_at e8 0 rfl) (dk_at c8 0 rfl) (fa_at c 45 rfl) fun _ _ _ _ _ _ us hl => match us, hl with | [_, _], _ => rfl
  obtain ⟨fd16, h16, b16⟩ := met_at1 (st := t_Ratio___init__) (pn := ["self", "n", "d"]) 1 2 rfl (dw_at e8 1 rfl) (dk_at c8 1 rfl) (fa_at c 46 rfl) (fun _ _ _ _ _ _ _ us its hl h2 => match us, its, hl, h2 with | [_, _], [_], _, _ => ⟨_, rfl, rfl⟩) fun _ _ _ _ _ _ _ us its hl h2 => match us, its, hl, h2 with | [_, _, _], [_], _, _ => ⟨_, rfl, rfl⟩
  obtain ⟨fd17, h17⟩ := met_at0 (st := t_Ratio___add__) (pn := ["self", "other"]) (dw_at e8 2 rfl) (dk_at c8 2 rfl) (fa_at c 47 rfl) fun _ _ _ _ _ _ us hl => match us, hl with | [_, _], _ => rfl
  obtain ⟨fd18, h18⟩ := met_at0 (st := t_Ratio___sub__) (pn := ["self", "other"]) (dw_at e8 3 rfl) (dk_at c8 3 rfl) (fa_at c 48 rfl) fun _ _ _ _ _ _ us hl => match us, hl with | [_, _], _ => rfl
  obtain ⟨fd19, h19⟩ := met_at0 (st := t_Ratio___mul__) (pn := ["self", "other"]) (dw_at e8 4 rfl) (dk_at c8 4 rfl) (fa_at c 49 rfl) fun _ _ _ _ _ _ us hl => match us, hl with | [_, _], _ => rfl
  obtain ⟨fd20, h20⟩ := met_at0 (st := t_Ratio___neg__) (pn := ["self"]) (dw_at e8 5 rfl) (dk_at c8 5 rfl) (fa_at c 50 rfl) fun _ _ _ _ _ _ us hl => match us, hl with | [_], _ => rfl
  obtain ⟨fd21, h21⟩ := met_at0 (st := t_Ratio___eq__) (pn := ["self", "other"]) (dw_at e8 6 rfl) (dk_at c8 6 rfl) (fa_at c 51 rfl) fun _ _ _ _ _ _ us hl => match us, hl with | [_, _], _ => rfl
  obtain ⟨fd22, h22⟩ := met_at0 (st := t_Ratio_less) (pn := ["self", "other"]) (dw_at e8 7 rfl) (dk_at c8 7 rfl) (fa_at c 52 rfl) fun _ _ _ _ _ _ us hl => match us, hl with | [_, _], _ => rfl
  obtain ⟨fd23, h23⟩ := met_at0 (st := t_Ratio___str__) (pn := ["self"]) (dw_at e8 8 rfl) (dk_at c8 8 rfl) (fa_at c 53 rfl) fun _ _ _ _ _ _ us hl => match us, hl with | [_], _ => rfl
  obtain ⟨fd24, h24⟩ := met_at0 (st := t_Ratio_over) (pn := ["self", "other"]) (dw_at e8 9 rfl) (dk_at c8 9 rfl) (fa_at c 54 rfl) fun _ _ _ _ _ _ us hl => match us, hl with | [_, _], _ => rfl
  obtain ⟨fd25, h25⟩ := met_at0 (st := t_Ratio_times) (pn := ["self", "k"]) (dw_at e8 10 rfl) (dk_at c8 10 rfl) (fa_at c 55 rfl) fun _ _ _ _ _ _ us hl => match us, hl with | [_, _], _ => rfl
  obtain ⟨fd26, h26⟩ := met_at0 (st := t_Ratio_sign) (pn := ["self"]) (dw_at e8 11 rfl) (dk_at c8 11 rfl) (fa_at c 56 rfl) fun _ _ _ _ _ _ us hl => match us, hl with | [_], _ => rfl
  obtain ⟨fd27, h27⟩ := met_at0 (st := t_Ratio_is_zero) (pn := ["self"]) (dw_at e8 12 rfl) (dk_at c8 12 rfl) (fa_at c 57 rfl) fun _ _ _ _ _ _ us hl => match us, hl with | [_], _ => rfl
  obtain ⟨fd28, h28⟩ := met_at0 (st := t_Ratio_is_whole) (pn := ["self"]) (dw_at e8 13 rfl) (dk_at c8 13 rfl) (fa_at c 58 rfl) fun _ _ _ _ _ _ us hl => match us, hl with | [_], _ => rfl
  obtain ⟨fd29, h29⟩ := met_at0 (st := t_Ratio_floor) (pn := ["self"]) (dw_at e8 14 rfl) (dk_at c8 14 rfl) (fa_at c 59 rfl) fun _ _ _ _ _ _ us hl => match us, hl with | [_], _ => rfl
  obtain ⟨fd30, h30⟩ := met_at0 (st := t_Ratio_size) (pn := ["self"]) (dw_at e8 15 rfl) (dk_at c8 15 rfl) (fa_at c 60 rfl) fun _ _ _ _ _ _ us hl => match us, hl with | [_], _ => rfl
  unfold clB at c9
  simp only [Bool.and_eq_true] at c9
  obtain ⟨⟨o0, rr⟩, _⟩ := c9
  refine ⟨fun i => ([He.ga K "is_integer", He.ga K "common", He.ga K "check_ratio", He.ga K "_law_state", He.ga K "_law_take", He.ga K "_law_says", He.ga K "_law_is_whole", He.ga K "_law_same", He.ga K "_law_common", He.ga K "_law_result", He.ga K "_law_sign_at", He.ga K "_law_made", He.ga K "_law_did", He.ga K "_law_fits", He.ga K "law", He.ma K (He.ga K "Refused") "__init__", He.ma K (He.ga K "Ratio") "__init__", He.ma K (He.ga K "Ratio") "__add__", He.ma K (He.ga K "Ratio") "__sub__", He.ma K (He.ga K "Ratio") "__mul__", He.ma K (He.ga K "Ratio") "__neg__", He.ma K (He.ga K "Ratio") "__eq__", He.ma K (He.ga K "Ratio") "less", He.ma K (He.ga K "Ratio") "__str__", He.ma K (He.ga K "Ratio") "over", He.ma K (He.ga K "Ratio") "times", He.ma K (He.ga K "Ratio") "sign", He.ma K (He.ga K "Ratio") "is_zero", He.ma K (He.ga K "Ratio") "is_whole", He.ma K (He.ga K "Ratio") "floor", He.ma K (He.ga K "Ratio") "size"] : List Addr).getD i 0, fun i => ([fd0, fd1, fd2, fd3, fd4, fd5, fd6, fd7, fd8, fd9, fd10, fd11, fd12, fd13, fd14, fd15, fd16, fd17, fd18, fd19, fd20, fd21, fd22, fd23, fd24, fd25, fd26, fd27, fd28, fd29, fd30] : List FuncData).getD i fd0, ⟨cls_at X G (fa_at c 61 rfl) (fa_at c 62 rfl), ownB_ok o0, He.noat_ok (fa_at c 63 rfl), He.noat_ok (fa_at c 64 rfl), He.mkr_ok (fa_at c 65 rfl), h15, h16, h17, h18, h19, h20, h21, h22, h23, h24, h25, h26, h27, h28, h29, h30, b16, refK_at X G (fa_at c 66 rfl) (fa_at c 67 rfl) (fa_at c 68 rfl) (fa_at c 45 rfl) rr, h0, h1, h2, h3, h4, h5, h6, h7, h8, h9, h10, h11, h12, h13, h14, He.free_ok X G (fa_at c 69 rfl), He.free_ok X G (fa_at c 70 rfl), He.free_ok X G (fa_at c 71 rfl), He.free_ok X G (fa_at c 72 rfl), He.free_ok X G (fa_at c 73 rfl), He.free_ok X G (fa_at c 74 rfl), He.free_ok X G (fa_at c 75 rfl), He.free_ok X G (fa_at c 76 rfl), He.free_ok X G (fa_at c 77 rfl), mal_at X G (fa_at c 78 rfl) (fa_at c 79 rfl), xc_at X G (fa_at c 78 rfl) (fa_at c 80 rfl) (fa_at c 81 rfl) (fa_at c 82 rfl) (fa_at c 83 rfl) (fa_at c 84 rfl) c7, He.free_ok X G (fa_at c 85 rfl)⟩, h14.g⟩
theorem fin {P : Program} {w : World} {K : PySem.W.Frag} {h : Heap} {mg : Str → Option Value} {fa : Addr} (X : K.In h) (G : h.Ns mainGlobals mg) (hfa : mg "law" = some (.ref fa)) (c : faL.all (He.Fa.ok K) = true) (e : fnL.map (fun d => He.fnObs K d.at_) = fnL.map He.FnD.val) (c7 : xfB K (He.ga K "Refused") = true) (c8 : dmL.all (He.DefD.ok K) = true) (e8 : dmL.map (fun d => He.fnW K d.at_) = dmL.map He.DefD.val) (c9 : clB K = true)
    (math : ∀ ns : List Int, ns.length ≤ 63 → (∀ z ∈ ns, Builtin.Int.intBits z ≤ 1048576) → m_law [.scr ns] = .ok (.bl true)) : ∃ fd : FuncData, (∀ (s : Shared) (u : Value), BindsTo s fd ⟨[u], []⟩ [("script", u)]) ∧ ∀ base : Heap, K.In base → base.Ns mainGlobals mg → FnOk P w K mg base (L2.CX P w) 43 fa fd ["script"] (spEnd K) := by
  obtain ⟨fs, fds, T, hl⟩ := txt X G c e c7 c8 e8 c9
  rw [hfa] at hl
  have hl := Value.ref.inj (Option.some.inj hl)
  subst hl
  refine ⟨fds 14, fun s u => ?_, fun base _ _ => fn_end (ok_law T) math⟩
  obtain ⟨oc, od, kV, doc, pm, an, cdv, ct, osl, he, l, c⟩ := T.d_law.F.ex
  rw [he]
  exact .of_eq rfl
end
end K01

open PySem PySem.Spec
open PyProof.Rows L2
set_option Elab.async false
set_option linter.all false
set_option maxRecDepth 100000
set_option maxHeartbeats 0
namespace K01
open PV
noncomputable section
/-! ### two ways to the greatest common divisor -/
def ct : M Bool := PV.tB (e2 gGt (eVar 1) (eC (.int 0)))
def cb : SM := sPar [0, 1] (aCons (eVar 1) (aCons (e2 gMod (eVar 0) (eVar 1)) (aNil)))
theorem ct_ok (x y : Int) : ct [some (.int x), some (.int y)] = .ok (decide (0 < y), [some (.int x), some (.int y)]) := by with_unfolding_all rfl
theorem cb_ok (x y : Int) (h : y ≠ 0) : cb [some (.int x), some (.int y)] = .nx [some (.int y), some (.int (x.fmod y))] := by
  simp [cb, sPar, sDo, aCons, aNil, e2, gMod, h, M.bind, M.ofO, M.pure, eVar, look_zero, look_succ, setAll, put_eq]
theorem cloop : ∀ (n a b : Nat), b < n → whileN ct cb n [some (.int a), some (.int b)] = .nx [some (.int (Nat.gcd a b : Nat)), some (.int 0)]
  | 0, _, _, h => by omega
  | n + 1, a, b, h => by
    by_cases hb : b = 0
    · subst hb
      refine (whileN_f (ct_ok a 0)).trans ?_
      rw [Nat.gcd_zero_right]
    · have e : Int.fmod (a : Int) (b : Int) = ((a % b : Nat) : Int) := by
        rw [Int.fmod_eq_emod_of_nonneg (hb := by omega)]
        exact (Int.natCast_emod a b).symm
      have ih := cloop n b (a % b) (Nat.lt_of_lt_of_le (Nat.mod_lt a (by omega)) (by omega))
      have eg : Nat.gcd b (a % b) = Nat.gcd a b := by rw [Nat.gcd_comm a b, Nat.gcd_rec b a, Nat.gcd_comm]
      rw [eg] at ih
      have ht := ct_ok a b
      rw [decide_eq_true (show (0 : Int) < b by omega)] at ht
      rw [whileN_t ht (cb_ok a b (by omega)), e]
      exact ih
theorem common_ok (a b : Int) (hb : b.natAbs < 1000) : m_common [.int a, .int b] = .ok (.int (Int.gcd a b)) := by
  have ea : (if a < 0 then -a else a) = ((a.natAbs : Nat) : Int) := by split <;> omega
  have eb : (if b < 0 then -b else b) = ((b.natAbs : Nat) : Int) := by split <;> omega
  have hw := cloop fuelW a.natAbs b.natAbs (Nat.lt_trans hb (by decide))
  have e : s_common (PV.envOf 2 [.int a, .int b]) = .rt (.int (Int.gcd a b)) [some (.int (Int.gcd a b)), some (.int 0)] := by
    unfold s_common
    have e1 : sPar [0, 1] (aCons (e1L gAbs (eVar 0)) (aCons (e1L gAbs (eVar 1)) (aNil))) (PV.envOf 2 [.int a, .int b]) = .nx [some (.int a.natAbs), some (.int b.natAbs)] := by
      simp [sPar, sDo, e1L, eL, PV.g1, gAbs, M.bind, M.ofO, M.pure, eVar, look_zero, look_succ, aCons, aNil, setAll, put_eq, PV.envOf, ea, eb]
    rw [sSeq_of e1]
    exact (sSeq_of (a := sWhile ct cb) (show sWhile ct cb _ = _ from hw)).trans rfl
  unfold m_common runF
  rw [e]
theorem fmod_small (a b : Int) (h : b ≠ 0) : (a.fmod b).natAbs < b.natAbs := by
  have h1 := Int.emod_nonneg a h
  have h2 := Int.emod_lt a h
  rw [Int.fmod_eq_emod]
  split
  · omega
  · rename_i hn
    have hb : b < 0 := by omega
    have h3 : a % b ≠ 0 := fun z => hn (.inr (Int.dvd_of_emod_eq_zero z))
    omega
theorem fmod_gcd (a b : Int) : Int.gcd b (a.fmod b) = Int.gcd a b := by
  rw [Int.fmod_def, Int.gcd_sub_mul_left_right, Int.gcd_comm]
def lt_ : M Bool := PV.tB (e2 gNe (eVar 1) (eC (.int 0)))
def lb : SM := sPar [0, 1] (aCons (eVar 1) (aCons (e2 gMod (e1L gInt (eVar 0)) (eVar 1)) (aNil)))
theorem lt_ok (x y : Int) : lt_ [some (.int x), some (.int y)] = .ok (!decide (y = 0), [some (.int x), some (.int y)]) := by with_unfolding_all rfl
theorem lb_ok (x y : Int) (h : y ≠ 0) : lb [some (.int x), some (.int y)] = .nx [some (.int y), some (.int (x.fmod y))] := by
  simp [lb, sPar, sDo, aCons, aNil, e2, e1L, eL, PV.g1, gInt, gMod, h, M.bind, M.ofO, M.pure, eVar, look_zero, look_succ, setAll, put_eq]
theorem lloop : ∀ (n : Nat) (a b : Int), b.natAbs < n → ∃ g : Int, g.natAbs = Int.gcd a b ∧ whileN lt_ lb n [some (.int a), some (.int b)] = .nx [some (.int g), some (.int 0)]
  | 0, _, _, h => by omega
  | n + 1, a, b, h => by
    by_cases hb : b = 0
    · subst hb
      exact ⟨a, by simp, whileN_f (lt_ok a 0)⟩
    · obtain ⟨g, hg, e⟩ := lloop n b (a.fmod b) (Nat.lt_of_lt_of_le (fmod_small a b hb) (by omega))
      have ht := lt_ok a b
      rw [decide_eq_false hb] at ht
      exact ⟨g, by rw [hg, fmod_gcd], by rw [whileN_t ht (lb_ok a b hb)]; exact e⟩
theorem lcommon_ok (a b : Int) (hb : b.natAbs < 1000) : m__law_common [.int a, .int b] = .ok (.int (Int.gcd a b)) := by
  obtain ⟨g, hg, hw⟩ := lloop fuelW a b (Nat.lt_trans hb (by decide))
  have eg : (if g < 0 then -g else g) = (Int.gcd a b : Int) := by rw [← hg]; split <;> omega
  have e : s__law_common (PV.envOf 2 [.int a, .int b]) = .rt (.int (Int.gcd a b)) [some (.int g), some (.int 0)] := by
    unfold s__law_common
    refine (sSeq_of (a := sWhile lt_ lb) (show sWhile lt_ lb _ = _ from hw)).trans ?_
    simp [sRet, sDo, e1L, eL, PV.g1, gAbs, M.bind, M.ofO, M.pure, eVar, look_zero, look_succ, aCons, aNil, eg]
  unfold m__law_common runF
  rw [e]
end
end K01

open PySem PySem.Spec
open PyProof.Rows L2
set_option Elab.async false
set_option linter.all false
set_option maxRecDepth 100000
set_option maxHeartbeats 0
namespace K01
open PV
noncomputable section
/-! ### lowest terms -/
/-- what a Ratio of n and d holds -/
structure Low (n d N E : Int) : Prop where
  pos : 1 ≤ E
  small : E.natAbs ≤ d.natAbs
  low : Int.gcd N E = 1
  same : N * d = n * E
  top : N.natAbs ≤ n.natAbs
theorem low_ex (n d : Int) (h : d ≠ 0) : Low n d (if 0 < d then n.fdiv (Int.gcd n d) else (-n).fdiv (Int.gcd n d)) ((if d < 0 then -d else d).fdiv (Int.gcd n d)) := by
  have gp : 0 < Int.gcd n d := Int.gcd_pos_of_ne_zero_right n h
  have gz : (Int.gcd n d : Int) ≠ 0 := by omega
  obtain ⟨n', hn⟩ := Int.gcd_dvd_left (a := n) (b := d)
  obtain ⟨d', hd⟩ := Int.gcd_dvd_right (a := n) (b := d)
  have cop : Int.gcd n' d' = 1 := by
    have e := Int.gcd_mul_left (Int.gcd n d : Int) n' d'
    rw [← hn, ← hd, Int.natAbs_natCast] at e
    have e2 : Int.gcd n d * Int.gcd n' d' = Int.gcd n d * 1 := by omega
    exact Nat.eq_of_mul_eq_mul_left gp e2
  generalize Int.gcd n d = g at *
  have big : ∀ x : Int, x.natAbs ≤ ((g : Int) * x).natAbs := fun x => by
    rw [Int.natAbs_mul, Int.natAbs_natCast]
    exact Nat.le_mul_of_pos_left _ gp
  have dz : d' ≠ 0 := fun z => h (by rw [hd, z, Int.mul_zero])
  have q : ∀ x : Int, ((g : Int) * x).fdiv g = x := fun x => Int.mul_fdiv_cancel_left x gz
  have qn : n.fdiv g = n' := by rw [hn]; exact q n'
  have qn' : (-n).fdiv g = -n' := by rw [hn, ← Int.mul_neg]; exact q _
  have qd : d.fdiv g = d' := by rw [hd]; exact q d'
  have qd' : (-d).fdiv g = -d' := by rw [hd, ← Int.mul_neg]; exact q _
  by_cases hp : 0 < d
  · have dp : 0 < d' := by
      rcases Int.lt_trichotomy d' 0 with z | z | z
      · have : (g : Int) * d' < 0 := Int.mul_neg_of_pos_of_neg (by omega) z
        omega
      · exact absurd z dz
      · exact z
    rw [if_pos hp, if_neg (show ¬ d < 0 by omega), qn, qd]
    refine ⟨by omega, ?_, cop, ?_, ?_⟩
    · rw [hd]; exact big d'
    · rw [hd, hn]; grind
    · rw [hn]; exact big n'
  · have dn : d' < 0 := by
      rcases Int.lt_trichotomy d' 0 with z | z | z
      · exact z
      · exact absurd z dz
      · have : 0 < (g : Int) * d' := Int.mul_pos (by omega) z
        omega
    rw [if_neg hp, if_pos (show d < 0 by omega), qn', qd']
    refine ⟨by omega, ?_, ?_, ?_, ?_⟩
    · rw [Int.natAbs_neg, hd]; exact big d'
    · rw [Int.neg_gcd, Int.gcd_neg]; exact cop
    · rw [hd, hn]; grind
    · rw [Int.natAbs_neg, hn]; exact big n'
/-- lowest terms are one -/
theorem low_one {N1 d1 N2 d2 : Int} (p1 : 1 ≤ d1) (p2 : 1 ≤ d2) (c1 : Int.gcd N1 d1 = 1) (c2 : Int.gcd N2 d2 = 1) (e : N1 * d2 = N2 * d1) : N1 = N2 ∧ d1 = d2 := by
  have en : N1.natAbs * d2.natAbs = N2.natAbs * d1.natAbs := by rw [← Int.natAbs_mul, ← Int.natAbs_mul, e]
  have k1 : Nat.Coprime N1.natAbs d1.natAbs := c1
  have k2 : Nat.Coprime N2.natAbs d2.natAbs := c2
  have a1 : d1.natAbs ∣ d2.natAbs := k1.symm.dvd_of_dvd_mul_left (by rw [en]; exact Nat.dvd_mul_left _ _)
  have a2 : d2.natAbs ∣ d1.natAbs := k2.symm.dvd_of_dvd_mul_left (by rw [← en]; exact Nat.dvd_mul_left _ _)
  have ed := Nat.dvd_antisymm a1 a2
  have ed : d1 = d2 := by omega
  subst ed
  exact ⟨Int.eq_of_mul_eq_mul_right (by omega) e, rfl⟩
/-! ### what the defs give -/
def rat (N E : Int) : D := .obj "Ratio" [("n", .int N), ("d", .int E)]
theorem isint_ok (n : Int) : m_is_integer [.int n] = .ok (.bl true) := by with_unfolding_all rfl
theorem eq0_ok (d : Int) : gEq (.int d) (.int 0) = some (.bl (decide (d = 0))) := rfl
theorem nd_ne : ¬ Str.ofString "n" = Str.ofString "d" := by decide
theorem init_ok (n d : Int) (h : d ≠ 0) (hs : d.natAbs < 1000) : ∃ N E, Low n d N E ∧ m_Ratio___init__ [.obj "Ratio" [], .int n, .int d] = .ok (.non, [rat N E]) := by
  refine ⟨_, _, low_ex n d h, ?_⟩
  have gp : 0 < Int.gcd n d := Int.gcd_pos_of_ne_zero_right n h
  have gl : Int.gcd n d ≤ d.natAbs := Int.gcd_le_natAbs_right n h
  have gz : ((Int.gcd n d : Nat) : Int) ≠ 0 := by omega
  have gs : ((Int.gcd n d : Nat) : Int).natAbs < 1073741824 := by omega
  have dv : ∀ x : Int, gDiv (.int x) (.int (Int.gcd n d : Nat)) = some (.int (x.fdiv (Int.gcd n d : Nat))) := fun x => by
    show (if _ then _ else _) = _
    rw [if_neg gz, if_pos gs]
  have hc := common_ok n d hs
  have ii := isint_ok
  generalize (Int.gcd n d : Nat) = g at *
  unfold m_Ratio___init__ runB s_Ratio___init__
  by_cases hp : 0 < d
  all_goals simp [sSeq, sIf, sDo, PV.tOr, PV.tNot, PV.tB, e1, e2, e1L, eL, PV.g1, eCall, M.lift, M.bind, M.ofO, M.pure, eVar, eC, look_zero, look_succ, aCons, aNil, PV.envOf, ii, asBl, sNx, eq0_ok, h, sAsg, put_eq, hc, sFldS, eIf, gGt, hp, dv, gAbs, gNeg, putA, endR, outsOf, rat, nd_ne]
end
end K01

open PySem PySem.Spec
open PyProof.Rows L2
set_option Elab.async false
set_option linter.all false
set_option maxRecDepth 100000
set_option maxHeartbeats 0
namespace K01
open PV
noncomputable section
def mkOf : R (D × List D) → R D
  | .ok (.non, [y]) => .ok y
  | .ok _ => .fail
  | .exc x => .exc x
  | .fail => .fail
def mk (n d : Int) : R D := mkOf (m_Ratio___init__ [.obj "Ratio" [], .int n, .int d])
theorem mk_ok (n d : Int) (h : d ≠ 0) (hs : d.natAbs < 1000) : ∃ N E, Low n d N E ∧ mk n d = .ok (rat N E) := by
  obtain ⟨N, E, l, e⟩ := init_ok n d h hs
  exact ⟨N, E, l, by unfold mk; rw [e]; rfl⟩
theorem mk_zero (n : Int) : mk n 0 = .exc (.refu (.str "zero")) := by with_unfolding_all rfl
theorem make_of {fa : M (List D)} {ρ ρ1 : PV.Env} {ds dflt : List D} {n d : Int} (h : fa ρ = .ok (ds, ρ1)) (e : ds ++ dflt = [.int n, .int d]) : eMake "Ratio" m_Ratio___init__ dflt fa ρ = upM ρ1 (mk n d) := by
  unfold eMake
  rw [M.bind_of h, e]
  unfold mk
  generalize m_Ratio___init__ [D.obj (Str.ofString "Ratio") [], D.int n, D.int d] = r
  rcases r with ⟨y, os⟩ | x | _
  · cases y <;> first | rfl | skip
    rcases os with _ | ⟨y, _ | ⟨_, _⟩⟩ <;> rfl
  · rfl
  · rfl
theorem f_n (N E : Int) : gFld "Ratio" "n" (rat N E) = some (.int N) := by with_unfolding_all rfl
theorem f_d (N E : Int) : gFld "Ratio" "d" (rat N E) = some (.int E) := by with_unfolding_all rfl
theorem chk_ok (N E : Int) : m_check_ratio [rat N E] = .ok .non := by with_unfolding_all rfl
theorem mulR {x y : Int} (h : y.natAbs < 1000) : mulOk x y = true := mulOk_r (by omega)
theorem mulL {x y : Int} (h : x.natAbs < 1000) : mulOk x y = true := by
  unfold mulOk
  rw [decide_eq_true (show x.natAbs < 2 ^ 64 by omega)]
  rfl
section
variable {N1 E1 N2 E2 : Int}
theorem fld_n {i : Nat} {ρ : PV.Env} {N E : Int} (h : look ρ i = some (rat N E)) : e1 (gFld "Ratio" "n") (eVar i) ρ = .ok (.int N, ρ) := by
  simp [e1, M.bind, M.ofO, M.pure, eVar, h, f_n]
theorem fld_d {i : Nat} {ρ : PV.Env} {N E : Int} (h : look ρ i = some (rat N E)) : e1 (gFld "Ratio" "d") (eVar i) ρ = .ok (.int E, ρ) := by
  simp [e1, M.bind, M.ofO, M.pure, eVar, h, f_d]
theorem after_chk {s : SM} {N1 E1 N2 E2 : Int} : sSeq (sDrop (eCall m_check_ratio (aCons (eVar 1) aNil))) s (PV.envOf 2 [rat N1 E1, rat N2 E2]) = s (PV.envOf 2 [rat N1 E1, rat N2 E2]) := by
  refine sSeq_of ?_
  unfold sDrop sDo
  rw [call_of (cons_of (var_of (v := rat N2 E2) rfl) nil_of) (chk_ok N2 E2)]
theorem bin_ret {f : M D} {N1 E1 N2 E2 : Int} {y : R D} (h : f (PV.envOf 2 [rat N1 E1, rat N2 E2]) = upM (PV.envOf 2 [rat N1 E1, rat N2 E2]) y) : runF 2 0 (sSeq (sDrop (eCall m_check_ratio (aCons (eVar 1) aNil))) (sRet f)) [rat N1 E1, rat N2 E2] = y := by
  unfold runF
  rw [after_chk]
  unfold sRet sDo
  rw [h]
  cases y <;> rfl
theorem add_ok (s1 : E1.natAbs < 1000) (s2 : E2.natAbs < 1000) : m_Ratio___add__ [rat N1 E1, rat N2 E2] = mk (N1 * E2 + N2 * E1) (E1 * E2) :=
  bin_ret (make_of (two_of (add_of (mul_of (fld_n rfl) (fld_d rfl) (mulR s2)) (mul_of (fld_n rfl) (fld_d rfl) (mulR s1))) (mul_of (fld_d rfl) (fld_d rfl) (mulR s2))) rfl)
theorem sub_ok (s1 : E1.natAbs < 1000) (s2 : E2.natAbs < 1000) : m_Ratio___sub__ [rat N1 E1, rat N2 E2] = mk (N1 * E2 - N2 * E1) (E1 * E2) :=
  bin_ret (make_of (two_of (sub_of (mul_of (fld_n rfl) (fld_d rfl) (mulR s2)) (mul_of (fld_n rfl) (fld_d rfl) (mulR s1))) (mul_of (fld_d rfl) (fld_d rfl) (mulR s2))) rfl)
theorem mulM_ok (s1 : N2.natAbs < 1000) (s2 : E2.natAbs < 1000) : m_Ratio___mul__ [rat N1 E1, rat N2 E2] = mk (N1 * N2) (E1 * E2) :=
  bin_ret (make_of (two_of (mul_of (fld_n rfl) (fld_n rfl) (mulR s1)) (mul_of (fld_d rfl) (fld_d rfl) (mulR s2))) rfl)
theorem over_ok (s1 : E1.natAbs < 1000) (s2 : E2.natAbs < 1000) : m_Ratio_over [rat N1 E1, rat N2 E2] = mk (N1 * E2) (E1 * N2) :=
  bin_ret (make_of (two_of (mul_of (fld_n rfl) (fld_d rfl) (mulR s2)) (mul_of (fld_d rfl) (fld_n rfl) (mulL s1))) rfl)
theorem neg_ok : m_Ratio___neg__ [rat N1 E1] = mk (-N1) E1 :=
  ret_of (make_of (two_of (neg_of (fld_n rfl)) (fld_d rfl)) rfl)
theorem size_ok : m_Ratio_size [rat N1 E1] = mk (if N1 < 0 then -N1 else N1) E1 :=
  ret_of (make_of (two_of (abs_of (fld_n rfl)) (fld_d rfl)) rfl)
theorem times_ok {k : Int} (h : k.natAbs < 1000) : m_Ratio_times [rat N1 E1, .int k] = mk (N1 * k) E1 :=
  ret_of (make_of (two_of (mul_of (fld_n rfl) (var_of rfl) (mulR h)) (fld_d rfl)) rfl)
end
end
end K01

open PySem PySem.Spec
open PyProof.Rows L2
set_option Elab.async false
set_option linter.all false
set_option maxRecDepth 100000
set_option maxHeartbeats 0
namespace K01
open PV
noncomputable section
/-! ### the law's own helpers, and the other methods -/
theorem isK_ok (N E : Int) : gIsK "Ratio" (rat N E) = some (.bl true) := by with_unfolding_all rfl
theorem whole_ok (n : Int) : m__law_is_whole [.int n] = .ok (.bl true) := by with_unfolding_all rfl
theorem says_ok (b c : Bool) : m__law_says [.bl b, .bl c] = .ok (.bl (decide (b = c))) := by cases b <;> cases c <;> with_unfolding_all rfl
theorem same_int (x y : Int) : m__law_same [.int x, .int y] = .ok (.bl (decide (x = y))) := by with_unfolding_all rfl
theorem sign_at (c : Int) : m__law_sign_at [.int c] = .ok (.int (if 0 < c then 1 else if c < 0 then -1 else 0)) := by
  refine ret_of ?_
  by_cases h : 0 < c
  · rw [if_pos h]
    exact eIf_t (tB_of ((gtI_of (var_of rfl) rfl).trans (by rw [decide_eq_true h]))) rfl
  · rw [if_neg h]
    refine eIf_f (tB_of ((gtI_of (var_of rfl) rfl).trans (by rw [decide_eq_false h]))) ?_
    by_cases k : c < 0
    · rw [if_pos k]
      exact eIf_t (tB_of ((ltI_of (var_of rfl) rfl).trans (by rw [decide_eq_true k]))) rfl
    · rw [if_neg k]
      exact eIf_f (tB_of ((ltI_of (var_of rfl) rfl).trans (by rw [decide_eq_false k]))) rfl
section
variable {N E N1 E1 N2 E2 n d : Int}
theorem fits_ok (p : 1 ≤ E) (s : E.natAbs < 1000) (g : Int.gcd N E = 1) (e : N * d = n * E) (sd : d.natAbs < 1000) : m__law_fits [rat N E, .int n, .int d] = .ok (.bl true) := by
  have hc := lcommon_ok N E s
  rw [g] at hc
  refine (seq_run (if_no ?_)).trans (ret_of ?_)
  · refine tOr_f (nope (e1_of (var_of rfl) (isK_ok N E))) ?_
    refine tOr_f (nope (call_of (cons_of (fld_n rfl) nil_of) (whole_ok N))) ?_
    refine tOr_f (nope (call_of (cons_of (fld_d rfl) nil_of) (whole_ok E))) ?_
    refine tOr_f (tB_of ((ltI_of (fld_d rfl) rfl).trans (by rw [decide_eq_false (by omega)]))) ?_
    exact tB_of ((neI_of (call_of (two_of (fld_n rfl) (fld_d rfl)) hc) rfl).trans rfl)
  · refine (eqI_of (mul_of (fld_n rfl) (var_of rfl) (mulR sd)) (mul_of (var_of rfl) (fld_d rfl) (mulR s))).trans ?_
    rw [decide_eq_true e]
    rfl
theorem eAnd_t {fa fb : M D} {ρ ρ1 ρ2 : PV.Env} {v : D} (h : fa ρ = .ok (.bl true, ρ1)) (k : fb ρ1 = .ok (v, ρ2)) : eAnd fa fb ρ = .ok (v, ρ2) := by
  unfold eAnd
  rw [M.bind_of h]
  exact k
theorem eAnd_f {fa fb : M D} {ρ ρ1 : PV.Env} (h : fa ρ = .ok (.bl false, ρ1)) : eAnd fa fb ρ = .ok (.bl false, ρ1) := by
  unfold eAnd
  rw [M.bind_of h]
  rfl
theorem eqM_ok : m_Ratio___eq__ [rat N1 E1, rat N2 E2] = .ok (.bl (decide (N1 = N2 ∧ E1 = E2))) := by
  refine ret_of (eAnd_t (e1_of (var_of rfl) (isK_ok N2 E2)) ?_)
  by_cases h : N1 = N2
  · refine (eAnd_t ((eqI_of (fld_n rfl) (fld_n rfl)).trans (by rw [decide_eq_true h])) (eqI_of (fld_d rfl) (fld_d rfl))).trans ?_
    by_cases k : E1 = E2
    · rw [decide_eq_true k, decide_eq_true ⟨h, k⟩]
    · rw [decide_eq_false k, decide_eq_false fun z => k z.2]
  · refine (eAnd_f ((eqI_of (fld_n rfl) (fld_n rfl)).trans (by rw [decide_eq_false h]))).trans ?_
    rw [decide_eq_false fun z => h z.1]
theorem less_ok (s1 : E1.natAbs < 1000) (s2 : E2.natAbs < 1000) : m_Ratio_less [rat N1 E1, rat N2 E2] = .ok (.bl (decide (N1 * E2 < N2 * E1))) :=
  bin_ret (ltI_of (mul_of (fld_n rfl) (fld_d rfl) (mulR s2)) (mul_of (fld_n rfl) (fld_d rfl) (mulR s1)))
theorem sign_ok : m_Ratio_sign [rat N E] = .ok (.int (if 0 < N then 1 else if N < 0 then -1 else 0)) := by
  refine ret_of ?_
  by_cases h : 0 < N
  · rw [if_pos h]
    exact eIf_t (tB_of ((gtI_of (fld_n rfl) rfl).trans (by rw [decide_eq_true h]))) rfl
  · rw [if_neg h]
    refine eIf_f (tB_of ((gtI_of (fld_n rfl) rfl).trans (by rw [decide_eq_false h]))) ?_
    by_cases k : N < 0
    · rw [if_pos k]
      exact eIf_t (tB_of ((ltI_of (fld_n rfl) rfl).trans (by rw [decide_eq_true k]))) rfl
    · rw [if_neg k]
      exact eIf_f (tB_of ((ltI_of (fld_n rfl) rfl).trans (by rw [decide_eq_false k]))) rfl
theorem zero_ok : m_Ratio_is_zero [rat N E] = .ok (.bl (decide (N = 0))) := ret_of (eqI_of (fld_n rfl) rfl)
theorem wholeR_ok : m_Ratio_is_whole [rat N E] = .ok (.bl (decide (E = 1))) := ret_of (eqI_of (fld_d rfl) rfl)
theorem div_ok (x : Int) {y : Int} (h : y ≠ 0) (s : y.natAbs < 1000) : gDiv (.int x) (.int y) = some (.int (x.fdiv y)) := by
  show (if _ then _ else _) = _
  rw [if_neg h, if_pos (show y.natAbs < 1073741824 by omega)]
theorem mod_ok (x : Int) {y : Int} (h : y ≠ 0) (s : y.natAbs < 1000) : gMod (.int x) (.int y) = some (.int (x.fmod y)) := by
  simp [gMod, h]
theorem floor_ok (h : E ≠ 0) (s : E.natAbs < 1000) : m_Ratio_floor [rat N E] = .ok (.int (N.fdiv E)) := ret_of (e2_of (fld_n rfl) (fld_d rfl) (div_ok N h s))
/-! the text -/
def rtx (N E : Int) : Str := if E = 1 then toString N else Str.ofString (toString N) ++ (Str.ofString "/" ++ Str.ofString (toString E))
theorem len_ok {i : Int} (h : i.natAbs.log2 < 1920) : (Str.ofString (toString i)).length ≤ 1921 := by
  rw [PySem.ofString_length]
  exact int_text_length_le (by decide) h
theorem small_ok {s : Str} {n : Nat} (h : s.length ≤ n) (k : n ≤ 100000) : small s.length = true := decide_eq_true (Nat.le_trans h k)
theorem fmt_ok {fa : M D} {ρ ρ1 : PV.Env} {i : Int} (ha : fa ρ = .ok (.int i, ρ1)) (h : i.natAbs.log2 < 1920) : e1 gFmt fa ρ = .ok (.str (toString i), ρ1) := e1_of ha (if_pos h)
theorem str_ok {fa : M D} {ρ ρ1 : PV.Env} {i : Int} (ha : fa ρ = .ok (.int i, ρ1)) (h : i.natAbs.log2 < 1920) : e1L gStr fa ρ = .ok (.str (toString i), ρ1) := e1L_of ha (if_pos h)
theorem js_nil {acc : Str} {ρ : PV.Env} : eJs [] acc ρ = .ok (.str acc, ρ) := rfl
theorem js_cons {g : M D} {r : List (M D)} {acc y : Str} {ρ ρ1 : PV.Env} (h : g ρ = .ok (.str y, ρ1)) (hl : small (acc ++ y).length = true) : eJs (g :: r) acc ρ = eJs r (acc ++ y) ρ1 := by
  show M.bind g _ ρ = _
  rw [M.bind_of h]
  show (if small (acc ++ y).length = true then eJs r (acc ++ y) else fun _ => .fail) ρ1 = _
  rw [if_pos hl]
theorem strM_ok (hN : N.natAbs.log2 < 1920) (hE : E.natAbs.log2 < 1920) : m_Ratio___str__ [rat N E] = .ok (.str (rtx N E)) := by
  have l1 := len_ok hN
  have l2 := len_ok hE
  have l3 : (Str.ofString "/").length = 1 := by decide
  have l0 : Str.empty.length = 0 := by decide
  unfold rtx
  by_cases h : E = 1
  · rw [if_pos h]
    unfold m_Ratio___str__ runF s_Ratio___str__
    have t : PV.tB (e2 gEq (e1 (gFld "Ratio" "d") (eVar 0)) (eC (.int 1))) (PV.envOf 1 [rat N E]) = .ok (true, PV.envOf 1 [rat N E]) := tB_of ((eqI_of (fld_d rfl) rfl).trans (by rw [decide_eq_true h]))
    have e : sIf (PV.tB (e2 gEq (e1 (gFld "Ratio" "d") (eVar 0)) (eC (.int 1)))) (sRet (e1L gStr (e1 (gFld "Ratio" "n") (eVar 0)))) sNx (PV.envOf 1 [rat N E]) = .rt (.str (toString N)) (PV.envOf 1 [rat N E]) := by
      unfold sIf
      rw [sDo_of t]
      unfold sRet
      exact sDo_of (str_ok (fld_n rfl) hN)
    unfold sSeq
    rw [e]
  · rw [if_neg h]
    refine (seq_run (if_no (tB_of ((eqI_of (fld_d rfl) rfl).trans (by rw [decide_eq_false h]))))).trans (ret_of ?_)
    rw [js_cons (fmt_ok (fld_n rfl) hN) (small_ok (n := 2000) (by rw [strLen_append]; omega) (by omega)), js_cons (y := Str.ofString "/") rfl (small_ok (n := 2000) (by rw [strLen_append, strLen_append]; omega) (by omega)),
      js_cons (fmt_ok (fld_d rfl) hE) (small_ok (n := 4000) (by rw [strLen_append, strLen_append, strLen_append]; omega) (by omega)), js_nil, Str.empty_append, Str.append_assoc]
    rfl
theorem strOk_list (z : Str) : PyData.strOk z = z.cps.toList.all fun c => decide (c < 0x110000) := by
  unfold PyData.strOk
  rw [← Array.all_toList]
theorem char_lt (c : Char) : c.toNat < 0x110000 := by
  have v := c.valid
  unfold UInt32.isValidChar Nat.isValidChar at v
  show c.val.toNat < _
  omega
theorem strOk_of (s : String) : PyData.strOk (Str.ofString s) = true := by
  rw [strOk_list, PyProof.Rows.signs_ofString, List.all_map, List.all_eq_true]
  exact fun c _ => decide_eq_true (char_lt c)
theorem strOk_app {a b : Str} (ha : PyData.strOk a = true) (hb : PyData.strOk b = true) : PyData.strOk (a ++ b) = true := by
  rw [strOk_list] at ha hb ⊢
  rw [PyProof.Rows.cps_toList_append, List.all_append, ha, hb]
  rfl
theorem gEq_str {z : Str} (k : PyData.strOk z = true) : gEq (.str z) (.str z) = some (.bl true) := by
  have e : eqD (.str z) (.str z) = (match PyData.strOk z, PyData.strOk z with
    | true, true => some (z == z)
    | _, _ => none) := rfl
  unfold gEq
  rw [e, k, beq_self_eq_true]
  rfl
theorem same_str {z : Str} (h : PyData.strOk z = true) : m__law_same [.str z, .str z] = .ok (.bl true) := by
  have t1 : PV.tB (e1 (gIsT .tup) (eVar 1)) (PV.envOf 3 [.str z, .str z]) = .ok (false, PV.envOf 3 [.str z, .str z]) := tB_of (e1_of (var_of rfl) rfl)
  have t2 : PV.tB (e1 (gIsT .str) (eVar 1)) (PV.envOf 3 [.str z, .str z]) = .ok (true, PV.envOf 3 [.str z, .str z]) := tB_of (e1_of (var_of rfl) rfl)
  refine (seq_run (if_no t1)).trans ?_
  unfold runF sSeq sIf
  rw [sDo_of t2]
  have e : sRet (eAnd (e1 (gIsT .str) (eVar 0)) (e2 gEq (eVar 0) (eVar 1))) (PV.envOf 3 [.str z, .str z]) = .rt (.bl true) (PV.envOf 3 [.str z, .str z]) := by
    unfold sRet
    exact sDo_of (eAnd_t (e1_of (var_of rfl) rfl) (e2_of (var_of rfl) (var_of rfl) (gEq_str h)))
  simp only [if_true, e]
theorem rtx_ok : PyData.strOk (rtx N E) = true := by
  unfold rtx
  split
  · exact strOk_of _
  · exact strOk_app (strOk_of _) (strOk_app (strOk_of _) (strOk_of _))
end
end
end K01

open PySem PySem.Spec
open PyProof.Rows L2
set_option Elab.async false
set_option linter.all false
set_option maxRecDepth 100000
set_option maxHeartbeats 0
namespace K01
open PV
/-! ### numbers across -/
section
variable {a b c d N1 E1 N2 E2 zN zE : Int}
theorem cancel {k x y : Int} (h : k ≠ 0) (e : k * x = k * y) : x = y := Int.eq_of_mul_eq_mul_left h e
theorem x_add (h1 : N1 * b = a * E1) (h2 : N2 * d = c * E2) (p : E1 ≠ 0) (q : E2 ≠ 0) (h : zN * (E1 * E2) = (N1 * E2 + N2 * E1) * zE) : zN * (b * d) = (a * d + c * b) * zE :=
  cancel (Int.mul_ne_zero p q) (by grind)
theorem x_sub (h1 : N1 * b = a * E1) (h2 : N2 * d = c * E2) (p : E1 ≠ 0) (q : E2 ≠ 0) (h : zN * (E1 * E2) = (N1 * E2 - N2 * E1) * zE) : zN * (b * d) = (a * d - c * b) * zE :=
  cancel (Int.mul_ne_zero p q) (by grind)
theorem x_mul (h1 : N1 * b = a * E1) (h2 : N2 * d = c * E2) (p : E1 ≠ 0) (q : E2 ≠ 0) (h : zN * (E1 * E2) = N1 * N2 * zE) : zN * (b * d) = a * c * zE :=
  cancel (Int.mul_ne_zero p q) (by grind)
theorem x_neg (h1 : N1 * b = a * E1) (p : E1 ≠ 0) (h : zN * E1 = -N1 * zE) : zN * b = -a * zE := cancel p (by grind)
theorem x_times {k : Int} (h1 : N1 * b = a * E1) (p : E1 ≠ 0) (h : zN * E1 = N1 * k * zE) : zN * b = a * k * zE := cancel p (by grind)
theorem x_over (h1 : N1 * b = a * E1) (h2 : N2 * d = c * E2) (p : E1 ≠ 0) (q : E2 ≠ 0) (r : d ≠ 0) (n : N2 ≠ 0) (h : zN * (E1 * N2) = N1 * E2 * zE) : zN * (b * c) = a * d * zE :=
  cancel (Int.mul_ne_zero (Int.mul_ne_zero p q) n) (by grind)
/-- with the sign on top -/
def upOf (b : Int) : Int := if 0 < b then 1 else -1
def absOf (b : Int) : Int := if b < 0 then -b else b
theorem up_abs (h : b ≠ 0) : b * upOf b = absOf b ∧ 0 < absOf b ∧ (upOf b = 1 ∨ upOf b = -1) := by
  unfold upOf absOf
  by_cases p : 0 < b
  · rw [if_pos p, if_neg (by omega)]; omega
  · rw [if_neg p, if_pos (by omega)]; omega
theorem base (h : b ≠ 0) (h1 : N1 * b = a * E1) : N1 * absOf b = a * upOf b * E1 := by
  obtain ⟨e, _, _⟩ := up_abs h
  rw [← e]
  grind
theorem sgn {A B : Int} (p : 0 < B) (q : 0 < E1) (e : N1 * B = A * E1) : (0 < N1 ↔ 0 < A) ∧ (N1 < 0 ↔ A < 0) := by
  have i1 := Int.mul_lt_mul_right (a := B) (b := 0) (c := N1) p
  have i2 := Int.mul_lt_mul_right (a := E1) (b := 0) (c := A) q
  have i3 := Int.mul_lt_mul_right (a := B) (b := N1) (c := 0) p
  have i4 := Int.mul_lt_mul_right (a := E1) (b := A) (c := 0) q
  rw [Int.zero_mul] at i1 i2 i3 i4
  rw [e] at i1 i3
  exact ⟨i1.symm.trans i2, i3.symm.trans i4⟩
theorem x_less (h : b ≠ 0) (hd : 0 < d) (h1 : N1 * b = a * E1) (h2 : N2 * d = c * E2) (p : 0 < E1) (q : 0 < E2) : N1 * E2 < N2 * E1 ↔ a * d * upOf b < c * b * upOf b := by
  obtain ⟨e, pb, _⟩ := up_abs h
  have hb := base h h1
  have i1 := Int.mul_lt_mul_right (a := absOf b * d) (b := N1 * E2) (c := N2 * E1) (Int.mul_pos pb hd)
  have i2 := Int.mul_lt_mul_right (a := E1 * E2) (b := a * d * upOf b) (c := c * b * upOf b) (Int.mul_pos p q)
  have e1 : N1 * E2 * (absOf b * d) = a * d * upOf b * (E1 * E2) := by grind
  have e2 : N2 * E1 * (absOf b * d) = c * b * upOf b * (E1 * E2) := by
    rw [← e]
    grind
  rw [e1, e2] at i1
  exact i1.symm.trans i2
theorem x_floor (h : b ≠ 0) (h1 : N1 * b = a * E1) (p : 0 < E1) : N1.fdiv E1 = (a * upOf b).fdiv (absOf b) := by
  obtain ⟨_, pb, _⟩ := up_abs h
  have hb := base h h1
  rw [Int.fdiv_eq_ediv_of_nonneg _ (by omega), Int.fdiv_eq_ediv_of_nonneg _ (by omega), ← Int.mul_ediv_mul_of_pos N1 E1 pb, ← Int.mul_ediv_mul_of_pos (a * upOf b) (absOf b) p, Int.mul_comm (absOf b) N1, hb, Int.mul_comm E1 (absOf b), Int.mul_comm E1]
theorem x_whole (h : b ≠ 0) (h1 : N1 * b = a * E1) (p : 0 < E1) (g : Int.gcd N1 E1 = 1) : E1 = 1 ↔ a.fmod (absOf b) = 0 := by
  obtain ⟨e, pb, u⟩ := up_abs h
  have hb := base h h1
  have uu : upOf b * upOf b = 1 := by rcases u with u | u <;> rw [u] <;> rfl
  rw [Int.fmod_eq_emod_of_nonneg a (show 0 ≤ absOf b by omega)]
  constructor
  · intro e1
    subst e1
    apply Int.emod_eq_zero_of_dvd
    exact ⟨N1 * upOf b, by grind⟩
  · intro z
    obtain ⟨m, hm⟩ := Int.dvd_of_emod_eq_zero z
    have k : N1 = m * upOf b * E1 := cancel (show absOf b ≠ 0 by omega) (by grind)
    have dv : E1 ∣ (Int.gcd N1 E1 : Int) := Int.dvd_coe_gcd ⟨m * upOf b, by rw [k, Int.mul_comm]⟩ (Int.dvd_refl E1)
    rw [g] at dv
    exact Int.eq_one_of_dvd_one (by omega) dv
theorem x_size (h : b ≠ 0) (h1 : N1 * b = a * E1) (p : 0 < E1) (hz : zN * E1 = (if N1 < 0 then -N1 else N1) * zE) : zN * absOf b = absOf a * zE := by
  obtain ⟨e, pb, u⟩ := up_abs h
  have hb := base h h1
  obtain ⟨s1, s2⟩ := sgn pb p hb
  have key : (if N1 < 0 then -N1 else N1) * absOf b = absOf a * E1 := by
    unfold absOf at *
    rcases u with u | u <;> rw [u] at hb s1 s2 <;> (split <;> split <;> split <;> grind)
  exact cancel (show E1 ≠ 0 by omega) (by grind)
end
end K01

open PySem PySem.Spec
open PyProof.Rows L2
set_option Elab.async false
set_option linter.all false
set_option maxRecDepth 100000
set_option maxHeartbeats 0
namespace K01
open PV
noncomputable section
def malD : D := .tup [.str "malformed", .non]
def words : List Str := ["plus", "less", "times", "below", "over"]
def bads : List D := [.non, .bl true, .str "1", .tup [.int 1], .int 5]
theorem bad_ok (N E : Int) : ∀ w ∈ words, ∀ v ∈ bads, m__law_result [.fn "_law_did", .tup [.str w, rat N E, v]] = .ok malD := by
  intro w hw v hv
  simp only [words, bads, List.mem_cons, List.mem_singleton, List.not_mem_nil, or_false] at hw hv
  rcases hw with rfl | rfl | rfl | rfl | rfl <;> rcases hv with rfl | rfl | rfl | rfl | rfl <;> with_unfolding_all rfl
theorem made_bad : ∀ v ∈ [D.non, .bl true, .str "1", .tup [.int 1]], m__law_result [.fn "_law_made", .tup [v, .int 1]] = .ok malD ∧ m__law_result [.fn "_law_made", .tup [.int 1, v]] = .ok malD := by
  intro v hv
  simp only [List.mem_cons, List.mem_singleton, List.not_mem_nil, or_false] at hv
  rcases hv with rfl | rfl | rfl | rfl <;> constructor <;> with_unfolding_all rfl
theorem made_zero (a : Int) : m__law_result [.fn "_law_made", .tup [.int a, .int 0]] = .ok (.tup [.str "refused", .str "zero"]) := by with_unfolding_all rfl
def told : R D → R D
  | .ok d => .ok (.tup [.str "told", d])
  | .exc .mal => .ok malD
  | .exc (.refu e) => .ok (.tup [.str "refused", e])
  | .exc x => .exc x
  | .fail => .fail
theorem result3 (p q r : D) : m__law_result [.fn "_law_did", .tup [p, q, r]] = told (m__law_did [p, q, r]) := by
  generalize e0 : PV.envOf 3 [.fn "_law_did", .tup [p, q, r]] = ρ0
  have v0 : look ρ0 0 = some (.fn "_law_did") := by rw [← e0]; rfl
  have v1 : look ρ0 1 = some (.tup [p, q, r]) := by rw [← e0]; rfl
  have ll : ρ0.length = 3 := by rw [← e0]; rfl
  have ln : e1L gLen (eVar 1) ρ0 = .ok (.int 3, ρ0) := e1L_of (var_of v1) rfl
  have ca : aCons (e2 gIx (eVar 1) (eC (.int 0))) (aCons (e2 gIx (eVar 1) (eC (.int 1))) (aCons (e2 gIx (eVar 1) (eC (.int 2))) aNil)) ρ0 = .ok ([p, q, r], ρ0) :=
    cons_of (e2_of (var_of v1) rfl rfl) (cons_of (e2_of (var_of v1) rfl rfl) (cons_of (e2_of (var_of v1) rfl rfl) nil_of))
  have cl : eCallL 0 held (aCons (e2 gIx (eVar 1) (eC (.int 0))) (aCons (e2 gIx (eVar 1) (eC (.int 1))) (aCons (e2 gIx (eVar 1) (eC (.int 2))) aNil))) ρ0 = upM ρ0 (m__law_did [p, q, r]) := by
    have hh : held "_law_did" = some (3, m__law_did) := rfl
    unfold eCallL
    simp only [v0, hh]
    rw [M.bind_of ca]
    show (match m__law_did [p, q, r] with | .ok d => R.ok (d, ρ0) | .exc x => .exc x | .fail => .fail) = _
    cases m__law_did [p, q, r] <;> rfl
  have q1 : PV.tB (e2 gEq (e1L gLen (eVar 1)) (eC (.int 1))) ρ0 = .ok (false, ρ0) := (tB_of (eqI_of ln rfl)).trans rfl
  have q2 : PV.tB (e2 gEq (e1L gLen (eVar 1)) (eC (.int 2))) ρ0 = .ok (false, ρ0) := (tB_of (eqI_of ln rfl)).trans rfl
  have q3 : PV.tB (e2 gEq (e1L gLen (eVar 1)) (eC (.int 3))) ρ0 = .ok (true, ρ0) := (tB_of (eqI_of ln rfl)).trans rfl
  unfold m__law_result runF s__law_result
  rw [e0]
  unfold sTryR
  rw [sSeq_of (if_no q1), sSeq_of (if_no q2)]
  unfold sSeq sIf
  rw [sDo_of q3]
  unfold sRet sDo
  have et : eTup (aCons (eC (.str "told")) (aCons (eCallL 0 held (aCons (e2 gIx (eVar 1) (eC (.int 0))) (aCons (e2 gIx (eVar 1) (eC (.int 1))) (aCons (e2 gIx (eVar 1) (eC (.int 2))) aNil)))) aNil)) ρ0 = (match m__law_did [p, q, r] with
      | .ok d => .ok (.tup [.str "told", d], ρ0)
      | .exc x => .exc x
      | .fail => .fail) := by
    generalize m__law_did [p, q, r] = out at *
    generalize eCallL 0 held (aCons (e2 gIx (eVar 1) (eC (.int 0))) (aCons (e2 gIx (eVar 1) (eC (.int 1))) (aCons (e2 gIx (eVar 1) (eC (.int 2))) aNil))) = w at *
    rcases out with d | x | _
    · exact tup_of (cons_of rfl (cons_of cl nil_of)) (by simp)
    · simp [eTup, eL, aCons, M.bind, M.pure, eC, cl, upM]
    · simp [eTup, eL, aCons, M.bind, M.pure, eC, cl, upM]
  simp only [if_true, et]
  generalize m__law_did [p, q, r] = out
  rcases out with d | x | _
  · rfl
  · cases x with
    | mal => rfl
    | refu e => simp only [ll]; rfl
    | _ => rfl
  · rfl
end
end K01

open PySem PySem.Spec
open PyProof.Rows L2
set_option Elab.async false
set_option linter.all false
set_option maxRecDepth 100000
set_option maxHeartbeats 0
namespace K01
open PV
noncomputable section
/-! ### the law's parts, one by one -/
theorem eIf_no {t : M Bool} {fa fb : M D} {ρ ρ1 : PV.Env} (h : t ρ = .ok (false, ρ1)) : eIf t fa fb ρ = fb ρ1 := by
  unfold eIf
  rw [M.bind_of h]
  rfl
theorem did_over {N1 E1 N2 E2 : Int} (s1 : E1.natAbs < 1000) (s2 : E2.natAbs < 1000) : m__law_did [.str "over", rat N1 E1, rat N2 E2] = mk (N1 * E2) (E1 * N2) := by
  refine (seq_run (if_no (tB_of (e2_of (var_of rfl) rfl (by with_unfolding_all rfl))))).trans ((seq_run (if_no (tB_of (e2_of (var_of rfl) rfl (by with_unfolding_all rfl))))).trans ((seq_run (if_no (tB_of (e2_of (var_of rfl) rfl (by with_unfolding_all rfl))))).trans (ret_of ?_)))
  refine (eIf_no (tB_of (e2_of (var_of rfl) rfl (by with_unfolding_all rfl)))).trans ((meth_of (fs := [("n", .int N1), ("d", .int E1)]) (var_of rfl) (cons_of (var_of (v := rat N2 E2) rfl) nil_of) rfl).trans ?_)
  rw [← over_ok s1 s2]
  rfl
structure Fit (v : D) (n d : Int) : Prop where
  ex : ∃ N E, v = rat N E ∧ 1 ≤ E ∧ E.natAbs < 1000 ∧ Int.gcd N E = 1 ∧ N * d = n * E
  sd : d.natAbs < 1000
theorem Fit.ok {v : D} {n d : Int} (h : Fit v n d) : m__law_fits [v, .int n, .int d] = .ok (.bl true) := by
  obtain ⟨N, E, rfl, p, s, g, e⟩ := h.ex
  exact fits_ok p s g e h.sd
theorem fit_of {n0 d0 N E n d : Int} (l : Low n0 d0 N E) (s : d0.natAbs < 1000) (sd : d.natAbs < 1000) (e : N * d = n * E) : Fit (rat N E) n d := ⟨⟨N, E, rfl, l.pos, Nat.lt_of_le_of_lt l.small s, l.low, e⟩, sd⟩
structure Nums (a b c d k N1 E1 N2 E2 : Int) : Prop where
  b0 : b ≠ 0
  bs : b.natAbs ≤ 30
  cs : c.natAbs ≤ 20
  d0 : 1 ≤ d
  ds : d.natAbs ≤ 30
  ks : k.natAbs ≤ 10
  as : a.natAbs < 2 ^ 1920
  l1 : Low a b N1 E1
  l2 : Low c d N2 E2
theorem log_lt {n : Nat} (h : n < 2 ^ 1920) : n.log2 < 1920 := by
  by_cases z : n = 0
  · rw [z]; decide
  · exact (Nat.log2_lt z).mpr h
section
variable {a b c d k N1 E1 N2 E2 : Int}
theorem Nums.e1 (Z : Nums a b c d k N1 E1 N2 E2) : E1.natAbs ≤ 30 := Nat.le_trans Z.l1.small Z.bs
theorem Nums.e2 (Z : Nums a b c d k N1 E1 N2 E2) : E2.natAbs ≤ 30 := Nat.le_trans Z.l2.small Z.ds
theorem Nums.n2 (Z : Nums a b c d k N1 E1 N2 E2) : N2.natAbs ≤ 20 := Nat.le_trans Z.l2.top Z.cs
theorem prod_lt {x y : Int} (hx : x.natAbs ≤ 30) (hy : y.natAbs ≤ 30) : (x * y).natAbs < 1000 := by
  rw [Int.natAbs_mul]
  exact Nat.lt_of_le_of_lt (Nat.mul_le_mul hx hy) (by decide)
theorem abs_abs (x : Int) : (absOf x).natAbs = x.natAbs := by unfold absOf; split <;> omega
/-- the rows that the law asks -/
theorem rows_ok (Z : Nums a b c d k N1 E1 N2 E2) : ∃ v2 v3 v4 v5 v6 v7 v8 : D, mk a 1 = .ok v2 ∧ m_Ratio___add__ [rat N1 E1, rat N2 E2] = .ok v3 ∧ m_Ratio___sub__ [rat N1 E1, rat N2 E2] = .ok v4 ∧ m_Ratio___mul__ [rat N1 E1, rat N2 E2] = .ok v5 ∧ m_Ratio___neg__ [rat N1 E1] = .ok v6 ∧ m_Ratio_times [rat N1 E1, .int k] = .ok v7 ∧ m_Ratio_size [rat N1 E1] = .ok v8 ∧
    Fit (rat N1 E1) a b ∧ Fit v2 a 1 ∧ Fit v3 (a * d + c * b) (b * d) ∧ Fit v4 (a * d - c * b) (b * d) ∧ Fit v5 (a * c) (b * d) ∧ Fit v6 (-a) b ∧ Fit v7 (a * k) b ∧ Fit v8 (absOf a) (absOf b) := by
  have s1 := Z.e1
  have s2 := Z.e2
  have s3 := Z.n2
  have p1 := Z.l1.pos
  have p2 := Z.l2.pos
  have hbs := Z.bs
  have hds := Z.ds
  have hks := Z.ks
  have h1 := Z.l1.same
  have h2 := Z.l2.same
  have z1 : E1 ≠ 0 := by omega
  have z2 : E2 ≠ 0 := by omega
  have ee := Int.mul_ne_zero z1 z2
  have es := prod_lt s1 s2
  have bd := prod_lt hbs hds
  obtain ⟨n2, e2, m2, q2⟩ := mk_ok a 1 (by decide) (by decide)
  obtain ⟨n3, e3, m3, q3⟩ := mk_ok (N1 * E2 + N2 * E1) (E1 * E2) ee es
  obtain ⟨n4, e4, m4, q4⟩ := mk_ok (N1 * E2 - N2 * E1) (E1 * E2) ee es
  obtain ⟨n5, e5, m5, q5⟩ := mk_ok (N1 * N2) (E1 * E2) ee es
  obtain ⟨n6, e6, m6, q6⟩ := mk_ok (-N1) E1 z1 (by omega)
  obtain ⟨n7, e7, m7, q7⟩ := mk_ok (N1 * k) E1 z1 (by omega)
  obtain ⟨n8, e8, m8, q8⟩ := mk_ok (if N1 < 0 then -N1 else N1) E1 z1 (by omega)
  refine ⟨_, _, _, _, _, _, _, q2, (add_ok (by omega) (by omega)).trans q3, (sub_ok (by omega) (by omega)).trans q4, (mulM_ok (by omega) (by omega)).trans q5, neg_ok.trans q6, (times_ok (by omega)).trans q7, size_ok.trans q8, ?_⟩
  refine ⟨fit_of Z.l1 (by omega) (by omega) h1, fit_of m2 (by decide) (by decide) m2.same, fit_of m3 es bd (x_add h1 h2 z1 z2 m3.same), fit_of m4 es bd (x_sub h1 h2 z1 z2 m4.same), fit_of m5 es bd (x_mul h1 h2 z1 z2 m5.same), fit_of m6 (by omega) (by omega) (x_neg h1 z1 m6.same), fit_of m7 (by omega) (by omega) (x_times h1 z1 m7.same), fit_of m8 (by omega) (by rw [abs_abs]; omega) (x_size Z.b0 h1 (by omega) m8.same)⟩
end
theorem par_of {j n : Nat} {is : List Nat} {f : M (List D)} {ds : List D} {L : List (Nat × D)} {ρ : PV.Env} (h : f ρ = .ok (ds, ρ)) (A : Ag j n L ρ) (hi : ∀ i ∈ is, i < n ∧ i ≠ j) (hl : is.length = ds.length) : ∃ ρ', Ag j n ((is.zip ds).reverse ++ L) ρ' ∧ ∀ k, seqL [sPar is f] k ρ = k ρ' :=
  ⟨setAll is ds ρ, A.all is ds hi hl, fun k => sSeq_of (sDo_of h)⟩
theorem asg_of {j n i : Nat} {f : M D} {d : D} {L : List (Nat × D)} {ρ : PV.Env} (h : f ρ = .ok (d, ρ)) (A : Ag j n L ρ) (hi : i < n) (hj : i ≠ j) : ∃ ρ', Ag j n ((i, d) :: L) ρ' ∧ ∀ k, seqL [sAsg i f] k ρ = k ρ' :=
  ⟨ρ.set i (some d), A.cons hi hj, fun k => sSeq_of (by rw [sAsg_def]; exact sDo_of h)⟩
theorem no_of {s : SM} {ρ : PV.Env} (h : s ρ = .nx ρ) : ∀ k, seqL [s] k ρ = k ρ := fun k => sSeq_of h
theorem made_of {fa : M (List D)} {ρ : PV.Env} {n d : Int} {v : D} (h : fa ρ = .ok ([.int n, .int d], ρ)) (e : mk n d = .ok v) : eMake "Ratio" m_Ratio___init__ [] fa ρ = .ok (v, ρ) := (make_of h rfl).trans (by rw [e]; rfl)
theorem made1_of {fa : M (List D)} {ρ : PV.Env} {n : Int} {v : D} (h : fa ρ = .ok ([.int n], ρ)) (e : mk n 1 = .ok v) : eMake "Ratio" m_Ratio___init__ [.int 1] fa ρ = .ok (v, ρ) := (make_of h rfl).trans (by rw [e]; rfl)
theorem op_of {mm : List D → R D} {g : D → D → Option D} {fa fb : M D} {ρ : PV.Env} {N E : Int} {w v : D} (ha : fa ρ = .ok (rat N E, ρ)) (hb : fb ρ = .ok (w, ρ)) (hr : rightD "Ratio" w = true) (h : mm [rat N E, w] = .ok v) : eOpX "Ratio" mm g fa fb ρ = .ok (v, ρ) :=
  (opx_of ha hb hr).trans (by show upM ρ (mm [rat N E, w]) = _; rw [h]; rfl)
theorem met_of {m : Str} {mm : List D → R D} {fa : M D} {fl : M (List D)} {l : List D} {ρ : PV.Env} {N E : Int} {v : D} (ha : fa ρ = .ok (rat N E, ρ)) (hl : fl ρ = .ok (l, ρ)) (no : List.lookup m [("n", D.int N), ("d", D.int E)] = none) (h : mm (rat N E :: l) = .ok v) : eMethC "Ratio" m mm fa fl ρ = .ok (v, ρ) :=
  (meth_of ha hl no).trans (by show upM ρ (mm (rat N E :: l)) = _; rw [h]; rfl)
theorem neg1_of {mm : List D → R D} {fa : M D} {ρ : PV.Env} {N E : Int} {v : D} (ha : fa ρ = .ok (rat N E, ρ)) (h : mm [rat N E] = .ok v) : e1X "Ratio" mm fa ρ = .ok (v, ρ) := (e1x_of ha).trans (by show upM ρ (mm [rat N E]) = _; rw [h]; rfl)
end
end K01

open PySem PySem.Spec
open PyProof.Rows L2
set_option Elab.async false
set_option linter.all false
set_option maxRecDepth 100000
set_option maxHeartbeats 0
namespace K01
open PV
noncomputable section
abbrev L5 (a b c d k W : Int) : List (Nat × D) := [(8, .int k), (7, .int d), (6, .int c), (5, .int b), (4, .int a), (2, .int W)]
abbrev L9 (a b c d k W N1 E1 N2 E2 : Int) : List (Nat × D) := (11, .int (upOf b)) :: (10, rat N2 E2) :: (9, rat N1 E1) :: L5 a b c d k W
section
variable {a b c d k W N1 E1 N2 E2 : Int} {ρ : PV.Env}
theorem q5 (h1 : mk a b = .ok (rat N1 E1)) (h2 : mk c d = .ok (rat N2 E2)) (A : Ag 1 21 (L5 a b c d k W) ρ) : ∃ ρ', Ag 1 21 ((10, rat N2 E2) :: (9, rat N1 E1) :: L5 a b c d k W) ρ' ∧ ∀ kk, seqL [g5] kk ρ = kk ρ' :=
  par_of (is := [9, 10]) (ds := [rat N1 E1, rat N2 E2]) (cons_of (made_of (two_of (var_of (A.at_ 4 _ rfl)) (var_of (A.at_ 5 _ rfl))) h1) (cons_of (made_of (two_of (var_of (A.at_ 6 _ rfl)) (var_of (A.at_ 7 _ rfl))) h2) nil_of)) A (by decide) rfl
theorem q6 (A : Ag 1 21 ((10, rat N2 E2) :: (9, rat N1 E1) :: L5 a b c d k W) ρ) : ∃ ρ', Ag 1 21 (L9 a b c d k W N1 E1 N2 E2) ρ' ∧ ∀ kk, seqL [g6] kk ρ = kk ρ' := by
  refine asg_of (i := 11) ?_ A (by decide) (by decide)
  have g := gtI_of (fb := eC (.int 0)) (y := 0) (ρ2 := ρ) (var_of (A.at_ 5 (.int b) rfl)) rfl
  unfold upOf
  by_cases p : 0 < b
  · rw [if_pos p]
    exact eIf_t (tB_of (g.trans (by rw [decide_eq_true p]))) rfl
  · rw [if_neg p]
    exact eIf_f (tB_of (g.trans (by rw [decide_eq_false p]))) rfl
/-- what is asked of the Ratios -/
theorem q79 (Z : Nums a b c d k N1 E1 N2 E2) (A : Ag 1 21 (L9 a b c d k W N1 E1 N2 E2) ρ) : ∃ ρ', Ag 1 21 (L9 a b c d k W N1 E1 N2 E2) ρ' ∧ ∀ kk, seqL [g7, g8, g9] kk ρ = kk ρ' := by
  obtain ⟨v2, v3, v4, v5, v6, v7, v8, h2, h3, h4, h5, h6, h7, h8, f1, f2, f3, f4, f5, f6, f7, f8⟩ := rows_ok Z
  have hds := Z.ds
  have hbs := Z.bs
  have hcs := Z.cs
  have hks := Z.ks
  have mu : ∀ {x y : Int}, y.natAbs ≤ 30 → mulOk x y = true := fun h => mulR (by omega)
  have i4 : ∀ {ρ : PV.Env} {L : List (Nat × D)}, Ag 1 21 (L ++ L9 a b c d k W N1 E1 N2 E2) ρ → L = [] ∨ (∃ v, L = [(12, v)]) → look ρ 4 = some (.int a) ∧ look ρ 5 = some (.int b) ∧ look ρ 6 = some (.int c) ∧ look ρ 7 = some (.int d) ∧ look ρ 8 = some (.int k) ∧ look ρ 9 = some (rat N1 E1) ∧ look ρ 10 = some (rat N2 E2) := by
    intro ρ L A h
    rcases h with rfl | ⟨v, rfl⟩ <;> exact ⟨A.at_ 4 _ rfl, A.at_ 5 _ rfl, A.at_ 6 _ rfl, A.at_ 7 _ rfl, A.at_ 8 _ rfl, A.at_ 9 _ rfl, A.at_ 10 _ rfl⟩
  obtain ⟨l4, l5, l6, l7, l8, l9, l10⟩ := i4 (L := []) A (.inl rfl)
  have va := var_of l4
  have vb := var_of l5
  have vc := var_of l6
  have vd := var_of l7
  have vx := var_of l9
  have vy := var_of l10
  have ad := mul_of va vd (mu hds)
  have cb := mul_of vc vb (mu hbs)
  have bd := mul_of vb vd (mu hds)
  have s7 : eLst (aCons (eTup (aCons (eVar 9) (aCons (eVar 4) (aCons (eVar 5) (aNil))))) (aCons (eTup (aCons (eMake "Ratio" m_Ratio___init__ [.int 1] (aCons (eVar 4) (aNil))) (aCons (eVar 4) (aCons (eC (.int 1)) (aNil))))) (aCons (eTup (aCons (eOpX "Ratio" m_Ratio___add__ gAdd (eVar 9) (eVar 10)) (aCons (e2 gAdd (e2 gMul (eVar 4) (eVar 7)) (e2 gMul (eVar 6) (eVar 5))) (aCons (e2 gMul (eVar 5) (eVar 7)) (aNil))))) (aCons (eTup (aCons (eOpX "Ratio" m_Ratio___sub__ PV.gSub (eVar 9) (eVar 10)) (aCons (e2 PV.gSub (e2 gMul (eVar 4) (eVar 7)) (e2 gMul (eVar 6) (eVar 5))) (aCons (e2 gMul (eVar 5) (eVar 7)) (aNil))))) (aCons (eTup (aCons (eOpX "Ratio" m_Ratio___mul__ gMul (eVar 9) (eVar 10)) (aCons (e2 gMul (eVar 4) (eVar 6)) (aCons (e2 gMul (eVar 5) (eVar 7)) (aNil))))) (aCons (eTup (aCons (e1X "Ratio" m_Ratio___neg__ (eVar 9)) (aCons (e1 gNeg (eVar 4)) (aCons (eVar 5) (aNil))))) (aNil))))))) ρ
      = .ok (.lst [.tup [rat N1 E1, .int a, .int b], .tup [v2, .int a, .int 1], .tup [v3, .int (a * d + c * b), .int (b * d)], .tup [v4, .int (a * d - c * b), .int (b * d)], .tup [v5, .int (a * c), .int (b * d)], .tup [v6, .int (-a), .int b]], ρ) := by
    refine lst_of (cons_of (tup_of (cons_of vx (cons_of va (cons_of vb nil_of))) (by simp)) (cons_of (tup_of (cons_of (made1_of (cons_of va nil_of) h2) (cons_of va (cons_of rfl nil_of))) (by simp)) (cons_of (tup_of (cons_of (op_of vx vy rfl h3) (cons_of (add_of ad cb) (cons_of bd nil_of))) (by simp))
      (cons_of (tup_of (cons_of (op_of vx vy rfl h4) (cons_of (sub_of ad cb) (cons_of bd nil_of))) (by simp)) (cons_of (tup_of (cons_of (op_of vx vy rfl h5) (cons_of (mul_of va vc (mu (by omega))) (cons_of bd nil_of))) (by simp)) (cons_of (tup_of (cons_of (neg1_of vx h6) (cons_of (neg_of va) (cons_of vb nil_of))) (by simp)) nil_of)))))) (by simp)
  obtain ⟨ρ1, A1, e1⟩ := asg_of (i := 12) s7 A (by decide) (by decide)
  obtain ⟨l4, l5, l6, l7, l8, l9, l10⟩ := i4 (L := [_]) A1 (.inr ⟨_, rfl⟩)
  have va := var_of l4
  have vb := var_of l5
  have vk := var_of l8
  have vx := var_of l9
  have s8 : e2 gCat (eVar 12) (eLst (aCons (eTup (aCons (eMethC "Ratio" "times" m_Ratio_times (eVar 9) (aCons (eVar 8) (aNil))) (aCons (e2 gMul (eVar 4) (eVar 8)) (aCons (eVar 5) (aNil))))) (aCons (eTup (aCons (eMethC "Ratio" "size" m_Ratio_size (eVar 9) aNil) (aCons (e1L gAbs (eVar 4)) (aCons (e1L gAbs (eVar 5)) (aNil))))) (aNil)))) ρ1
      = .ok (.lst [.tup [rat N1 E1, .int a, .int b], .tup [v2, .int a, .int 1], .tup [v3, .int (a * d + c * b), .int (b * d)], .tup [v4, .int (a * d - c * b), .int (b * d)], .tup [v5, .int (a * c), .int (b * d)], .tup [v6, .int (-a), .int b], .tup [v7, .int (a * k), .int b], .tup [v8, .int (absOf a), .int (absOf b)]], ρ1) :=
    e2_of (var_of (A1.at_ 12 _ rfl)) (lst_of (cons_of (tup_of (cons_of (met_of vx (cons_of vk nil_of) rfl h7) (cons_of (mul_of va vk (mu (by omega))) (cons_of vb nil_of))) (by simp)) (cons_of (tup_of (cons_of (met_of vx nil_of rfl h8) (cons_of (abs_of va) (cons_of (abs_of vb) nil_of))) (by simp)) nil_of)) (by simp)) rfl
  obtain ⟨ρ2, A2, e2⟩ := asg_of (i := 12) s8 A1 (by decide) (by decide)
  refine ⟨ρ2, A2.sub fun i d h => ?_, fun kk => (e1 _).trans ((e2 _).trans (no_of ?_ kk))⟩
  · have ne : (i == 12) = false := by
      cases q : i == 12 with
      | false => rfl
      | true =>
        have q := eq_of_beq q
        subst q
        cases h
    rw [List.lookup_cons, ne, List.lookup_cons, ne]
    exact h
  · refine if_no (nope ?_)
    refine e1L_of (eLc_gen (h := fun _ => .bl true) (ds := [.tup [rat N1 E1, .int a, .int b], .tup [v2, .int a, .int 1], .tup [v3, .int (a * d + c * b), .int (b * d)], .tup [v4, .int (a * d - c * b), .int (b * d)], .tup [v5, .int (a * c), .int (b * d)], .tup [v6, .int (-a), .int b], .tup [v7, .int (a * k), .int b], .tup [v8, .int (absOf a), .int (absOf b)]]) ?_ (by simp) ?_) rfl
    · unfold iSeqM
      rw [M.bind_of (var_of (A2.at_ 12 _ rfl))]
      rfl
    · have all : ∀ v n m, Fit v n m → ∃ ρd, tgTup (tgCons (tgName 16) (tgCons (tgName 17) (tgCons (tgName 18) (tgNil)))) 3 (.tup [v, .int n, .int m]) (wipeG ρ2 [16, 17, 18]) = some ρd ∧ wipeG ρd [16, 17, 18] = wipeG ρ2 [16, 17, 18] ∧ eCall (m__law_fits) (aCons (eVar 16) (aCons (eVar 17) (aCons (eVar 18) (aNil)))) ρd = .ok (.bl true, ρd) := by
        intro v n m f
        have len : (wipeG ρ2 [16, 17, 18]).length = 21 := by rw [wipeG_len]; exact A2.len
        refine ⟨(((wipeG ρ2 [16, 17, 18]).set 16 (some v)).set 17 (some (.int n))).set 18 (some (.int m)), ?_, ?_, ?_⟩
        · simp only [tgName_def]
          rfl
        · rw [wipeG_set (by simp), wipeG_set (by simp), wipeG_set (by simp)]
          exact wipeG_twice _ _ _ fun _ h => h
        · refine call_of (cons_of (var_of (v := v) ?_) (cons_of (var_of (v := .int n) ?_) (cons_of (var_of (v := .int m) ?_) nil_of))) f.ok
          · simp [look_set, len]
          · simp [look_set, len]
          · simp [look_set, len]
      intro dd hd
      simp only [List.mem_cons, List.not_mem_nil, or_false] at hd
      rcases hd with rfl | rfl | rfl | rfl | rfl | rfl | rfl | rfl
      · exact all _ _ _ f1
      · exact all _ _ _ f2
      · exact all _ _ _ f3
      · exact all _ _ _ f4
      · exact all _ _ _ f5
      · exact all _ _ _ f6
      · exact all _ _ _ f7
      · exact all _ _ _ f8
end
end
end K01

open PySem PySem.Spec
open PyProof.Rows L2
set_option Elab.async false
set_option linter.all false
set_option maxRecDepth 100000
set_option maxHeartbeats 0
namespace K01
open PV
noncomputable section
section
variable {a b c d k W N1 E1 N2 E2 : Int} {ρ : PV.Env}
theorem x_eq (Z : Nums a b c d k N1 E1 N2 E2) : (N1 = N2 ∧ E1 = E2) ↔ a * d = b * c := by
  have h1 := Z.l1.same
  have h2 := Z.l2.same
  have p1 := Z.l1.pos
  have p2 := Z.l2.pos
  have d0 := Z.d0
  constructor
  · rintro ⟨rfl, rfl⟩
    exact cancel (show E1 ≠ 0 by omega) (by grind)
  · intro e
    exact low_one p1 p2 Z.l1.low Z.l2.low (cancel (Int.mul_ne_zero Z.b0 (show d ≠ 0 by omega)) (by grind))
theorem q1011 (Z : Nums a b c d k N1 E1 N2 E2) (A : Ag 1 21 (L9 a b c d k W N1 E1 N2 E2) ρ) : ∃ ρ', Ag 1 21 (L9 a b c d k W N1 E1 N2 E2) ρ' ∧ ∀ kk, seqL [g10, g11] kk ρ = kk ρ' := by
  have s1 := Z.e1
  have s2 := Z.e2
  have s3 := Z.n2
  have p1 := Z.l1.pos
  have p2 := Z.l2.pos
  have d0 := Z.d0
  have hbs := Z.bs
  have hcs := Z.cs
  have hds := Z.ds
  have h1 := Z.l1.same
  have h2 := Z.l2.same
  have run : ∀ {t : D}, told (mk (N1 * E2) (E1 * N2)) = .ok t → ∃ ρ', Ag 1 21 ((13, t) :: L9 a b c d k W N1 E1 N2 E2) ρ' ∧ ∀ kk, seqL [g10] kk ρ = kk ρ' := fun {t} h => by
    refine asg_of (i := 13) ?_ A (by decide) (by decide)
    refine call_of (two_of rfl (tup_of (cons_of rfl (cons_of (var_of (A.at_ 9 _ rfl)) (cons_of (var_of (A.at_ 10 _ rfl)) nil_of))) (by simp))) ?_
    exact (result3 _ _ _).trans (by rw [did_over (by omega) (by omega)]; exact h)
  have off : ∀ {t : D} {ρ' : PV.Env}, Ag 1 21 ((13, t) :: L9 a b c d k W N1 E1 N2 E2) ρ' → Ag 1 21 (L9 a b c d k W N1 E1 N2 E2) ρ' := fun A' => A'.sub fun i x h => by
    have ne : (i == 13) = false := by
      cases q : i == 13 with
      | false => rfl
      | true =>
        have q := eq_of_beq q
        subst q
        cases h
    rw [List.lookup_cons, ne]
    exact h
  by_cases c0 : c = 0
  · have n0 : N2 = 0 := by
      subst c0
      rw [Int.zero_mul] at h2
      rcases Int.mul_eq_zero.mp h2 with z | z
      · exact z
      · omega
    obtain ⟨ρ', A', e⟩ := run (t := .tup [.str "refused", .str "zero"]) (by rw [n0, Int.mul_zero, mk_zero]; rfl)
    refine ⟨ρ', off A', fun kk => (e _).trans (no_of (if_no ?_) kk)⟩
    refine tOr_f (tAnd_t (tB_of ((eqI_of (var_of (A'.at_ 6 (.int c) rfl)) rfl).trans (by rw [decide_eq_true c0]))) (b := false) (tB_of (e2_of (var_of (A'.at_ 13 _ rfl)) (tup_of (cons_of rfl (cons_of rfl nil_of)) (by simp)) (by with_unfolding_all rfl)))) ?_
    exact tAnd_f (tB_of ((neI_of (var_of (A'.at_ 6 (.int c) rfl)) rfl).trans (by rw [decide_eq_true c0]; rfl)))
  · have n0 : N2 ≠ 0 := fun z => c0 (by
      rw [z, Int.zero_mul] at h2
      rcases Int.mul_eq_zero.mp h2.symm with y | y
      · exact y
      · omega)
    obtain ⟨zN, zE, l, hm⟩ := mk_ok (N1 * E2) (E1 * N2) (Int.mul_ne_zero (by omega) n0) (prod_lt s1 (by omega))
    obtain ⟨ρ', A', e⟩ := run (t := .tup [.str "told", rat zN zE]) (by rw [hm]; rfl)
    refine ⟨ρ', off A', fun kk => (e _).trans (no_of (if_no ?_) kk)⟩
    refine tOr_f (tAnd_f (tB_of ((eqI_of (var_of (A'.at_ 6 (.int c) rfl)) rfl).trans (by rw [decide_eq_false c0])))) ?_
    refine tAnd_t (tB_of ((neI_of (var_of (A'.at_ 6 (.int c) rfl)) rfl).trans (by rw [decide_eq_false c0]; rfl))) ?_
    refine tOr_f (tB_of (e2_of (e2_of (v := .tup [.str "told", rat zN zE]) (z := .str "told") (var_of (A'.at_ 13 _ rfl)) rfl rfl) rfl (by with_unfolding_all rfl))) ?_
    have ft : Fit (rat zN zE) (a * d) (b * c) := fit_of l (prod_lt s1 (by omega)) (prod_lt hbs (by omega)) (x_over h1 h2 (by omega) (by omega) (by omega) n0 l.same)
    exact nope (call_of (cons_of (e2_of (v := .tup [.str "told", rat zN zE]) (z := rat zN zE) (var_of (A'.at_ 13 _ rfl)) rfl rfl) (cons_of (mul_of (var_of (A'.at_ 4 (.int a) rfl)) (var_of (A'.at_ 7 (.int d) rfl)) (mulR (by omega))) (cons_of (mul_of (var_of (A'.at_ 5 (.int b) rfl)) (var_of (A'.at_ 6 (.int c) rfl)) (mulR (by omega))) nil_of))) ft.ok)
theorem says_of {fa fb : M D} {ρ : PV.Env} {p q : Prop} [Decidable p] [Decidable q] (ha : fa ρ = .ok (.bl (decide p), ρ)) (hb : fb ρ = .ok (.bl (decide q), ρ)) (h : p ↔ q) : PV.tNot (PV.tB (eCall m__law_says (aCons fa (aCons fb aNil)))) ρ = .ok (false, ρ) := by
  refine nope (call_of (two_of ha hb) ((says_ok _ _).trans ?_))
  have e : decide p = decide q := decide_eq_decide.mpr h
  rw [e]
  simp
theorem says_at {fa fb : M D} {ρ : PV.Env} {x : Bool} (ha : fa ρ = .ok (.bl x, ρ)) (hb : fb ρ = .ok (.bl x, ρ)) : PV.tNot (PV.tB (eCall m__law_says (aCons fa (aCons fb aNil)))) ρ = .ok (false, ρ) :=
  nope (call_of (two_of ha hb) ((says_ok _ _).trans (by simp)))
theorem q12 (Z : Nums a b c d k N1 E1 N2 E2) (A : Ag 1 21 (L9 a b c d k W N1 E1 N2 E2) ρ) : ∀ kk, seqL [g12] kk ρ = kk ρ := by
  have hbs := Z.bs
  have hcs := Z.cs
  have hds := Z.ds
  have h1 := Z.l1.same
  have va := var_of (A.at_ 4 (.int a) rfl)
  have vb := var_of (A.at_ 5 (.int b) rfl)
  have vc := var_of (A.at_ 6 (.int c) rfl)
  have vd := var_of (A.at_ 7 (.int d) rfl)
  have vx := var_of (A.at_ 9 (rat N1 E1) rfl)
  have vy := var_of (A.at_ 10 (rat N2 E2) rfl)
  have b3 : 3 * b ≠ 0 := Int.mul_ne_zero (by decide) Z.b0
  obtain ⟨N3, E3, l3, m3⟩ := mk_ok (3 * a) (3 * b) b3 (by omega)
  have h3 := l3.same
  have p3 := l3.pos
  have p1 := Z.l1.pos
  have one3 : N1 = N3 ∧ E1 = E3 := low_one p1 p3 Z.l1.low l3.low (cancel b3 (by grind))
  refine no_of (if_no ?_)
  refine tOr_f (says_of (op_of vx vy rfl eqM_ok) (eqI_of (mul_of va vd (mulR (by omega))) (mul_of vb vc (mulR (by omega)))) (x_eq Z)) ?_
  refine tOr_f (says_at (x := true) (op_of vx (made_of (two_of (mul_of rfl va (mulL (by decide))) (mul_of rfl vb (mulL (by decide)))) m3) rfl (eqM_ok.trans (by rw [decide_eq_true one3]))) rfl) ?_
  refine nope (e1L_of (eLc_map (h := fun _ => .bl true) (ds := [.int (a + 1), .non, .str "x", .tup [rat N1 E1]]) ?_ (by simp) ?_) rfl)
  · unfold iSeqM
    rw [M.bind_of (tup_of (cons_of (add_of va rfl) (cons_of rfl (cons_of rfl (cons_of (tup_of (cons_of vx nil_of) (by simp)) nil_of)))) (by simp))]
    rfl
  · intro v hv
    have l9 : look (ρ.set 19 (some v)) 9 = some (rat N1 E1) := by rw [look_set, if_neg (by decide)]; exact A.at_ 9 _ rfl
    have l19 : look (ρ.set 19 (some v)) 19 = some v := by rw [look_set, if_pos rfl, if_pos (by rw [A.len]; decide)]
    have no : m_Ratio___eq__ [rat N1 E1, v] = .ok (.bl false) ∧ rightD "Ratio" v = true := by
      simp only [List.mem_cons, List.not_mem_nil, or_false] at hv
      rcases hv with rfl | rfl | rfl | rfl <;> exact ⟨by with_unfolding_all rfl, rfl⟩
    exact call_of (two_of (op_of (var_of l9) (var_of l19) no.2 no.1) rfl) ((says_ok false false).trans rfl)
end
end
end K01

open PySem PySem.Spec
open PyProof.Rows L2
set_option Elab.async false
set_option linter.all false
set_option maxRecDepth 100000
set_option maxHeartbeats 0
namespace K01
open PV
noncomputable section
section
variable {a b c d k W N1 E1 N2 E2 : Int} {ρ : PV.Env}
theorem up_small (b : Int) : (upOf b).natAbs < 1000 := by unfold upOf; split <;> decide
theorem q13 (Z : Nums a b c d k N1 E1 N2 E2) (A : Ag 1 21 (L9 a b c d k W N1 E1 N2 E2) ρ) : ∀ kk, seqL [g13] kk ρ = kk ρ := by
  have s1 := Z.e1
  have s2 := Z.e2
  have hbs := Z.bs
  have hds := Z.ds
  have p1 := Z.l1.pos
  have p2 := Z.l2.pos
  have d0 := Z.d0
  have va := var_of (A.at_ 4 (.int a) rfl)
  have vb := var_of (A.at_ 5 (.int b) rfl)
  have vc := var_of (A.at_ 6 (.int c) rfl)
  have vd := var_of (A.at_ 7 (.int d) rfl)
  have vx := var_of (A.at_ 9 (rat N1 E1) rfl)
  have vy := var_of (A.at_ 10 (rat N2 E2) rfl)
  have vu := var_of (A.at_ 11 (.int (upOf b)) rfl)
  refine no_of (if_no ?_)
  refine tOr_f (says_of (met_of vx (cons_of vy nil_of) rfl (less_ok (by omega) (by omega))) (ltI_of (mul_of (mul_of va vd (mulR (by omega))) vu (mulR (up_small b))) (mul_of (mul_of vc vb (mulR (by omega))) vu (mulR (up_small b)))) (x_less Z.b0 (by omega) Z.l1.same Z.l2.same (by omega) (by omega))) ?_
  exact says_at (x := false) (met_of vy (cons_of vy nil_of) rfl ((less_ok (by omega) (by omega)).trans (by rw [decide_eq_false (by omega)]))) rfl
theorem abs_pos (Z : Nums a b c d k N1 E1 N2 E2) : absOf b ≠ 0 ∧ (absOf b).natAbs < 1000 := by
  have h := (up_abs Z.b0).2.1
  have hbs := Z.bs
  rw [abs_abs]
  omega
theorem q14 (Z : Nums a b c d k N1 E1 N2 E2) (A : Ag 1 21 (L9 a b c d k W N1 E1 N2 E2) ρ) : ∃ ρ', Ag 1 21 ((14, .int ((a * upOf b).fdiv (absOf b))) :: L9 a b c d k W N1 E1 N2 E2) ρ' ∧ ∀ kk, seqL [g14] kk ρ = kk ρ' := by
  obtain ⟨z, s⟩ := abs_pos Z
  refine asg_of (i := 14) ?_ A (by decide) (by decide)
  exact e2_of (e1L_of (w := .int (a * upOf b)) (mul_of (var_of (A.at_ 4 (.int a) rfl)) (var_of (A.at_ 11 (.int (upOf b)) rfl)) (mulR (up_small b))) rfl) (abs_of (var_of (A.at_ 5 (.int b) rfl))) (div_ok _ z s)
theorem q15 (Z : Nums a b c d k N1 E1 N2 E2) (A : Ag 1 21 ((14, .int ((a * upOf b).fdiv (absOf b))) :: L9 a b c d k W N1 E1 N2 E2) ρ) : ∀ kk, seqL [g15] kk ρ = kk ρ := by
  obtain ⟨z, s⟩ := abs_pos Z
  have s1 := Z.e1
  have p1 := Z.l1.pos
  have h1 := Z.l1.same
  have va := var_of (A.at_ 4 (.int a) rfl)
  have vb := var_of (A.at_ 5 (.int b) rfl)
  have vx := var_of (A.at_ 9 (rat N1 E1) rfl)
  have vu := var_of (A.at_ 11 (.int (upOf b)) rfl)
  have vl := var_of (A.at_ 14 (.int ((a * upOf b).fdiv (absOf b))) rfl)
  obtain ⟨e, pb, u⟩ := up_abs Z.b0
  obtain ⟨g1, g2⟩ := sgn pb (show 0 < E1 by omega) (base Z.b0 h1)
  refine no_of (if_no ?_)
  refine tOr_f (nope (call_of (two_of (met_of vx nil_of rfl (floor_ok (by omega) (by omega))) vl) ((same_int _ _).trans (by rw [decide_eq_true (x_floor Z.b0 h1 (by omega))])))) ?_
  refine tOr_f (nope (call_of (two_of (met_of vx nil_of rfl sign_ok) (call_of (cons_of (mul_of va vu (mulR (up_small b))) nil_of) (sign_at _))) ((same_int _ _).trans (by rw [decide_eq_true (by simp only [g1, g2])])))) ?_
  refine tOr_f (says_of (met_of vx nil_of rfl zero_ok) (eqI_of va rfl) ?_) ?_
  · constructor
    · intro n0
      rw [n0, Int.zero_mul] at h1
      rcases Int.mul_eq_zero.mp h1.symm with y | y
      · exact y
      · omega
    · intro a0
      rw [a0, Int.zero_mul] at h1
      rcases Int.mul_eq_zero.mp h1 with y | y
      · exact y
      · exact absurd y Z.b0
  · exact says_of (met_of vx nil_of rfl wholeR_ok) (eqI_of (e2_of (e1L_of (w := .int a) va rfl) (abs_of vb) (mod_ok _ z s)) rfl) (x_whole Z.b0 h1 (by omega) Z.l1.low)
theorem q16 (Z : Nums a b c d k N1 E1 N2 E2) {x : D} (A : Ag 1 21 ((14, x) :: L9 a b c d k W N1 E1 N2 E2) ρ) : ∀ kk, seqL [g16] kk ρ = kk ρ := by
  have s1 := Z.e1
  have vx := var_of (A.at_ 9 (rat N1 E1) rfl)
  have fn : e1 (gFld "Ratio" "n") (eVar 9) ρ = .ok (.int N1, ρ) := fld_n (A.at_ 9 (rat N1 E1) rfl)
  have fd : e1 (gFld "Ratio" "d") (eVar 9) ρ = .ok (.int E1, ρ) := fld_d (A.at_ 9 (rat N1 E1) rfl)
  have ln : N1.natAbs.log2 < 1920 := log_lt (Nat.lt_of_le_of_lt Z.l1.top Z.as)
  have le : E1.natAbs.log2 < 1920 := log_lt (Nat.lt_of_le_of_lt s1 (by decide))
  have t1 := len_ok ln
  have t2 := len_ok le
  have t3 : (Str.ofString "/").length = 1 := by decide
  have add : ∀ {x y : Str}, x.length + y.length ≤ 100000 → gAdd (.str x) (.str y) = some (.str (x ++ y)) := fun h => if_pos (decide_eq_true h)
  have rhs : e2 gAdd (e1L gStr (e1 (gFld "Ratio" "n") (eVar 9))) (eIf (PV.tB (e2 gEq (e1 (gFld "Ratio" "d") (eVar 9)) (eC (.int 1)))) (eC (.str "")) (e2 gAdd (eC (.str "/")) (e1L gStr (e1 (gFld "Ratio" "d") (eVar 9))))) ρ = .ok (.str (rtx N1 E1), ρ) := by
    unfold rtx
    by_cases h : E1 = 1
    · rw [if_pos h]
      refine (e2_of (str_ok fn ln) (eIf_t (tB_of ((eqI_of fd rfl).trans (by rw [decide_eq_true h]))) rfl) (add (by show _ + (Str.ofString "").length ≤ _; rw [show (Str.ofString "").length = 0 by decide]; omega))).trans ?_
      rw [show Str.ofString "" = Str.empty by decide, Str.append_empty]
    · rw [if_neg h]
      exact e2_of (str_ok fn ln) (eIf_f (tB_of ((eqI_of fd rfl).trans (by rw [decide_eq_false h]))) (e2_of rfl (str_ok fd le) (add (by omega)))) (add (by rw [strLen_append]; omega))
  exact no_of (if_no (nope (call_of (two_of (strx_of (fs := [("n", .int N1), ("d", .int E1)]) vx (strM_ok ln le)) rhs) (same_str rtx_ok))))
end
end
end K01

open PySem PySem.Spec
open PyProof.Rows L2
set_option Elab.async false
set_option linter.all false
set_option maxRecDepth 100000
set_option maxHeartbeats 0
namespace K01
open PV
noncomputable section
section
variable {a b c d k W N1 E1 N2 E2 : Int} {ρ : PV.Env}
def bodyB : SM := sSeq (sIf (PV.tB (e2 gNe (eLc [20] (iSeqM (eTup (aCons (eC (.str "plus")) (aCons (eC (.str "less")) (aCons (eC (.str "times")) (aCons (eC (.str "below")) (aCons (eC (.str "over")) (aNil)))))))) (tgName 20) (tTrue) (e2 gIx (eCall (m__law_result) (aCons (eC (.fn "_law_did")) (aCons (eTup (aCons (eVar 20) (aCons (eVar 9) (aCons (eVar 15) (aNil))))) (aNil)))) (eC (.int 0)))) (e2 gRep (eLst (aCons (eC (.str "malformed")) (aNil))) (eC (.int 5))))) (sRet (eC (.bl false))) (sNx))
  (sIf (PV.tAnd (PV.tB (e2 gNe (eVar 15) (eC (.int 5)))) (PV.tB (e2 gNe (eTup (aCons (eC (.str "malformed")) (aCons (eC (.str "malformed")) (aNil)))) (eTup (aCons (e2 gIx (eCall (m__law_result) (aCons (eC (.fn "_law_made")) (aCons (eTup (aCons (eVar 15) (aCons (eC (.int 1)) (aNil)))) (aNil)))) (eC (.int 0))) (aCons (e2 gIx (eCall (m__law_result) (aCons (eC (.fn "_law_made")) (aCons (eTup (aCons (eC (.int 1)) (aCons (eVar 15) (aNil)))) (aNil)))) (eC (.int 0))) (aNil))))))) (sRet (eC (.bl false))) (sNx))
theorem g17_eq : g17 = sFor (iSeqM (eTup (aCons (eC .non) (aCons (eC (.bl true)) (aCons (eC (.str "1")) (aCons (eTup (aCons (eC (.int 1)) (aNil))) (aCons (eC (.int 5)) (aNil)))))))) (tgName 15) bodyB := rfl
def mald : D := .str "malformed"
theorem body_ok {v : D} (hv : v ∈ bads) (l9 : look ρ 9 = some (rat N1 E1)) (l15 : look ρ 15 = some v) (len : ρ.length = 21) : bodyB ρ = .nx ρ := by
  unfold bodyB
  refine (sSeq_of (if_no (tB_of (e2_of (v := .lst [mald, mald, mald, mald, mald]) (eLc_map (h := fun _ => mald) (ds := words.map .str) ?_ (by decide) ?_) (e2_of (lst_of (cons_of rfl nil_of) (by decide)) rfl rfl) (by with_unfolding_all rfl))))).trans (if_no ?_)
  · unfold iSeqM
    rw [M.bind_of (tup_of (cons_of rfl (cons_of rfl (cons_of rfl (cons_of rfl (cons_of rfl nil_of))))) (by decide))]
    rfl
  · intro w hw
    obtain ⟨z, hz, rfl⟩ := List.mem_map.mp hw
    have k9 : look (ρ.set 20 (some (.str z))) 9 = some (rat N1 E1) := by rw [look_set, if_neg (by decide)]; exact l9
    have k15 : look (ρ.set 20 (some (.str z))) 15 = some v := by rw [look_set, if_neg (by decide)]; exact l15
    have k20 : look (ρ.set 20 (some (.str z))) 20 = some (.str z) := by rw [look_set, if_pos rfl, if_pos (by rw [len]; decide)]
    exact e2_of (call_of (two_of rfl (tup_of (cons_of (var_of k20) (cons_of (var_of k9) (cons_of (var_of k15) nil_of))) (by simp))) (bad_ok N1 E1 z hz v hv)) rfl rfl
  · have two : v ∈ [D.non, .bl true, .str "1", .tup [.int 1]] ∨ v = .int 5 := by
      simp only [bads, List.mem_cons, List.not_mem_nil, or_false] at hv ⊢
      rcases hv with h | h | h | h | h
      · exact .inl (.inl h)
      · exact .inl (.inr (.inl h))
      · exact .inl (.inr (.inr (.inl h)))
      · exact .inl (.inr (.inr (.inr h)))
      · exact .inr h
    rcases two with h | rfl
    · obtain ⟨r1, r2⟩ := made_bad v h
      have ne : gNe v (.int 5) = some (.bl true) := by
        simp only [List.mem_cons, List.not_mem_nil, or_false] at h
        rcases h with rfl | rfl | rfl | rfl <;> with_unfolding_all rfl
      refine tAnd_t (tB_of (e2_of (var_of l15) rfl ne)) (tB_of (e2_of (v := .tup [mald, mald]) (w := .tup [mald, mald]) (tup_of (l := [mald, mald]) (two_of rfl rfl) (by decide)) (tup_of (l := [mald, mald]) (two_of (e2_of (call_of (two_of rfl (tup_of (two_of (var_of l15) rfl) (by simp))) r1) rfl rfl) (e2_of (call_of (two_of rfl (tup_of (two_of rfl (var_of l15)) (by simp))) r2) rfl rfl)) (by decide)) (by with_unfolding_all rfl)))
    · exact tAnd_f (tB_of (e2_of (var_of l15) rfl (by with_unfolding_all rfl)))
theorem loop_ok : ∀ (ds : List D) (ρ : PV.Env), (∀ v ∈ ds, v ∈ bads) → Ag 1 21 (L9 a b c d k W N1 E1 N2 E2) ρ → ∃ ρ', forN (tgName 15) bodyB ds ρ = .nx ρ' ∧ Ag 1 21 (L9 a b c d k W N1 E1 N2 E2) ρ'
  | [], ρ, _, A => ⟨ρ, rfl, A⟩
  | v :: r, ρ, h, A => by
    have A1 := A.cons (i := 15) (d := v) (by decide) (by decide)
    have A2 : Ag 1 21 (L9 a b c d k W N1 E1 N2 E2) (ρ.set 15 (some v)) := A1.sub fun i x hh => by
      have ne : (i == 15) = false := by
        cases q : i == 15 with
        | false => rfl
        | true =>
          have q := eq_of_beq q
          subst q
          cases hh
      rw [List.lookup_cons, ne]
      exact hh
    obtain ⟨ρ', e, A'⟩ := loop_ok r _ (fun z hz => h z (List.mem_cons_of_mem _ hz)) A2
    refine ⟨ρ', ?_, A'⟩
    rw [forN_cons, tgName_def]
    show sSeq bodyB (forN (fun d ρ => some (ρ.set 15 (some d))) bodyB r) (ρ.set 15 (some v)) = _
    rw [sSeq_of (body_ok (h v List.mem_cons_self) (A2.at_ 9 (rat N1 E1) rfl) (A1.at_ 15 v rfl) A2.len), ← tgName_def]
    exact e
theorem q17 (A : Ag 1 21 (L9 a b c d k W N1 E1 N2 E2) ρ) : ∃ ρ', Ag 1 21 (L9 a b c d k W N1 E1 N2 E2) ρ' ∧ ∀ kk, seqL [g17] kk ρ = kk ρ' := by
  obtain ⟨ρ', e, A'⟩ := loop_ok bads ρ (fun _ h => h) A
  refine ⟨ρ', A', fun kk => sSeq_of ?_⟩
  rw [g17_eq]
  unfold sFor
  refine (sDo_of (a := bads) (ρ1 := ρ) ?_).trans e
  unfold iSeqM
  rw [M.bind_of (tup_of (cons_of rfl (cons_of rfl (cons_of rfl (cons_of (tup_of (cons_of rfl nil_of) (by decide)) (cons_of rfl nil_of))))) (by decide))]
  rfl
theorem q18 (A : Ag 1 21 (L9 a b c d k W N1 E1 N2 E2) ρ) : g18 ρ = .rt (.bl true) ρ := by
  unfold g18 sRet
  exact sDo_of (e2_of (call_of (two_of rfl (tup_of (two_of (var_of (A.at_ 4 (.int a) rfl)) rfl) (by simp))) (made_zero a)) (tup_of (two_of rfl rfl) (by decide)) (by with_unfolding_all rfl))
end
end
end K01

open PySem PySem.Spec
open PyProof.Rows L2
set_option Elab.async false
set_option linter.all false
set_option maxRecDepth 100000
set_option maxHeartbeats 0
namespace K01
open PV
noncomputable section
theorem t_take : m__law_take = mTake := rfl
theorem t_state : m__law_state = mState := rfl
abbrev takeM (m : Int) : M D := eCallIO 1 [.io 1, .val (.rd 0)] (m__law_take) (aIo 1 (aCons (eC (.int m)) (aNil)))
section
variable {L : List (Nat × D)} {ρ : PV.Env} {Q : D → Prop}
theorem draw (m : Int) (hj : L.lookup 1 = none) (h0 : 0 < m) (h1 : m.natAbs < 1073741824) (q : ∀ v : Int, 0 ≤ v → v < m → Q (.int v)) : Dw 1 21 L (takeM m) Q := by
  unfold takeM
  rw [t_take]
  exact dw_take (dw_c rfl) h0 h1 hj q
theorem dw_k {f : M D} {d : D} (h : ∀ ρ, f ρ = .ok (d, ρ)) (q : Q d) : Dw 1 21 L f Q := fun ρ a => ⟨d, ρ, h ρ, q, a⟩
theorem dw_if {f fa fb : M D} (h : Dw 1 21 L f fun d => ∃ z : Bool, d = .bl z ∧ Dw 1 21 L (if z = true then fa else fb) Q) : Dw 1 21 L (eIf (PV.tB f) fa fb) Q := fun ρ a => by
  obtain ⟨d, ρ1, e, ⟨z, rfl, hz⟩, a1⟩ := h ρ a
  obtain ⟨d2, ρ2, e2, q, a2⟩ := hz ρ1 a1
  refine ⟨d2, ρ2, ?_, q, a2⟩
  cases z
  · exact (eIf_no (tB_of e)).trans e2
  · exact eIf_t (tB_of e) e2
end
theorem p0 (ns : List Int) : ∃ ρ, Ag 1 21 [] ρ ∧ ∀ k, seqL [g0] k (PV.envOf 21 [.scr ns]) = k ρ := by
  obtain ⟨a, b, e⟩ := state_ok ns
  refine ⟨(PV.envOf 21 [.scr ns]).set 1 (some (.lst [.int a, .int b])), ⟨by rw [List.length_set]; rfl, ⟨a, b, by rw [look_set]; rfl⟩, fun i d h => by cases h⟩, fun k => sSeq_of ?_⟩
  unfold g0
  rw [sAsg_def]
  exact sDo_of (call_of (cons_of (v := .scr ns) rfl nil_of) (by rw [t_state]; exact e))
theorem p1 {ρ : PV.Env} (A : Ag 1 21 [] ρ) : ∃ ρ', Ag 1 21 [(2, .int ((1 : Nat) : Int))] ρ' ∧ ∀ k, seqL [g1] k ρ = k ρ' := asg_of rfl A (by decide) (by decide)
def tenB : SM := sAsg 2 (e2 gMul (eVar 2) (eC (.int 10)))
theorem tens : ∀ (ds : List D) (W : Nat) (ρ : PV.Env), Ag 1 21 [(2, .int (W : Int))] ρ → ∃ ρ', forN (tgName 3) tenB ds ρ = .nx ρ' ∧ Ag 1 21 [(2, .int ((W * 10 ^ ds.length : Nat) : Int))] ρ'
  | [], W, ρ, A => ⟨ρ, rfl, by rw [List.length_nil, Nat.pow_zero, Nat.mul_one]; exact A⟩
  | x :: r, W, ρ, A => by
    have A1 := A.cons (i := 3) (d := x) (by decide) (by decide)
    have e1 : tenB (ρ.set 3 (some x)) = .nx ((ρ.set 3 (some x)).set 2 (some (.int ((W * 10 : Nat) : Int)))) := by
      unfold tenB
      rw [sAsg_def]
      refine sDo_of ((mul_of (var_of (A1.at_ 2 _ rfl)) rfl (mulR (by decide))).trans ?_)
      rw [show (W : Int) * 10 = ((W * 10 : Nat) : Int) by omega]
    have A2 := (A1.cons (i := 2) (d := .int ((W * 10 : Nat) : Int)) (by decide) (by decide)).sub (L' := [(2, .int ((W * 10 : Nat) : Int))]) fun i y h => by
      rw [List.lookup_cons] at h ⊢
      cases q : i == 2 with
      | true => rw [q] at h; exact h
      | false => rw [q] at h; cases h
    obtain ⟨ρ', e, A'⟩ := tens r (W * 10) _ A2
    refine ⟨ρ', ?_, by rw [List.length_cons, Nat.pow_succ, Nat.mul_comm _ 10, ← Nat.mul_assoc]; exact A'⟩
    rw [forN_cons, tgName_def]
    show sSeq tenB (forN (fun d ρ => some (ρ.set 3 (some d))) tenB r) (ρ.set 3 (some x)) = _
    rw [sSeq_of e1, ← tgName_def]
    exact e
theorem p2 {ρ : PV.Env} (A : Ag 1 21 [(2, .int ((1 : Nat) : Int))] ρ) : ∃ (W : Nat) (ρ' : PV.Env), W ≤ 10 ^ 200 ∧ Ag 1 21 [(2, .int (W : Int))] ρ' ∧ ∀ k, seqL [g2] k ρ = k ρ' := by
  have dr : DwL 1 21 [(2, .int ((1 : Nat) : Int))] (iRg rg1 (aCons (e2 gIx (eLst (aCons (eC (.int 0)) (aCons (eC (.int 0)) (aCons (eC (.int 5)) (aCons (eC (.int 200)) (aNil)))))) (takeM 4)) (aNil))) fun ds => ds.length ≤ 200 := by
    refine dwl_rg1 (dw_e2 (dw_k (d := .lst [.int 0, .int 0, .int 5, .int 200]) (fun ρ => rfl) (draw 4 rfl (by decide) (by decide) fun v v0 v1 => ?_)))
    have four : v = 0 ∨ v = 1 ∨ v = 2 ∨ v = 3 := by omega
    rcases four with rfl | rfl | rfl | rfl
    · exact ⟨.int 0, rfl, 0, rfl, by omega, by omega, by rw [rgD_len]; decide⟩
    · exact ⟨.int 0, rfl, 0, rfl, by omega, by omega, by rw [rgD_len]; decide⟩
    · exact ⟨.int 5, rfl, 5, rfl, by omega, by omega, by rw [rgD_len]; decide⟩
    · exact ⟨.int 200, rfl, 200, rfl, by omega, by omega, by rw [rgD_len]; decide⟩
  obtain ⟨ds, ρ1, e, hl, A1⟩ := dr ρ A
  obtain ⟨ρ2, e2, A2⟩ := tens ds 1 ρ1 A1
  refine ⟨1 * 10 ^ ds.length, ρ2, ?_, A2, fun k => sSeq_of ?_⟩
  · rw [Nat.one_mul]
    exact Nat.pow_le_pow_right (by decide) hl
  · show sDo _ _ ρ = _
    exact (sDo_of e).trans e2
section
variable {W : Nat}
theorem dA : Dw 1 21 [(2, .int (W : Int))] (e2 gAdd (e2 gMul (e2 PV.gSub (takeM 41) (eC (.int 20))) (eVar 2)) (takeM 5)) fun x => ∃ a : Int, x = .int a ∧ a.natAbs ≤ 20 * W + 4 := by
  refine dw_e2 (dw_e2 (dw_e2 (draw 41 rfl (by decide) (by decide) fun v v0 v1 => dw_c ⟨.int (v - 20), rfl, dw_var (d := .int (W : Int)) rfl ⟨.int ((v - 20) * W), if_pos (mulL (by omega)), draw 5 rfl (by decide) (by decide) fun u u0 u1 => ⟨.int ((v - 20) * W + u), rfl, _, rfl, ?_⟩⟩⟩)))
  have t1 : ((v - 20) * (W : Int)).natAbs ≤ 20 * W := by
    rw [Int.natAbs_mul, Int.natAbs_natCast]
    exact Nat.mul_le_mul_right W (by omega)
  have t2 := Int.natAbs_add_le ((v - 20) * (W : Int)) u
  omega
theorem dB : Dw 1 21 [(2, .int (W : Int))] (e2 gMul (e2 gAdd (eC (.int 1)) (takeM 30)) (eIf (PV.tB (e2 gEq (takeM 2) (eC (.int 0)))) (eC (.int 1)) (e1 gNeg (eC (.int 1))))) fun x => ∃ b : Int, x = .int b ∧ b ≠ 0 ∧ b.natAbs ≤ 30 := by
  refine dw_e2 (dw_e2 (dw_c (draw 30 rfl (by decide) (by decide) fun v v0 v1 => ⟨.int (1 + v), rfl, dw_if (dw_e2 (draw 2 rfl (by decide) (by decide) fun u u0 u1 => dw_c ⟨.bl (decide (u = 0)), rfl, _, rfl, ?_⟩))⟩)))
  have m1 : mulOk (1 + v) 1 = true := mulR (by decide)
  have m2 : mulOk (1 + v) (-1) = true := mulR (by decide)
  by_cases z : u = 0
  · rw [decide_eq_true z, if_pos rfl]
    exact dw_c ⟨.int ((1 + v) * 1), if_pos m1, _, rfl, by omega, by omega⟩
  · rw [decide_eq_false z, if_neg (by decide)]
    exact dw_k (d := .int (-1)) (fun ρ => rfl) ⟨.int ((1 + v) * (-1)), if_pos m2, _, rfl, by omega, by omega⟩
theorem p3 {ρ : PV.Env} (A : Ag 1 21 [(2, .int (W : Int))] ρ) : ∃ (a b : Int) (ρ' : PV.Env), a.natAbs ≤ 20 * W + 4 ∧ b ≠ 0 ∧ b.natAbs ≤ 30 ∧ Ag 1 21 [(5, .int b), (4, .int a), (2, .int (W : Int))] ρ' ∧ ∀ k, seqL [g3] k ρ = k ρ' := by
  obtain ⟨ds, ρ', ⟨a, b, rfl, h1, h2, h3⟩, A', e⟩ := dw_par (is := [4, 5]) (Q := fun ds => ∃ a b : Int, ds = [.int a, .int b] ∧ a.natAbs ≤ 20 * W + 4 ∧ b ≠ 0 ∧ b.natAbs ≤ 30)
    (dwl_cons (dA.imp fun x ⟨a, ea, ha⟩ => dwl_cons (dB.imp fun y ⟨b, eb, hb, hb2⟩ => dwl_nil ⟨a, b, by rw [ea, eb], ha, hb, hb2⟩))) (by decide) (fun ds ⟨_, _, e, _⟩ => by rw [e]; rfl) A
  exact ⟨a, b, ρ', h1, h2, h3, A', fun k => e k⟩
theorem p4 {a b : Int} {ρ : PV.Env} (A : Ag 1 21 [(5, .int b), (4, .int a), (2, .int (W : Int))] ρ) : ∃ (c d k : Int) (ρ' : PV.Env), c.natAbs ≤ 20 ∧ (1 ≤ d ∧ d.natAbs ≤ 30) ∧ k.natAbs ≤ 10 ∧ Ag 1 21 (L5 a b c d k W) ρ' ∧ ∀ kk, seqL [g4] kk ρ = kk ρ' := by
  obtain ⟨ds, ρ', ⟨c, d, k, rfl, h1, h2, h3⟩, A', e⟩ := dw_par (is := [6, 7, 8]) (f := aCons (e2 PV.gSub (takeM 41) (eC (.int 20))) (aCons (e2 gAdd (eC (.int 1)) (takeM 30)) (aCons (e2 PV.gSub (takeM 21) (eC (.int 10))) aNil))) (Q := fun ds => ∃ c d k : Int, ds = [.int c, .int d, .int k] ∧ c.natAbs ≤ 20 ∧ (1 ≤ d ∧ d.natAbs ≤ 30) ∧ k.natAbs ≤ 10)
    (dwl_cons (dw_e2 (draw 41 rfl (by decide) (by decide) fun v v0 v1 => dw_c ⟨.int (v - 20), rfl, dwl_cons (dw_e2 (dw_c (draw 30 rfl (by decide) (by decide) fun u u0 u1 => ⟨.int (1 + u), rfl, dwl_cons (dw_e2 (draw 21 rfl (by decide) (by decide) fun w w0 w1 => dw_c ⟨.int (w - 10), rfl, dwl_nil ⟨v - 20, 1 + u, w - 10, rfl, by omega, by omega, by omega⟩⟩))⟩)))⟩))) (by decide) (fun ds ⟨_, _, _, e, _⟩ => by rw [e]; rfl) A
  exact ⟨c, d, k, ρ', h1, h2, h3, A', fun k => e k⟩
end
theorem law_true (ns : List Int) (hl : ns.length ≤ 63) (hb : ∀ z ∈ ns, Builtin.Int.intBits z ≤ 1048576) : m_law [.scr ns] = .ok (.bl true) := by
  have key : ∃ ρ, s_law (PV.envOf 21 [.scr ns]) = .rt (.bl true) ρ := by
    rw [law_parts]
    obtain ⟨r0, A0, e0⟩ := p0 ns
    obtain ⟨r1, A1, e1⟩ := p1 A0
    obtain ⟨W, r2, hW, A2, e2⟩ := p2 A1
    obtain ⟨a, b, r3, ha, b0, hb, A3, e3⟩ := p3 A2
    obtain ⟨c, d, k, r4, hc, hd, hk, A4, e4⟩ := p4 A3
    obtain ⟨N1, E1, l1, m1⟩ := mk_ok a b b0 (by omega)
    obtain ⟨N2, E2, l2, m2⟩ := mk_ok c d (by omega) (by omega)
    have as : a.natAbs < 2 ^ 1920 := Nat.lt_of_le_of_lt (Nat.le_trans ha (Nat.add_le_add_right (Nat.mul_le_mul_left 20 hW) 4)) (by decide +kernel)
    have Z : Nums a b c d k N1 E1 N2 E2 := ⟨b0, hb, hc, hd.1, hd.2, hk, as, l1, l2⟩
    obtain ⟨r5, A5, e5⟩ := q5 m1 m2 A4
    obtain ⟨r6, A6, e6⟩ := q6 A5
    obtain ⟨r7, A7, e7⟩ := q79 Z A6
    obtain ⟨r8, A8, e8⟩ := q1011 Z A7
    have e9 := q12 Z A8
    have e10 := q13 Z A8
    obtain ⟨r9, A9, e11⟩ := q14 Z A8
    have e12 := q15 Z A9
    have e13 := q16 Z A9
    have A10 : Ag 1 21 (L9 a b c d k W N1 E1 N2 E2) r9 := A9.sub fun i x h => by
      have ne : (i == 14) = false := by
        cases q : i == 14 with
        | false => rfl
        | true =>
          have q := eq_of_beq q
          subst q
          cases h
      rw [List.lookup_cons, ne]
      exact h
    obtain ⟨r11, A11, e14⟩ := q17 A10
    exact ⟨r11, (e0 _).trans ((e1 _).trans ((e2 _).trans ((e3 _).trans ((e4 _).trans ((e5 _).trans ((e6 _).trans ((e7 _).trans ((e8 _).trans ((e9 _).trans ((e10 _).trans ((e11 _).trans ((e12 _).trans ((e13 _).trans ((e14 _).trans (q18 A11)))))))))))))))⟩
  obtain ⟨ρ, e⟩ := key
  show (match s_law (PV.envOf 21 [.scr ns]) with
    | .nx _ => if (0 : Nat) = 0 then R.ok D.non else .fail
    | .rt d _ => .ok d
    | .exc x => .exc x
    | .fail => .fail) = _
  rw [e]
end
end K01

open PySem PySem.W
open PyProof.Rows
set_option maxRecDepth 100000
set_option maxHeartbeats 0 in
theorem PySem.Challenge.cw_surfaceroads_k01_whole_ratios_of_counts_holds : PySem.Challenge.rw_surfaceroads_k01_whole_ratios_of_counts.Holds := by
  w_on
  o_law
  k_head
  case hw => w_witness2
  k_fill
  refine L2.walk_ofB (l := PySem.Challenge.rw_surfaceroads_k01_whole_ratios_of_counts) (n := 63) (k := 43) (x := "script") (CX := fun w => L2.CX (PySem.Challenge.rw_surfaceroads_k01_whole_ratios_of_counts).prog w) (sp := fun w => PV.spEnd _) rfl (by decide) rfl ⟨rfl, by decide, by decide⟩ (fun w h Y => PySem.W.kIn_of Y) ?F (fun w H a ns hl hb ho hS => ⟨a, ns, rfl, hS, hl, hb, fun _ => rfl⟩) (fun w H s e s' h => PV.cx_end _ w H s e s' h)
  case F =>
    intro w mg fa h KX G hmg
    exact K01.fin KX G hmg (by kernel_rfl) (by kernel_rfl) (by kernel_rfl) (by kernel_rfl) (by kernel_rfl) (by kernel_rfl) K01.law_true

