import PyProof.Rows.All
import Wide.All
import OpenK.AllK
import Wide.FinOn
import KE.KStateDown
import HandS.ForMost
import HandS.TupAny
import HandS.TupMul
import HandS.TupLe
import HandS.Wide
import HandS.More
import HandS.SetFor
import HandS.Replace
import HandS.Exc
import HandS.WideBits
import HandS.Style
import HandS.Deep
import HandS.Zip
import HandS.SortInts
import HandS.IsInst
import HandS.RaiseMore
import HandS.Defaults
import HandS.Head0
import HandS.Head1
import HandS.Head2
import HandS.HeadEnd
import HandS.EndBits
import HandS.HeadHook1
import HandS.HeadHook2
import HandS.HeadHook4
import HandS.EndTab
import HandS.SortKw
import HandS.Small
import KE.GoesEnum
import HandS.Rev
import HandS.ExcIs
import HandS.ExcField
import HandS.ExcInit
import HandS.HotCalls
import HandS.TryOnly
import HandS.WordsExc
import KE.KExcIs
import HandS.Strs
import HandS.Conv
import PySem.Challenge.RW_shootdays_k02_names_and_numbers
set_option Elab.async false
set_option linter.all false
set_option maxRecDepth 100000
set_option maxHeartbeats 0
namespace SD
open PySem L2
inductive D where
  | non
  | bl (b : Bool)
  | int (i : Int)
  | str (s : Str)
  | lst (xs : List D)
  | tup (xs : List D)
  | ins (c : Str)
  | fn (f : Str)
  | cls (c : Str)
  | ty (n : String)
  /-- a lambda that takes nothing from around it -/
  | lam (q : Str) (ps : Arguments) (b : Expr) (sc : Scope)
  /-- an exception of an own class, with its one field, if any -/
  | exc (c g : Str) (x : D)
abbrev MG := Str → Option Value
abbrev Fg := PySem.W.Frag
/-- a text of true signs -/
def SOk (s : Str) : Prop := ∀ c ∈ s.cps.toList, c < 1114112
/-- what stands for such a lambda, its code object at c -/
def LamO (f : Addr) (q : Str) (ps : Arguments) (b : Expr) (sc : Scope) (c : Addr) : HO := .ext fun h => ∃ pm ctv, h.get? f = some (PySem.W.kla_obj "<lambda>" q ps b sc [] pm c ctv)
/-- a held exception of the class cls at a, its dict at od -/
def ExcO (cls : Value) (od : Option Addr) (a : Addr) : HO := .ext fun h => ∃ (oe : Obj) (vs : Array Value), h.get? a = some oe ∧ Zc cls od oe ∧ oe.data = .fields vs
/-- its field g is v; without a field the name is empty -/
def XdAt (F : Hp) (od : Option Addr) (g : Str) (v : V) : Prop := (g = Str.empty ∧ v = .non ∧ od = none) ∨ ∃ dd fv, od = some dd ∧ F dd = some (.xd fv) ∧ fv.lookup g = some v
theorem XdAt.mono {F F' : Hp} {od : Option Addr} {g : Str} {v : V} (e : Same F F') (h : XdAt F od g v) : XdAt F' od g v := by
  rcases h with h | ⟨dd, fv, h1, h2, h3⟩
  · exact .inl h
  · exact .inr ⟨dd, fv, h1, e _ _ h2, h3⟩
def lamD : Str := "missing"
def lamQ : Str := lamD ++ ".<locals>." ++ "<lambda>"
def lamT (K : Fg) : List (Addr × Addr) := match K.lookup (He.fAd K (lamD, none)) with
  | some ⟨_, _, .func _, _⟩ => [He.cT K (lamD, none)]
  | _ => []
/-- a table at P: what it tells are code objects of the name q, which stay -/
def TbAt (F H : Hp) (P : Addr) (q : Str) : Prop := F P = none ∧ ∃ ps : Array Value, H P = some (.tbl ps) ∧ TriplesOk ps.toList ∧ ∀ (pos : Pos) (cv : Value), codeAmong pos ps.toList = some cv → ∃ c, cv = .ref c ∧ F c = some (LamX.CodeO c q)
def TbOk (K : Fg) (F H : Hp) : Prop := ∀ p ∈ lamT K, TbAt F H p.2 lamQ
/-- no such table -/
def NT (o : HO) : Prop := ∀ ps, o ≠ .tbl ps
theorem TbAt.to {F H F' H' : Hp} {P : Addr} {q : Str} (h : TbAt F H P q) (e : Same F F') (f : F' P = none) (g : H' P = H P) : TbAt F' H' P q := by
  obtain ⟨f1, ps, h1, h2, h3⟩ := h
  refine ⟨f, ps, g.trans h1, h2, fun pos cv hc => ?_⟩
  obtain ⟨c, e1, e2⟩ := h3 pos cv hc
  exact ⟨c, e1, e _ _ e2⟩
theorem TbOk.ne {K : Fg} {F H : Hp} (h : TbOk K F H) {p : Addr × Addr} (hp : p ∈ lamT K) {a : Addr} (e : H a = none ∨ ∃ o, H a = some o ∧ NT o) : p.2 ≠ a := fun z => by
  obtain ⟨_, ps, h1, _⟩ := h p hp
  rw [z] at h1
  rcases e with e | ⟨o, e, nt⟩
  · rw [e] at h1; cases h1
  · rw [e] at h1; exact nt ps (Option.some.inj h1)
theorem TbOk.allocO {K : Fg} {F H : Hp} (h : TbOk K F H) {q : Addr} {o : HO} (hq : H q = none) : TbOk K F (upd H q o) := fun p hp =>
  (h p hp).to (Same.refl _) (h p hp).1 (upd_ne (h.ne hp (.inl hq)))
theorem TbOk.frz {K : Fg} {F H : Hp} (h : TbOk K F H) {a : Addr} {o : HO} (Fa : F a = none) (e : H a = none ∨ ∃ o, H a = some o ∧ NT o) : TbOk K (upd F a o) H := fun p hp =>
  (h p hp).to (fun b x z => by rw [upd_ne (ne_of_none z Fa)]; exact z) (by rw [upd_ne (h.ne hp e)]; exact (h p hp).1) rfl
theorem TbOk.alloc {K : Fg} {F H : Hp} (h : TbOk K F H) {q : Addr} {o : HO} (Fq : F q = none) (hq : H q = none) : TbOk K (upd F q o) (upd H q o) := fun p hp =>
  ((h.frz Fq (.inl hq)) p hp).to (Same.refl _) ((h.frz Fq (.inl hq)) p hp).1 (upd_ne (h.ne hp (.inl hq)))
theorem TbOk.put {K : Fg} {F H : Hp} (h : TbOk K F H) {a : Addr} {o o' : HO} (e : H a = some o) (nt : NT o) : TbOk K F (upd H a o') := fun p hp =>
  (h p hp).to (Same.refl _) (h p hp).1 (upd_ne (h.ne hp (.inr ⟨o, e, nt⟩)))
mutual
inductive Rp (K : Fg) (mg : MG) (F : Hp) : V → D → Prop
  | non : Rp K mg F .non .non
  | bl (b : Bool) : Rp K mg F (.bl b) (.bl b)
  | int (i : Int) : Rp K mg F (.int i) (.int i)
  | str (s : Str) (h : SOk s) : Rp K mg F (.str s) (.str s)
  | lst {a : Addr} {xs : List V} {ds : List D} : SqL K F a xs → Rps K mg F xs ds → Rp K mg F (.ref a) (.lst ds)
  | tup {a : Addr} {xs : List V} {ds : List D} : SqT K F a xs → Rps K mg F xs ds → Rp K mg F (.ref a) (.tup ds)
  | ins {a C dx : Addr} {c : Str} : F a = some (.ins C dx []) → mg c = some (.ref C) → Rp K mg F (.ref a) (.ins c)
  | fn {a : Addr} {f : Str} : mg f = some (.ref a) → Rp K mg F (.ref a) (.fn f)
  | cls {a : Addr} {c : Str} : mg c = some (.ref a) → Rp K mg F (.ref a) (.cls c)
  | ty (n : String) : Rp K mg F (.ty n) (.ty n)
  | lam {f c : Addr} {q : Str} {ps : Arguments} {b : Expr} {sc : Scope} : F f = some (LamO f q ps b sc c) → F c = some (LamX.CodeO c q) → Rp K mg F (.ref f) (.lam q ps b sc)
  | exc {a C : Addr} {od : Option Addr} {c g : Str} {x : D} {v : V} : F a = some (ExcO (.ref C) od a) → mg c = some (.ref C) → XdAt F od g v → Rp K mg F v x → Rp K mg F (.ref a) (.exc c g x)
inductive Rps (K : Fg) (mg : MG) (F : Hp) : List V → List D → Prop
  | nil : Rps K mg F [] []
  | cons {v : V} {vs : List V} {d : D} {ds : List D} : Rp K mg F v d → Rps K mg F vs ds → Rps K mg F (v :: vs) (d :: ds)
end
/-- an exception in the air: its class, its dict -/
def XAir (K : Fg) (mg : MG) (F : Hp) (cls : Value) (od : Option Addr) (c g : Str) (x : D) : Prop := ∃ C v, cls = .ref C ∧ mg c = some (.ref C) ∧ XdAt F od g v ∧ Rp K mg F v x
theorem Same.rd {F F' : Hp} {a : Addr} {u : HO} (e : Same F F') (h : Rd F a u) : Rd F' a u := by
  rcases h with h | ⟨o, h⟩
  · exact .inl (e _ _ h)
  · exact .inr ⟨o, e _ _ h⟩
theorem Same.sql {K : Fg} {F F' : Hp} {a : Addr} {xs : List V} (e : Same F F') (h : SqL K F a xs) : SqL K F' a xs := by
  rcases h with h | h
  · exact .inl (Same.rd e h)
  · exact .inr h
theorem Same.sqt {K : Fg} {F F' : Hp} {a : Addr} {xs : List V} (e : Same F F') (h : SqT K F a xs) : SqT K F' a xs := by
  rcases h with h | h
  · exact .inl (Same.rd e h)
  · exact .inr h
section
variable {K : Fg} {mg : MG} {F F' : Hp}
mutual
theorem Rp.mono (e : Same F F') : ∀ (d : D) (v : V), Rp K mg F v d → Rp K mg F' v d
  | .non, _, h => by cases h; exact .non
  | .bl _, _, h => by cases h; exact .bl _
  | .int _, _, h => by cases h; exact .int _
  | .str _, _, h => by
    cases h with
    | str _ h1 => exact .str _ h1
  | .lst ds, _, h => by
    cases h with
    | lst h1 h2 => exact .lst (Same.sql e h1) (Rps.mono e ds _ h2)
  | .tup ds, _, h => by
    cases h with
    | tup h1 h2 => exact .tup (Same.sqt e h1) (Rps.mono e ds _ h2)
  | .ins _, _, h => by
    cases h with
    | ins h1 h2 => exact .ins (e _ _ h1) h2
  | .fn _, _, h => by
    cases h with
    | fn h1 => exact .fn h1
  | .cls _, _, h => by
    cases h with
    | cls h1 => exact .cls h1
  | .ty _, _, h => by cases h; exact .ty _
  | .lam _ _ _ _, _, h => by
    cases h with
    | lam h1 h2 => exact .lam (e _ _ h1) (e _ _ h2)
  | .exc _ _ x, _, h => by
    cases h with
    | exc h1 h2 h3 h4 => exact .exc (e _ _ h1) h2 (h3.mono e) (Rp.mono e x _ h4)
theorem Rps.mono (e : Same F F') : ∀ (ds : List D) (vs : List V), Rps K mg F vs ds → Rps K mg F' vs ds
  | [], _, h => by cases h; exact .nil
  | d :: ds, _, h => by
    cases h with
    | cons h1 h2 => exact .cons (Rp.mono e d _ h1) (Rps.mono e ds _ h2)
end
theorem Rps.len {vs : List V} {ds : List D} (h : Rps K mg F vs ds) : vs.length = ds.length := by
  induction ds generalizing vs with
  | nil => cases h; rfl
  | cons d ds ih => cases h with
    | cons h1 h2 => simp [ih h2]
theorem Rps.get {vs : List V} {ds : List D} (h : Rps K mg F vs ds) (i : Nat) {d : D} (e : ds[i]? = some d) : ∃ v, vs[i]? = some v ∧ Rp K mg F v d := by
  induction ds generalizing vs i with
  | nil => simp at e
  | cons x ds ih => cases h with
    | cons h1 h2 =>
      cases i with
      | zero => simp at e; subst e; exact ⟨_, rfl, h1⟩
      | succ i => exact ih h2 i (by simpa using e)
theorem Rps.app {vs ws : List V} {ds es : List D} (h : Rps K mg F vs ds) (g : Rps K mg F ws es) : Rps K mg F (vs ++ ws) (ds ++ es) := by
  induction ds generalizing vs with
  | nil => cases h; exact g
  | cons d ds ih => cases h with
    | cons h1 h2 => exact .cons h1 (ih h2)
theorem Rps.one {v : V} {d : D} (h : Rp K mg F v d) : Rps K mg F [v] [d] := .cons h .nil
theorem Rps.take {vs : List V} {ds : List D} (h : Rps K mg F vs ds) (n : Nat) : Rps K mg F (vs.take n) (ds.take n) := by
  induction n generalizing vs ds with
  | zero => exact .nil
  | succ n ih => cases ds with
    | nil => cases h; exact .nil
    | cons d ds => cases h with
      | cons h1 h2 => exact .cons h1 (ih h2)
theorem Rps.drop {vs : List V} {ds : List D} (h : Rps K mg F vs ds) (n : Nat) : Rps K mg F (vs.drop n) (ds.drop n) := by
  induction n generalizing vs ds with
  | zero => exact h
  | succ n ih => cases ds with
    | nil => cases h; exact .nil
    | cons d ds => cases h with
      | cons h1 h2 => exact ih h2
theorem Rps.set {vs : List V} {ds : List D} (h : Rps K mg F vs ds) (i : Nat) {v : V} {d : D} (r : Rp K mg F v d) : Rps K mg F (vs.set i v) (ds.set i d) := by
  induction ds generalizing vs i with
  | nil => cases h; exact .nil
  | cons x ds ih => cases h with
    | cons h1 h2 => cases i with
      | zero => exact .cons r h2
      | succ i => exact .cons h1 (ih h2 i)
theorem Rps.rev {vs : List V} {ds : List D} (h : Rps K mg F vs ds) : Rps K mg F vs.reverse ds.reverse := by
  induction ds generalizing vs with
  | nil => cases h; exact .nil
  | cons d ds ih => cases h with
    | cons h1 h2 => rw [List.reverse_cons, List.reverse_cons]; exact (ih h2).app (.one h1)
theorem Rps.erase {vs : List V} {ds : List D} (h : Rps K mg F vs ds) (i : Nat) : Rps K mg F (vs.eraseIdx i) (ds.eraseIdx i) := by
  induction ds generalizing vs i with
  | nil => cases h; exact .nil
  | cons x ds ih => cases h with
    | cons h1 h2 => cases i with
      | zero => exact h2
      | succ i => exact .cons h1 (ih h2 i)
theorem Rps.reps {vs : List V} {ds : List D} (h : Rps K mg F vs ds) (k : Nat) : Rps K mg F (List.replicate k vs).flatten (List.replicate k ds).flatten := by
  induction k with
  | zero => exact .nil
  | succ k ih => rw [List.replicate_succ, List.replicate_succ, List.flatten_cons, List.flatten_cons]; exact h.app ih
end
inductive IV where
  /-- data that nobody changes any more -/
  | d (x : D)
  /-- a list that its holder alone may change -/
  | own (xs : List D)
  /-- a dict, an instance with fields, held likewise -/
  | dct (kvs : List (Key × D))
  | obj (c : Str) (fs : List (Str × (D ⊕ List D)))
abbrev AS := Addr → Prop
/-- the fields of an instance; os: where its own lists lie -/
inductive FldsOk (K : Fg) (mg : MG) (F H : Hp) : List (Str × V) → List (Str × (D ⊕ List D)) → List Addr → Prop
  | nil : FldsOk K mg F H [] [] []
  | dat {n : Str} {v : V} {d : D} {r : List (Str × V)} {rs : List (Str × (D ⊕ List D))} {os : List Addr} : Rp K mg F v d → FldsOk K mg F H r rs os → FldsOk K mg F H ((n, v) :: r) ((n, .inl d) :: rs) os
  | own {n : Str} {b : Addr} {vs : List V} {xs : List D} {r : List (Str × V)} {rs : List (Str × (D ⊕ List D))} {os : List Addr} : H b = some (.lst vs) → Rps K mg F vs xs → b ∉ os → FldsOk K mg F H r rs os → FldsOk K mg F H ((n, .ref b) :: r) ((n, .inr xs) :: rs) (b :: os)
/-- the entries of a dict -/
inductive KvsOk (K : Fg) (mg : MG) (F : Hp) : List (Key × V) → List (Key × D) → Prop
  | nil : KvsOk K mg F [] []
  | cons {k : Key} {v : V} {d : D} {r : List (Key × V)} {rs : List (Key × D)} : Rp K mg F v d → KvsOk K mg F r rs → KvsOk K mg F ((k, v) :: r) ((k, d) :: rs)
def OwnV (K : Fg) (mg : MG) (F H : Hp) (v : V) (iv : IV) (S : AS) : Prop := match iv with
  | .d x => Rp K mg F v x ∧ ∀ b, ¬ S b
  | .own xs => ∃ a vs, v = .ref a ∧ H a = some (.lst vs) ∧ Rps K mg F vs xs ∧ ∀ b, S b ↔ b = a
  | .dct kvs => ∃ a kvv, v = .ref a ∧ H a = some (.dK kvv) ∧ KvsOk K mg F kvv kvs ∧ ∀ b, S b ↔ b = a
  | .obj c fs => ∃ a C dx fv os, v = .ref a ∧ mg c = some (.ref C) ∧ H a = some (.ins C dx fv) ∧ FldsOk K mg F H fv fs os ∧ ∀ b, S b ↔ b = a ∨ b ∈ os
section
variable {K : Fg} {mg : MG} {F F' H H' : Hp} {v : V} {iv : IV} {S : AS}
theorem FldsOk.hs {fv : List (Str × V)} {fs : List (Str × (D ⊕ List D))} {os : List Addr} (h : FldsOk K mg F H fv fs os) : ∀ b ∈ os, ∃ vs, H b = some (.lst vs) := by
  induction h with
  | nil => intro b hb; cases hb
  | dat _ _ ih => exact ih
  | own h1 _ _ _ ih =>
    intro b hb
    rcases List.mem_cons.mp hb with e | e
    · rw [e]; exact ⟨_, h1⟩
    · exact ih b e
theorem FldsOk.mono {fv : List (Str × V)} {fs : List (Str × (D ⊕ List D))} {os : List Addr} (e : Same F F') (h : FldsOk K mg F H fv fs os) : (∀ b ∈ os, H' b = H b) → FldsOk K mg F' H' fv fs os := by
  induction h with
  | nil => exact fun _ => .nil
  | dat h1 _ ih => exact fun k => .dat (Rp.mono e _ _ h1) (ih k)
  | own h1 h2 h3 _ ih => exact fun k => .own ((k _ (List.mem_cons_self ..)).trans h1) (Rps.mono e _ _ h2) h3 (ih fun b hb => k b (List.mem_cons_of_mem _ hb))
theorem KvsOk.mono {r : List (Key × V)} {rs : List (Key × D)} (e : Same F F') (h : KvsOk K mg F r rs) : KvsOk K mg F' r rs := by
  induction h with
  | nil => exact .nil
  | cons h1 _ ih => exact .cons (Rp.mono e _ _ h1) ih
theorem KvsOk.len {r : List (Key × V)} {rs : List (Key × D)} (h : KvsOk K mg F r rs) : r.length = rs.length := by
  induction h with
  | nil => rfl
  | cons _ _ ih => simp [ih]
theorem OwnV.hs (h : OwnV K mg F H v iv S) {b : Addr} (hb : S b) : H b ≠ none := by
  cases iv with
  | d x => exact absurd hb (h.2 b)
  | own xs =>
    obtain ⟨a, vs, _, e, _, s⟩ := h
    rw [(s b).mp hb, e]
    simp
  | dct _ =>
    obtain ⟨a, vs, _, e, _, s⟩ := h
    rw [(s b).mp hb, e]
    simp
  | obj _ _ =>
    obtain ⟨a, C, dx, fv, os, _, _, e, f, s⟩ := h
    rcases (s b).mp hb with z | z
    · rw [z, e]; simp
    · obtain ⟨vs, q⟩ := f.hs b z
      rw [q]; simp
theorem OwnV.nt (h : OwnV K mg F H v iv S) {b : Addr} (hb : S b) : ∀ o, H b = some o → NT o := by
  cases iv with
  | d x => exact absurd hb (h.2 b)
  | own xs =>
    obtain ⟨a, vs, _, e, _, s⟩ := h
    intro o q
    rw [(s b).mp hb, e] at q
    cases q
    exact fun ps z => by cases z
  | dct _ =>
    obtain ⟨a, vs, _, e, _, s⟩ := h
    intro o q
    rw [(s b).mp hb, e] at q
    cases q
    exact fun ps z => by cases z
  | obj _ _ =>
    obtain ⟨a, C, dx, fv, os, _, _, e, f, s⟩ := h
    intro o q
    rcases (s b).mp hb with z | z
    · rw [z, e] at q; cases q; exact fun ps z => by cases z
    · obtain ⟨vs, w⟩ := f.hs b z
      rw [w] at q; cases q; exact fun ps z => by cases z
theorem OwnV.mono (e : Same F F') (k : ∀ b, S b → H' b = H b) (h : OwnV K mg F H v iv S) : OwnV K mg F' H' v iv S := by
  cases iv with
  | d x => exact ⟨Rp.mono e x v h.1, h.2⟩
  | own xs =>
    obtain ⟨a, vs, e1, e2, r, s⟩ := h
    exact ⟨a, vs, e1, (k a ((s a).mpr rfl)).trans e2, Rps.mono e xs vs r, s⟩
  | dct _ =>
    obtain ⟨a, vs, e1, e2, r, s⟩ := h
    exact ⟨a, vs, e1, (k a ((s a).mpr rfl)).trans e2, r.mono e, s⟩
  | obj _ _ =>
    obtain ⟨a, C, dx, fv, os, e1, m, e2, f, s⟩ := h
    exact ⟨a, C, dx, fv, os, e1, m, (k a ((s a).mpr (.inl rfl))).trans e2, f.mono e fun b hb => k b ((s b).mpr (.inr hb)), s⟩
theorem OwnV.ofD {x : D} (h : Rp K mg F v x) : OwnV K mg F H v (.d x) fun _ => False := ⟨h, fun _ z => z⟩
end
structure PStp (F H : Hp) (O : AS) (F' H' : Hp) : Prop where
  fF : Same F F'
  keep : ∀ b o, H b = some o → ¬ O b → NT o → H' b = some o
  fresh : ∀ b, H' b = none → H b = none
  frz : ∀ b o, F' b = some o → F b = some o ∨ O b ∨ H b = none
theorem PStp.refl (F H : Hp) (O : AS) : PStp F H O F H := ⟨Same.refl F, fun _ _ h _ _ => h, fun _ h => h, fun _ _ h => .inl h⟩
theorem PStp.trans {F H F1 H1 F2 H2 : Hp} {O O1 : AS} (a : PStp F H O F1 H1) (b : PStp F1 H1 O1 F2 H2) (ho : ∀ b, O1 b → O b ∨ H b = none) : PStp F H O F2 H2 := by
  refine ⟨a.fF.trans b.fF, fun x o h n nt => ?_, fun x h => a.fresh x (b.fresh x h), fun x o h => ?_⟩
  · refine b.keep x o (a.keep x o h n nt) (fun q => ?_) nt
    rcases ho x q with z | z
    · exact n z
    · rw [h] at z; cases z
  · rcases b.frz x o h with z | z | z
    · exact a.frz x o z
    · exact .inr (ho x z)
    · exact .inr (.inr (a.fresh x z))
/-- what stands and may not be changed is as it was -/
theorem PStp.same {F H F' H' : Hp} {O : AS} (a : PStp F H O F' H') {b : Addr} (hb : H b ≠ none) (n : ¬ O b) (nt : ∀ o, H b = some o → NT o) : H' b = H b := by
  cases e : H b with
  | none => exact absurd e hb
  | some o => exact a.keep b o e n (nt o e)
theorem PStp.nofrz {F H F' H' : Hp} {O : AS} (a : PStp F H O F' H') {b : Addr} (hb : H b ≠ none) (n : ¬ O b) (hf : F b = none) : F' b = none := by
  cases e : F' b with
  | none => rfl
  | some o =>
    rcases a.frz b o e with z | z | z
    · rw [hf] at z; cases z
    · exact absurd z n
    · exact absurd z hb
theorem PStp.mono {F H F' H' : Hp} {O O' : AS} (a : PStp F H O F' H') (h : ∀ b, O b → O' b) : PStp F H O' F' H' :=
  ⟨a.fF, fun b o e n nt => a.keep b o e (fun z => n (h b z)) nt, a.fresh, fun b o e => (a.frz b o e).imp_right (Or.imp_left (h b))⟩
abbrev Env := List (Option IV)
abbrev FP := Nat → Addr → Prop
structure StOk (K : Fg) (mg : MG) (F H : Hp) (σ : L2.St) (env : Env) (fp : FP) : Prop where
  ex : Same F H
  len : σ.length = env.length
  slot : ∀ (i : Nat) (iv : IV), env[i]? = some (some iv) → ∃ v, σ[i]? = some (some v) ∧ OwnV K mg F H v iv (fp i)
  emp : ∀ (i : Nat) (b : Addr), fp i b → ∃ iv, env[i]? = some (some iv)
  disj : ∀ (i j : Nat) (b : Addr), fp i b → fp j b → i = j
  fr : ∀ (i : Nat) (b : Addr), fp i b → F b = none
  tb : TbOk K F H
def fpO (fp : FP) : AS := fun b => ∃ i, fp i b
theorem StOk.hs {K : Fg} {mg : MG} {F H : Hp} {σ : L2.St} {env : Env} {fp : FP} (h : StOk K mg F H σ env fp) {i : Nat} {b : Addr} (hb : fp i b) : H b ≠ none := by
  obtain ⟨iv, e⟩ := h.emp i b hb
  obtain ⟨v, _, o⟩ := h.slot i iv e
  exact o.hs hb
/-- from one place of a body to a later one; lk: the slots whose object is the caller's -/
structure Stp (lk : Nat → Prop) (F H : Hp) (σ : L2.St) (fp : FP) (F' H' : Hp) (σ' : L2.St) (fp' : FP) : Prop where
  p : PStp F H (fpO fp) F' H'
  own : ∀ (i : Nat) (b : Addr), fp' i b → fp i b ∨ H b = none
  par : ∀ (i : Nat), lk i → σ'[i]? = σ[i]? ∧ ∀ b, fp' i b → fp i b
theorem Stp.refl (lk : Nat → Prop) (F H : Hp) (σ : L2.St) (fp : FP) : Stp lk F H σ fp F H σ fp :=
  ⟨.refl .., fun _ _ h => .inl h, fun _ _ => ⟨rfl, fun _ h => h⟩⟩
theorem Stp.trans {lk : Nat → Prop} {F H F1 H1 F2 H2 : Hp} {σ σ1 σ2 : L2.St} {fp fp1 fp2 : FP} (a : Stp lk F H σ fp F1 H1 σ1 fp1) (b : Stp lk F1 H1 σ1 fp1 F2 H2 σ2 fp2) : Stp lk F H σ fp F2 H2 σ2 fp2 := by
  refine ⟨a.p.trans b.p fun x ⟨i, z⟩ => (a.own i x z).imp_left fun q => ⟨i, q⟩, fun i x z => ?_, fun i hi => ?_⟩
  · rcases b.own i x z with q | q
    · exact a.own i x q
    · exact .inr (a.p.fresh x q)
  · obtain ⟨e1, f1⟩ := a.par i hi
    obtain ⟨e2, f2⟩ := b.par i hi
    exact ⟨e2.trans e1, fun x z => f1 x (f2 x z)⟩
theorem Stp.weak {lk lk' : Nat → Prop} {F H F' H' : Hp} {σ σ' : L2.St} {fp fp' : FP} (a : Stp lk F H σ fp F' H' σ' fp') (h : ∀ i, lk' i → lk i) : Stp lk' F H σ fp F' H' σ' fp' :=
  ⟨a.p, a.own, fun i hi => a.par i (h i hi)⟩
/-- all slots -/
def allS : Nat → Prop := fun _ => True
abbrev EStp := Stp allS
/-- a value that nobody holds yet: what it may be changed by is new since H -/
def Tmp (K : Fg) (mg : MG) (H F' H' : Hp) (v : V) (iv : IV) (S : AS) : Prop := OwnV K mg F' H' v iv S ∧ ∀ b, S b → H b = none ∧ F' b = none
theorem Tmp.ofD {K : Fg} {mg : MG} {H F' H' : Hp} {v : V} {x : D} (h : Rp K mg F' v x) : Tmp K mg H F' H' v (.d x) fun _ => False := ⟨.ofD h, fun _ z => z.elim⟩
end SD
namespace SD
open PySem L2
abbrev Fenv := Str → List IV → Option (IV × List IV)
abbrev Den := Fenv → Env → Option (IV × Env)
abbrev TDen := Fenv → Env → Option (Bool × Env)
/-- an operand: a slot whose object is changed where it stands, or a value -/
inductive Opd where
  | pl (i : Nat)
  | val (iv : IV)
abbrev ODen := Fenv → Env → Option (Opd × Env)
abbrev Prim := List IV → Option (IV × List IV)
section
variable (K : Fg) (mg : MG) (Φ : Fenv)
def tE (d : Den) : TE := fun σ H Q => ∃ F env fp iv env', StOk K mg F H σ env fp ∧ d Φ env = some (iv, env') ∧
  ∀ v H' F' fp' S, StOk K mg F' H' σ env' fp' → EStp F H σ fp F' H' σ fp' → Tmp K mg H F' H' v iv S → Q v H'
def tT (d : TDen) : TT := fun σ H Q => ∃ F env fp b env', StOk K mg F H σ env fp ∧ d Φ env = some (b, env') ∧
  ∀ H' F' fp', StOk K mg F' H' σ env' fp' → EStp F H σ fp F' H' σ fp' → Q b H'
def OpdOk (H F' H' : Hp) (σ : L2.St) (v : V) (o : Opd) (S : AS) : Prop := match o with
  | .pl i => σ[i]? = some (some v) ∧ ∀ b, ¬ S b
  | .val iv => Tmp K mg H F' H' v iv S
def tO (d : ODen) : TE := fun σ H Q => ∃ F env fp o env', StOk K mg F H σ env fp ∧ d Φ env = some (o, env') ∧
  ∀ v H' F' fp' S, StOk K mg F' H' σ env' fp' → EStp F H σ fp F' H' σ fp' → OpdOk K mg H F' H' σ v o S → Q v H'
def evL : List ODen → Fenv → Env → Option (List Opd × Env)
  | [], _, env => some ([], env)
  | d :: ds, Φ, env => (d Φ env).bind fun r => (evL ds Φ r.2).bind fun q => some (r.1 :: q.1, q.2)
structure OpdsOk (H F' H' : Hp) (σ : L2.St) (vs : List V) (os : List Opd) (Ss : FP) : Prop where
  len : vs.length = os.length
  pl : ∀ (k i : Nat), os[k]? = some (.pl i) → ∃ v, vs[k]? = some v ∧ σ[i]? = some (some v)
  val : ∀ (k : Nat) (iv : IV), os[k]? = some (.val iv) → ∃ v, vs[k]? = some v ∧ OwnV K mg F' H' v iv (Ss k)
  emp : ∀ (k : Nat) (b : Addr), Ss k b → ∃ iv, os[k]? = some (.val iv)
  new : ∀ (k : Nat) (b : Addr), Ss k b → H b = none ∧ F' b = none
  dis : ∀ (k l : Nat) (b : Addr), Ss k b → Ss l b → k = l
def tL (ds : List ODen) : TA := fun σ H R => ∃ F env fp os env', StOk K mg F H σ env fp ∧ evL ds Φ env = some (os, env') ∧
  ∀ vs H' F' fp' Ss, StOk K mg F' H' σ env' fp' → EStp F H σ fp F' H' σ fp' → OpdsOk K mg H F' H' σ vs os Ss → R vs H'
end
def tArgs : List TE → TA
  | [] => tNil
  | t :: ts => tCons t (tArgs ts)
section
variable {K : Fg} {mg : MG} {Φ : Fenv}
theorem tE.imp {d : Den} {σ : L2.St} {H : Hp} {Q Q' : VK} (h : tE K mg Φ d σ H Q) (i : ∀ v H', Q v H' → Q' v H') : tE K mg Φ d σ H Q' := by
  obtain ⟨F, env, fp, iv, env', a, b, c⟩ := h
  exact ⟨F, env, fp, iv, env', a, b, fun v H' F' fp' S x y z => i _ _ (c v H' F' fp' S x y z)⟩
theorem tO.imp {d : ODen} {σ : L2.St} {H : Hp} {Q Q' : VK} (h : tO K mg Φ d σ H Q) (i : ∀ v H', Q v H' → Q' v H') : tO K mg Φ d σ H Q' := by
  obtain ⟨F, env, fp, iv, env', a, b, c⟩ := h
  exact ⟨F, env, fp, iv, env', a, b, fun v H' F' fp' S x y z => i _ _ (c v H' F' fp' S x y z)⟩
theorem tT.imp {d : TDen} {σ : L2.St} {H : Hp} {Q Q' : Bool → Hp → Prop} (h : tT K mg Φ d σ H Q) (i : ∀ v H', Q v H' → Q' v H') : tT K mg Φ d σ H Q' := by
  obtain ⟨F, env, fp, iv, env', a, b, c⟩ := h
  exact ⟨F, env, fp, iv, env', a, b, fun H' F' fp' x y => i _ _ (c H' F' fp' x y)⟩
theorem tL.imp {ds : List ODen} {σ : L2.St} {H : Hp} {Q Q' : List V → Hp → Prop} (h : tL K mg Φ ds σ H Q) (i : ∀ v H', Q v H' → Q' v H') : tL K mg Φ ds σ H Q' := by
  obtain ⟨F, env, fp, iv, env', a, b, c⟩ := h
  exact ⟨F, env, fp, iv, env', a, b, fun v H' F' fp' S x y z => i _ _ (c v H' F' fp' S x y z)⟩
/-- a temporary value stays while something else is reckoned -/
theorem Tmp.stay {H F1 H1 F2 H2 : Hp} {σ : L2.St} {env1 : Env} {fp fp1 fp2 : FP} {F : Hp} {v : V} {iv : IV} {S : AS} (t : Tmp K mg H F1 H1 v iv S)
    (st : ∀ b, fpO fp b → H b ≠ none) (a : EStp F H σ fp F1 H1 σ fp1) (b : EStp F1 H1 σ fp1 F2 H2 σ fp2) : Tmp K mg H F2 H2 v iv S := by
  have no : ∀ x, S x → ¬ fpO fp1 x := fun x hx ⟨i, z⟩ => st x ⟨i, (a.par i trivial).2 x z⟩ (t.2 x hx).1
  refine ⟨t.1.mono b.p.fF fun x hx => b.p.same (t.1.hs hx) (no x hx) (t.1.nt hx), fun x hx => ⟨(t.2 x hx).1, b.p.nofrz (t.1.hs hx) (no x hx) (t.2 x hx).2⟩⟩
theorem Tmp.old {H H1 F2 H2 : Hp} {v : V} {iv : IV} {S : AS} (h : ∀ b, H1 b = none → H b = none) (t : Tmp K mg H1 F2 H2 v iv S) : Tmp K mg H F2 H2 v iv S :=
  ⟨t.1, fun b hb => ⟨h b (t.2 b hb).1, (t.2 b hb).2⟩⟩
def fcons (S : AS) (Ss : FP) : FP := fun k => match k with
  | 0 => S
  | k + 1 => Ss k
theorem StOk.fpSome {F H : Hp} {σ : L2.St} {env : Env} {fp : FP} (st : StOk K mg F H σ env fp) : ∀ b, fpO fp b → H b ≠ none := fun b ⟨i, z⟩ => st.hs z
theorem OpdsOk.cons {F H F1 H1 F2 H2 : Hp} {σ : L2.St} {env : Env} {fp fp1 fp2 : FP} {v : V} {vs : List V} {o : Opd} {os : List Opd} {S : AS} {Ss : FP} (st : StOk K mg F H σ env fp) (p1 : EStp F H σ fp F1 H1 σ fp1) (p2 : EStp F1 H1 σ fp1 F2 H2 σ fp2)
    (ok1 : OpdOk K mg H F1 H1 σ v o S) (oks : OpdsOk K mg H1 F2 H2 σ vs os Ss) : OpdsOk K mg H F2 H2 σ (v :: vs) (o :: os) (fcons S Ss) := by
  have okS : OpdOk K mg H F2 H2 σ v o S := by
    cases o with
    | pl i => exact ok1
    | val iv => exact Tmp.stay (env1 := env) ok1 st.fpSome p1 p2
  have sS : ∀ b, S b → H1 b ≠ none := by
    cases o with
    | pl i => exact fun b z => absurd z (ok1.2 b)
    | val iv => exact fun b z => ok1.1.hs z
  refine ⟨by simp [oks.len], ?_, ?_, ?_, ?_, ?_⟩
  · intro k i z
    cases k with
    | zero => simp at z; subst z; exact ⟨v, rfl, okS.1⟩
    | succ k => exact oks.pl k i (by simpa using z)
  · intro k iv z
    cases k with
    | zero => simp at z; subst z; exact ⟨v, rfl, okS.1⟩
    | succ k => exact oks.val k iv (by simpa using z)
  · intro k b z
    cases k with
    | zero =>
      cases o with
      | pl i => exact absurd z (okS.2 b)
      | val iv => exact ⟨iv, rfl⟩
    | succ k => exact oks.emp k b z
  · intro k b z
    cases k with
    | zero =>
      cases o with
      | pl i => exact absurd z (okS.2 b)
      | val iv => exact okS.2 b z
    | succ k => exact ⟨p1.p.fresh b (oks.new k b z).1, (oks.new k b z).2⟩
  · intro k l b z y
    cases k with
    | zero => cases l with
      | zero => rfl
      | succ l => exact absurd (oks.new l b y).1 (sS b z)
    | succ k => cases l with
      | zero => exact absurd (oks.new k b z).1 (sS b y)
      | succ l => rw [oks.dis k l b z y]
theorem tL_args : ∀ (ds : List ODen) {σ : L2.St} {H : Hp} {R : List V → Hp → Prop}, tL K mg Φ ds σ H R → tArgs (ds.map (tO K mg Φ)) σ H R
  | [], σ, H, R, h => by
    obtain ⟨F, env, fp, os, env', st, e, c⟩ := h
    cases e
    refine c [] H F fp (fun _ _ => False) st (.refl ..) ⟨rfl, ?_, ?_, ?_, ?_, ?_⟩
    · intro k i z; simp at z
    · intro k i z; simp at z
    · intro k b z; exact z.elim
    · intro k b z; exact z.elim
    · intro k l b z; exact z.elim
  | d :: ds, σ, H, R, h => by
    obtain ⟨F, env, fp, os, env', st, e, c⟩ := h
    unfold evL at e
    obtain ⟨⟨o, env1⟩, e1, e⟩ := Option.bind_eq_some_iff.mp e
    obtain ⟨⟨os', env2⟩, e2, e⟩ := Option.bind_eq_some_iff.mp e
    cases e
    refine ⟨F, env, fp, o, env1, st, e1, fun v H1 F1 fp1 S st1 p1 ok1 => ?_⟩
    refine tL_args ds ⟨F1, env1, fp1, os', env2, st1, e2, fun vs H2 F2 fp2 Ss st2 p2 oks => ?_⟩
    exact c (v :: vs) H2 F2 fp2 (fcons S Ss) st2 (p1.trans p2) (OpdsOk.cons st p1 p2 ok1 oks)
theorem tArgs.imp : ∀ {ts : List TE} {σ : L2.St} {H : Hp} {R R' : List V → Hp → Prop}, (∀ t ∈ ts, ∀ σ H Q Q', t σ H Q → (∀ v H', Q v H' → Q' v H') → t σ H Q') → tArgs ts σ H R → (∀ v H', R v H' → R' v H') → tArgs ts σ H R'
  | [], _, _, _, _, _, h, i => i _ _ h
  | t :: ts, σ, H, R, R', m, h, i => m t (List.mem_cons_self ..) σ H _ _ h fun v H1 h1 => tArgs.imp (fun t' ht => m t' (List.mem_cons_of_mem _ ht)) h1 fun vs H2 => i _ _
def deref (env : Env) : Opd → Option IV
  | .pl i => (env[i]?).bind id
  | .val iv => some iv
def derefs (env : Env) : List Opd → Option (List IV)
  | [] => some []
  | o :: os => (deref env o).bind fun x => (derefs env os).bind fun xs => some (x :: xs)
def places : List Opd → List Nat
  | [] => []
  | .pl i :: os => i :: places os
  | .val _ :: os => places os
def wb : Env → List Opd → List IV → Env
  | env, .pl i :: os, iv :: ivs => wb (env.set i (some iv)) os ivs
  | env, .val _ :: os, _ :: ivs => wb env os ivs
  | env, _, _ => env
def wbF : FP → List Opd → FP → FP
  | fp, .pl i :: os, Ss => wbF (fun j => if j = i then Ss 0 else fp j) os fun k => Ss (k + 1)
  | fp, .val _ :: os, Ss => wbF fp os fun k => Ss (k + 1)
  | fp, [], _ => fp
theorem mem_places {i : Nat} : ∀ {os : List Opd}, i ∈ places os ↔ ∃ k : Nat, os[k]? = some (.pl i)
  | [] => by simp [places]
  | .pl j :: os => by
    simp only [places, List.mem_cons, mem_places (os := os)]
    constructor
    · rintro (e | ⟨k, e⟩)
      · exact ⟨0, by simp [e]⟩
      · exact ⟨k + 1, by simpa using e⟩
    · rintro ⟨k, e⟩
      cases k with
      | zero => simp at e; exact .inl e.symm
      | succ k => exact .inr ⟨k, by simpa using e⟩
  | .val _ :: os => by
    simp only [places, mem_places (os := os)]
    constructor
    · rintro ⟨k, e⟩
      exact ⟨k + 1, by simpa using e⟩
    · rintro ⟨k, e⟩
      cases k with
      | zero => simp at e
      | succ k => exact ⟨k, by simpa using e⟩
theorem wb_len : ∀ (os : List Opd) (env : Env) (ivs : List IV), (wb env os ivs).length = env.length
  | [], _, _ => rfl
  | .pl i :: os, env, [] => rfl
  | .pl i :: os, env, iv :: ivs => by simp [wb, wb_len os]
  | .val _ :: os, env, [] => rfl
  | .val _ :: os, env, iv :: ivs => by simp [wb, wb_len os]
theorem wb_off : ∀ (os : List Opd) (env : Env) (ivs : List IV) (i : Nat), i ∉ places os → (wb env os ivs)[i]? = env[i]?
  | [], _, _, _, _ => rfl
  | .pl j :: os, env, [], _, _ => rfl
  | .pl j :: os, env, iv :: ivs, i, h => by
    simp only [places, List.mem_cons, not_or] at h
    simp only [wb]
    rw [wb_off os _ ivs i h.2, List.getElem?_set_ne (fun e => h.1 e.symm)]
  | .val _ :: os, env, [], _, _ => rfl
  | .val _ :: os, env, iv :: ivs, i, h => by
    simp only [wb]
    exact wb_off os _ ivs i h
theorem wb_at : ∀ (os : List Opd) (env : Env) (ivs : List IV) (i k : Nat) (iv : IV), (places os).Nodup → os[k]? = some (.pl i) → ivs[k]? = some iv → i < env.length → (wb env os ivs)[i]? = some (some iv)
  | [], _, _, _, _, _, _, h, _, _ => by simp at h
  | .pl j :: os, env, [], _, _, _, _, _, h, _ => by simp at h
  | .pl j :: os, env, x :: ivs, i, 0, iv, nd, h, h2, hl => by
    simp at h h2
    subst h; subst h2
    simp only [wb]
    rw [wb_off os _ ivs j (List.nodup_cons.mp nd).1, List.getElem?_set_self hl]
  | .pl j :: os, env, x :: ivs, i, k + 1, iv, nd, h, h2, hl => by
    simp only [wb]
    exact wb_at os _ ivs i k iv (List.nodup_cons.mp nd).2 (by simpa using h) (by simpa using h2) (by simpa using hl)
  | .val _ :: os, env, [], _, _, _, _, _, h, _ => by simp at h
  | .val _ :: os, env, x :: ivs, i, 0, iv, nd, h, h2, hl => by simp at h
  | .val _ :: os, env, x :: ivs, i, k + 1, iv, nd, h, h2, hl => by
    simp only [wb]
    exact wb_at os _ ivs i k iv nd (by simpa using h) (by simpa using h2) hl
theorem wbF_off : ∀ (os : List Opd) (fp Ss : FP) (i : Nat), i ∉ places os → wbF fp os Ss i = fp i
  | [], _, _, _, _ => rfl
  | .pl j :: os, fp, Ss, i, h => by
    simp only [places, List.mem_cons, not_or] at h
    simp only [wbF]
    rw [wbF_off os _ _ i h.2, if_neg h.1]
  | .val _ :: os, fp, Ss, i, h => by
    simp only [wbF]
    exact wbF_off os _ _ i h
theorem wbF_at : ∀ (os : List Opd) (fp Ss : FP) (i k : Nat), (places os).Nodup → os[k]? = some (.pl i) → wbF fp os Ss i = Ss k
  | [], _, _, _, _, _, h => by simp at h
  | .pl j :: os, fp, Ss, i, 0, nd, h => by
    simp at h
    subst h
    simp only [wbF]
    rw [wbF_off os _ _ j (List.nodup_cons.mp nd).1, if_pos rfl]
  | .pl j :: os, fp, Ss, i, k + 1, nd, h => by
    simp only [wbF]
    exact wbF_at os _ _ i k (List.nodup_cons.mp nd).2 (by simpa using h)
  | .val _ :: os, fp, Ss, i, 0, nd, h => by simp at h
  | .val _ :: os, fp, Ss, i, k + 1, nd, h => by
    simp only [wbF]
    exact wbF_at os _ _ i k nd (by simpa using h)
theorem derefs_at {env : Env} : ∀ {os : List Opd} {ivs : List IV}, derefs env os = some ivs → os.length = ivs.length ∧ ∀ (k : Nat) (o : Opd), os[k]? = some o → ∃ iv, ivs[k]? = some iv ∧ deref env o = some iv
  | [], _, h => by cases h; exact ⟨rfl, fun k o e => by simp at e⟩
  | o :: os, ivs, h => by
    unfold derefs at h
    obtain ⟨x, e1, h⟩ := Option.bind_eq_some_iff.mp h
    obtain ⟨xs, e2, h⟩ := Option.bind_eq_some_iff.mp h
    cases h
    obtain ⟨l, g⟩ := derefs_at e2
    refine ⟨by simp [l], fun k o' e => ?_⟩
    cases k with
    | zero => simp at e; subst e; exact ⟨x, rfl, e1⟩
    | succ k => exact g k o' (by simpa using e)
/-- a primitive over its arguments as slots -/
def tPrim (K : Fg) (mg : MG) (p : Prim) : List V → Hp → VK → Prop := fun vs H Q => ∃ F ivs fp res ivs', StOk K mg F H (vs.map some) (ivs.map some) fp ∧ p ivs = some (res, ivs') ∧
  ∀ v H' F' fp' S, StOk K mg F' H' (vs.map some) (ivs'.map some) fp' → EStp F H (vs.map some) fp F' H' (vs.map some) fp' → Tmp K mg H F' H' v res S → Q v H'
def dPrim (p : Prim) (ds : List ODen) : Den := fun Φ env => (evL ds Φ env).bind fun r =>
  if (places r.1).Nodup then (derefs r.2 r.1).bind fun ivs => (p ivs).bind fun q => some (q.1, wb r.2 r.1 q.2) else none
theorem prim_at0 {p : Prim} {ds : List ODen} {σ : L2.St} {F H : Hp} {env env' : Env} {fp : FP} {iv : IV} (st : StOk K mg F H σ env fp) (e : dPrim p ds Φ env = some (iv, env')) :
    ∃ os env1, evL ds Φ env = some (os, env1) ∧ ∀ vs H1 F1 fp1 Ss, StOk K mg F1 H1 σ env1 fp1 → EStp F H σ fp F1 H1 σ fp1 → OpdsOk K mg H F1 H1 σ vs os Ss →
      ∃ ivs A ivs', StOk K mg F1 H1 (vs.map some) (ivs.map some) A ∧ p ivs = some (iv, ivs') ∧ ∀ H' F' B, StOk K mg F' H' (vs.map some) (ivs'.map some) B → EStp F1 H1 (vs.map some) A F' H' (vs.map some) B →
        ∃ fp', StOk K mg F' H' σ env' fp' ∧ EStp F H σ fp F' H' σ fp' := by
  unfold dPrim at e
  obtain ⟨⟨os, env1⟩, e1, e⟩ := Option.bind_eq_some_iff.mp e
  simp only at e
  split at e
  case isFalse => cases e
  case isTrue nd =>
  obtain ⟨ivs, e2, e⟩ := Option.bind_eq_some_iff.mp e
  obtain ⟨⟨res, ivs'⟩, e3, e⟩ := Option.bind_eq_some_iff.mp e
  cases e
  refine ⟨os, env1, e1, fun vs H1 F1 fp1 Ss st1 p1 oks => ?_⟩
  obtain ⟨hl, hat⟩ := derefs_at e2
  -- the arguments as slots
  let A : FP := fun k b => (∃ i, os[k]? = some (.pl i) ∧ fp1 i b) ∨ Ss k b
  have hT : ∀ k b, Ss k b → H b = none := fun k b z => (oks.new k b z).1
  have hP : ∀ i b, fp1 i b → H b ≠ none := fun i b z => st.hs ((p1.par i trivial).2 b z)
  have aPl : ∀ {k i b}, os[k]? = some (.pl i) → A k b → fp1 i b := fun {k i b} e z => by
    rcases z with ⟨j, e', z⟩ | z
    · rw [e] at e'; cases e'; exact z
    · obtain ⟨iv, e'⟩ := oks.emp k b z
      rw [e] at e'; cases e'
  have aVal : ∀ {k iv b}, os[k]? = some (.val iv) → (A k b ↔ Ss k b) := fun {k iv b} e => by
    constructor
    · rintro (⟨j, e', z⟩ | z)
      · rw [e] at e'; cases e'
      · exact z
    · exact .inr
  have stA : StOk K mg F1 H1 (vs.map some) (ivs.map some) A := by
    refine ⟨st1.ex, by simp [oks.len, hl], ?_, ?_, ?_, ?_, st1.tb⟩
    · intro k iv e
      rw [List.getElem?_map] at e
      obtain ⟨iv', e', e''⟩ := Option.map_eq_some_iff.mp e
      cases e''
      have hk : k < os.length := by rw [hl]; exact (List.getElem?_eq_some_iff.mp e').1
      obtain ⟨iv2, g1, g2⟩ := hat k os[k] (by simp [hk])
      rw [e'] at g1; cases g1
      cases ho : os[k] with
      | pl i =>
        have eo : os[k]? = some (.pl i) := by simp [hk, ho]
        rw [ho] at g2
        obtain ⟨x, g3, g4⟩ := Option.bind_eq_some_iff.mp g2
        cases g4
        obtain ⟨v, s1, s2⟩ := st1.slot i iv g3
        obtain ⟨v', t1, t2⟩ := oks.pl k i eo
        rw [s1] at t2; cases t2
        refine ⟨v, by simp [t1], ?_⟩
        have ea : A k = fp1 i := funext fun b => propext ⟨fun z => aPl eo z, fun z => .inl ⟨i, eo, z⟩⟩
        rw [ea]
        exact s2
      | val iv3 =>
        have eo : os[k]? = some (.val iv3) := by simp [hk, ho]
        rw [ho] at g2
        cases g2
        obtain ⟨v, t1, t2⟩ := oks.val k iv eo
        refine ⟨v, by simp [t1], ?_⟩
        have ea : A k = Ss k := funext fun b => propext (aVal eo)
        rw [ea]
        exact t2
    · intro k b z
      have hk : k < os.length := by
        rcases z with ⟨i, e, _⟩ | z
        · exact (List.getElem?_eq_some_iff.mp e).1
        · obtain ⟨iv, e⟩ := oks.emp k b z
          exact (List.getElem?_eq_some_iff.mp e).1
      have hk2 : k < ivs.length := by rw [← hl]; exact hk
      exact ⟨ivs[k], by simp [hk2]⟩
    · intro k l b z y
      rcases z with ⟨i, e, z⟩ | z
      · rcases y with ⟨j, e', y⟩ | y
        · have ij := st1.disj i j b z y
          subst ij
          -- the same place once alone
          exact by
            have key : ∀ (os : List Opd), (places os).Nodup → ∀ (k l : Nat), os[k]? = some (.pl i) → os[l]? = some (.pl i) → k = l := by
              intro os
              induction os with
              | nil => intro _ k l h; simp at h
              | cons o os ih =>
                intro nd k l h1 h2
                cases k with
                | zero => cases l with
                  | zero => rfl
                  | succ l =>
                    simp at h1
                    subst h1
                    exact absurd (mem_places.mpr ⟨l, by simpa using h2⟩) (List.nodup_cons.mp nd).1
                | succ k => cases l with
                  | zero =>
                    simp at h2
                    subst h2
                    exact absurd (mem_places.mpr ⟨k, by simpa using h1⟩) (List.nodup_cons.mp nd).1
                  | succ l =>
                    have nd' : (places os).Nodup := by
                      cases o with
                      | pl j => exact (List.nodup_cons.mp nd).2
                      | val _ => exact nd
                    rw [ih nd' k l (by simpa using h1) (by simpa using h2)]
            exact key os nd k l e e'
        · exact absurd (hT l b y) (hP i b z)
      · rcases y with ⟨j, e', y⟩ | y
        · exact absurd (hT k b z) (hP j b y)
        · exact oks.dis k l b z y
    · intro k b z
      rcases z with ⟨i, e, z⟩ | z
      · exact st1.fr i b z
      · exact (oks.new k b z).2
  refine ⟨ivs, A, ivs', stA, e3, fun H' F' B stB pB => ?_⟩
  have lB : vs.length = ivs'.length := by simpa using stB.len
  have ho : ∀ b, fpO A b → fpO fp b ∨ H b = none := by
    rintro b ⟨k, ⟨i, e, z⟩ | z⟩
    · exact .inl ⟨i, (p1.par i trivial).2 b z⟩
    · exact .inr (hT k b z)
  have pl_lt : ∀ {k i}, os[k]? = some (.pl i) → i < env1.length ∧ k < ivs'.length := fun {k i} e => by
    obtain ⟨iv2, g1, g2⟩ := hat k _ e
    obtain ⟨x, g3, g4⟩ := Option.bind_eq_some_iff.mp g2
    refine ⟨(List.getElem?_eq_some_iff.mp g3).1, ?_⟩
    rw [← lB, oks.len]
    exact (List.getElem?_eq_some_iff.mp e).1
  have bSub : ∀ i b, wbF fp1 os B i b → fp1 i b := fun i b z => by
    by_cases hi : i ∈ places os
    · obtain ⟨k, e⟩ := mem_places.mp hi
      rw [wbF_at os fp1 B i k nd e] at z
      exact aPl e ((pB.par k trivial).2 b z)
    · rw [wbF_off os fp1 B i hi] at z
      exact z
  have offA : ∀ i b, i ∉ places os → fp1 i b → ¬ fpO A b := by
    rintro i b hi z ⟨k, ⟨j, e, y⟩ | y⟩
    · have := st1.disj i j b z y
      subst this
      exact hi (mem_places.mpr ⟨k, e⟩)
    · exact absurd (hT k b y) (hP i b z)
  refine ⟨wbF fp1 os B, ⟨stB.ex, by rw [wb_len]; exact st1.len, ?_, ?_, ?_, ?_, stB.tb⟩, ⟨p1.p.trans pB.p ho, ?_, ?_⟩⟩
  · intro i iv e
    by_cases hi : i ∈ places os
    · obtain ⟨k, ek⟩ := mem_places.mp hi
      obtain ⟨h1, h2⟩ := pl_lt ek
      have e4 : ivs'[k]? = some ivs'[k] := by simp [h2]
      rw [wb_at os env1 ivs' i k _ nd ek e4 h1] at e
      cases e
      obtain ⟨v2, s1, s2⟩ := stB.slot k ivs'[k] (by simp [h2])
      rw [List.getElem?_map] at s1
      obtain ⟨v3, s3, s4⟩ := Option.map_eq_some_iff.mp s1
      cases s4
      obtain ⟨v4, t1, t2⟩ := oks.pl k i ek
      rw [s3] at t1; cases t1
      refine ⟨v2, t2, ?_⟩
      rw [wbF_at os fp1 B i k nd ek]
      exact s2
    · rw [wb_off os env1 ivs' i hi] at e
      obtain ⟨v2, s1, s2⟩ := st1.slot i iv e
      refine ⟨v2, s1, ?_⟩
      rw [wbF_off os fp1 B i hi]
      exact s2.mono pB.p.fF fun b z => pB.p.same (st1.hs z) (offA i b hi z) (s2.nt z)
  · intro i b z
    by_cases hi : i ∈ places os
    · obtain ⟨k, ek⟩ := mem_places.mp hi
      obtain ⟨h1, h2⟩ := pl_lt ek
      exact ⟨ivs'[k], wb_at os env1 ivs' i k _ nd ek (by simp [h2]) h1⟩
    · rw [wb_off os env1 ivs' i hi]
      rw [wbF_off os fp1 B i hi] at z
      exact st1.emp i b z
  · intro i j b z y
    exact st1.disj i j b (bSub i b z) (bSub j b y)
  · intro i b z
    by_cases hi : i ∈ places os
    · obtain ⟨k, ek⟩ := mem_places.mp hi
      rw [wbF_at os fp1 B i k nd ek] at z
      exact stB.fr k b z
    · rw [wbF_off os fp1 B i hi] at z
      exact pB.p.nofrz (st1.hs z) (offA i b hi z) (st1.fr i b z)
  · intro i b z
    exact .inl ((p1.par i trivial).2 b (bSub i b z))
  · intro i _
    exact ⟨rfl, fun b z => (p1.par i trivial).2 b (bSub i b z)⟩
theorem prim_at {p : Prim} {ds : List ODen} {σ : L2.St} {F H : Hp} {env env' : Env} {fp : FP} {iv : IV} {Q : VK} (st : StOk K mg F H σ env fp) (e : dPrim p ds Φ env = some (iv, env'))
    (c : ∀ v H' F' fp' S, StOk K mg F' H' σ env' fp' → EStp F H σ fp F' H' σ fp' → Tmp K mg H F' H' v iv S → Q v H') :
    ∃ os env1, evL ds Φ env = some (os, env1) ∧ ∀ vs H' F' fp' Ss, StOk K mg F' H' σ env1 fp' → EStp F H σ fp F' H' σ fp' → OpdsOk K mg H F' H' σ vs os Ss → tPrim K mg p vs H' Q := by
  obtain ⟨os, env1, e1, k⟩ := prim_at0 st e
  refine ⟨os, env1, e1, fun vs H1 F1 fp1 Ss st1 p1 oks => ?_⟩
  obtain ⟨ivs, A, ivs', stA, e3, k2⟩ := k vs H1 F1 fp1 Ss st1 p1 oks
  refine ⟨F1, ivs, A, iv, ivs', stA, e3, fun v H' F' B S stB pB tB => ?_⟩
  obtain ⟨fp', a, b⟩ := k2 H' F' B stB pB
  exact c v H' F' fp' S a b (Tmp.old (fun b z => p1.p.fresh b z) tB)
abbrev XDen := Fenv → Env → Option ((Str × Str × D) × Env)
def tRz (K : Fg) (mg : MG) (p : Prim) : List V → Hp → XK → Prop := fun vs H E => ∃ F ivs fp c g x ivs', StOk K mg F H (vs.map some) (ivs.map some) fp ∧ p ivs = some (.d (.exc c g x), ivs') ∧
  ∀ cls od H' F' fp', StOk K mg F' H' (vs.map some) (ivs'.map some) fp' → EStp F H (vs.map some) fp F' H' (vs.map some) fp' → XAir K mg F' cls od c g x → E cls od H'
def xRz (p : Prim) (ds : List ODen) : XDen := fun Φ env => match dPrim p ds Φ env with
  | some (.d (.exc c g x), env') => some ((c, g, x), env')
  | _ => none
def tX (K : Fg) (mg : MG) (Φ : Fenv) (W : WX) (d : XDen) (σ : L2.St) (H : Hp) : Prop := ∃ F env fp c g x env', StOk K mg F H σ env fp ∧ d Φ env = some ((c, g, x), env') ∧
  ∀ cls od H' F' fp', StOk K mg F' H' σ env' fp' → EStp F H σ fp F' H' σ fp' → XAir K mg F' cls od c g x → W cls od σ H'
theorem rz_args {W : WX} {p : Prim} {ds : List ODen} {σ : L2.St} {H : Hp} (h : tX K mg Φ W (xRz p ds) σ H) : tArgs (ds.map (tO K mg Φ)) σ H fun vs H1 => tRz K mg p vs H1 fun cls od H' => W cls od σ H' := by
  obtain ⟨F, env, fp, c, g, x, env', st, e, k⟩ := h
  unfold xRz at e
  split at e
  case h_2 => cases e
  case h_1 c' g' x' env2 e2 =>
    cases e
    obtain ⟨os, env1, e1, k1⟩ := prim_at0 st e2
    refine tL_args ds ⟨F, env, fp, os, env1, st, e1, fun vs H1 F1 fp1 Ss st1 p1 oks => ?_⟩
    obtain ⟨ivs, A, ivs', stA, e3, k2⟩ := k1 vs H1 F1 fp1 Ss st1 p1 oks
    refine ⟨F1, ivs, A, c, g, x, ivs', stA, e3, fun cls od H' F' B stB pB y => ?_⟩
    obtain ⟨fp', a, b⟩ := k2 H' F' B stB pB
    exact k cls od H' F' fp' a b y
theorem prim_args {p : Prim} {ds : List ODen} {σ : L2.St} {H : Hp} {Q : VK} (h : tE K mg Φ (dPrim p ds) σ H Q) : tArgs (ds.map (tO K mg Φ)) σ H fun vs H1 => tPrim K mg p vs H1 Q := by
  obtain ⟨F, env, fp, iv, env', st, e, c⟩ := h
  obtain ⟨os, env1, e1, g⟩ := prim_at st e c
  exact tL_args ds ⟨F, env, fp, os, env1, st, e1, g⟩
def dMeth (ok : IV → Bool) (p : Prim) (o : ODen) (ds : List ODen) : Den := fun Φ env => match (o Φ env).bind fun r => deref r.2 r.1 with
  | some iv => if ok iv then dPrim p (o :: ds) Φ env else none
  | none => none
theorem meth_args {ok : IV → Bool} {p : Prim} {o : ODen} {ds : List ODen} {σ : L2.St} {H : Hp} {Q : VK} (h : tE K mg Φ (dMeth ok p o ds) σ H Q) :
    tO K mg Φ o σ H fun x H1 => (∃ F iv S, ok iv = true ∧ Same F H1 ∧ OwnV K mg F H1 x iv S) ∧ tArgs (ds.map (tO K mg Φ)) σ H1 fun xs H2 => tPrim K mg p (x :: xs) H2 Q := by
  obtain ⟨F, env, fp, iv, env', st, e, c⟩ := h
  unfold dMeth at e
  split at e
  case h_2 => cases e
  case h_1 iv0 q =>
  split at e
  case isFalse => cases e
  case isTrue hk =>
  obtain ⟨⟨o1, env0⟩, q1, q2⟩ := Option.bind_eq_some_iff.mp q
  obtain ⟨os, env1, e1, g⟩ := prim_at st e c
  unfold evL at e1
  obtain ⟨r, e2, e1⟩ := Option.bind_eq_some_iff.mp e1
  rw [q1] at e2
  cases e2
  obtain ⟨⟨os', env2⟩, e3, e1⟩ := Option.bind_eq_some_iff.mp e1
  cases e1
  refine ⟨F, env, fp, o1, env0, st, q1, fun v H1 F1 fp1 S st1 p1 ok1 => ⟨?_, ?_⟩⟩
  · cases o1 with
    | pl i =>
      obtain ⟨x, g3, g4⟩ := Option.bind_eq_some_iff.mp q2
      cases g4
      obtain ⟨w, s1, s2⟩ := st1.slot i iv0 g3
      rw [ok1.1] at s1
      cases s1
      exact ⟨F1, iv0, fp1 i, hk, st1.ex, s2⟩
    | val x =>
      cases q2
      exact ⟨F1, iv0, S, hk, st1.ex, ok1.1⟩
  · refine tL_args ds ⟨F1, env0, fp1, os', _, st1, e3, fun vs H2 F2 fp2 Ss st2 p2 oks => g (v :: vs) H2 F2 fp2 (fcons S Ss) st2 (p1.trans p2) ?_⟩
    exact OpdsOk.cons st p1 p2 ok1 oks
end
end SD
namespace SD
open PySem L2
section
variable {X : Cx}
theorem PE.imp {e : Expr} {t t' : TE} (h : PE X e t) (i : ∀ σ H Q, t' σ H Q → t σ H Q) : PE X e t' := ⟨fun pins s σ H Q I w => h.run pins s σ H Q I (i _ _ _ w)⟩
theorem PT.imp {e : Expr} {t t' : TT} (h : PT X e t) (i : ∀ σ H Q, t' σ H Q → t σ H Q) : PT X e t' := ⟨fun pins s σ H Q I w => h.run pins s σ H Q I (i _ _ _ w)⟩
theorem PA.imp {es : List Expr} {t t' : TA} (h : PA X es t) (i : ∀ σ H Q, t' σ H Q → t σ H Q) : PA X es t' := ⟨fun pos pins s σ H Q I w => h.run pos pins s σ H Q I (i _ _ _ w)⟩
theorem PS.imp {st : Stmt} {t t' : TS} (h : PS X st t) (i : ∀ D σ H, t' D σ H → t D σ H) : PS X st t' := ⟨fun pins s σ H D I w => h.run pins s σ H D I (i _ _ _ w)⟩
theorem PSs.imp {st : List Stmt} {t t' : TS} (h : PSs X st t) (i : ∀ D σ H, t' D σ H → t D σ H) : PSs X st t' := ⟨fun pins s σ H D I w => h.run pins s σ H D I (i _ _ _ w)⟩
end
section
variable {K : Fg} {mg : MG} {F H : Hp} {σ : L2.St} {env : Env} {fp : FP}
theorem same_upd {F : Hp} {q : Addr} {o : HO} (h : F q = none) : Same F (upd F q o) := fun b x e => by
  rw [upd_ne (ne_of_none e h)]; exact e
theorem StOk.Fnone (st : StOk K mg F H σ env fp) {q : Addr} (h : H q = none) : F q = none := st.ex.free h
theorem StOk.alloc (st : StOk K mg F H σ env fp) {q : Addr} {o : HO} (hq : H q = none) : StOk K mg (upd F q o) (upd H q o) σ env fp ∧ EStp F H σ fp (upd F q o) (upd H q o) σ fp := by
  have fq := st.Fnone hq
  have ne : ∀ i b, fp i b → b ≠ q := fun i b z e => st.hs z (by rw [e]; exact hq)
  have s1 : Same F (upd F q o) := same_upd fq
  refine ⟨⟨fun b x e => ?_, st.len, fun i iv e => ?_, st.emp, st.disj, fun i b z => ?_, st.tb.alloc fq hq⟩, ⟨⟨s1, fun b x e _ _ => ?_, fun b e => ?_, fun b x e => ?_⟩, fun i b z => .inl z, fun i _ => ⟨rfl, fun b z => z⟩⟩⟩
  · by_cases hb : b = q
    · subst hb; rw [upd_same] at e ⊢; exact e
    · rw [upd_ne hb] at e ⊢; exact st.ex b x e
  · obtain ⟨v, h1, h2⟩ := st.slot i iv e
    exact ⟨v, h1, h2.mono s1 fun b z => upd_ne (ne i b z)⟩
  · rw [upd_ne (ne i b z)]; exact st.fr i b z
  · rw [upd_ne (ne_of_none e hq)]; exact e
  · by_cases hb : b = q
    · rw [hb]; exact hq
    · rw [upd_ne hb] at e; exact e
  · by_cases hb : b = q
    · rw [hb]; exact .inr (.inr hq)
    · rw [upd_ne hb] at e; exact .inl e
theorem StOk.allocO (st : StOk K mg F H σ env fp) {q : Addr} {o : HO} (hq : H q = none) : StOk K mg F (upd H q o) σ env fp ∧ EStp F H σ fp F (upd H q o) σ fp := by
  have fq := st.Fnone hq
  have ne : ∀ i b, fp i b → b ≠ q := fun i b z e => st.hs z (by rw [e]; exact hq)
  refine ⟨⟨fun b x e => ?_, st.len, fun i iv e => ?_, st.emp, st.disj, st.fr, st.tb.allocO hq⟩, ⟨⟨Same.refl _, fun b x e _ _ => ?_, fun b e => ?_, fun b x e => .inl e⟩, fun i b z => .inl z, fun i _ => ⟨rfl, fun b z => z⟩⟩⟩
  · rw [upd_ne (ne_of_none e fq)]; exact st.ex b x e
  · obtain ⟨v, h1, h2⟩ := st.slot i iv e
    exact ⟨v, h1, h2.mono (Same.refl _) fun b z => upd_ne (ne i b z)⟩
  · rw [upd_ne (ne_of_none e hq)]; exact e
  · by_cases hb : b = q
    · rw [hb]; exact hq
    · rw [upd_ne hb] at e; exact e
/-- the list that slot i holds is another one now -/
theorem StOk.put (st : StOk K mg F H σ env fp) {i : Nat} {a : Addr} {xs xs' : List D} {vs' : List V} (e : env[i]? = some (some (.own xs))) (hs : σ[i]? = some (some (.ref a))) (r : Rps K mg F vs' xs') :
    StOk K mg F (upd H a (.lst vs')) σ (env.set i (some (.own xs'))) fp ∧ EStp F H σ fp F (upd H a (.lst vs')) σ fp := by
  obtain ⟨v, h1, a', vs, e1, e2, _, s⟩ := st.slot i _ e
  rw [hs] at h1; cases h1
  cases e1
  have fa : fp i a := (s a).mpr rfl
  have Fa : F a = none := st.fr i a fa
  have il : i < env.length := (List.getElem?_eq_some_iff.mp e).1
  refine ⟨⟨fun b x q => ?_, by simpa using st.len, fun j iv q => ?_, fun j b z => ?_, st.disj, st.fr, st.tb.put e2 (fun ps z => by cases z)⟩, ⟨⟨Same.refl _, fun b x q n _ => ?_, fun b q => ?_, fun b x q => .inl q⟩, fun j b z => .inl z, fun j _ => ⟨rfl, fun b z => z⟩⟩⟩
  · rw [upd_ne (ne_of_none q Fa)]; exact st.ex b x q
  · by_cases hj : i = j
    · subst hj
      rw [List.getElem?_set_self il] at q
      cases q
      exact ⟨_, hs, a, vs', rfl, upd_same, r, s⟩
    · rw [List.getElem?_set_ne hj] at q
      obtain ⟨v, h1, h2⟩ := st.slot j iv q
      exact ⟨v, h1, h2.mono (Same.refl _) fun b z => upd_ne fun e => hj (st.disj i j b (by rw [e]; exact fa) z)⟩
  · obtain ⟨iv, q⟩ := st.emp j b z
    by_cases hj : i = j
    · subst hj; exact ⟨_, List.getElem?_set_self il⟩
    · exact ⟨iv, by rw [List.getElem?_set_ne hj]; exact q⟩
  · rw [upd_ne fun z => n ⟨i, by rw [z]; exact fa⟩]; exact q
  · by_cases hb : b = a
    · rw [hb, upd_same] at q; cases q
    · rw [upd_ne hb] at q; exact q
def fpOff (fp : FP) (i : Nat) : FP := fun j b => j ≠ i ∧ fp j b
/-- a dict likewise -/
theorem StOk.putK (st : StOk K mg F H σ env fp) {i : Nat} {a : Addr} {xs xs' : List (Key × D)} {vs' : List (Key × V)} (e : env[i]? = some (some (.dct xs))) (hs : σ[i]? = some (some (.ref a))) (r : KvsOk K mg F vs' xs') :
    StOk K mg F (upd H a (.dK vs')) σ (env.set i (some (.dct xs'))) fp ∧ EStp F H σ fp F (upd H a (.dK vs')) σ fp := by
  obtain ⟨v, h1, a', vs, e1, e2, _, s⟩ := st.slot i _ e
  rw [hs] at h1; cases h1
  cases e1
  have fa : fp i a := (s a).mpr rfl
  have Fa : F a = none := st.fr i a fa
  have il : i < env.length := (List.getElem?_eq_some_iff.mp e).1
  refine ⟨⟨fun b x q => ?_, by simpa using st.len, fun j iv q => ?_, fun j b z => ?_, st.disj, st.fr, st.tb.put e2 (fun ps z => by cases z)⟩, ⟨⟨Same.refl _, fun b x q n _ => ?_, fun b q => ?_, fun b x q => .inl q⟩, fun j b z => .inl z, fun j _ => ⟨rfl, fun b z => z⟩⟩⟩
  · rw [upd_ne (ne_of_none q Fa)]; exact st.ex b x q
  · by_cases hj : i = j
    · subst hj
      rw [List.getElem?_set_self il] at q
      cases q
      exact ⟨_, hs, a, vs', rfl, upd_same, r, s⟩
    · rw [List.getElem?_set_ne hj] at q
      obtain ⟨v, h1, h2⟩ := st.slot j iv q
      exact ⟨v, h1, h2.mono (Same.refl _) fun b z => upd_ne fun e => hj (st.disj i j b (by rw [e]; exact fa) z)⟩
  · obtain ⟨iv, q⟩ := st.emp j b z
    by_cases hj : i = j
    · subst hj; exact ⟨_, List.getElem?_set_self il⟩
    · exact ⟨iv, by rw [List.getElem?_set_ne hj]; exact q⟩
  · rw [upd_ne fun z => n ⟨i, by rw [z]; exact fa⟩]; exact q
  · by_cases hb : b = a
    · rw [hb, upd_same] at q; cases q
    · rw [upd_ne hb] at q; exact q
/-- the list of slot i is shared from now on -/
theorem StOk.freeze (st : StOk K mg F H σ env fp) {i : Nat} {xs : List D} (e : env[i]? = some (some (.own xs))) : ∃ a F', σ[i]? = some (some (.ref a)) ∧
    StOk K mg F' H σ (env.set i (some (.d (.lst xs)))) (fpOff fp i) ∧ EStp F H σ fp F' H σ (fpOff fp i) ∧ Rp K mg F' (.ref a) (.lst xs) := by
  obtain ⟨v, h1, a, vs, e1, e2, r, s⟩ := st.slot i _ e
  subst e1
  have fa : fp i a := (s a).mpr rfl
  have Fa : F a = none := st.fr i a fa
  have il : i < env.length := (List.getElem?_eq_some_iff.mp e).1
  have s1 : Same F (upd F a (.lst vs)) := same_upd Fa
  have rp : Rp K mg (upd F a (.lst vs)) (.ref a) (.lst xs) := .lst (.inl (.inl upd_same)) (Rps.mono s1 _ _ r)
  refine ⟨a, upd F a (.lst vs), h1, ⟨fun b x q => ?_, by simpa using st.len, fun j iv q => ?_, fun j b z => ?_, fun j k b z y => st.disj j k b z.2 y.2, fun j b z => ?_, st.tb.frz Fa (.inr ⟨_, e2, fun ps z => by cases z⟩)⟩, ⟨⟨s1, fun b x q _ _ => q, fun b q => q, fun b x q => ?_⟩, fun j b z => .inl z.2, fun j _ => ⟨rfl, fun b z => z.2⟩⟩, rp⟩
  · by_cases hb : b = a
    · subst hb; rw [upd_same] at q; cases q; exact e2
    · rw [upd_ne hb] at q; exact st.ex b x q
  · by_cases hj : i = j
    · subst hj
      rw [List.getElem?_set_self il] at q
      cases q
      exact ⟨_, h1, rp, fun b z => z.1 rfl⟩
    · rw [List.getElem?_set_ne hj] at q
      obtain ⟨v, g1, g2⟩ := st.slot j iv q
      have ea : fpOff fp i j = fp j := funext fun b => propext ⟨fun z => z.2, fun z => ⟨fun e => hj e.symm, z⟩⟩
      rw [ea]
      exact ⟨v, g1, g2.mono s1 fun _ _ => rfl⟩
  · obtain ⟨iv, q⟩ := st.emp j b z.2
    exact ⟨iv, by rw [List.getElem?_set_ne (Ne.symm z.1)]; exact q⟩
  · rw [upd_ne fun e => z.1 (st.disj j i b z.2 (by rw [e]; exact fa))]; exact st.fr j b z.2
  · by_cases hb : b = a
    · subst hb; exact .inr (.inl ⟨i, fa⟩)
    · rw [upd_ne hb] at q; exact .inl q
end
def IV.frz : IV → Option D
  | .d x => some x
  | .own xs => some (.lst xs)
  | _ => none
def dC (x : D) : Den := fun _ env => some (.d x, env)
def dNm (i : Nat) : Den := fun _ env => match env[i]? with
  | some (some (.d x)) => some (.d x, env)
  | some (some (.own xs)) => some (.d (.lst xs), env.set i (some (.d (.lst xs))))
  | _ => none
def oNm (i : Nat) : ODen := fun _ env => match env[i]? with
  | some (some (.d x)) => some (.val (.d x), env)
  | some (some (.own _)) => some (.pl i, env)
  | some (some (.dct _)) => some (.pl i, env)
  | some (some (.obj _ _)) => some (.pl i, env)
  | _ => none
def oV (d : Den) : ODen := fun Φ env => (d Φ env).bind fun r => some (.val r.1, r.2)
def dFz (d : Den) : Den := fun Φ env => (d Φ env).bind fun r => (r.1.frz).bind fun x => some (.d x, r.2)
section
variable {K : Fg} {mg : MG} {Φ : Fenv}
theorem tE_C {x : D} {v : V} (hv : ∀ F, Rp K mg F v x) {σ : L2.St} {H : Hp} {Q : VK} (h : tE K mg Φ (dC x) σ H Q) : tC v σ H Q := by
  obtain ⟨F, env, fp, iv, env', st, e, c⟩ := h
  cases e
  exact c v H F fp _ st (.refl ..) (.ofD (hv F))
theorem tE_Nm {i : Nat} {σ : L2.St} {H : Hp} {Q : VK} (h : tE K mg Φ (dNm i) σ H Q) : tVar i σ H Q := by
  obtain ⟨F, env, fp, iv, env', st, e, c⟩ := h
  unfold dNm at e
  split at e
  case h_1 x q =>
    cases e
    obtain ⟨v, h1, h2⟩ := st.slot i _ q
    exact ⟨v, h1, c v H F fp _ st (.refl ..) (.ofD h2.1)⟩
  case h_2 xs q =>
    cases e
    obtain ⟨a, F', h1, st', p, r⟩ := st.freeze q
    exact ⟨_, h1, c _ H F' _ _ st' p (.ofD r)⟩
  case h_3 => cases e
theorem tO_Nm {i : Nat} {σ : L2.St} {H : Hp} {Q : VK} (h : tO K mg Φ (oNm i) σ H Q) : tVar i σ H Q := by
  obtain ⟨F, env, fp, iv, env', st, e, c⟩ := h
  unfold oNm at e
  split at e
  case h_1 x q =>
    cases e
    obtain ⟨v, h1, h2⟩ := st.slot i _ q
    exact ⟨v, h1, c v H F fp _ st (.refl ..) (Tmp.ofD h2.1)⟩
  case h_5 => cases e
  all_goals
    cases e
    rename_i q
    obtain ⟨v, h1, h2⟩ := st.slot i _ q
    exact ⟨v, h1, c v H F fp (fun _ => False) st (.refl ..) ⟨h1, fun _ z => z⟩⟩
theorem tO_V {d : Den} {σ : L2.St} {H : Hp} {Q : VK} (h : tO K mg Φ (oV d) σ H Q) : tE K mg Φ d σ H Q := by
  obtain ⟨F, env, fp, o, env', st, e, c⟩ := h
  unfold oV at e
  obtain ⟨⟨iv, env1⟩, e1, e⟩ := Option.bind_eq_some_iff.mp e
  cases e
  exact ⟨F, env, fp, iv, env1, st, e1, fun v H' F' fp' S a b t => c v H' F' fp' S a b t⟩
/-- a new thing is shared as soon as it is made -/
theorem Tmp.freeze {F H F' H' : Hp} {σ : L2.St} {env env' : Env} {fp fp' : FP} {v : V} {iv : IV} {S : AS} {x : D} (st : StOk K mg F H σ env fp) (st' : StOk K mg F' H' σ env' fp') (p : EStp F H σ fp F' H' σ fp') (t : Tmp K mg H F' H' v iv S) (e : iv.frz = some x) :
    ∃ F2, StOk K mg F2 H' σ env' fp' ∧ EStp F H σ fp F2 H' σ fp' ∧ Rp K mg F2 v x := by
  cases iv with
  | d y => cases e; exact ⟨F', st', p, t.1.1⟩
  | own xs =>
    cases e
    obtain ⟨⟨a, vs, rfl, e2, r, s⟩, n⟩ := t
    obtain ⟨na, Fa⟩ := n a ((s a).mpr rfl)
    have ne : ∀ j b, fp' j b → b ≠ a := fun j b z e => st.hs ((p.par j trivial).2 b z) (by rw [e]; exact na)
    have s1 : Same F' (upd F' a (.lst vs)) := same_upd Fa
    refine ⟨upd F' a (.lst vs), ⟨fun b y q => ?_, st'.len, fun j iv q => ?_, st'.emp, st'.disj, fun j b z => ?_, st'.tb.frz Fa (.inr ⟨_, e2, fun ps z => by cases z⟩)⟩, ⟨⟨p.p.fF.trans s1, p.p.keep, p.p.fresh, fun b y q => ?_⟩, p.own, p.par⟩, .lst (.inl (.inl upd_same)) (Rps.mono s1 _ _ r)⟩
    · by_cases hb : b = a
      · subst hb; rw [upd_same] at q; cases q; exact e2
      · rw [upd_ne hb] at q; exact st'.ex b y q
    · obtain ⟨w, g1, g2⟩ := st'.slot j iv q
      exact ⟨w, g1, g2.mono s1 fun _ _ => rfl⟩
    · rw [upd_ne (ne j b z)]; exact st'.fr j b z
    · by_cases hb : b = a
      · subst hb; exact .inr (.inr na)
      · rw [upd_ne hb] at q; exact p.p.frz b y q
  | dct _ => cases e
  | obj _ _ => cases e
theorem tE_Fz {d : Den} {σ : L2.St} {H : Hp} {Q : VK} (h : tE K mg Φ (dFz d) σ H Q) : tE K mg Φ d σ H Q := by
  obtain ⟨F, env, fp, o, env', st, e, c⟩ := h
  unfold dFz at e
  obtain ⟨⟨iv, env1⟩, e1, e⟩ := Option.bind_eq_some_iff.mp e
  obtain ⟨x, e2, e⟩ := Option.bind_eq_some_iff.mp e
  cases e
  refine ⟨F, env, fp, iv, env1, st, e1, fun v H' F' fp' S a b t => ?_⟩
  obtain ⟨F2, a2, b2, r⟩ := t.freeze st a b e2
  exact c v H' F2 fp' _ a2 b2 (.ofD r)
end
end SD
namespace SD
open PySem L2
def lim : Nat := 1000000
def p1 (f : IV → Option IV) : Prim := fun ivs => match ivs with
  | [x] => (f x).bind fun r => some (r, [x])
  | _ => none
def p2 (f : IV → IV → Option IV) : Prim := fun ivs => match ivs with
  | [x, y] => (f x y).bind fun r => some (r, [x, y])
  | _ => none
def p3 (f : IV → IV → IV → Option IV) : Prim := fun ivs => match ivs with
  | [x, y, z] => (f x y z).bind fun r => some (r, [x, y, z])
  | _ => none
/-- the first argument, a held list, is changed; the others stay -/
def m1 (f : List D → Option (IV × List D)) : Prim := fun ivs => match ivs with
  | [.own xs] => (f xs).bind fun r => some (r.1, [.own r.2])
  | _ => none
def m2 (f : List D → IV → Option (IV × List D)) : Prim := fun ivs => match ivs with
  | [.own xs, y] => (f xs y).bind fun r => some (r.1, [.own r.2, y])
  | _ => none
def m3 (f : List D → IV → IV → Option (IV × List D)) : Prim := fun ivs => match ivs with
  | [.own xs, y, z] => (f xs y z).bind fun r => some (r.1, [.own r.2, y, z])
  | _ => none
section
variable {K : Fg} {mg : MG} {F H : Hp} {vs : List V} {ivs : List IV} {fp : FP} {Q : VK}
abbrev Cont (K : Fg) (mg : MG) (F H : Hp) (vs : List V) (fp : FP) (res : IV) (ivs' : List IV) (Q : VK) : Prop :=
  ∀ v H' F' fp' S, StOk K mg F' H' (vs.map some) (ivs'.map some) fp' → EStp F H (vs.map some) fp F' H' (vs.map some) fp' → Tmp K mg H F' H' v res S → Q v H'
abbrev ArgsOk (K : Fg) (mg : MG) (F H : Hp) (vs : List V) (ivs : List IV) (fp : FP) : Prop := StOk K mg F H (vs.map some) (ivs.map some) fp
theorem ArgsOk.at (st : ArgsOk K mg F H vs ivs fp) {k : Nat} {iv : IV} (e : ivs[k]? = some iv) : ∃ v, vs[k]? = some v ∧ OwnV K mg F H v iv (fp k) := by
  obtain ⟨v, h1, h2⟩ := st.slot k iv (by rw [List.getElem?_map, e]; rfl)
  rw [List.getElem?_map] at h1
  obtain ⟨w, e1, e2⟩ := Option.map_eq_some_iff.mp h1
  cases e2
  exact ⟨_, e1, h2⟩
theorem ArgsOk.lens (st : ArgsOk K mg F H vs ivs fp) : vs.length = ivs.length := by simpa using st.len
theorem ArgsOk.one {x : IV} (st : ArgsOk K mg F H vs [x] fp) : ∃ v, vs = [v] ∧ OwnV K mg F H v x (fp 0) := by
  obtain ⟨v, e, o⟩ := st.at (k := 0) (iv := x) rfl
  have l := st.lens
  match vs, l with
  | [w], _ => cases e; exact ⟨v, rfl, o⟩
theorem ArgsOk.two {x y : IV} (st : ArgsOk K mg F H vs [x, y] fp) : ∃ v w, vs = [v, w] ∧ OwnV K mg F H v x (fp 0) ∧ OwnV K mg F H w y (fp 1) := by
  obtain ⟨v, e, o⟩ := st.at (k := 0) (iv := x) rfl
  obtain ⟨w, e', o'⟩ := st.at (k := 1) (iv := y) rfl
  have l := st.lens
  match vs, l with
  | [a, b], _ => cases e; cases e'; exact ⟨v, w, rfl, o, o'⟩
theorem ArgsOk.three {x y z : IV} (st : ArgsOk K mg F H vs [x, y, z] fp) : ∃ v w u, vs = [v, w, u] ∧ OwnV K mg F H v x (fp 0) ∧ OwnV K mg F H w y (fp 1) ∧ OwnV K mg F H u z (fp 2) := by
  obtain ⟨v, e, o⟩ := st.at (k := 0) (iv := x) rfl
  obtain ⟨w, e', o'⟩ := st.at (k := 1) (iv := y) rfl
  obtain ⟨u, e'', o''⟩ := st.at (k := 2) (iv := z) rfl
  have l := st.lens
  match vs, l with
  | [a, b, c], _ => cases e; cases e'; cases e''; exact ⟨v, w, u, rfl, o, o', o''⟩
theorem Cont.data (st : ArgsOk K mg F H vs ivs fp) {x : D} {v : V} (c : Cont K mg F H vs fp (.d x) ivs Q) (r : Rp K mg F v x) : Q v H := c v H F fp _ st (.refl ..) (.ofD r)
theorem Cont.tupN (st : ArgsOk K mg F H vs ivs fp) {xs : List D} {ws : List V} (c : Cont K mg F H vs fp (.d (.tup xs)) ivs Q) (r : Rps K mg F ws xs) : ∀ q, H q = none → Q (.ref q) (upd H q (.tup ws)) := fun q hq => by
  obtain ⟨a, b⟩ := StOk.alloc (o := .tup ws) st hq
  exact c _ _ _ fp _ a b (.ofD (.tup (.inl (.inl upd_same)) (Rps.mono (same_upd (st.Fnone hq)) _ _ r)))
theorem Cont.lstN (st : ArgsOk K mg F H vs ivs fp) {xs : List D} {ws : List V} (c : Cont K mg F H vs fp (.own xs) ivs Q) (r : Rps K mg F ws xs) : ∀ q, H q = none → Q (.ref q) (upd H q (.lst ws)) := fun q hq => by
  obtain ⟨a, b⟩ := StOk.allocO (o := .lst ws) st hq
  exact c _ _ _ fp (fun b => b = q) a b ⟨⟨q, ws, rfl, upd_same, r, fun _ => Iff.rfl⟩, fun b hb => by rw [hb]; exact ⟨hq, st.Fnone hq⟩⟩
/-- the first argument changed, data told -/
theorem Cont.mutD {a : Addr} {ws : List V} {xs xs' : List D} {vr : List V} {r : List IV} (st : ArgsOk K mg F H (.ref a :: vr) (.own xs :: r) fp) {x : D} {v : V} (c : Cont K mg F H (.ref a :: vr) fp (.d x) (.own xs' :: r) Q) (rs : Rps K mg F ws xs') (rx : Rp K mg F v x) : Q v (upd H a (.lst ws)) := by
  obtain ⟨p, q⟩ := StOk.put (i := 0) st rfl rfl rs
  exact c v _ F fp _ p q (.ofD rx)
theorem prim1 {f : IV → Option IV} (h : tPrim K mg (p1 f) vs H Q) : ∃ F x fp res v, vs = [v] ∧ ArgsOk K mg F H [v] [x] fp ∧ OwnV K mg F H v x (fp 0) ∧ f x = some res ∧ Cont K mg F H [v] fp res [x] Q := by
  obtain ⟨F, ivs, fp, res, ivs', st, e, c⟩ := h
  match ivs, e with
  | [x], e =>
    obtain ⟨r, e1, e⟩ := Option.bind_eq_some_iff.mp e
    cases e
    obtain ⟨v, rfl, o⟩ := ArgsOk.one st
    exact ⟨F, x, fp, _, v, rfl, st, o, e1, c⟩
theorem prim2 {f : IV → IV → Option IV} (h : tPrim K mg (p2 f) vs H Q) : ∃ F x y fp res v w, vs = [v, w] ∧ ArgsOk K mg F H [v, w] [x, y] fp ∧ OwnV K mg F H v x (fp 0) ∧ OwnV K mg F H w y (fp 1) ∧ f x y = some res ∧ Cont K mg F H [v, w] fp res [x, y] Q := by
  obtain ⟨F, ivs, fp, res, ivs', st, e, c⟩ := h
  match ivs, e with
  | [x, y], e =>
    obtain ⟨r, e1, e⟩ := Option.bind_eq_some_iff.mp e
    cases e
    obtain ⟨v, w, rfl, o, o'⟩ := ArgsOk.two st
    exact ⟨F, x, y, fp, _, v, w, rfl, st, o, o', e1, c⟩
theorem prim3 {f : IV → IV → IV → Option IV} (h : tPrim K mg (p3 f) vs H Q) : ∃ F x y z fp res v w u, vs = [v, w, u] ∧ ArgsOk K mg F H [v, w, u] [x, y, z] fp ∧ OwnV K mg F H v x (fp 0) ∧ OwnV K mg F H w y (fp 1) ∧ OwnV K mg F H u z (fp 2) ∧ f x y z = some res ∧ Cont K mg F H [v, w, u] fp res [x, y, z] Q := by
  obtain ⟨F, ivs, fp, res, ivs', st, e, c⟩ := h
  match ivs, e with
  | [x, y, z], e =>
    obtain ⟨r, e1, e⟩ := Option.bind_eq_some_iff.mp e
    cases e
    obtain ⟨v, w, u, rfl, o, o', o''⟩ := ArgsOk.three st
    exact ⟨F, x, y, z, fp, _, v, w, u, rfl, st, o, o', o'', e1, c⟩
theorem mut1 {f : List D → Option (IV × List D)} (h : tPrim K mg (m1 f) vs H Q) : ∃ F xs fp r a ws, vs = [.ref a] ∧ H a = some (.lst ws) ∧ Rps K mg F ws xs ∧ ArgsOk K mg F H [.ref a] [.own xs] fp ∧ f xs = some r ∧ Cont K mg F H [.ref a] fp r.1 [.own r.2] Q := by
  obtain ⟨F, ivs, fp, res, ivs', st, e, c⟩ := h
  match ivs, e with
  | [.own xs], e =>
    obtain ⟨r, e1, e⟩ := Option.bind_eq_some_iff.mp e
    cases e
    obtain ⟨v, rfl, a, ws, rfl, h1, h2, h3⟩ := ArgsOk.one st
    exact ⟨F, xs, fp, r, a, ws, rfl, h1, h2, st, e1, c⟩
theorem mut2 {f : List D → IV → Option (IV × List D)} (h : tPrim K mg (m2 f) vs H Q) : ∃ F xs y fp r a ws w, vs = [.ref a, w] ∧ H a = some (.lst ws) ∧ Rps K mg F ws xs ∧ OwnV K mg F H w y (fp 1) ∧ ArgsOk K mg F H [.ref a, w] [.own xs, y] fp ∧ f xs y = some r ∧ Cont K mg F H [.ref a, w] fp r.1 [.own r.2, y] Q := by
  obtain ⟨F, ivs, fp, res, ivs', st, e, c⟩ := h
  match ivs, e with
  | [.own xs, y], e =>
    obtain ⟨r, e1, e⟩ := Option.bind_eq_some_iff.mp e
    cases e
    obtain ⟨v, w, rfl, ⟨a, ws, rfl, h1, h2, h3⟩, o'⟩ := ArgsOk.two st
    exact ⟨F, xs, y, fp, r, a, ws, w, rfl, h1, h2, o', st, e1, c⟩
theorem mut3 {f : List D → IV → IV → Option (IV × List D)} (h : tPrim K mg (m3 f) vs H Q) : ∃ F xs y z fp r a ws w u, vs = [.ref a, w, u] ∧ H a = some (.lst ws) ∧ Rps K mg F ws xs ∧ OwnV K mg F H w y (fp 1) ∧ OwnV K mg F H u z (fp 2) ∧ ArgsOk K mg F H [.ref a, w, u] [.own xs, y, z] fp ∧ f xs y z = some r ∧ Cont K mg F H [.ref a, w, u] fp r.1 [.own r.2, y, z] Q := by
  obtain ⟨F, ivs, fp, res, ivs', st, e, c⟩ := h
  match ivs, e with
  | [.own xs, y, z], e =>
    obtain ⟨r, e1, e⟩ := Option.bind_eq_some_iff.mp e
    cases e
    obtain ⟨v, w, u, rfl, ⟨a, ws, rfl, h1, h2, h3⟩, o', o''⟩ := ArgsOk.three st
    exact ⟨F, xs, y, z, fp, r, a, ws, w, u, rfl, h1, h2, o', o'', st, e1, c⟩
end
def IV.asL : IV → Option (List D)
  | .own xs => some xs
  | .d (.lst xs) => some xs
  | _ => none
def IV.asT : IV → Option (List D)
  | .d (.tup xs) => some xs
  | _ => none
def IV.asI : IV → Option Int
  | .d (.int i) => some i
  | _ => none
def IV.asS : IV → Option Str
  | .d (.str s) => some s
  | _ => none
def IV.asD : IV → Option D
  | .d x => some x
  | _ => none
section
variable {K : Fg} {mg : MG} {F H : Hp} {v : V} {iv : IV} {S : AS} {xs : List D}
theorem asL_ok (ex : Same F H) (o : OwnV K mg F H v iv S) (e : iv.asL = some xs) : ∃ a vs, v = .ref a ∧ SqL K H a vs ∧ Rps K mg F vs xs := by
  cases iv with
  | d x =>
    cases x with
    | lst ys =>
      cases e
      cases o.1 with
      | lst h1 h2 => exact ⟨_, _, rfl, Same.sql ex h1, h2⟩
    | _ => cases e
  | own ys =>
    cases e
    obtain ⟨a, vs, e1, e2, r, _⟩ := o
    exact ⟨a, vs, e1, .inl (.inl e2), r⟩
  | dct _ => cases e
  | obj _ _ => cases e
theorem asT_ok (ex : Same F H) (o : OwnV K mg F H v iv S) (e : iv.asT = some xs) : ∃ a vs, v = .ref a ∧ SqT K H a vs ∧ SqT K F a vs ∧ Rps K mg F vs xs ∧ Rp K mg F v (.tup xs) := by
  cases iv with
  | d x =>
    cases x with
    | tup ys =>
      cases e
      have q := o.1
      cases o.1 with
      | tup h1 h2 => exact ⟨_, _, rfl, Same.sqt ex h1, h1, h2, q⟩
    | _ => cases e
  | _ => cases e
theorem asI_ok {i : Int} (o : OwnV K mg F H v iv S) (e : iv.asI = some i) : v = .int i := by
  cases iv with
  | d x =>
    cases x with
    | int j => cases e; cases o.1; rfl
    | _ => cases e
  | _ => cases e
theorem asS_ok {z : Str} (o : OwnV K mg F H v iv S) (e : iv.asS = some z) : v = .str z ∧ SOk z := by
  cases iv with
  | d x =>
    cases x with
    | str j => cases e; cases o.1 with
      | str _ h => exact ⟨rfl, h⟩
    | _ => cases e
  | _ => cases e
theorem asD_ok {x : D} (o : OwnV K mg F H v iv S) (e : iv.asD = some x) : Rp K mg F v x := by
  cases iv with
  | d y => cases e; exact o.1
  | _ => cases e
end
theorem Rps.ints {K : Fg} {mg : MG} {F : Hp} : ∀ {ns : List Int} {vs : List V}, Rps K mg F vs (ns.map D.int) → vs = ns.map V.int
  | [], _, h => by cases h; rfl
  | n :: ns, _, h => by
    cases h with
    | cons h1 h2 => cases h1; rw [Rps.ints h2]; rfl
theorem Rps.ofInts {K : Fg} {mg : MG} {F : Hp} : ∀ (ns : List Int), Rps K mg F (ns.map V.int) (ns.map D.int)
  | [] => .nil
  | n :: ns => .cons (.int n) (Rps.ofInts ns)
theorem Rps.bls {K : Fg} {mg : MG} {F : Hp} : ∀ {ns : List Bool} {vs : List V}, Rps K mg F vs (ns.map D.bl) → vs = ns.map V.bl
  | [], _, h => by cases h; rfl
  | n :: ns, _, h => by
    cases h with
    | cons h1 h2 => cases h1; rw [Rps.bls h2]; rfl
theorem Rps.strs {K : Fg} {mg : MG} {F : Hp} : ∀ {ns : List Str} {vs : List V}, Rps K mg F vs (ns.map D.str) → vs = ns.map V.str ∧ ∀ z ∈ ns, SOk z
  | [], _, h => by cases h; exact ⟨rfl, fun _ z => nomatch z⟩
  | n :: ns, _, h => by
    cases h with
    | cons h1 h2 =>
      cases h1 with
      | str _ q =>
        obtain ⟨e, r⟩ := Rps.strs h2
        rw [e]
        refine ⟨rfl, fun z hz => ?_⟩
        rcases List.mem_cons.mp hz with e | e
        · rw [e]; exact q
        · exact r z e
theorem Rps.ofStrs {K : Fg} {mg : MG} {F : Hp} : ∀ (ns : List Str), (∀ z ∈ ns, SOk z) → Rps K mg F (ns.map V.str) (ns.map D.str)
  | [], _ => .nil
  | n :: ns, h => .cons (.str n (h n (List.mem_cons_self ..))) (Rps.ofStrs ns fun z hz => h z (List.mem_cons_of_mem _ hz))
/-- lists of one kind -/
def asInts : List D → Option (List Int)
  | [] => some []
  | .int i :: r => (asInts r).bind fun l => some (i :: l)
  | _ :: _ => none
def asBls : List D → Option (List Bool)
  | [] => some []
  | .bl i :: r => (asBls r).bind fun l => some (i :: l)
  | _ :: _ => none
def asStrs : List D → Option (List Str)
  | [] => some []
  | .str i :: r => (asStrs r).bind fun l => some (i :: l)
  | _ :: _ => none
theorem asInts_ok : ∀ {xs : List D} {ns : List Int}, asInts xs = some ns → xs = ns.map D.int
  | [], _, h => by cases h; rfl
  | .int i :: r, _, h => by
    obtain ⟨l, e, h⟩ := Option.bind_eq_some_iff.mp h
    cases h
    rw [asInts_ok e]; rfl
  | .non :: _, _, h | .bl _ :: _, _, h | .str _ :: _, _, h | .lst _ :: _, _, h | .tup _ :: _, _, h | .ins _ :: _, _, h | .fn _ :: _, _, h | .cls _ :: _, _, h | .ty _ :: _, _, h => by cases h
theorem asBls_ok : ∀ {xs : List D} {ns : List Bool}, asBls xs = some ns → xs = ns.map D.bl
  | [], _, h => by cases h; rfl
  | .bl i :: r, _, h => by
    obtain ⟨l, e, h⟩ := Option.bind_eq_some_iff.mp h
    cases h
    rw [asBls_ok e]; rfl
  | .non :: _, _, h | .int _ :: _, _, h | .str _ :: _, _, h | .lst _ :: _, _, h | .tup _ :: _, _, h | .ins _ :: _, _, h | .fn _ :: _, _, h | .cls _ :: _, _, h | .ty _ :: _, _, h => by cases h
theorem asStrs_ok : ∀ {xs : List D} {ns : List Str}, asStrs xs = some ns → xs = ns.map D.str
  | [], _, h => by cases h; rfl
  | .str i :: r, _, h => by
    obtain ⟨l, e, h⟩ := Option.bind_eq_some_iff.mp h
    cases h
    rw [asStrs_ok e]; rfl
  | .non :: _, _, h | .bl _ :: _, _, h | .int _ :: _, _, h | .lst _ :: _, _, h | .tup _ :: _, _, h | .ins _ :: _, _, h | .fn _ :: _, _, h | .cls _ :: _, _, h | .ty _ :: _, _, h => by cases h
theorem asInts_map : ∀ ns : List Int, asInts (ns.map D.int) = some ns
  | [] => rfl
  | n :: ns => by show (asInts (ns.map D.int)).bind _ = _; rw [asInts_map ns]; rfl
theorem asBls_map : ∀ ns : List Bool, asBls (ns.map D.bl) = some ns
  | [] => rfl
  | n :: ns => by show (asBls (ns.map D.bl)).bind _ = _; rw [asBls_map ns]; rfl
theorem asStrs_map : ∀ ns : List Str, asStrs (ns.map D.str) = some ns
  | [] => rfl
  | n :: ns => by show (asStrs (ns.map D.str)).bind _ = _; rw [asStrs_map ns]; rfl
theorem SOk.app {a b : Str} (ha : SOk a) (hb : SOk b) : SOk (a ++ b) := by
  intro c hc
  have e : (a ++ b).cps.toList = a.cps.toList ++ b.cps.toList := by
    show (a.cps ++ b.cps).toList = _
    simp
  rw [e] at hc
  rcases List.mem_append.mp hc with h | h
  · exact ha c h
  · exact hb c h
theorem SOk.cut {z : Str} (h : SOk z) (lo hi : Option Int) : SOk (cutS z lo hi) := by
  intro c hc
  unfold cutS at hc
  exact h c (List.mem_of_mem_drop (List.mem_of_mem_take (by simpa using hc)))
theorem SOk.at {z : Str} (h : SOk z) {i : Int} {c : Nat} (e : atI z.cps.toList i = some c) : SOk ⟨#[c]⟩ := by
  obtain ⟨j, _, e2, _⟩ := atI_get e
  intro d hd
  have : d = c := by simpa using hd
  rw [this]
  exact h c (List.mem_of_getElem? e2)
end SD
namespace SD
open PySem L2
mutual
def okD : D → Bool
  | .non => true
  | .bl _ => true
  | .int _ => true
  | .str _ => true
  | .lst xs => okDs xs
  | .tup xs => okDs xs
  | .ins _ => false
  | .fn _ => false
  | .cls _ => false
  | .ty _ => false
  | .lam _ _ _ _ => false
  | .exc _ _ _ => false
def okDs : List D → Bool
  | [] => true
  | x :: xs => okD x && okDs xs
end
mutual
def toPy : D → PyData
  | .non => .none
  | .bl b => .bool b
  | .int i => .int i
  | .str s => .str s
  | .lst xs => .list (toPys xs)
  | .tup xs => .tuple (toPys xs)
  | .ins _ => .none
  | .fn _ => .none
  | .cls _ => .none
  | .ty _ => .none
  | .lam _ _ _ _ => .none
  | .exc _ _ _ => .none
def toPys : List D → List PyData
  | [] => []
  | x :: xs => toPy x :: toPys xs
end
theorem SOk.strOk {s : Str} (h : SOk s) : PyData.strOk s = true := by
  unfold PyData.strOk
  rw [← Array.all_toList]
  exact List.all_eq_true.mpr fun c hc => decide_eq_true (h c hc)
section
variable {K : Fg} {mg : MG} {F : Hp}
mutual
theorem Rp.dp : ∀ (d : D) (v : V), okD d = true → Rp K mg F v d → Dp K F v (toPy d) ∧ (toPy d).canLay0 = true
  | .non, _, _, h => by cases h; exact ⟨.non, rfl⟩
  | .bl _, _, _, h => by cases h; exact ⟨.bl _, rfl⟩
  | .int _, _, _, h => by cases h; exact ⟨.int _, rfl⟩
  | .str _, _, _, h => by
    cases h with
    | str _ q => exact ⟨.str _, q.strOk⟩
  | .lst ds, _, o, h => by
    cases h with
    | lst h1 h2 =>
      obtain ⟨a, b⟩ := Rps.dp ds _ o h2
      exact ⟨.lst h1 a, b⟩
  | .tup ds, _, o, h => by
    cases h with
    | tup h1 h2 =>
      obtain ⟨a, b⟩ := Rps.dp ds _ o h2
      exact ⟨.tup h1 a, b⟩
  | .ins _, _, o, _ => by cases o
  | .fn _, _, o, _ => by cases o
  | .cls _, _, o, _ => by cases o
  | .ty _, _, o, _ => by cases o
  | .lam _ _ _ _, _, o, _ => by cases o
  | .exc _ _ _, _, o, _ => by cases o
theorem Rps.dp : ∀ (ds : List D) (vs : List V), okDs ds = true → Rps K mg F vs ds → DpAll K F vs (toPys ds) ∧ PyData.canLayAll0 (toPys ds) = true
  | [], _, _, h => by cases h; exact ⟨.nil, rfl⟩
  | d :: ds, _, o, h => by
    cases h with
    | cons h1 h2 =>
      obtain ⟨o1, o2⟩ := Bool.and_eq_true_iff.mp o
      obtain ⟨a, b⟩ := Rp.dp d _ o1 h1
      obtain ⟨a', b'⟩ := Rps.dp ds _ o2 h2
      refine ⟨.cons a a', ?_⟩
      show (PyData.canLay0 (toPy d) && PyData.canLayAll0 (toPys ds)) = true
      rw [b, b']; rfl
end
end
def eqD (x y : D) : Bool := PyData.eqv (toPy x) (toPy y)
def cmpOk (x : D) : Bool := okD x && decide ((toPy x).depth ≤ 64)
theorem frz_dp {K : Fg} {mg : MG} {F H : Hp} {v : V} {iv : IV} {S : AS} {x : D} (ex : Same F H) (o : OwnV K mg F H v iv S) (e : iv.frz = some x) (c : cmpOk x = true) : Dp K H v (toPy x) ∧ SeqAt.shaped (toPy x) = true := by
  obtain ⟨c1, c2⟩ := Bool.and_eq_true_iff.mp c
  cases iv with
  | d y =>
    cases e
    obtain ⟨a, b⟩ := Rp.dp _ _ c1 (Rp.mono ex _ _ o.1)
    exact ⟨a, by unfold SeqAt.shaped; rw [b, c2]; rfl⟩
  | own xs =>
    cases e
    obtain ⟨a, vs, rfl, e2, r, _⟩ := o
    obtain ⟨p, q⟩ := Rps.dp xs vs c1 (Rps.mono ex _ _ r)
    refine ⟨.lst (.inl (.inl e2)) p, ?_⟩
    have q' : (toPy (.lst xs)).canLay0 = true := q
    unfold SeqAt.shaped
    rw [q', c2]; rfl
  | dct _ => cases e
  | obj _ _ => cases e
def eqIV (x y : IV) : Option IV := (x.frz).bind fun a => (y.frz).bind fun b => if cmpOk a && cmpOk b then some (.d (.bl (eqD a b))) else none
def neIV (x y : IV) : Option IV := (x.frz).bind fun a => (y.frz).bind fun b => if cmpOk a && cmpOk b then some (.d (.bl (!eqD a b))) else none
section
variable {K : Fg} {mg : MG} {x y : V} {H : Hp} {Q : VK}
theorem ok_eq (h : tPrim K mg (p2 eqIV) [x, y] H Q) : rEqD K x y H Q := by
  obtain ⟨F, a, b, fp, res, v, w, e, st, o1, o2, f, c⟩ := prim2 h
  cases e
  obtain ⟨a', e1, f⟩ := Option.bind_eq_some_iff.mp f
  obtain ⟨b', e2, f⟩ := Option.bind_eq_some_iff.mp f
  split at f
  case isFalse => cases f
  case isTrue q =>
    cases f
    obtain ⟨q1, q2⟩ := Bool.and_eq_true_iff.mp q
    obtain ⟨d1, s1⟩ := frz_dp st.ex o1 e1 q1
    obtain ⟨d2, s2⟩ := frz_dp st.ex o2 e2 q2
    exact ⟨_, _, d1, d2, s1, s2, Cont.data st c (.bl _)⟩
theorem ok_ne (h : tPrim K mg (p2 neIV) [x, y] H Q) : rNeD K x y H Q := by
  obtain ⟨F, a, b, fp, res, v, w, e, st, o1, o2, f, c⟩ := prim2 h
  cases e
  obtain ⟨a', e1, f⟩ := Option.bind_eq_some_iff.mp f
  obtain ⟨b', e2, f⟩ := Option.bind_eq_some_iff.mp f
  split at f
  case isFalse => cases f
  case isTrue q =>
    cases f
    obtain ⟨q1, q2⟩ := Bool.and_eq_true_iff.mp q
    obtain ⟨d1, s1⟩ := frz_dp st.ex o1 e1 q1
    obtain ⟨d2, s2⟩ := frz_dp st.ex o2 e2 q2
    exact ⟨_, _, d1, d2, s1, s2, Cont.data st c (.bl _)⟩
end
def flatD : D → Bool
  | .non => true
  | .bl _ => true
  | .int _ => true
  | .str _ => true
  | _ => false
def inD (x : D) (ys : List D) : Bool := ys.any fun y => eqD y x
section
variable {K : Fg} {mg : MG} {F : Hp}
theorem flat_v {x : D} {v : V} (r : Rp K mg F v x) (h : flatD x = true) : flatV v = true := by
  cases r <;> first | rfl | cases h
theorem flat_eq {x y : D} {v w : V} (rx : Rp K mg F v x) (ry : Rp K mg F w y) (hx : flatD x = true) (hy : flatD y = true) : eqV w v = eqD y x := by
  cases rx <;> cases ry <;> first | rfl | (cases hx; done) | (cases hy; done)
theorem flats_v : ∀ {xs : List D} {vs : List V}, Rps K mg F vs xs → xs.all flatD = true → vs.all flatV = true
  | [], _, h, _ => by cases h; rfl
  | x :: xs, _, h, a => by
    cases h with
    | cons h1 h2 =>
      rw [List.all_cons] at a ⊢
      obtain ⟨a1, a2⟩ := Bool.and_eq_true_iff.mp a
      rw [flat_v h1 a1, flats_v h2 a2]; rfl
theorem in_eq {x : D} {v : V} (r : Rp K mg F v x) (hx : flatD x = true) : ∀ {ys : List D} {vs : List V}, Rps K mg F vs ys → ys.all flatD = true → inV v vs = inD x ys
  | [], _, h, _ => by cases h; rfl
  | y :: ys, _, h, a => by
    cases h with
    | cons h1 h2 =>
      rw [List.all_cons] at a
      obtain ⟨a1, a2⟩ := Bool.and_eq_true_iff.mp a
      unfold inV inD
      rw [List.any_cons, List.any_cons, flat_eq r h1 hx a1]
      have := in_eq r hx h2 a2
      unfold inV inD at this
      rw [this]
end
def oneSign (s : Str) : Option Nat := match s.cps.toList with
  | [c] => some c
  | _ => none
theorem oneSign_ok {s : Str} {c : Nat} (h : oneSign s = some c) : s = ⟨#[c]⟩ := by
  unfold oneSign at h
  split at h
  case h_1 d e =>
    cases h
    obtain ⟨⟨l⟩⟩ := s
    have : l = [c] := e
    rw [this]
  case h_2 => cases h
/-- data of any depth in a list of such -/
def deepIn (x : D) (ys : List D) : Option Bool := if cmpOk x && cmpOk (.lst ys) then some (inD x ys) else none
def inB (x y : IV) : Option Bool := match x, y with
  | .d (.str a), .d (.str b) => (oneSign a).bind fun c => some (decide (c ∈ b.cps.toList))
  | x, y => (x.frz).bind fun a => match y.asL, y.asT with
    | some ys, _ => if flatD a && ys.all flatD then some (inD a ys) else deepIn a ys
    | none, some ys => if flatD a && ys.all flatD then some (inD a ys) else none
    | none, none => none
def inIV (neg : Bool) (x y : IV) : Option IV := (inB x y).bind fun b => some (.d (.bl (if neg then !b else b)))
abbrev rInS (neg : Bool) : R2 := fun x y H Q => ∃ (c : Nat) (z : Str), x = .str ⟨#[c]⟩ ∧ y = .str z ∧ Q (.bl (if neg then !decide (c ∈ z.cps.toList) else decide (c ∈ z.cps.toList))) H
abbrev rInDp (K : Fg) (neg : Bool) : R2 := fun x y H Q => ∃ d ds, Dp K H x d ∧ Dp K H y (.list ds) ∧ SeqAt.shaped d = true ∧ SeqAt.shaped (.list ds) = true ∧ Q (.bl (if neg then !(ds.any fun z => PyData.eqv z d) else ds.any fun z => PyData.eqv z d)) H
abbrev rInA (K : Fg) (neg : Bool) : R2 := fun x y H Q => rInS neg x y H Q ∨ (rIn K neg x y H Q ∨ rInDp K neg x y H Q)
section
variable {X : Cx}
theorem op_inA (hu : X.A.units + 65 < cLine) : OpR X (compareOp .In) (rInA X.K false) := op_in_sign.or (op_in_seq.or (op_inD hu))
theorem op_notInA (hu : X.A.units + 65 < cLine) : OpR X (compareOp .NotIn) (rInA X.K true) := op_notIn_sign.or (op_notIn_seq.or (op_notInD hu))
end
theorem toPys_any (x : D) : ∀ ys : List D, ((toPys ys).any fun z => PyData.eqv z (toPy x)) = inD x ys
  | [] => rfl
  | y :: ys => by
    have := toPys_any x ys
    unfold inD at *
    show ((toPy y :: toPys ys).any fun z => PyData.eqv z (toPy x)) = _
    rw [List.any_cons, List.any_cons, this]; rfl
section
variable {K : Fg} {mg : MG} {x y : V} {H : Hp} {Q : VK}
theorem ok_in {neg : Bool} (h : tPrim K mg (p2 (inIV neg)) [x, y] H Q) : rInA K neg x y H Q := by
  obtain ⟨F, a, b, fp, res, v, w, e, st, o1, o2, f, c⟩ := prim2 h
  cases e
  obtain ⟨r, e1, f⟩ := Option.bind_eq_some_iff.mp f
  cases f
  have fin : Q (.bl (if neg then !r else r)) H := Cont.data st c (.bl _)
  unfold inB at e1
  split at e1
  case h_1 p q =>
    obtain ⟨k, e2, e1⟩ := Option.bind_eq_some_iff.mp e1
    cases e1
    obtain ⟨rfl, _⟩ := asS_ok o1 rfl
    obtain ⟨rfl, _⟩ := asS_ok o2 rfl
    exact .inl ⟨k, q, by rw [oneSign_ok e2], rfl, fin⟩
  case h_2 p q _ =>
    obtain ⟨a', e2, e1⟩ := Option.bind_eq_some_iff.mp e1
    have deep : ∀ ys, b.asL = some ys → deepIn a' ys = some r → rInA K neg x y H Q := fun ys hy hd => by
      unfold deepIn at hd
      split at hd
      case isFalse => cases hd
      case isTrue z =>
        cases hd
        obtain ⟨z1, z2⟩ := Bool.and_eq_true_iff.mp z
        obtain ⟨d1, s1⟩ := frz_dp st.ex o1 e2 z1
        have ef : b.frz = some (.lst ys) := by
          cases b with
          | d u => cases u with
            | lst _ => cases hy; rfl
            | _ => cases hy
          | own _ => cases hy; rfl
          | _ => cases hy
        obtain ⟨d2, s2⟩ := frz_dp st.ex o2 ef z2
        exact .inr (.inr ⟨_, toPys ys, d1, d2, s1, s2, by rw [toPys_any]; exact fin⟩)
    have flat : ∀ ys ws, (flatD a' && ys.all flatD) = true → (∃ p, y = .ref p ∧ (SqL K H p ws ∨ SqT K H p ws)) → Rps K mg F ws ys → inD a' ys = r → rInA K neg x y H Q := fun ys ws z ⟨p, ep, hs⟩ rw' er => by
      obtain ⟨z1, z2⟩ := Bool.and_eq_true_iff.mp z
      have ra : Rp K mg F x a' := by
        cases a with
        | d u => cases e2; exact o1.1
        | own _ => cases e2; cases z1
        | _ => cases e2
      refine .inr (.inl ⟨p, ws, ep, hs, flat_v ra z1, flats_v rw' z2, ?_⟩)
      rw [in_eq ra z1 rw' z2, er]
      exact fin
    split at e1
    case h_1 ys hy =>
      split at e1
      case isTrue z =>
        cases e1
        obtain ⟨p, ws, ep, hr, rw'⟩ := asL_ok st.ex o2 hy
        exact flat ys ws z ⟨p, ep, .inl hr⟩ rw' rfl
      case isFalse => exact deep ys hy e1
    case h_2 ys hy hz =>
      split at e1
      case isTrue z =>
        cases e1
        obtain ⟨p, ws, ep, hr, _, rw', _⟩ := asT_ok st.ex o2 hz
        exact flat ys ws z ⟨p, ep, .inr hr⟩ rw' rfl
      case isFalse => cases e1
    case h_3 => cases e1
end
end SD
namespace SD
open PySem L2
section
variable {X : Cx}
abbrev rCatR (K : Fg) : R2 := fun x y H Q => ∃ l b xs zs, x = .ref l ∧ y = .ref b ∧ SqL K H l xs ∧ SqL K H b zs ∧ xs.length + zs.length ≤ sizeLine ∧
  ∀ p, H p = none → Q (.ref p) (upd H p (.lst (xs ++ zs)))
theorem op_catR : OpR X (binaryOp .Add) (rCatR X.K) := by
  intro pins s σ H x y v u Q I rx ry ⟨l, b, xs, zs, e1, e2, hl, hb, hz, q⟩
  subst e1 e2
  cases rx
  cases ry
  obtain ⟨i1, r1, ⟨⟨cls, dd, data, sl⟩, n, ho, hc, hdd, hd⟩, z1⟩ := I.list hl
  obtain ⟨i2, r2, ⟨⟨cls2, dd2, data2, sl2⟩, n2, ho2, hc2, hdd2, hd2⟩, z2⟩ := I.list hb
  simp only at hc hdd hd hc2 hdd2 hd2
  subst hc hdd hd hc2 hdd2 hd2
  have l1 := r1.length
  have l2 := r2.length
  refine concat_meets ⟨_, ho, rfl⟩ ⟨_, ho2, rfl⟩ noFill_list_add seq_list_add PySem.F.slot_list_add PySem.F.entry_list_add (PySem.F.args_list_add_2 _ _) (PyProof.Rows.list_addW l b i1.toArray i2.toArray n n2 none none sl sl2 (by simp only [List.size_toArray]; omega)) ⟨ho, ho2, ?_⟩
  rw [show i1.toArray ++ i2.toArray = (i1 ++ i2).toArray by simp]
  exact ⟨.ref _, _, I.lnew (t' := s.toks) (r1.append r2) (by simp only [List.length_append]; omega), rfl, q _ I.fresh⟩
abbrev rMulS : R2 := fun x y H Q => ∃ (z : Str) (n : Int), x = .str z ∧ y = .int n ∧ MulOk z n ∧ Q (.str (Txt.mul z n)) H
theorem op_mulS : OpR X (binaryOp .Mult) rMulS := by
  intro pins s σ H x y v u Q I rx ry ⟨z, n, e1, e2, ok, q⟩
  subst e1 e2
  obtain ⟨t, rfl⟩ := rx
  obtain ⟨t', rfl⟩ := ry
  exact PySem.SB.mul ok fun t2 k => ⟨.str _, H, I.tok k, ⟨t2, rfl⟩, q⟩
end
def addIV (x y : IV) : Option IV := match x, y with
  | .d (.int i), .d (.int j) => some (.d (.int (i + j)))
  | .d (.str a), .d (.str b) => if a.length + b.length ≤ lim then some (.d (.str (a ++ b))) else none
  | .d (.tup xs), .d (.tup ys) => if xs.length + ys.length ≤ lim then some (.d (.tup (xs ++ ys))) else none
  | x, y => (x.asL).bind fun xs => (y.asL).bind fun ys => if xs.length + ys.length ≤ lim then some (.own (xs ++ ys)) else none
def intOp (f : Int → Int → Option D) (x y : IV) : Option IV := (x.asI).bind fun i => (y.asI).bind fun j => (f i j).bind fun z => some (.d z)
def subIV : IV → IV → Option IV := intOp fun i j => some (.int (i - j))
def fdivIV : IV → IV → Option IV := intOp fun i j => if 0 < j ∧ j < 10 ^ 100 then some (.int (i / j)) else none
def modIV : IV → IV → Option IV := intOp fun i j => if 0 < j then some (.int (i % j)) else none
def powIV : IV → IV → Option IV := intOp fun i j => if 0 ≤ j ∧ j ≤ 1000 ∧ i.natAbs < 2 ^ 64 then some (.int (i ^ j.toNat)) else none
def shlIV : IV → IV → Option IV := intOp fun i j => if 0 ≤ j ∧ j ≤ 1000 ∧ i.natAbs < 2 ^ 64 then some (.int (i * 2 ^ j.toNat)) else none
def shrIV : IV → IV → Option IV := intOp fun i j => if 0 ≤ j then some (.int (i / 2 ^ j.toNat)) else none
def andIV : IV → IV → Option IV := intOp fun i j => if 0 ≤ i ∧ j = 1 then some (.int (i % 2)) else none
def ltIV (x y : IV) : Option IV := match x, y with
  | .d (.int i), .d (.int j) => some (.d (.bl (decide (i < j))))
  | .d (.str a), .d (.str b) => some (.d (.bl (decide (a.cps.toList < b.cps.toList))))
  | .d (.tup xs), .d (.tup ys) => (asInts xs).bind fun ns => (asInts ys).bind fun ms => some (.d (.bl (HT.lexLt ns ms)))
  | _, _ => none
def lexLeT (ns ms : List Int) : Bool := Ob.lexAt (fun j => decide (ns.getD j 0 = ms.getD j 0)) (fun j => decide (ns.getD j 0 ≤ ms.getD j 0)) (decide (ns.length ≤ ms.length)) 0 (min ns.length ms.length)
def leIV (x y : IV) : Option IV := match x, y with
  | .d (.tup xs), .d (.tup ys) => (asInts xs).bind fun ns => (asInts ys).bind fun ms => some (.d (.bl (lexLeT ns ms)))
  | x, y => intOp (fun i j => some (.bl (decide (i ≤ j)))) x y
def gtIV : IV → IV → Option IV := intOp fun i j => some (.bl (decide (j < i)))
def geIV : IV → IV → Option IV := intOp fun i j => some (.bl (decide (j ≤ i)))
def isNon : IV → Bool
  | .d .non => true
  | _ => false
def isIV (neg : Bool) (x y : IV) : Option IV := match y with
  | .d .non => some (.d (.bl (if neg then !isNon x else isNon x)))
  | .d (.bl b) => match x with
    | .d (.bl a) => some (.d (.bl (if neg then !decide (a = b) else decide (a = b))))
    | _ => none
  | _ => none
section
variable {K : Fg} {mg : MG} {x y : V} {H : Hp} {Q : VK}
theorem int_op {f : Int → Int → Option D} (h : tPrim K mg (p2 (intOp f)) [x, y] H Q) : ∃ i j z, x = .int i ∧ y = .int j ∧ f i j = some z ∧ ∀ v, (∀ F, Rp K mg F v z) → Q v H := by
  obtain ⟨F, a, b, fp, res, v, w, e, st, o1, o2, f', c⟩ := prim2 h
  cases e
  obtain ⟨i, e1, f'⟩ := Option.bind_eq_some_iff.mp f'
  obtain ⟨j, e2, f'⟩ := Option.bind_eq_some_iff.mp f'
  obtain ⟨z, e3, f'⟩ := Option.bind_eq_some_iff.mp f'
  cases f'
  exact ⟨i, j, z, asI_ok o1 e1, asI_ok o2 e2, e3, fun v r => Cont.data st c (r F)⟩
theorem ok_sub (h : tPrim K mg (p2 subIV) [x, y] H Q) : rI0 (fun i j => .int (i - j)) x y H Q := by
  obtain ⟨i, j, z, e1, e2, e, q⟩ := int_op h
  cases e
  exact ⟨i, j, e1, e2, q _ fun _ => .int _⟩
theorem ok_fdiv (h : tPrim K mg (p2 fdivIV) [x, y] H Q) : rI CDivW (fun i j => .int (i / j)) x y H Q := by
  obtain ⟨i, j, z, e1, e2, e, q⟩ := int_op h
  split at e
  case isFalse => cases e
  case isTrue hj =>
    cases e
    refine ⟨i, j, e1, e2, wide_div (b := 400) hj.1 ?_ (by decide) (by decide), q _ fun _ => .int _⟩
    have e400 : (10 : Nat) ^ 100 ≤ 2 ^ 400 := by decide +kernel
    have h2 : j.natAbs < 10 ^ 100 := by
      have := hj.2
      omega
    exact Nat.lt_of_lt_of_le h2 e400
theorem ok_mod (h : tPrim K mg (p2 modIV) [x, y] H Q) : rI (fun _ j => 0 < j) (fun i j => .int (i % j)) x y H Q := by
  obtain ⟨i, j, z, e1, e2, e, q⟩ := int_op h
  split at e
  case isFalse => cases e
  case isTrue hj => cases e; exact ⟨i, j, e1, e2, hj, q _ fun _ => .int _⟩
theorem ok_pow (h : tPrim K mg (p2 powIV) [x, y] H Q) : rI CPow (fun i j => .int (i ^ j.toNat)) x y H Q := by
  obtain ⟨i, j, z, e1, e2, e, q⟩ := int_op h
  split at e
  case isFalse => cases e
  case isTrue hj => cases e; exact ⟨i, j, e1, e2, ⟨hj.1, by omega, hj.2.2⟩, q _ fun _ => .int _⟩
theorem ok_shl (h : tPrim K mg (p2 shlIV) [x, y] H Q) : rI CPow (fun i j => .int (i * 2 ^ j.toNat)) x y H Q := by
  obtain ⟨i, j, z, e1, e2, e, q⟩ := int_op h
  split at e
  case isFalse => cases e
  case isTrue hj => cases e; exact ⟨i, j, e1, e2, ⟨hj.1, by omega, hj.2.2⟩, q _ fun _ => .int _⟩
theorem ok_shr (h : tPrim K mg (p2 shrIV) [x, y] H Q) : rI (fun _ j => 0 ≤ j) (fun i j => .int (i / 2 ^ j.toNat)) x y H Q := by
  obtain ⟨i, j, z, e1, e2, e, q⟩ := int_op h
  split at e
  case isFalse => cases e
  case isTrue hj => cases e; exact ⟨i, j, e1, e2, hj, q _ fun _ => .int _⟩
theorem ok_and (h : tPrim K mg (p2 andIV) [x, y] H Q) : ∃ n : Nat, x = .int (n : Int) ∧ y = .int 1 ∧ Q (.int ((n % 2 : Nat) : Int)) H := by
  obtain ⟨i, j, z, e1, e2, e, q⟩ := int_op h
  split at e
  case isFalse => cases e
  case isTrue hj =>
    cases e
    obtain ⟨h0, h1⟩ := hj
    obtain ⟨n, rfl⟩ := Int.eq_ofNat_of_zero_le h0
    subst h1
    exact ⟨n, e1, e2, q _ fun _ => .int _⟩
theorem ok_le (h : tPrim K mg (p2 leIV) [x, y] H Q) : rI0 (fun i j => .bl (decide (i ≤ j))) x y H Q ∨ rLeT K x y H Q := by
  obtain ⟨F, a, b, fp, res, v, w, e, st, o1, o2, f, c⟩ := prim2 h
  cases e
  unfold leIV at f
  split at f
  case h_1 xs ys =>
    obtain ⟨ns, g1, f⟩ := Option.bind_eq_some_iff.mp f
    obtain ⟨ms, g2, f⟩ := Option.bind_eq_some_iff.mp f
    cases f
    obtain ⟨a1, vs, e1, t1, _, r1, w1⟩ := asT_ok st.ex o1 rfl
    obtain ⟨a2, ws, e2, t2, _, r2, w2⟩ := asT_ok st.ex o2 rfl
    rw [asInts_ok g1] at r1
    rw [asInts_ok g2] at r2
    rw [r1.ints] at t1
    rw [r2.ints] at t2
    exact .inr ⟨a1, a2, ns, ms, e1, e2, t1, t2, Cont.data st c (.bl _)⟩
  case h_2 =>
    obtain ⟨i, e1, f⟩ := Option.bind_eq_some_iff.mp f
    obtain ⟨j, e2, f⟩ := Option.bind_eq_some_iff.mp f
    cases f
    exact .inl ⟨i, j, asI_ok o1 e1, asI_ok o2 e2, Cont.data st c (.bl _)⟩
theorem ok_gt (h : tPrim K mg (p2 gtIV) [x, y] H Q) : rI0 (fun i j => .bl (decide (j < i))) x y H Q := by
  obtain ⟨i, j, z, e1, e2, e, q⟩ := int_op h
  cases e
  exact ⟨i, j, e1, e2, q _ fun _ => .bl _⟩
theorem ok_ge (h : tPrim K mg (p2 geIV) [x, y] H Q) : rI0 (fun i j => .bl (decide (j ≤ i))) x y H Q := by
  obtain ⟨i, j, z, e1, e2, e, q⟩ := int_op h
  cases e
  exact ⟨i, j, e1, e2, q _ fun _ => .bl _⟩
end
abbrev rLtS : R2 := fun x y H Q => ∃ i j, x = .str i ∧ y = .str j ∧ Q (.bl (decide (i.cps.toList < j.cps.toList))) H
abbrev rLtA (K : Fg) : R2 := fun x y H Q => rI0 (fun i j => .bl (decide (i < j))) x y H Q ∨ (rLtS x y H Q ∨ rLtT K x y H Q)
abbrev rAddS : R2 := fun x y H Q => ∃ i j, x = .str i ∧ y = .str j ∧ i.length + j.length ≤ sizeLine ∧ Q (.str (i ++ j)) H
abbrev rAddA (K : Fg) : R2 := fun x y H Q => rI0 (fun i j => .int (i + j)) x y H Q ∨ (rAddS x y H Q ∨ (rCatA K x y H Q ∨ rCatR K x y H Q))
abbrev rIsNon (neg : Bool) : R2 := fun x y H Q => y = .non ∧ Q (.bl (if neg then !decide (x = .non) else decide (x = .non))) H
abbrev rIsBB (neg : Bool) : R2 := fun x y H Q => ∃ a b : Bool, x = .bl a ∧ y = .bl b ∧ Q (.bl (if neg then !decide (a = b) else decide (a = b))) H
abbrev rIsA (neg : Bool) : R2 := fun x y H Q => rIsNon neg x y H Q ∨ rIsBB neg x y H Q
section
variable {X : Cx}
theorem op_ltA (hu : X.A.units < cLine) : OpR X (compareOp .Lt) (rLtA X.K) := op_lt.or (op_lt_str.or (op_ltT hu))
theorem op_addA : OpR X (binaryOp .Add) (rAddA X.K) := op_add.or (op_add_str.or (op_catA.or op_catR))
theorem op_isA : OpR X (compareOp .Is) (rIsA false) := op_isN.or op_isBl
theorem op_notIsA : OpR X (compareOp .IsNot) (rIsA true) := op_notN.or op_notBl
end
theorem lim_le {n : Nat} (h : n ≤ lim) : n ≤ sizeLine := Nat.le_trans h (by decide)
section
variable {K : Fg} {mg : MG} {x y : V} {H : Hp} {Q : VK}
theorem ok_add (h : tPrim K mg (p2 addIV) [x, y] H Q) : rAddA K x y H Q := by
  obtain ⟨F, a, b, fp, res, v, w, e, st, o1, o2, f, c⟩ := prim2 h
  cases e
  unfold addIV at f
  split at f
  case h_1 i j =>
    cases f
    exact .inl ⟨i, j, asI_ok o1 rfl, asI_ok o2 rfl, Cont.data st c (.int _)⟩
  case h_2 p q =>
    split at f
    case isFalse => cases f
    case isTrue hl =>
      cases f
      obtain ⟨e1, s1⟩ := asS_ok o1 rfl
      obtain ⟨e2, s2⟩ := asS_ok o2 rfl
      exact .inr (.inl ⟨p, q, e1, e2, lim_le hl, Cont.data st c (.str _ (s1.app s2))⟩)
  case h_3 xs ys =>
    split at f
    case isFalse => cases f
    case isTrue hl =>
      cases f
      obtain ⟨a1, vs, e1, t1, _, r1, w1⟩ := asT_ok st.ex o1 rfl
      obtain ⟨a2, ws, e2, t2, _, r2, w2⟩ := asT_ok st.ex o2 rfl
      refine .inr (.inr (.inl ⟨a1, a2, vs, ws, e1, e2, t1, t2, lim_le (by rw [r1.len, r2.len]; exact hl), fun z => ?_, fun z1 z2 => ?_, fun z1 z2 => ?_⟩))
      · subst z
        have l1 := r1.len
        have : xs = [] := List.eq_nil_of_length_eq_zero l1.symm
        subst this
        rw [← e2]
        exact Cont.data st c w2
      · subst z2
        have l1 := r2.len
        have : ys = [] := List.eq_nil_of_length_eq_zero l1.symm
        subst this
        rw [← e1]
        rw [List.append_nil] at c
        exact Cont.data st c w1
      · exact Cont.tupN st c (r1.app r2)
  case h_4 =>
    obtain ⟨xs, g1, f⟩ := Option.bind_eq_some_iff.mp f
    obtain ⟨ys, g2, f⟩ := Option.bind_eq_some_iff.mp f
    split at f
    case isFalse => cases f
    case isTrue hl =>
      cases f
      obtain ⟨a1, vs, e1, t1, r1⟩ := asL_ok st.ex o1 g1
      obtain ⟨a2, ws, e2, t2, r2⟩ := asL_ok st.ex o2 g2
      exact .inr (.inr (.inr ⟨a1, a2, vs, ws, e1, e2, t1, t2, lim_le (by rw [r1.len, r2.len]; exact hl), Cont.lstN st c (r1.app r2)⟩))
theorem ok_lt (h : tPrim K mg (p2 ltIV) [x, y] H Q) : rLtA K x y H Q := by
  obtain ⟨F, a, b, fp, res, v, w, e, st, o1, o2, f, c⟩ := prim2 h
  cases e
  unfold ltIV at f
  split at f
  case h_1 i j =>
    cases f
    exact .inl ⟨i, j, asI_ok o1 rfl, asI_ok o2 rfl, Cont.data st c (.bl _)⟩
  case h_2 p q =>
    cases f
    exact .inr (.inl ⟨p, q, (asS_ok o1 rfl).1, (asS_ok o2 rfl).1, Cont.data st c (.bl _)⟩)
  case h_3 xs ys =>
    obtain ⟨ns, g1, f⟩ := Option.bind_eq_some_iff.mp f
    obtain ⟨ms, g2, f⟩ := Option.bind_eq_some_iff.mp f
    cases f
    obtain ⟨a1, vs, e1, t1, _, r1, w1⟩ := asT_ok st.ex o1 rfl
    obtain ⟨a2, ws, e2, t2, _, r2, w2⟩ := asT_ok st.ex o2 rfl
    rw [asInts_ok g1] at r1
    rw [asInts_ok g2] at r2
    rw [r1.ints] at t1
    rw [r2.ints] at t2
    exact .inr (.inr ⟨a1, a2, ns, ms, e1, e2, t1, t2, Cont.data st c (.bl _)⟩)
  case h_4 => cases f
theorem own_non {F : Hp} {v : V} {iv : IV} {S : AS} (o : OwnV K mg F H v iv S) : isNon iv = decide (v = .non) := by
  cases iv with
  | d z =>
    have r := o.1
    cases r <;> rfl
  | own xs =>
    obtain ⟨a, _, e, _⟩ := o
    subst e
    rfl
  | dct _ =>
    obtain ⟨a, _, e, _⟩ := o
    subst e
    rfl
  | obj _ _ =>
    obtain ⟨a, _, _, _, _, e, _⟩ := o
    subst e
    rfl
theorem ok_is {neg : Bool} (h : tPrim K mg (p2 (isIV neg)) [x, y] H Q) : rIsA neg x y H Q := by
  obtain ⟨F, a, b, fp, res, v, w, e, st, o1, o2, f, c⟩ := prim2 h
  cases e
  unfold isIV at f
  split at f
  case h_1 =>
    cases f
    have q := own_non o1
    have ey : y = .non := by cases o2.1; rfl
    refine .inl ⟨ey, ?_⟩
    rw [← q]
    exact Cont.data st c (.bl _)
  case h_2 k =>
    split at f
    case h_1 m =>
      cases f
      have e1 : x = .bl m := by cases o1.1; rfl
      have e2 : y = .bl k := by cases o2.1; rfl
      exact .inr ⟨m, k, e1, e2, Cont.data st c (.bl _)⟩
    case h_2 => cases f
  case h_3 => cases f
end
def mulS (s : Str) (k : Int) : Str := ⟨((List.replicate k.toNat s.cps.toList).flatten).toArray⟩
theorem foldl_flat (a : Array Nat) : ∀ (k : Nat) (acc : Array Nat), ((List.replicate k a).foldl (· ++ ·) acc).toList = acc.toList ++ (List.replicate k a.toList).flatten
  | 0, acc => by simp
  | k + 1, acc => by
    rw [List.replicate_succ, List.foldl_cons, foldl_flat a k, List.replicate_succ, List.flatten_cons]
    simp
theorem mulS_eq (s : Str) (k : Int) : Txt.mul s k = mulS s k := by
  unfold Txt.mul mulS
  split
  case isTrue h => rw [show k.toNat = 0 by omega]; rfl
  case isFalse h =>
    split
    case isTrue h2 =>
      rcases Bool.or_eq_true_iff.mp h2 with e | e
      · have : k = 1 := by simpa using e
        subst this
        obtain ⟨⟨l⟩⟩ := s
        simp
      · obtain ⟨⟨l⟩⟩ := s
        have : l = [] := by simpa [Str.length] using e
        subst this
        simp
    case isFalse h2 =>
      congr 1
      have := foldl_flat s.cps k.toNat #[]
      simp only [List.nil_append] at this
      exact Array.toList_inj.mp (by simpa using this)
theorem SOk.mul {s : Str} (h : SOk s) (k : Int) : SOk (mulS s k) := by
  intro c hc
  unfold mulS at hc
  simp only [List.mem_flatten, List.mem_replicate] at hc
  obtain ⟨l, ⟨_, e⟩, m⟩ := hc
  rw [e] at m
  exact h c m
def mulIV (x y : IV) : Option IV := match x, y with
  | .d (.int i), .d (.int j) => if i.natAbs < 2 ^ 64 ∨ j.natAbs < 2 ^ 64 then some (.d (.int (i * j))) else none
  | .d (.str s), .d (.int k) => if k ≤ 1000 ∧ -1000 ≤ k ∧ s.length ≤ 1000 then some (.d (.str (mulS s k))) else none
  | _, _ => none
abbrev rMulA : R2 := fun x y H Q => rI CMul (fun i j => .int (i * j)) x y H Q ∨ rMulS x y H Q
theorem op_mulA {X : Cx} : OpR X (binaryOp .Mult) rMulA := op_mul.or op_mulS
theorem ok_mul {K : Fg} {mg : MG} {x y : V} {H : Hp} {Q : VK} (h : tPrim K mg (p2 mulIV) [x, y] H Q) : rMulA x y H Q := by
  obtain ⟨F, a, b, fp, res, v, w, e, st, o1, o2, f, c⟩ := prim2 h
  cases e
  unfold mulIV at f
  split at f
  case h_1 i j =>
    split at f
    case isFalse => cases f
    case isTrue hl =>
      cases f
      refine .inl ⟨i, j, asI_ok o1 rfl, asI_ok o2 rfl, ?_, Cont.data st c (.int _)⟩
      rcases hl with hl | hl
      · exact .inl (by omega)
      · exact .inr (by omega)
  case h_2 s k =>
    split at f
    case isFalse => cases f
    case isTrue hl =>
      cases f
      obtain ⟨e1, s1⟩ := asS_ok o1 rfl
      obtain ⟨h1, h2, h3⟩ := hl
      refine .inr ⟨s, k, e1, asI_ok o2 rfl, ⟨?_, fun h4 h5 => ?_, fun h4 h5 => ?_⟩, ?_⟩
      · rw [decide_eq_false (by omega), decide_eq_false (by omega)]; rfl
      · have hk : 1 ≤ k := by omega
        have : (1000 : Int) ≤ (2 ^ 63 - 1) / k := Int.le_ediv_of_mul_le (by omega) (by omega)
        omega
      · unfold Builtin.Str.tooLong
        have h6 : s.length * k.toNat ≤ 1000 * 1000 := Nat.mul_le_mul h3 (by omega)
        rw [sizeLine_eq]
        exact decide_eq_false (by omega)
      · rw [mulS_eq]
        exact Cont.data st c (.str _ (s1.mul k))
  case h_3 => cases f
end SD
namespace SD
open PySem L2 PySem.Spec PyProof.Rows
theorem tup_mul_one (l : Addr) (items : Array Value) (n : Nat) (dd : Option Addr) (sl : Array (Option Value)) (x : Int) (u : Tok) (k0 : (decide (x < -(2 ^ 63)) || decide (x ≥ 2 ^ 63)) = false) (k1 : (items.isEmpty || x == 1) = true) :
    Meets (Builtin.«tuple.__mul__» ⟨[.ref l, .int x u], []⟩) (fun _ R s => s.heap.get? l = some { cls := .type "tuple", dict := dd, data := .seq items n, slots := sl } ∧ R (.ok (.ret (Value.ref l))) s) :=
  .of_wp fun prog w A R s h => by
    obtain ⟨hp, g, d, tk, os⟩ := s
    obtain ⟨hl, h⟩ := h
    have f1 := AutoSeq1.idx_int
    wp_walk using wpAny_loadPart' hl
    repeat (first
      | (refine wpAny_ite_false (decide_eq_false (by rw [k0]; exact Bool.false_ne_true)) ?_; wp_walk using wpAny_loadPart' hl)
      | (refine wpAny_ite_true (decide_eq_true k1) ?_; wp_walk using wpAny_loadPart' hl))
    exact ⟨_, rfl, h⟩
theorem tup_mul_zero (l : Addr) (items : Array Value) (n : Nat) (dd : Option Addr) (sl : Array (Option Value)) (x : Int) (u : Tok) (k0 : (decide (x < -(2 ^ 63)) || decide (x ≥ 2 ^ 63)) = false) (k1 : (items.isEmpty || x == 1) = false) (k2 : (decide (x ≤ 0) || items.isEmpty) = true) :
    Meets (Builtin.«tuple.__mul__» ⟨[.ref l, .int x u], []⟩) (fun _ R s => s.heap.get? l = some { cls := .type "tuple", dict := dd, data := .seq items n, slots := sl } ∧
      R (.ok (.ret (Value.ref s.heap.objs.size))) { s with heap := s.heap.push { cls := Value.type "tuple", data := Data.seq #[] }, toks := s.toks }) :=
  .of_wp fun prog w A R s h => by
    obtain ⟨hp, g, d, tk, os⟩ := s
    obtain ⟨hl, h⟩ := h
    have f1 := AutoSeq1.idx_int
    wp_walk using wpAny_loadPart' hl
    repeat (first
      | (refine wpAny_ite_false (decide_eq_false (by rw [k0]; exact Bool.false_ne_true)) ?_; wp_walk using wpAny_loadPart' hl)
      | (refine wpAny_ite_false (decide_eq_false (by rw [k1]; exact Bool.false_ne_true)) ?_; wp_walk using wpAny_loadPart' hl)
      | (refine wpAny_ite_true (decide_eq_true k2) ?_; wp_walk using wpAny_loadPart' hl))
    exact ⟨_, rfl, h⟩
/-- of one time or fewer -/
abbrev rRep01 (K : Fg) : R2 := fun x y H Q => ∃ l k xs, x = .ref l ∧ y = .int k ∧ SqT K H l xs ∧ xs ≠ [] ∧ k ≤ 1 ∧ -1000 ≤ k ∧ (k = 1 → Q (.ref l) H) ∧ (k ≤ 0 → ∀ p, H p = none → Q (.ref p) (upd H p (.tup [])))
theorem op_rep01 {X : Cx} : OpR X (binaryOp .Mult) (rRep01 X.K) := by
  intro pins s σ H x y v u Q I rx ry ⟨l, k, xs, e1, e2, hT, hne, h1, h2, q1, q2⟩
  subst e1 e2
  cases rx
  obtain ⟨t, rfl⟩ := ry
  obtain ⟨its, r, ⟨⟨cls, dd, data, sl⟩, ho, hc, n, hd⟩, hs⟩ := I.tuple hT
  simp only at hc hd
  subst hc hd
  have hi : its.toArray.isEmpty = false := by
    cases its with
    | nil =>
      have := r.length
      exact absurd (List.eq_nil_of_length_eq_zero this) hne
    | cons a b => rfl
  have k0 : (decide (k < -(2 ^ 63)) || decide (k ≥ 2 ^ 63)) = false := by
    rw [decide_eq_false (by omega), decide_eq_false (by omega)]; rfl
  by_cases hk : k = 1
  · refine wpAny_binaryOp_repeat_ref (T := "tuple") (U := "int") (by decide) ⟨_, ho, rfl⟩ (fun s' => typeIs_int s' k t) noFill_tuple_mul F.fills_int_mul F.slot_int_rmul repeat_tuple F.slot_int_index.lookup
      (call_meets F.slot_int_rmul (typeIs_int s k t) F.entry_int_rmul (F.args_int_rmul_2 _ _) (int_rmul_tuple k t l its.toArray n dd sl)
        ⟨ho, rfl, ⟨_, ho, rfl⟩, call_meets F.slot_tuple_mul ⟨_, ho, rfl⟩ F.entry_tuple_mul (F.args_tuple_mul_2 _ _) (tup_mul_one l its.toArray n dd sl k t k0 (by rw [hi, hk]; rfl)) ⟨ho, ?_⟩⟩)
    exact ⟨.ref l, H, I, rfl, q1 hk⟩
  · refine wpAny_binaryOp_repeat_ref (T := "tuple") (U := "int") (by decide) ⟨_, ho, rfl⟩ (fun s' => typeIs_int s' k t) noFill_tuple_mul F.fills_int_mul F.slot_int_rmul repeat_tuple F.slot_int_index.lookup
      (call_meets F.slot_int_rmul (typeIs_int s k t) F.entry_int_rmul (F.args_int_rmul_2 _ _) (int_rmul_tuple k t l its.toArray n dd sl)
        ⟨ho, rfl, ⟨_, ho, rfl⟩, call_meets F.slot_tuple_mul ⟨_, ho, rfl⟩ F.entry_tuple_mul (F.args_tuple_mul_2 _ _) (tup_mul_zero l its.toArray n dd sl k t k0 (by rw [hi, Bool.false_or]; exact beq_eq_false_iff_ne.mpr hk) (by rw [decide_eq_true (show k ≤ 0 by omega)]; rfl)) ⟨ho, ?_⟩⟩)
    exact ⟨.ref s.heap.objs.size, _, I.laid (t' := s.toks) (o := .tup []) (fun b ob q => Heap.get?_push_of_some _ q) (Nat.le_refl _) ⟨Nat.zero_le _, [], .nil, IsTup.new _ _⟩, rfl, q2 (by omega) _ (I.hok.fresh (Nat.le_refl _))⟩
abbrev rRepR : R2 := fun x y H Q => ∃ l k xs, x = .ref l ∧ y = .int k ∧ H l = some (.lst xs) ∧ -(2 ^ 63) ≤ k ∧ k < 2 ^ 63 ∧ xs.length * k.toNat ≤ sizeLine ∧ ∀ p, H p = none → Q (.ref p) (upd H p (.lst (List.replicate k.toNat xs).flatten))
def repL (k : Int) (xs : List D) : List D := (List.replicate k.toNat xs).flatten
def mulQ (x y : IV) : Option IV := match x, y with
  | .own xs, .d (.int k) => if k ≤ 1000 ∧ -1000 ≤ k ∧ xs.length ≤ 1000 then some (.own (repL k xs)) else none
  | .d (.tup xs), .d (.int k) => if k ≤ 1000 ∧ -1000 ≤ k ∧ xs.length ≤ 1000 ∧ xs.isEmpty = false then some (.d (.tup (repL k xs))) else none
  | x, y => mulIV x y
abbrev rMulQ (K : Fg) : R2 := fun x y H Q => rMulA x y H Q ∨ (rRepR x y H Q ∨ (rRep01 K x y H Q ∨ rRepT K x y H Q))
theorem op_mulQ {X : Cx} : OpR X (binaryOp .Mult) (rMulQ X.K) := op_mulA.or (op_rep.or (op_rep01.or op_repT))
theorem ok_mulQ {K : Fg} {mg : MG} {x y : V} {H : Hp} {Q : VK} (h : tPrim K mg (p2 mulQ) [x, y] H Q) : rMulQ K x y H Q := by
  obtain ⟨F, a, b, fp, res, v, w, e, st, o1, o2, f, c⟩ := prim2 h
  cases e
  unfold mulQ at f
  split at f
  case h_1 xs k =>
    split at f
    case isFalse => cases f
    case isTrue hl =>
      cases f
      obtain ⟨h1, h2, h3⟩ := hl
      obtain ⟨a1, vs, e1, g1, r1, _⟩ := o1
      refine .inr (.inl ⟨a1, k, vs, e1, asI_ok o2 rfl, g1, by omega, by omega, ?_, Cont.lstN st c (r1.reps k.toNat)⟩)
      have h6 : vs.length * k.toNat ≤ 1000 * 1000 := Nat.mul_le_mul (by rw [r1.len]; exact h3) (by omega)
      rw [sizeLine_eq]
      omega
  case h_2 xs k =>
    split at f
    case isFalse => cases f
    case isTrue hl =>
      cases f
      obtain ⟨h1, h2, h3, h4⟩ := hl
      obtain ⟨a1, vs, e1, t1, _, r1, w1⟩ := asT_ok st.ex o1 rfl
      have l1 := r1.len
      have ne : vs ≠ [] := fun z => by
        subst z
        cases xs with
        | nil => cases h4
        | cons _ _ => cases l1
      by_cases hk : 2 ≤ k
      · exact .inr (.inr (.inr ⟨a1, k, vs, e1, asI_ok o2 rfl, t1, ne, hk, h1, by rw [l1]; exact h3, Cont.tupN st c (r1.reps k.toNat)⟩))
      · refine .inr (.inr (.inl ⟨a1, k, vs, e1, asI_ok o2 rfl, t1, ne, by omega, h2, fun z => ?_, fun z => ?_⟩))
        · subst z
          rw [← e1]
          have : repL 1 xs = xs := by show (List.replicate 1 xs).flatten = xs; simp
          rw [this] at c
          exact Cont.data st c w1
        · have : repL k xs = [] := by
            unfold repL
            rw [show k.toNat = 0 by omega]
            rfl
          rw [this] at c
          exact Cont.tupN st c .nil
  case h_3 =>
    exact .inl (ok_mul (K := K) (mg := mg) ⟨F, [a, b], fp, res, [a, b], st, by show (mulIV a b).bind _ = _; rw [f]; rfl, c⟩)
end SD
namespace SD
open PySem PySem.Spec PyProof.Rows L2
theorem collect_tup {prog : Program} {w : World} {A : Around} {E : Value → Shared → Prop} {s : Shared} {l : Addr} {vs : List Value} {Q : List Value → Shared → Prop} (hl : s.heap.IsTuple l vs.toArray)
    (h : Q vs { s with heap := (s.heap.push (seqObj "list" #[] 0)).update s.heap.objs.size (Obj.mapSeq (· ++ vs.toArray)) }) (hsz : vs.length ≤ sizeLine) :
    wpAny (model prog w) A (collect (.ref l)) Q E s := by
  obtain ⟨o, ho, hc, n, hd⟩ := id hl
  unfold collect
  refine wpAny_bind (wpAny_runValue (codeAny_builtin entry_proto_collect' ?_))
  show wpAny _ _ (do again (.builtin "list.__iadd__" ⟨[← newList [], .ref l], []⟩)) _ _ s
  refine wpAny_bind (wpAny_newList (wpAny_pure ⟨Code.quiet_builtin _ (by decide +kernel), codeAny_builtin entry_list_iadd' ?_⟩))
  show wpAny _ _ (Builtin.List.listExtendWith (.ref s.heap.objs.size) (.ref l) (.ref s.heap.objs.size)) _ _ { s with heap := s.heap.push (seqObj "list" #[] 0) }
  unfold Builtin.List.listExtendWith
  have ho' : (s.heap.push (seqObj "list" #[] 0)).get? l = some o := Heap.get?_push_of_some _ ho
  refine wpAny_bind (wpAny_typeOf (T := "tuple") ⟨o, ho', hc⟩ ?_)
  have ht : (Value.type "tuple" == Value.type "tuple") = true := by rfl
  rw [if_pos (by rw [ht]; simp)]
  refine wpAny_bind (listItems_at ho' hd ?_)
  refine wpAny_bind (listItems_at (xs := #[]) (n := 0) (Heap.get?_push_size _ rfl) rfl ?_)
  rw [if_neg (by simp)]
  refine wpAny_bind (listUpdate_at (xs := #[]) (n := 0) (Heap.get?_push_size _ rfl) rfl ?_ (Nat.zero_le _) (by show (#[] ++ vs.toArray).size ≤ sizeLine + 1; simp only [Array.size_append, List.size_toArray, List.length_nil]; omega))
  refine wpAny_pure ?_
  show wpAny (model prog w) A (do
      let o ← load s.heap.objs.size
      match o.data with
      | .seq xs _ => pure xs.toList
      | _ => unsupported "internal:collect") Q E { s with heap := (s.heap.push (seqObj "list" #[] 0)).update s.heap.objs.size (Obj.mapSeq (· ++ vs.toArray)) }
  refine wpAny_bind (wpAny_load (get?_update_seq (Heap.get?_push_size _ rfl) _) ?_)
  show wpAny _ _ (pure ((#[] : Array Value) ++ vs.toArray).toList) Q E _
  rw [show ((#[] : Array Value) ++ vs.toArray).toList = vs by simp]
  exact wpAny_pure h
theorem sorted_strsT {prog : Program} {w : World} {A : Around} {E : Value → Shared → Prop} {s : Shared} {l : Addr} {vs : List Value} {ss : List Str} {Q : Value → Shared → Prop} (hl : s.heap.IsTuple l vs.toArray) (hS : StrsAre vs ss) (h64 : vs.length < 64)
    (h : ∀ (out : Array Value) (ss' : List Str), StrsAre out.toList ss' → ss'.Perm ss → sortedS ss' = true → Q (.ref (s.heap.objs.size + 1)) { s with heap := sortedAll s.heap vs out }) :
    wpAny (model prog w) A (call (.builtin "sorted") [.ref l]) Q E s := by
  refine Calls.call_function_entry kind_sorted plain_sorted entry_sorted (args_sorted1 _) ?_
  unfold Builtin.«sorted»
  refine wpAny_bind (m := checkCount "sorted" 1 1 _) (wpAny_pure ?_)
  refine wpAny_bind (collect_tup hl ?_ (by rw [sizeLine_eq]; omega))
  refine wpAny_bind (wpAny_newList ?_)
  have hsz : ((s.heap.push (seqObj "list" #[] 0)).update s.heap.objs.size (Obj.mapSeq (· ++ vs.toArray))).objs.size = s.heap.objs.size + 1 := by
    rw [Heap.size_update, size_push']
  have hoL : (((s.heap.push (seqObj "list" #[] 0)).update s.heap.objs.size (Obj.mapSeq (· ++ vs.toArray))).push (seqObj "list" vs.toArray 0)).get? (s.heap.objs.size + 1) = some (seqObj "list" vs.toArray 0) := by
    rw [← hsz]; exact Heap.get?_push_size _ rfl
  show wpAny _ _ _ _ _ { s with heap := ((s.heap.push (seqObj "list" #[] 0)).update s.heap.objs.size (Obj.mapSeq (· ++ vs.toArray))).push (seqObj "list" vs.toArray 0) }
  rw [hsz]
  refine wpAny_bind (wpAny_holding (wpAny_call_entry slot_list_sort ⟨_, hoL, rfl⟩ entry_list_sort (list_sort_treeK strKind_oneLt hoL hS.keysOf (fun v₁ v₂ rest e => keyKind_strs (by rw [← e]; exact hS)) h64 fun st' a1 a2 => ⟨_, rfl, ?_⟩) (args_list_sort _)))
  obtain ⟨ss', h1, h2, h3⟩ := sorted_out_str hS a1 a2
  exact wpAny_pure ⟨_, rfl, h _ ss' h1 h2 h3⟩
def rSortedTS (K : Fg) : List V → Hp → VK → Prop := fun vs H Q => ∃ (a : Addr) (xs : List Str), vs = [V.ref a] ∧ SqT K H a (xs.map V.str) ∧ xs.length < 64 ∧
  ∀ (ys : List Str) (p : Addr), ys.Perm xs → sortedS ys = true → H p = none → Q (.ref p) (upd H p (.lst (ys.map V.str)))
theorem cr_sortedTS {X : Cx} : CallR X (.builtin "sorted") (rSortedTS X.K) := by
  intro pins s σ H vs us Q I r h
  obtain ⟨a, xs, rfl, hs, h64, q⟩ := h
  obtain ⟨its, rv, hl, _⟩ := I.tuple hs
  rw [Vals.ref1 r]
  have hlen0 := rv.length
  rw [List.length_map] at hlen0
  refine sorted_strsT (show s.heap.IsTuple a its.toArray from hl) rv.strs (by rw [← hlen0]; exact h64) fun out ys h1 h2 h3 => ?_
  obtain ⟨ep, he'⟩ := PyProof.Rows.sortedAll_at s.heap its out
  have hlen : (ys.map V.str).length ≤ sizeLine := by rw [List.length_map, h2.length_eq]; exact small64 h64
  exact ⟨.ref _, upd H (s.heap.objs.size + 1) (.lst (ys.map V.str)), I.laid (t' := s.toks) (fun _ _ => PyProof.Rows.sortedAll_old) (Nat.le_succ _) ⟨hlen, out.toList, ep, vals_of_strs h1, he'⟩, rfl, q ys _ h2 h3 (I.hok.fresh (Nat.le_succ _))⟩
def leC (a b : List Nat) : Bool := !ltCps b a
theorem leC_tot : ∀ a b : List Nat, leC a b = true ∨ leC b a = true
  | [], [] => .inl rfl
  | [], _ :: _ => .inl rfl
  | _ :: _, [] => .inr rfl
  | a :: r, b :: t => by
    rcases leC_tot r t with h | h <;> simp only [leC, ltCps, Bool.not_eq_true', Bool.or_eq_false_iff, Bool.and_eq_false_iff, decide_eq_false_iff_not, beq_eq_false_iff_ne] at h ⊢ <;> by_cases h1 : a < b
    · exact .inl ⟨by omega, .inl (by omega)⟩
    · by_cases h2 : b < a
      · exact .inr ⟨by omega, .inl (by omega)⟩
      · exact .inl ⟨by omega, .inr h⟩
    · exact .inl ⟨by omega, .inl (by omega)⟩
    · by_cases h2 : b < a
      · exact .inr ⟨by omega, .inl (by omega)⟩
      · exact .inr ⟨by omega, .inr h⟩
theorem leC_anti : ∀ {a b : List Nat}, leC a b = true → leC b a = true → a = b
  | [], [], _, _ => rfl
  | [], _ :: _, _, h => by cases h
  | _ :: _, [], h, _ => by cases h
  | a :: r, b :: t, h1, h2 => by
    simp only [leC, ltCps, Bool.not_eq_true', Bool.or_eq_false_iff, Bool.and_eq_false_iff, decide_eq_false_iff_not, beq_eq_false_iff_ne] at h1 h2
    have e : a = b := by omega
    subst e
    have g1 : leC r t = true := by rcases h1.2 with z | z
                                   · exact absurd rfl z
                                   · simp [leC, z]
    have g2 : leC t r = true := by rcases h2.2 with z | z
                                   · exact absurd rfl z
                                   · simp [leC, z]
    rw [leC_anti g1 g2]
theorem leC_tr : ∀ {a b c : List Nat}, leC a b = true → leC b c = true → leC a c = true
  | [], _, [], _, _ => rfl
  | [], _, _ :: _, _, _ => rfl
  | _ :: _, [], _, h, _ => by cases h
  | _ :: _, _ :: _, [], _, h => by cases h
  | a :: r, b :: t, c :: u, h1, h2 => by
    simp only [leC, ltCps, Bool.not_eq_true', Bool.or_eq_false_iff, Bool.and_eq_false_iff, decide_eq_false_iff_not, beq_eq_false_iff_ne] at h1 h2 ⊢
    refine ⟨by omega, ?_⟩
    by_cases e : c = a
    · right
      subst e
      have e2 : b = c := by omega
      subst e2
      have g1 : leC r t = true := by rcases h1.2 with z | z
                                     · exact absurd rfl z
                                     · simp [leC, z]
      have g2 : leC t u = true := by rcases h2.2 with z | z
                                     · exact absurd rfl z
                                     · simp [leC, z]
      have := leC_tr g1 g2
      simpa [leC] using this
    · exact .inl e
def leS (a b : Str) : Bool := leC a.cps.toList b.cps.toList
theorem sortedS_pw : ∀ {l : List Str}, sortedS l = true → l.Pairwise fun a b => leS a b = true := by
  have key : ∀ (l : List Str) (p : Str), risingS p l = true → (p :: l).Pairwise fun a b => leS a b = true := fun l => by
    induction l with
    | nil => intro p _; simp
    | cons x r ih =>
      intro p h
      obtain ⟨h1, h2⟩ := Bool.and_eq_true_iff.mp (show (!ltCps x.cps.toList p.cps.toList && risingS x r) = true from h)
      have t := ih x h2
      refine List.pairwise_cons.mpr ⟨fun y hy => ?_, t⟩
      rcases List.mem_cons.mp hy with e | e
      · rw [e]; exact h1
      · exact leC_tr (b := x.cps.toList) h1 ((List.pairwise_cons.mp t).1 y e)
  intro l h
  cases l with
  | nil => exact .nil
  | cons x r => exact key r x h
theorem leS_anti {a b : Str} (h1 : leS a b = true) (h2 : leS b a = true) : a = b := by
  have := leC_anti h1 h2
  obtain ⟨⟨x⟩⟩ := a
  obtain ⟨⟨y⟩⟩ := b
  simp only at this
  rw [this]
def insSt (x : Str) : List Str → List Str
  | [] => [x]
  | y :: ys => if leS x y then x :: y :: ys else y :: insSt x ys
def sortSt : List Str → List Str
  | [] => []
  | x :: xs => insSt x (sortSt xs)
theorem insSt_perm (x : Str) : ∀ ys : List Str, (insSt x ys).Perm (x :: ys)
  | [] => .refl _
  | y :: ys => by
    unfold insSt
    split
    · exact .refl _
    · exact ((insSt_perm x ys).cons y).trans (.swap ..)
theorem sortSt_perm : ∀ xs : List Str, (sortSt xs).Perm xs
  | [] => .refl _
  | x :: xs => (insSt_perm x (sortSt xs)).trans ((sortSt_perm xs).cons x)
theorem insSt_sorted (x : Str) : ∀ ys : List Str, (ys.Pairwise fun a b => leS a b = true) → (insSt x ys).Pairwise fun a b => leS a b = true
  | [], _ => by simp [insSt]
  | y :: ys, h => by
    obtain ⟨h1, h2⟩ := List.pairwise_cons.mp h
    unfold insSt
    split
    case isTrue q =>
      refine List.pairwise_cons.mpr ⟨fun z hz => ?_, h⟩
      rcases List.mem_cons.mp hz with e | e
      · rw [e]; exact q
      · exact leC_tr q (h1 z e)
    case isFalse q =>
      refine List.pairwise_cons.mpr ⟨fun z hz => ?_, insSt_sorted x ys h2⟩
      rcases List.mem_cons.mp ((insSt_perm x ys).mem_iff.mp hz) with e | e
      · rw [e]; exact (leC_tot x.cps.toList y.cps.toList).resolve_left q
      · exact h1 z e
theorem sortSt_sorted : ∀ xs : List Str, (sortSt xs).Pairwise fun a b => leS a b = true
  | [] => .nil
  | x :: xs => insSt_sorted x _ (sortSt_sorted xs)
theorem sortedS_eq {xs ys : List Str} (p : ys.Perm xs) (h : sortedS ys = true) : ys = sortSt xs :=
  (p.trans (sortSt_perm xs).symm).eq_of_pairwise (fun a b _ _ h1 h2 => leS_anti h1 h2) (sortedS_pw h) (sortSt_sorted xs)
end SD
namespace SD
open PySem L2
def keyIV : IV → Option Key
  | .d (.str s) => some (.inr s)
  | .d (.int i) => some (.inl i)
  | _ => none
def valD (kvs : List (Key × D)) (k : Key) : Option D := (kvs.find? fun kv => decide (kv.1 = k)).map (·.2)
def putD (kvs : List (Key × D)) (k : Key) (v : D) : List (Key × D) := if kvs.any (fun kv => decide (kv.1 = k)) then kvs.map fun kv => if kv.1 = k then (kv.1, v) else kv else kvs ++ [(k, v)]
theorem KvsOk.val {K : Fg} {mg : MG} {F : Hp} {vs : List (Key × V)} {xs : List (Key × D)} (h : KvsOk K mg F vs xs) (k : Key) {d : D} (e : valD xs k = some d) : ∃ v, valV vs k = some v ∧ Rp K mg F v d := by
  induction h with
  | nil => cases e
  | @cons k' v' d' r rs h1 _ ih =>
    by_cases hk : k' = k
    · have : d' = d := by simpa [valD, List.find?_cons, hk] using e
      subst this
      exact ⟨v', valV_pos hk, h1⟩
    · rw [valV_neg (p := (k', v')) hk]
      exact ih (by simpa [valD, List.find?_cons, hk] using e)
theorem KvsOk.any {K : Fg} {mg : MG} {F : Hp} {vs : List (Key × V)} {xs : List (Key × D)} (h : KvsOk K mg F vs xs) (k : Key) : (vs.any fun kv => decide (kv.1 = k)) = xs.any fun kv => decide (kv.1 = k) := by
  induction h with
  | nil => rfl
  | cons _ _ ih => simp only [List.any_cons, ih]
theorem KvsOk.repl {K : Fg} {mg : MG} {F : Hp} {vs : List (Key × V)} {xs : List (Key × D)} (h : KvsOk K mg F vs xs) (k : Key) {v : V} {d : D} (r : Rp K mg F v d) : KvsOk K mg F (vs.map fun kv => if kv.1 = k then (kv.1, v) else kv) (xs.map fun kv => if kv.1 = k then (kv.1, d) else kv) := by
  induction h with
  | nil => exact .nil
  | @cons k' v' d' _ _ h1 _ ih =>
    rw [List.map_cons, List.map_cons]
    by_cases hk : k' = k
    · rw [if_pos hk, if_pos hk]; exact .cons r ih
    · rw [if_neg hk, if_neg hk]; exact .cons h1 ih
theorem KvsOk.snoc {K : Fg} {mg : MG} {F : Hp} {vs : List (Key × V)} {xs : List (Key × D)} (h : KvsOk K mg F vs xs) (k : Key) {v : V} {d : D} (r : Rp K mg F v d) : KvsOk K mg F (vs ++ [(k, v)]) (xs ++ [(k, d)]) := by
  induction h with
  | nil => exact .cons r .nil
  | cons h1 _ ih => exact .cons h1 ih
theorem KvsOk.put {K : Fg} {mg : MG} {F : Hp} {vs : List (Key × V)} {xs : List (Key × D)} (h : KvsOk K mg F vs xs) (k : Key) {v : V} {d : D} (r : Rp K mg F v d) : KvsOk K mg F (putK vs k v) (putD xs k d) := by
  unfold putK putD
  rw [h.any k]
  split
  · exact h.repl k r
  · exact h.snoc k r
theorem key_ok {K : Fg} {mg : MG} {F H : Hp} {v : V} {iv : IV} {S : AS} {k : Key} (o : OwnV K mg F H v iv S) (e : keyIV iv = some k) : v = kV k := by
  unfold keyIV at e
  split at e
  · cases e; have := o.1; cases this; rfl
  · cases e; have := o.1; cases this; rfl
  · cases e
def idxSq (x y : IV) : Option IV := (y.asI).bind fun i => match x.asL, x.asT, x.asS with
  | some xs, _, _ => (atI xs i).bind fun z => some (.d z)
  | none, some xs, _ => (atI xs i).bind fun z => some (.d z)
  | none, none, some s => if s.length ≤ lim then (atI s.cps.toList i).bind fun c => some (.d (.str ⟨#[c]⟩)) else none
  | none, none, none => none
def idxIV (x y : IV) : Option IV := match x with
  | .dct kvs => (keyIV y).bind fun k => (valD kvs k).bind fun z => some (.d z)
  | x => idxSq x y
def rIxDct : R2 := fun x y H Q => ∃ a v, x = .ref a ∧ DGet H a y (some v) ∧ Q v H
section
open PySem.Spec PyProof.Rows HT
theorem ix_dct {X : Cx} (hu : X.A.units + 1 < cLine) : IxR X rIxDct := by
  intro value slice pins s σ H x y v u Q I rx ry h hs
  obtain ⟨a, w, rfl, g, q⟩ := h
  cases rx
  have hT := dict_typeIs I g
  unfold subscriptTail
  refine wpAny_bind ?_
  rw [getitemInPython_of_ne hT.not_modules]
  refine wpAny_bind (wpAny_specialOf hT PySem.F.slot_dict_getitem.lookup ?_)
  have h₂ : wpAny (model X.prog X.w) X.A (getItem (.ref a) u) (EP X pins σ Q) X.xe s := d_getItem hu I g ry fun w' s3 I3 rw' => ⟨w, H, I3, rw', q⟩
  have fin : wpAny (model X.prog X.w) X.A (subscripted slice false (.ref a) u) (fun r s₃ => wpAny (model X.prog X.w) X.A (letTemporaryGo value (.ref a) r >>= fun _ => pure r) (EP X pins σ Q) X.xe s₃) X.xe s := by
    rw [hs]
    exact wpAny_operating (wpAny_mono h₂ (fun r s₃ h₃ => wpAny_bind (wpAny_letTemporaryGo (wpAny_pure h₃))) fun _ _ x => x)
  first
    | exact wpAny_pure (wpAny_bind fin)
    | exact wpAny_bind (wpAny_pure (wpAny_bind fin))
    | exact wpAny_bind fin
end
theorem atI_rps {K : Fg} {mg : MG} {F : Hp} {vs : List V} {xs : List D} {i : Int} {z : D} (r : Rps K mg F vs xs) (e : atI xs i = some z) : ∃ v, atI vs i = some v ∧ Rp K mg F v z := by
  unfold atI at *
  obtain ⟨j, e1, e2⟩ := Option.bind_eq_some_iff.mp e
  obtain ⟨v, g1, g2⟩ := r.get j e2
  exact ⟨v, by rw [r.len, e1]; exact g1, g2⟩
def cutL (xs : List D) (lo hi : Option Int) : List D := (xs.drop (HT.sIx xs.length 0 lo)).take (HT.sIx xs.length xs.length hi - HT.sIx xs.length 0 lo)
theorem cut_rps {K : Fg} {mg : MG} {F : Hp} {vs : List V} {xs : List D} (r : Rps K mg F vs xs) (lo hi : Option Int) : Rps K mg F (cutV vs lo hi) (cutL xs lo hi) := by
  unfold cutV cutL
  rw [r.len]
  exact (r.drop _).take _
def slIV (x : IV) (lo hi : Option Int) : Option IV := match x.asL, x.asT, x.asS with
  | some xs, _, _ => some (.own (cutL xs lo hi))
  | none, some xs, _ => some (.d (.tup (cutL xs lo hi)))
  | none, none, some s => if s.length ≤ lim then some (.d (.str (cutS s lo hi))) else none
  | none, none, none => none
def slNN (x : IV) : Option IV := slIV x none none
def slNH (x h : IV) : Option IV := (h.asI).bind fun j => slIV x none (some j)
def slLN (x l : IV) : Option IV := (l.asI).bind fun i => slIV x (some i) none
def slLH (x l h : IV) : Option IV := (l.asI).bind fun i => (h.asI).bind fun j => slIV x (some i) (some j)
def revIV (x : IV) : Option IV := match x.asL, x.asT with
  | some xs, _ => some (.own xs.reverse)
  | none, some xs => some (.d (.tup xs.reverse))
  | none, none => none
abbrev rSl (K : Fg) : V → Option Int → Option Int → Hp → VK → Prop := fun x lo hi H Q => rSlL K x lo hi H Q ∨ (rSlA K x lo hi H Q ∨ rSlS x lo hi H Q)
theorem sl_any {X : Cx} : SlR X (rSl X.K) := sl_list.or (sl_tupA.or sl_str)
section
variable {K : Fg} {mg : MG} {x y z : V} {H : Hp} {Q : VK}
theorem ok_idxS (h : tPrim K mg (p2 idxSq) [x, y] H Q) : rIx K x y H Q := by
  obtain ⟨F, a, b, fp, res, v, w, e, st, o1, o2, f, c⟩ := prim2 h
  cases e
  obtain ⟨i, e1, f⟩ := Option.bind_eq_some_iff.mp f
  have ey := asI_ok o2 e1
  split at f
  case h_1 xs g =>
    obtain ⟨u, e2, f⟩ := Option.bind_eq_some_iff.mp f
    cases f
    obtain ⟨p, vs, ep, hr, r⟩ := asL_ok st.ex o1 g
    obtain ⟨v, e3, r3⟩ := atI_rps r e2
    exact .inl ⟨p, vs, i, v, ep, ey, hr, e3, Cont.data st c r3⟩
  case h_2 xs g g2 =>
    obtain ⟨u, e2, f⟩ := Option.bind_eq_some_iff.mp f
    cases f
    obtain ⟨p, vs, ep, hr, _, r, _⟩ := asT_ok st.ex o1 g2
    obtain ⟨v, e3, r3⟩ := atI_rps r e2
    exact .inr (.inl ⟨p, vs, i, v, ep, ey, hr, e3, Cont.data st c r3⟩)
  case h_3 s g g2 g3 =>
    split at f
    case isFalse => cases f
    case isTrue hl =>
      obtain ⟨u, e2, f⟩ := Option.bind_eq_some_iff.mp f
      cases f
      obtain ⟨ex, so⟩ := asS_ok o1 g3
      exact .inr (.inr ⟨s, i, u, ex, ey, lim_le hl, e2, Cont.data st c (.str _ (so.at e2))⟩)
  case h_4 => cases f
theorem ok_idx (h : tPrim K mg (p2 idxIV) [x, y] H Q) : rIx K x y H Q ∨ rIxDct x y H Q := by
  obtain ⟨F, a, b, fp, res, v, w, e, st, o1, o2, f, c⟩ := prim2 h
  cases e
  unfold idxIV at f
  split at f
  case h_1 kvs =>
    obtain ⟨k, e1, f⟩ := Option.bind_eq_some_iff.mp f
    obtain ⟨z, e2, f⟩ := Option.bind_eq_some_iff.mp f
    cases f
    obtain ⟨p, kvv, ep, hH, r, _⟩ := o1
    obtain ⟨u, e3, r3⟩ := r.val k e2
    have ey := key_ok o2 e1
    subst ey
    refine .inr ⟨p, u, ep, ?_, Cont.data st c r3⟩
    rw [← e3]
    exact DGet.k hH
  case h_2 => exact .inl (ok_idxS ⟨F, [a, b], fp, res, [a, b], st, Option.bind_eq_some_iff.mpr ⟨_, f, rfl⟩, c⟩)
theorem ok_sl {F : Hp} {vs : List V} {ivs : List IV} {fp : FP} {a : IV} {S : AS} {res : IV} {lo hi : Option Int} (st : ArgsOk K mg F H vs ivs fp) (o : OwnV K mg F H x a S) (f : slIV a lo hi = some res) (c : Cont K mg F H vs fp res ivs Q) : rSl K x lo hi H Q := by
  unfold slIV at f
  split at f
  case h_1 xs g =>
    cases f
    obtain ⟨p, ws, ep, hr, r⟩ := asL_ok st.ex o g
    exact .inl ⟨p, ws, ep, hr, Cont.lstN st c (cut_rps r lo hi)⟩
  case h_2 xs g g2 =>
    cases f
    obtain ⟨p, ws, ep, hr, _, r, w⟩ := asT_ok st.ex o g2
    refine .inr (.inl ⟨p, ws, ep, hr, fun ⟨z1, z2⟩ => ?_, fun _ => Cont.tupN st c (cut_rps r lo hi)⟩)
    have : cutL xs lo hi = xs := by
      unfold cutL
      rw [r.len] at z1 z2
      rw [z1, z2]
      simp
    rw [this] at c
    rw [← ep]
    exact Cont.data st c w
  case h_3 s g g2 g3 =>
    split at f
    case isFalse => cases f
    case isTrue hl =>
      cases f
      obtain ⟨ex, so⟩ := asS_ok o g3
      exact .inr (.inr ⟨s, ex, lim_le hl, Cont.data st c (.str _ (so.cut lo hi))⟩)
  case h_4 => cases f
theorem ok_slNN (h : tPrim K mg (p1 slNN) [x] H Q) : rSl K x none none H Q := by
  obtain ⟨F, a, fp, res, v, e, st, o1, f, c⟩ := prim1 h
  cases e
  exact ok_sl st o1 f c
theorem ok_slNH (h : tPrim K mg (p2 slNH) [x, y] H Q) : ∃ j, y = .int j ∧ rSl K x none (some j) H Q := by
  obtain ⟨F, a, b, fp, res, v, w, e, st, o1, o2, f, c⟩ := prim2 h
  cases e
  obtain ⟨j, e1, f⟩ := Option.bind_eq_some_iff.mp f
  exact ⟨j, asI_ok o2 e1, ok_sl st o1 f c⟩
theorem ok_slLN (h : tPrim K mg (p2 slLN) [x, y] H Q) : ∃ j, y = .int j ∧ rSl K x (some j) none H Q := by
  obtain ⟨F, a, b, fp, res, v, w, e, st, o1, o2, f, c⟩ := prim2 h
  cases e
  obtain ⟨j, e1, f⟩ := Option.bind_eq_some_iff.mp f
  exact ⟨j, asI_ok o2 e1, ok_sl st o1 f c⟩
theorem ok_slLH (h : tPrim K mg (p3 slLH) [x, y, z] H Q) : ∃ i j, y = .int i ∧ z = .int j ∧ rSl K x (some i) (some j) H Q := by
  obtain ⟨F, a, b, d, fp, res, v, w, u, e, st, o1, o2, o3, f, c⟩ := prim3 h
  cases e
  obtain ⟨i, e1, f⟩ := Option.bind_eq_some_iff.mp f
  obtain ⟨j, e2, f⟩ := Option.bind_eq_some_iff.mp f
  exact ⟨i, j, asI_ok o2 e1, asI_ok o3 e2, ok_sl st o1 f c⟩
end
def lenIV (x : IV) : Option IV := match x.asL, x.asT, x.asS with
  | some xs, _, _ => some (.d (.int xs.length))
  | none, some xs, _ => some (.d (.int xs.length))
  | none, none, some s => if s.length ≤ lim then some (.d (.int s.length)) else none
  | none, none, none => none
def tupIV (x : IV) : Option IV := match x.asL, x.asT with
  | some xs, _ => some (.d (.tup xs))
  | none, some xs => some (.d (.tup xs))
  | none, none => none
def lstIV (x : IV) : Option IV := match x.asL, x.asT with
  | some xs, _ => some (.own xs)
  | none, some xs => some (.own xs)
  | none, none => none
def intIV (x : IV) : Option IV := match x with
  | .d (.int i) => some (.d (.int i))
  | .d (.bl b) => some (.d (.int (if b then 1 else 0)))
  | .d (.str s) => if s.length ≤ 640 then (intText? s).bind fun n => some (.d (.int n)) else none
  | _ => none
def max2 (x y : IV) : Option IV := (x.asI).bind fun i => (y.asI).bind fun j => some (.d (.int (if j > i then j else i)))
def min2 (x y : IV) : Option IV := (x.asI).bind fun i => (y.asI).bind fun j => some (.d (.int (if j < i then j else i)))
def minOf : List Int → Option Int
  | [] => none
  | x :: xs => some (xs.foldl min x)
def maxOf : List Int → Option Int
  | [] => none
  | x :: xs => some (xs.foldl max x)
def min1 (x : IV) : Option IV := (x.asL).bind fun xs => (asInts xs).bind fun ns => (minOf ns).bind fun m => some (.d (.int m))
def max1 (x : IV) : Option IV := (x.asL).bind fun xs => (asInts xs).bind fun ns => (maxOf ns).bind fun m => some (.d (.int m))
def sumIV (x : IV) : Option IV := (x.asL).bind fun xs => (asInts xs).bind fun ns => some (.d (.int ns.sum))
def allIV (x : IV) : Option IV := (x.asL).bind fun xs => (asBls xs).bind fun ns => some (.d (.bl (ns.all id)))
def anyIV (x : IV) : Option IV := (x.asL).bind fun xs => (asBls xs).bind fun ns => some (.d (.bl (ns.any id)))
/-- insertion sort -/
def insI (x : Int) : List Int → List Int
  | [] => [x]
  | y :: ys => if x ≤ y then x :: y :: ys else y :: insI x ys
def sortI : List Int → List Int
  | [] => []
  | x :: xs => insI x (sortI xs)
theorem insI_perm (x : Int) : ∀ ys : List Int, (insI x ys).Perm (x :: ys)
  | [] => .refl _
  | y :: ys => by
    unfold insI
    split
    · exact .refl _
    · exact ((insI_perm x ys).cons y).trans (.swap ..)
theorem sortI_perm : ∀ xs : List Int, (sortI xs).Perm xs
  | [] => .refl _
  | x :: xs => (insI_perm x (sortI xs)).trans ((sortI_perm xs).cons x)
theorem insI_sorted (x : Int) : ∀ ys : List Int, ys.Pairwise (· ≤ ·) → (insI x ys).Pairwise (· ≤ ·)
  | [], _ => by simp [insI]
  | y :: ys, h => by
    obtain ⟨h1, h2⟩ := List.pairwise_cons.mp h
    unfold insI
    split
    case isTrue q =>
      refine List.pairwise_cons.mpr ⟨fun z hz => ?_, h⟩
      rcases List.mem_cons.mp hz with e | e
      · rw [e]; exact q
      · exact Int.le_trans q (h1 z e)
    case isFalse q =>
      refine List.pairwise_cons.mpr ⟨fun z hz => ?_, insI_sorted x ys h2⟩
      rcases List.mem_cons.mp ((insI_perm x ys).mem_iff.mp hz) with e | e
      · rw [e]; omega
      · exact h1 z e
theorem sortI_sorted : ∀ xs : List Int, (sortI xs).Pairwise (· ≤ ·)
  | [] => .nil
  | x :: xs => insI_sorted x _ (sortI_sorted xs)
theorem sorted_same {xs ys : List Int} (p : xs.Perm ys) (hx : xs.Pairwise (· ≤ ·)) (hy : ys.Pairwise (· ≤ ·)) : xs = ys :=
  p.eq_of_pairwise (fun a b _ _ h1 h2 => Int.le_antisymm h1 h2) hx hy
def sortZ (xs : List D) : Option IV := (asStrs xs).bind fun ss => if ss.length < 64 then some (.own ((sortSt ss).map D.str)) else none
def sortIV (x : IV) : Option IV := match x.asL with
  | some xs => (match asInts xs with
    | some ns => some (.own ((sortI ns).map D.int))
    | none => sortZ xs)
  | none => (x.asT).bind sortZ
/-- sorted, from the greatest -/
def sortRIV (x : IV) : Option IV := (x.asL).bind fun xs => (asInts xs).bind fun ns => some (.own ((sortI ns).reverse.map D.int))
/-- a number's figures -/
def strIV (x : IV) : Option IV := match x with
  | .d (.int i) => if i.natAbs < 2 ^ 1000 then some (.d (.str (Str.ofString (toString i)))) else none
  | .d (.str s) => some (.d (.str s))
  | _ => none
/-- isinstance -/
def tyNm : IV → Option String
  | .own _ => some "list"
  | .d .non => some "NoneType"
  | .d (.bl _) => some "bool"
  | .d (.int _) => some "int"
  | .d (.str _) => some "str"
  | .d (.lst _) => some "list"
  | .d (.tup _) => some "tuple"
  | _ => none
def tyTab : List ((String × String) × Bool) := ["NoneType", "bool", "int", "str", "list", "tuple"].flatMap fun a => ["tuple", "bool", "str", "int", "list"].map fun b => ((a, b), a == b || (a == "bool" && b == "int"))
theorem tyTab_ok : ∀ p ∈ tyTab, kitB p.1.1 p.1.2 = some p.2 := by decide +kernel
def isiIV (x y : IV) : Option IV := match y with
  | .d (.ty n) => (tyNm x).bind fun a => (tyTab.lookup (a, n)).bind fun b => some (.d (.bl b))
  | _ => none
theorem lookup_mem {α β : Type} [BEq α] [LawfulBEq α] {a : α} {b : β} : ∀ {l : List (α × β)}, l.lookup a = some b → (a, b) ∈ l
  | (c, d) :: l, h => by
    rw [List.lookup_cons] at h
    split at h
    case h_1 e =>
      cases h
      rw [eq_of_beq e]
      exact List.mem_cons_self ..
    case h_2 => exact List.mem_cons_of_mem _ (lookup_mem h)
section
variable {K : Fg} {mg : MG} {vs : List V} {H : Hp} {Q : VK}
abbrev rLenA (K : Fg) : List V → Hp → VK → Prop := fun xs H Q => (∃ p ys, xs = [.ref p] ∧ (SqL K H p ys ∨ SqT K H p ys) ∧ Q (.int ys.length) H) ∨ (∃ z, xs = [.str z] ∧ z.length ≤ sizeLine ∧ Q (.int z.length) H)
theorem call_lenA {X : Cx} : CallR X (.builtin "len") (rLenA X.K) := call_len_seq.or call_len_str
theorem ok_len (h : tPrim K mg (p1 lenIV) vs H Q) : rLenA K vs H Q := by
  obtain ⟨F, a, fp, res, v, e, st, o1, f, c⟩ := prim1 h
  subst e
  unfold lenIV at f
  split at f
  case h_1 xs g =>
    cases f
    obtain ⟨p, ws, ep, hr, r⟩ := asL_ok st.ex o1 g
    exact .inl ⟨p, ws, by rw [ep], .inl hr, by rw [r.len]; exact Cont.data st c (.int _)⟩
  case h_2 xs g g2 =>
    cases f
    obtain ⟨p, ws, ep, hr, _, r, _⟩ := asT_ok st.ex o1 g2
    exact .inl ⟨p, ws, by rw [ep], .inr hr, by rw [r.len]; exact Cont.data st c (.int _)⟩
  case h_3 s g g2 g3 =>
    split at f
    case isFalse => cases f
    case isTrue hl =>
      cases f
      obtain ⟨ex, so⟩ := asS_ok o1 g3
      exact .inr ⟨s, by rw [ex], lim_le hl, Cont.data st c (.int _)⟩
  case h_4 => cases f
theorem ok_tup (h : tPrim K mg (p1 tupIV) vs H Q) : ∃ p ys, vs = [.ref p] ∧ ((SqL K H p ys ∧ ∀ l, H l = none → Q (.ref l) (upd H l (.tup ys))) ∨ (SqT K H p ys ∧ Q (.ref p) H)) := by
  obtain ⟨F, a, fp, res, v, e, st, o1, f, c⟩ := prim1 h
  subst e
  unfold tupIV at f
  split at f
  case h_1 xs g =>
    cases f
    obtain ⟨p, ws, ep, hr, r⟩ := asL_ok st.ex o1 g
    exact ⟨p, ws, by rw [ep], .inl ⟨hr, Cont.tupN st c r⟩⟩
  case h_2 xs g g2 =>
    cases f
    obtain ⟨p, ws, ep, hr, _, r, w⟩ := asT_ok st.ex o1 g2
    exact ⟨p, ws, by rw [ep], .inr ⟨hr, by rw [← ep]; exact Cont.data st c w⟩⟩
  case h_3 => cases f
theorem ok_lst (h : tPrim K mg (p1 lstIV) vs H Q) : ∃ p ys, vs = [.ref p] ∧ (SqL K H p ys ∨ SqT K H p ys) ∧ ∀ l, H l = none → Q (.ref l) (upd H l (.lst ys)) := by
  obtain ⟨F, a, fp, res, v, e, st, o1, f, c⟩ := prim1 h
  subst e
  unfold lstIV at f
  split at f
  case h_1 xs g =>
    cases f
    obtain ⟨p, ws, ep, hr, r⟩ := asL_ok st.ex o1 g
    exact ⟨p, ws, by rw [ep], .inl hr, Cont.lstN st c r⟩
  case h_2 xs g g2 =>
    cases f
    obtain ⟨p, ws, ep, hr, _, r, w⟩ := asT_ok st.ex o1 g2
    exact ⟨p, ws, by rw [ep], .inr hr, Cont.lstN st c r⟩
  case h_3 => cases f
abbrev rIntA : List V → Hp → VK → Prop := fun xs H Q => ((∃ i, xs = [.int i] ∧ Q (.int i) H) ∨ ∃ k, xs = [.bl k] ∧ Q (.int (if k then 1 else 0)) H) ∨ (∃ a n, xs = [.str a] ∧ PySem.intText? a = some n ∧ a.length ≤ 640 ∧ Q (.int n) H)
theorem call_intA {X : Cx} : CallR X (.type "int") rIntA := call_int1.or call_int_str
theorem ok_int (h : tPrim K mg (p1 intIV) vs H Q) : rIntA vs H Q := by
  obtain ⟨F, a, fp, res, v, e, st, o1, f, c⟩ := prim1 h
  subst e
  unfold intIV at f
  split at f
  case h_1 i => cases f; exact .inl (.inl ⟨i, by rw [asI_ok o1 rfl], Cont.data st c (.int _)⟩)
  case h_2 k =>
    cases f
    have ev : v = .bl k := by cases o1.1; rfl
    exact .inl (.inr ⟨k, by rw [ev], Cont.data st c (.int _)⟩)
  case h_3 s =>
    split at f
    case isFalse => cases f
    case isTrue hl =>
      obtain ⟨n, e2, f⟩ := Option.bind_eq_some_iff.mp f
      cases f
      obtain ⟨ex, so⟩ := asS_ok o1 rfl
      exact .inr ⟨s, n, by rw [ex], e2, hl, Cont.data st c (.int _)⟩
  case h_4 => cases f
theorem ok_max2 (h : tPrim K mg (p2 max2) vs H Q) : ∃ i j, vs = [.int i, .int j] ∧ Q (.int (if j > i then j else i)) H := by
  obtain ⟨F, a, b, fp, res, v, w, e, st, o1, o2, f, c⟩ := prim2 h
  subst e
  obtain ⟨i, e1, f⟩ := Option.bind_eq_some_iff.mp f
  obtain ⟨j, e2, f⟩ := Option.bind_eq_some_iff.mp f
  cases f
  exact ⟨i, j, by rw [asI_ok o1 e1, asI_ok o2 e2], Cont.data st c (.int _)⟩
theorem ok_min2 (h : tPrim K mg (p2 min2) vs H Q) : ∃ i j, vs = [.int i, .int j] ∧ Q (.int (if j < i then j else i)) H := by
  obtain ⟨F, a, b, fp, res, v, w, e, st, o1, o2, f, c⟩ := prim2 h
  subst e
  obtain ⟨i, e1, f⟩ := Option.bind_eq_some_iff.mp f
  obtain ⟨j, e2, f⟩ := Option.bind_eq_some_iff.mp f
  cases f
  exact ⟨i, j, by rw [asI_ok o1 e1, asI_ok o2 e2], Cont.data st c (.int _)⟩
theorem foldl_min_le : ∀ (xs : List Int) (x : Int), xs.foldl min x ≤ x ∧ (∀ y ∈ xs, xs.foldl min x ≤ y) ∧ (xs.foldl min x = x ∨ xs.foldl min x ∈ xs)
  | [], x => ⟨Int.le_refl _, (fun _ h => nomatch h), .inl rfl⟩
  | y :: ys, x => by
    obtain ⟨h1, h2, h3⟩ := foldl_min_le ys (min x y)
    rw [List.foldl_cons]
    refine ⟨by omega, fun z hz => ?_, ?_⟩
    · rcases List.mem_cons.mp hz with e | e
      · omega
      · exact h2 z e
    · rcases h3 with e | e
      · rw [e]
        by_cases q : x ≤ y
        · left; omega
        · right; rw [show min x y = y by omega]; exact List.mem_cons_self ..
      · exact .inr (List.mem_cons_of_mem _ e)
theorem foldl_max_le : ∀ (xs : List Int) (x : Int), x ≤ xs.foldl max x ∧ (∀ y ∈ xs, y ≤ xs.foldl max x) ∧ (xs.foldl max x = x ∨ xs.foldl max x ∈ xs)
  | [], x => ⟨Int.le_refl _, (fun _ h => nomatch h), .inl rfl⟩
  | y :: ys, x => by
    obtain ⟨h1, h2, h3⟩ := foldl_max_le ys (max x y)
    rw [List.foldl_cons]
    refine ⟨by omega, fun z hz => ?_, ?_⟩
    · rcases List.mem_cons.mp hz with e | e
      · omega
      · exact h2 z e
    · rcases h3 with e | e
      · rw [e]
        by_cases q : y ≤ x
        · left; omega
        · right; rw [show max x y = y by omega]; exact List.mem_cons_self ..
      · exact .inr (List.mem_cons_of_mem _ e)
theorem minOf_ok {ns : List Int} {m : Int} (h : minOf ns = some m) : m ∈ ns ∧ ∀ y ∈ ns, m ≤ y := by
  cases ns with
  | nil => cases h
  | cons x xs =>
    cases h
    obtain ⟨h1, h2, h3⟩ := foldl_min_le xs x
    refine ⟨?_, fun y hy => ?_⟩
    · rcases h3 with e | e
      · rw [e]; exact List.mem_cons_self ..
      · exact List.mem_cons_of_mem _ e
    · rcases List.mem_cons.mp hy with e | e
      · rw [e]; exact h1
      · exact h2 y e
theorem maxOf_ok {ns : List Int} {m : Int} (h : maxOf ns = some m) : m ∈ ns ∧ ∀ y ∈ ns, y ≤ m := by
  cases ns with
  | nil => cases h
  | cons x xs =>
    cases h
    obtain ⟨h1, h2, h3⟩ := foldl_max_le xs x
    refine ⟨?_, fun y hy => ?_⟩
    · rcases h3 with e | e
      · rw [e]; exact List.mem_cons_self ..
      · exact List.mem_cons_of_mem _ e
    · rcases List.mem_cons.mp hy with e | e
      · rw [e]; exact h1
      · exact h2 y e
theorem ints_arg {F : Hp} {v : V} {iv : IV} {S : AS} {xs : List D} {ns : List Int} (ex : Same F H) (o : OwnV K mg F H v iv S) (e1 : iv.asL = some xs) (e2 : asInts xs = some ns) : ∃ a, v = .ref a ∧ SqL K H a (ns.map V.int) := by
  obtain ⟨p, ws, ep, hr, r⟩ := asL_ok ex o e1
  rw [asInts_ok e2] at r
  rw [r.ints] at hr
  exact ⟨p, ep, hr⟩
theorem ok_min1 (h : tPrim K mg (p1 min1) vs H Q) : rMin K vs H Q := by
  obtain ⟨F, a, fp, res, v, e, st, o1, f, c⟩ := prim1 h
  subst e
  obtain ⟨xs, e1, f⟩ := Option.bind_eq_some_iff.mp f
  obtain ⟨ns, e2, f⟩ := Option.bind_eq_some_iff.mp f
  obtain ⟨m, e3, f⟩ := Option.bind_eq_some_iff.mp f
  cases f
  obtain ⟨p, ep, hr⟩ := ints_arg st.ex o1 e1 e2
  obtain ⟨m1, m2⟩ := minOf_ok e3
  refine ⟨p, ns, by rw [ep], hr, List.length_pos_of_mem m1, fun k hk hle => ?_⟩
  rw [Int.le_antisymm (hle m m1) (m2 k hk)]
  exact Cont.data st c (.int _)
theorem ok_max1 (h : tPrim K mg (p1 max1) vs H Q) : rMax K vs H Q := by
  obtain ⟨F, a, fp, res, v, e, st, o1, f, c⟩ := prim1 h
  subst e
  obtain ⟨xs, e1, f⟩ := Option.bind_eq_some_iff.mp f
  obtain ⟨ns, e2, f⟩ := Option.bind_eq_some_iff.mp f
  obtain ⟨m, e3, f⟩ := Option.bind_eq_some_iff.mp f
  cases f
  obtain ⟨p, ep, hr⟩ := ints_arg st.ex o1 e1 e2
  obtain ⟨m1, m2⟩ := maxOf_ok e3
  refine ⟨p, ns, by rw [ep], hr, List.length_pos_of_mem m1, fun k hk hle => ?_⟩
  rw [Int.le_antisymm (m2 k hk) (hle m m1)]
  exact Cont.data st c (.int _)
theorem ok_sum (h : tPrim K mg (p1 sumIV) vs H Q) : rSum K vs H Q := by
  obtain ⟨F, a, fp, res, v, e, st, o1, f, c⟩ := prim1 h
  subst e
  obtain ⟨xs, e1, f⟩ := Option.bind_eq_some_iff.mp f
  obtain ⟨ns, e2, f⟩ := Option.bind_eq_some_iff.mp f
  cases f
  obtain ⟨p, ep, hr⟩ := ints_arg st.ex o1 e1 e2
  exact ⟨p, ns, by rw [ep], hr, Cont.data st c (.int _)⟩
theorem ok_all (h : tPrim K mg (p1 allIV) vs H Q) : rAll K vs H Q := by
  obtain ⟨F, a, fp, res, v, e, st, o1, f, c⟩ := prim1 h
  subst e
  obtain ⟨xs, e1, f⟩ := Option.bind_eq_some_iff.mp f
  obtain ⟨ns, e2, f⟩ := Option.bind_eq_some_iff.mp f
  cases f
  obtain ⟨p, ws, ep, hr, r⟩ := asL_ok st.ex o1 e1
  rw [asBls_ok e2] at r
  rw [r.bls] at hr
  exact ⟨p, ns, by rw [ep], hr, Cont.data st c (.bl _)⟩
theorem ok_any (h : tPrim K mg (p1 anyIV) vs H Q) : rAny K vs H Q := by
  obtain ⟨F, a, fp, res, v, e, st, o1, f, c⟩ := prim1 h
  subst e
  obtain ⟨xs, e1, f⟩ := Option.bind_eq_some_iff.mp f
  obtain ⟨ns, e2, f⟩ := Option.bind_eq_some_iff.mp f
  cases f
  obtain ⟨p, ws, ep, hr, r⟩ := asL_ok st.ex o1 e1
  rw [asBls_ok e2] at r
  rw [r.bls] at hr
  exact ⟨p, ns, by rw [ep], hr, Cont.data st c (.bl _)⟩
theorem Rps.backStrs {F : Hp} {ss : List Str} {vs : List V} (r : Rps K mg F vs (ss.map D.str)) : vs = ss.map V.str ∧ ∀ s ∈ ss, SOk s := by
  induction ss generalizing vs with
  | nil => cases r; exact ⟨rfl, fun s h => nomatch h⟩
  | cons s ss ih =>
    cases r with
    | cons r1 r2 =>
      cases r1 with
      | str _ h1 =>
        obtain ⟨e, h2⟩ := ih r2
        refine ⟨by rw [e]; rfl, fun z hz => ?_⟩
        rcases List.mem_cons.mp hz with q | q
        · rw [q]; exact h1
        · exact h2 z q
theorem Rps.mkStrs {F : Hp} : ∀ {ss : List Str}, (∀ s ∈ ss, SOk s) → Rps K mg F (ss.map V.str) (ss.map D.str)
  | [], _ => .nil
  | s :: ss, h => .cons (.str s (h s (List.mem_cons_self ..))) (Rps.mkStrs fun z hz => h z (List.mem_cons_of_mem _ hz))
theorem ok_sort (h : tPrim K mg (p1 sortIV) vs H Q) : rSortedI K vs H Q ∨ (rSortedS K vs H Q ∨ rSortedTS K vs H Q) := by
  obtain ⟨F, a, fp, res, v, e, st, o1, f, c⟩ := prim1 h
  subst e
  unfold sortIV at f
  split at f
  case h_1 xs e1 =>
    split at f
    case h_1 ns e2 =>
      cases f
      left
      obtain ⟨p, ep, hr⟩ := ints_arg st.ex o1 e1 e2
      refine ⟨p, ns, by rw [ep], hr, fun ns' q hp hs hq => ?_⟩
      rw [sorted_same (hp.trans (sortI_perm ns).symm) hs (sortI_sorted ns)]
      exact Cont.lstN st c (Rps.ofInts _) q hq
    case h_2 =>
      right; left
      obtain ⟨ss, e3, f⟩ := Option.bind_eq_some_iff.mp f
      split at f
      case isFalse => cases f
      case isTrue h64 =>
        cases f
        obtain ⟨p, ws, ep, hr, r⟩ := asL_ok st.ex o1 e1
        rw [asStrs_ok e3] at r
        obtain ⟨ew, ok⟩ := r.backStrs
        rw [ew] at hr
        refine ⟨p, ss, by rw [ep], hr, h64, fun ys q hp hs hq => ?_⟩
        rw [sortedS_eq hp hs]
        exact Cont.lstN st c (Rps.mkStrs fun z hz => ok z ((sortSt_perm ss).mem_iff.mp hz)) q hq
  case h_2 =>
    right; right
    obtain ⟨xs, e1, f⟩ := Option.bind_eq_some_iff.mp f
    obtain ⟨ss, e3, f⟩ := Option.bind_eq_some_iff.mp f
    split at f
    case isFalse => cases f
    case isTrue h64 =>
      cases f
      obtain ⟨a1, ws, ep, ht, _, r, _⟩ := asT_ok st.ex o1 e1
      rw [asStrs_ok e3] at r
      obtain ⟨ew, ok⟩ := r.backStrs
      rw [ew] at ht
      refine ⟨a1, ss, by rw [ep], ht, h64, fun ys q hp hs hq => ?_⟩
      rw [sortedS_eq hp hs]
      exact Cont.lstN st c (Rps.mkStrs fun z hz => ok z ((sortSt_perm ss).mem_iff.mp hz)) q hq
theorem ok_sortR (h : tPrim K mg (p1 sortRIV) vs H Q) : rSortedKw K true [.bl true] vs [.bl true] H Q := by
  obtain ⟨F, a, fp, res, v, e, st, o1, f, c⟩ := prim1 h
  subst e
  obtain ⟨xs, e1, f⟩ := Option.bind_eq_some_iff.mp f
  obtain ⟨ns, e2, f⟩ := Option.bind_eq_some_iff.mp f
  cases f
  obtain ⟨p, ep, hr⟩ := ints_arg st.ex o1 e1 e2
  refine ⟨p, ns, by rw [ep], rfl, hr, fun ns' q hp hs hq => ?_⟩
  have hs : ns'.Pairwise (· ≥ ·) := hs
  have e : ns'.reverse = sortI ns := sorted_same ((List.reverse_perm ns').trans (hp.trans (sortI_perm ns).symm)) (by rw [List.pairwise_reverse]; exact hs.imp fun h => h) (sortI_sorted ns)
  rw [show ns' = (sortI ns).reverse by rw [← e, List.reverse_reverse]]
  exact Cont.lstN st c (Rps.ofInts _) q hq
theorem str_ok (i : Int) : SOk (Str.ofString (toString i)) := fun c hc => by
  by_cases h : c < 1114112
  · exact h
  · exact absurd hc (PyProof.Rows.int_text_free' c ⟨by omega, .inr (by omega)⟩ i)
abbrev rStrA : List V → Hp → VK → Prop := fun xs H Q => (∃ i, xs = [.int i] ∧ i.natAbs.log2 < 1920 ∧ Q (.str (toString i)) H) ∨ ∃ a, xs = [.str a] ∧ Q (.str a) H
theorem ok_str (h : tPrim K mg (p1 strIV) vs H Q) : rStrA vs H Q := by
  obtain ⟨F, a, fp, res, v, e, st, o1, f, c⟩ := prim1 h
  subst e
  unfold strIV at f
  split at f
  case h_1 i =>
    split at f
    case isFalse => cases f
    case isTrue hl =>
      cases f
      refine .inl ⟨i, by rw [asI_ok o1 rfl], ?_, Cont.data st c (.str _ (str_ok _))⟩
      have : i.natAbs.log2 < 1000 ∨ i.natAbs = 0 := by
        by_cases h0 : i.natAbs = 0
        · exact .inr h0
        · exact .inl ((Nat.log2_lt h0).mpr hl)
      rcases this with h | h
      · omega
      · rw [h]; decide
  case h_2 s =>
    cases f
    obtain ⟨ev, r⟩ := asS_ok o1 rfl
    exact .inr ⟨s, by rw [ev], Cont.data st c (.str _ r)⟩
  case h_3 => cases f
theorem own_ty {F : Hp} {v : V} {iv : IV} {S : AS} {n : String} (ex : Same F H) (o : OwnV K mg F H v iv S) (e : tyNm iv = some n) : TyX K H v (.type n) := by
  cases iv with
  | own xs =>
    cases e
    obtain ⟨a, _, rfl, e2, _⟩ := o
    exact .base (.lst e2)
  | d z =>
    have r := Rp.mono ex _ _ o.1
    cases r with
    | non => cases e; exact .base .non
    | bl b => cases e; exact .base (.bl b)
    | int i => cases e; exact .base (.int i)
    | str s _ => cases e; exact .base (.str s)
    | lst h1 h2 =>
      cases e
      rcases h1 with (h1 | ⟨ob, h1⟩) | ⟨ob, its, m, h1, h3, _⟩
      · exact .base (.lst h1)
      · exact .base (.frz h1)
      · exact .kList h1 h3
    | tup h1 h2 =>
      cases e
      rcases h1 with (h1 | ⟨ob, h1⟩) | ⟨ob, its, m, h1, h3, _⟩
      · exact .base (.tup h1)
      · exact .fTuple h1
      · exact .kTuple h1 h3
    | ins _ _ => cases e
    | fn _ => cases e
    | cls _ => cases e
    | ty _ => cases e
    | lam _ _ => cases e
    | exc _ _ _ _ => cases e
  | dct _ => cases e
  | obj _ _ => cases e
theorem ok_isi (h : tPrim K mg (p2 isiIV) vs H Q) : rIsi K vs H Q := by
  obtain ⟨F, a, b, fp, res, v, w, e, st, o1, o2, f, c⟩ := prim2 h
  subst e
  unfold isiIV at f
  split at f
  case h_2 => cases f
  case h_1 n =>
    obtain ⟨t, e1, f⟩ := Option.bind_eq_some_iff.mp f
    obtain ⟨r, e2, f⟩ := Option.bind_eq_some_iff.mp f
    cases f
    have ew : w = .ty n := by cases o2.1; rfl
    subst ew
    exact ⟨v, .ty n, .type t, .type n, r, rfl, .ty n, own_ty st.ex o1 e1, kit_ty (tyTab_ok _ (lookup_mem e2)), Cont.data st c (.bl _)⟩
end
end SD
namespace SD
open PySem L2
def appP (xs : List D) (y : IV) : Option (IV × List D) := (y.asD).bind fun z => if xs.length < lim then some (.d .non, xs ++ [z]) else none
def extP (xs : List D) (y : IV) : Option (IV × List D) := match y with
  | .own ys => if xs.length + ys.length ≤ lim then some (.d .non, xs ++ ys) else none
  | .d (.tup ys) => if xs.length + ys.length ≤ lim then some (.d .non, xs ++ ys) else none
  | _ => none
def insP (xs : List D) (i y : IV) : Option (IV × List D) := (i.asI).bind fun k => (y.asD).bind fun z => if xs.length < lim ∧ 0 ≤ k ∧ k < 1000000 then some (.d .non, xs.take k.toNat ++ [z] ++ xs.drop k.toNat) else none
def popP (xs : List D) : Option (IV × List D) := (xs[xs.length - 1]?).bind fun z => some (.d z, xs.dropLast)
def popAtP (xs : List D) (i : IV) : Option (IV × List D) := (i.asI).bind fun k => if 0 ≤ k ∧ k < 1000000 then (xs[k.toNat]?).bind fun z => some (.d z, xs.eraseIdx k.toNat) else none
/-- the first one that is so, taken out -/
def remP (xs : List D) (y : IV) : Option (IV × List D) := (y.asI).bind fun k => (asInts xs).bind fun ns => (ns.findIdx? (· == k)).bind fun j => some (.d .non, (ns.eraseIdx j).map D.int)
def revP (xs : List D) : Option (IV × List D) := some (.d .non, xs.reverse)
def clrP (_ : List D) : Option (IV × List D) := some (.d .non, [])
/-- x[i] = v: the value first -/
def setP : Prim := fun ivs => match ivs with
  | [.d z, .own xs, .d (.int k)] => (ixN xs.length k).bind fun j => some (.d .non, [.d z, .own (xs.set j z), .d (.int k)])
  | [.d z, .dct kvs, y] => (keyIV y).bind fun k => if kvs.length < lim then some (.d .non, [.d z, .dct (putD kvs k z), y]) else none
  | _ => none
theorem ext_tup (l : Addr) (items : Array Value) (n : Nat) (b : Addr) (items2 : Array Value) (n2 : Nat) (dd : Option Addr) (sl : Array (Option Value)) (k0 : ¬(!items.isEmpty && Builtin.List.listTooLong (items.size + items2.size)) = true) (k1 : items.size ≤ sizeLine) (k2 : items.size + items2.size ≤ sizeLine + 1) :
    Meets (Builtin.«list.extend» ⟨[.ref l, .ref b], []⟩) (fun _ R s => s.heap.get? l = some { cls := .type "list", dict := none, data := .seq items n, slots := #[] } ∧ s.heap.get? b = some { cls := .type "tuple", dict := dd, data := .seq items2 n2, slots := sl } ∧
      R (.ok (.ret Value.none)) { s with heap := s.heap.update l (Obj.mapSeq fun x => x ++ items2), toks := s.toks }) :=
  .of_wp fun prog w A R s h => by
    obtain ⟨hp, g, d, tk, os⟩ := s
    obtain ⟨hl, hb, h⟩ := h
    have f1 := AutoSeq1.idx_int
    have f2 := AutoSeq1.sub_tuple_tuple
    have f3 := AutoSeq1.sub_list_list
    have f4 := AutoSeq1.sub_tuple_list
    have f5 := AutoSeq1.sub_list_tuple
    have hz' : (items ++ items2).size ≤ sizeLine + 1 := by rw [Array.size_append]; exact k2
    wp_walk using (wpAny_updateSeq hl rfl (hz := k1) (_hz' := hz')), wpAny_loadPart' hl, wpAny_loadPart' hb
    exact ⟨_, rfl, h⟩
abbrev rExtT (K : Fg) : V → List V → Hp → VK → Prop := fun x vs H Q => ∃ l b xs zs, x = .ref l ∧ vs = [.ref b] ∧ H l = some (.lst xs) ∧ SqT K H b zs ∧ xs.length + zs.length ≤ sizeLine ∧ Q .non (upd H l (.lst (xs ++ zs)))
theorem mt_extT {X : Cx} : MtR X "list.extend" (rExtT X.K) := by
  intro pins s σ H x vs v us Q I rx rv ⟨l, b, xs, zs, e1, e2, hH, hB, hz, q⟩
  subst e1 e2
  cases rx
  obtain ⟨u, rfl, ru⟩ := rv.one
  cases ru
  obtain ⟨z, its, n, r, hl, e⟩ := I.lstM hH
  obtain ⟨its2, r2, ⟨⟨cls, dd, data, sl⟩, ho, hc, n2, hd⟩, hs2⟩ := I.tuple hB
  simp only at hc hd
  subst hc hd
  have l2 := r2.length
  have hsz : its.toArray.size + its2.toArray.size ≤ sizeLine := by simp only [List.size_toArray]; omega
  have hlong : ¬ (!its.toArray.isEmpty && Builtin.List.listTooLong (its.toArray.size + its2.toArray.size)) = true := by
    rw [notLongL hsz, Bool.and_false]; exact Bool.false_ne_true
  refine call_meets F.slot_list_extend ⟨_, e, rfl⟩ F.entry_list_extend (F.args_list_extend_2 _ _)
    (ext_tup l its.toArray n b its2.toArray n2 dd sl hlong (by simp only [List.size_toArray]; omega) (by omega)) ⟨e, ho, ?_⟩
  exact ⟨.non, _, I.lset (its' := its ++ its2) hH e (by simp) (r.append r2) (by simp only [List.length_append]; omega), rfl, q⟩
section
variable {K : Fg} {mg : MG} {x : V} {vs : List V} {H : Hp} {Q : VK}
theorem ok_app (h : tPrim K mg (m2 appP) (x :: vs) H Q) : rAppend x vs H Q := by
  obtain ⟨F, xs, y, fp, r, a, ws, w, e, hH, rs, o, st, f, c⟩ := mut2 h
  cases e
  obtain ⟨z, e1, f⟩ := Option.bind_eq_some_iff.mp f
  split at f
  case isFalse => cases f
  case isTrue hl =>
    cases f
    have rz := asD_ok o e1
    refine ⟨a, ws, w, rfl, rfl, hH, ?_, Cont.mutD st c (rs.app (.one rz)) .non⟩
    rw [rs.len]
    exact Nat.lt_of_lt_of_le hl (by decide)
theorem ok_ext (h : tPrim K mg (m2 extP) (x :: vs) H Q) : rExtend x vs H Q ∨ rExtT K x vs H Q := by
  obtain ⟨F, xs, y, fp, r, a, ws, w, e, hH, rs, o, st, f, c⟩ := mut2 h
  cases e
  unfold extP at f
  split at f
  case h_1 ys =>
    split at f
    case isFalse => cases f
    case isTrue hl =>
      cases f
      obtain ⟨b, zs, rfl, h1, h2, _⟩ := o
      exact .inl ⟨a, b, ws, zs, rfl, rfl, hH, h1, lim_le (by rw [rs.len, h2.len]; exact hl), Cont.mutD st c (rs.app h2) .non⟩
  case h_2 ys =>
    split at f
    case isFalse => cases f
    case isTrue hl =>
      cases f
      obtain ⟨b, zs, rfl, h1, _, h2, _⟩ := asT_ok st.ex o rfl
      exact .inr ⟨a, b, ws, zs, rfl, rfl, hH, h1, lim_le (by rw [rs.len, h2.len]; exact hl), Cont.mutD st c (rs.app h2) .non⟩
  case h_3 => cases f
theorem ok_ins (h : tPrim K mg (m3 insP) (x :: vs) H Q) : ∃ (l : Addr) (xs : List V) (i : Int) (y : V), x = .ref l ∧ vs = [.int i, y] ∧ H l = some (.lst xs) ∧ xs.length < sizeLine ∧ 0 ≤ i ∧ i < 2 ^ 63 ∧ Q .non (upd H l (.lst (xs.take i.toNat ++ [y] ++ xs.drop i.toNat))) := by
  obtain ⟨F, xs, y, z, fp, r, a, ws, w, u, e, hH, rs, o, o', st, f, c⟩ := mut3 h
  cases e
  obtain ⟨k, e1, f⟩ := Option.bind_eq_some_iff.mp f
  obtain ⟨z', e2, f⟩ := Option.bind_eq_some_iff.mp f
  split at f
  case isFalse => cases f
  case isTrue hl =>
    cases f
    obtain ⟨h1, h2, h3⟩ := hl
    refine ⟨a, ws, k, u, rfl, by rw [asI_ok o e1], hH, ?_, h2, by omega, Cont.mutD st c (((rs.take _).app (.one (asD_ok o' e2))).app (rs.drop _)) .non⟩
    rw [rs.len]
    exact Nat.lt_of_lt_of_le h1 (by decide)
theorem ok_pop (h : tPrim K mg (m1 popP) (x :: vs) H Q) : rPop x vs H Q := by
  obtain ⟨F, xs, fp, r, a, ws, e, hH, rs, st, f, c⟩ := mut1 h
  cases e
  obtain ⟨z, e1, f⟩ := Option.bind_eq_some_iff.mp f
  cases f
  obtain ⟨v, e2, r2⟩ := rs.get _ e1
  refine ⟨a, ws, v, rfl, rfl, hH, by rw [rs.len]; exact e2, Cont.mutD st c ?_ r2⟩
  rw [List.dropLast_eq_take, List.dropLast_eq_take, rs.len]
  exact rs.take _
theorem find_first {ns : List Int} {k : Int} {j : Nat} (h : ns.findIdx? (· == k) = some j) : ns[j]? = some k ∧ ∀ m : Nat, m < j → ns[m]? ≠ some k := by
  obtain ⟨h1, h2, h3⟩ := List.findIdx?_eq_some_iff_getElem.mp h
  refine ⟨by rw [List.getElem?_eq_getElem h1, eq_of_beq h2], fun m hm e => ?_⟩
  have := h3 m hm
  rw [List.getElem?_eq_getElem (by omega)] at e
  rw [Option.some.inj e] at this
  simp at this
theorem ok_rem (h : tPrim K mg (m2 remP) (x :: vs) H Q) : rRemI x vs H Q := by
  obtain ⟨F, xs, y, fp, r, a, ws, w, e, hH, rs, o, st, f, c⟩ := mut2 h
  cases e
  obtain ⟨k, e1, f⟩ := Option.bind_eq_some_iff.mp f
  obtain ⟨ns, e2, f⟩ := Option.bind_eq_some_iff.mp f
  obtain ⟨j, e3, f⟩ := Option.bind_eq_some_iff.mp f
  cases f
  have ew : w = .int k := asI_ok o e1
  subst ew
  obtain ⟨f1, f2⟩ := find_first e3
  have hw : ws = ns.map V.int := by
    rw [asInts_ok e2] at rs
    exact rs.ints
  rw [hw] at hH
  refine ⟨a, ns, k, j, rfl, rfl, hH, f1, f2, ?_⟩
  exact Cont.mutD st c (Rps.ofInts _) .non
theorem ok_popAt (h : tPrim K mg (m2 popAtP) (x :: vs) H Q) : rPopAt x vs H Q := by
  obtain ⟨F, xs, y, fp, r, a, ws, w, e, hH, rs, o, st, f, c⟩ := mut2 h
  cases e
  obtain ⟨k, e1, f⟩ := Option.bind_eq_some_iff.mp f
  split at f
  case isFalse => cases f
  case isTrue hk =>
    obtain ⟨z, e2, f⟩ := Option.bind_eq_some_iff.mp f
    cases f
    obtain ⟨v, e3, r3⟩ := rs.get _ e2
    have hlt : k.toNat < ws.length := (List.getElem?_eq_some_iff.mp e3).1
    refine ⟨a, ws, k, k.toNat, v, rfl, by rw [asI_ok o e1], hH, by omega, by omega, ?_, e3, Cont.mutD st c (rs.erase _) r3⟩
    have q : ixN ws.length k = some k.toNat := by
      unfold ixN
      rw [if_pos hk.1, if_pos (by omega)]
    exact (ixN_seq q).1
theorem ok_rev (h : tPrim K mg (m1 revP) (x :: vs) H Q) : rReverse x vs H Q := by
  obtain ⟨F, xs, fp, r, a, ws, e, hH, rs, st, f, c⟩ := mut1 h
  cases e
  cases f
  exact ⟨a, ws, rfl, rfl, hH, Cont.mutD st c rs.rev .non⟩
theorem ok_clr (h : tPrim K mg (m1 clrP) (x :: vs) H Q) : rClear x vs H Q := by
  obtain ⟨F, xs, fp, r, a, ws, e, hH, rs, st, f, c⟩ := mut1 h
  cases e
  cases f
  exact ⟨a, ws, rfl, rfl, hH, Cont.mutD st c .nil .non⟩
theorem ok_set {v o i : V} {Q : Hp → Prop} (h : tPrim K mg setP [v, o, i] H fun _ H' => Q H') : rSetL o i v H Q ∨ rSetD o i v H Q := by
  obtain ⟨F, ivs, fp, res, ivs', st, e, c⟩ := h
  unfold setP at e
  split at e
  case h_3 => cases e
  case h_2 z kvs y =>
    obtain ⟨k, e1, e⟩ := Option.bind_eq_some_iff.mp e
    split at e
    case isFalse => cases e
    case isTrue hl =>
      cases e
      obtain ⟨v1, o1, i1, ev, oz, ⟨a, ws, ea, hH, rs, s⟩, oi⟩ := ArgsOk.three st
      cases ev
      subst ea
      have ei := key_ok oi e1
      subst ei
      obtain ⟨p, q⟩ := StOk.putK (i := 1) st rfl rfl (rs.put k oz.1)
      refine .inr ⟨a, _, rfl, DPut.k hH (by rw [rs.len]; exact Nat.lt_of_lt_of_le hl (by decide)), ?_⟩
      exact c .non _ F fp _ p q (.ofD .non)
  case h_1 z xs k =>
    obtain ⟨j, e1, e⟩ := Option.bind_eq_some_iff.mp e
    cases e
    obtain ⟨v1, o1, i1, ev, oz, ⟨a, ws, ea, hH, rs, s⟩, oi⟩ := ArgsOk.three st
    cases ev
    subst ea
    have ei := asI_ok oi rfl
    subst ei
    refine .inl ⟨a, ws, k, j, rfl, rfl, hH, by rw [rs.len]; exact e1, ?_⟩
    obtain ⟨p, q⟩ := StOk.put (i := 1) st rfl rfl (rs.set j oz.1)
    exact c .non _ F fp _ p q (.ofD .non)
end
def joinIV (x y : IV) : Option IV := (x.asS).bind fun a => ((y.asL)).bind fun ys => (asStrs ys).bind fun ss => if (ss.map (·.length)).sum + ss.length * a.length ≤ lim then some (.d (.str (Str.join a ss))) else none
def splitIV (x y : IV) : Option IV := (x.asS).bind fun a => (y.asS).bind fun b => if b.length = 1 ∧ a.length + 2 ≤ lim then some (.own ((Txt.split a b).map D.str)) else none
theorem SOk.join {a : Str} (ha : SOk a) : ∀ {ss : List Str}, (∀ z ∈ ss, SOk z) → SOk (Str.join a ss)
  | [], _ => fun c hc => by simp [Str.join, Str.empty] at hc
  | [z], h => h z (List.mem_cons_self ..)
  | z :: y :: r, h => ((h z (List.mem_cons_self ..)).app ha).app (SOk.join ha fun w hw => h w (List.mem_cons_of_mem _ hw))
theorem SOk.sub {x : Str} (h : SOk x) (i j : Nat) : SOk (Builtin.Str.strSub x i j) := by
  intro c hc
  rw [show (Builtin.Str.strSub x i j).cps.toList = TL.tl (Builtin.Str.strSub x i j) from rfl, TL.tl_strSub] at hc
  exact h c (List.mem_of_mem_drop (List.mem_of_mem_take hc))
theorem SOk.split {x y : Str} (h : SOk x) : ∀ z ∈ Txt.split x y, SOk z := by
  intro z hz
  unfold Txt.split at hz
  split at hz
  case isTrue => rw [List.mem_singleton.mp hz]; exact h
  case isFalse =>
    split at hz
    case isTrue => rw [List.mem_singleton.mp hz]; exact h
    case isFalse =>
      unfold Builtin.Str.partsBetween at hz
      obtain ⟨p, _, e⟩ := List.mem_map.mp hz
      rw [← e]
      exact h.sub _ _
/-- xs.index(y) of plain things -/
def indexIV (x y : IV) : Option IV := (x.asL).bind fun xs => match y with
  | .d b => if flatD b && xs.all flatD then (xs.findIdx? fun z => eqD z b).bind fun j => some (.d (.int (j : Nat))) else none
  | _ => none
section
variable {K : Fg} {mg : MG} {x : V} {vs : List V} {H : Hp} {Q : VK}
theorem ok_index (h : tPrim K mg (p2 indexIV) (x :: vs) H Q) : rIndex K x vs H Q := by
  obtain ⟨F, a, b, fp, res, v, w, e, st, o1, o2, f, c⟩ := prim2 h
  cases e
  obtain ⟨xs, e1, f⟩ := Option.bind_eq_some_iff.mp f
  cases b with
  | own _ => cases f
  | dct _ => cases f
  | obj _ _ => cases f
  | d b' =>
  have f : (if flatD b' && xs.all flatD then (xs.findIdx? fun z => eqD z b').bind fun j => some (IV.d (.int (j : Nat))) else none) = some res := f
  split at f
  case isFalse => cases f
  case isTrue z =>
    obtain ⟨z1, z2⟩ := Bool.and_eq_true_iff.mp z
    obtain ⟨j, e2, f⟩ := Option.bind_eq_some_iff.mp f
    cases f
    obtain ⟨p, ws, ep, hr, r⟩ := asL_ok st.ex o1 e1
    obtain ⟨h1, h2, h3⟩ := List.findIdx?_eq_some_iff_getElem.mp e2
    obtain ⟨u, g1, g2⟩ := r.get j (List.getElem?_eq_getElem h1)
    have rb : Rp K mg F w b' := o2.1
    refine ⟨p, ws, w, j, u, ep, rfl, hr, flat_v rb z1, flats_v r z2, g1, ?_, fun m z' hm hz => ?_, Cont.data st c (.int _)⟩
    · rw [flat_eq rb g2 z1 (List.all_eq_true.mp z2 _ (List.getElem_mem h1))]; exact h2
    · have hml : m < xs.length := by omega
      obtain ⟨u', g3, g4⟩ := r.get m (List.getElem?_eq_getElem hml)
      rw [hz] at g3
      cases g3
      rw [flat_eq rb g4 z1 (List.all_eq_true.mp z2 _ (List.getElem_mem hml))]
      have := h3 m hm
      simpa using this
theorem ok_join (h : tPrim K mg (p2 joinIV) (x :: vs) H Q) : ∃ a p, ∃ ys : List Str, x = .str a ∧ vs = [.ref p] ∧ (SqL K H p (ys.map V.str) ∨ SqT K H p (ys.map V.str)) ∧ (ys.map (·.length)).sum + ys.length * a.length ≤ 16777216 ∧ Q (.str (Txt.join a ys)) H := by
  obtain ⟨F, a, b, fp, res, v, w, e, st, o1, o2, f, c⟩ := prim2 h
  cases e
  obtain ⟨s, e1, f⟩ := Option.bind_eq_some_iff.mp f
  obtain ⟨ys, e2, f⟩ := Option.bind_eq_some_iff.mp f
  obtain ⟨ss, e3, f⟩ := Option.bind_eq_some_iff.mp f
  split at f
  case isFalse => cases f
  case isTrue hl =>
    cases f
    obtain ⟨ex, so⟩ := asS_ok o1 e1
    obtain ⟨p, ws, ep, hr, r⟩ := asL_ok st.ex o2 e2
    rw [asStrs_ok e3] at r
    obtain ⟨ew, hs⟩ := r.strs
    rw [ew] at hr
    refine ⟨s, p, ss, ex, by rw [ep], .inl hr, Nat.le_trans hl (by decide), ?_⟩
    rw [TL.join_eq]
    exact Cont.data st c (.str _ (so.join hs))
theorem ok_split (h : tPrim K mg (p2 splitIV) (x :: vs) H Q) : ∃ a b, x = .str a ∧ vs = [.str b] ∧ (b.length == 0) = false ∧ a.length + 2 ≤ sizeLine ∧ rNewStrs (Txt.split a b) H Q := by
  obtain ⟨F, a, b, fp, res, v, w, e, st, o1, o2, f, c⟩ := prim2 h
  cases e
  obtain ⟨s, e1, f⟩ := Option.bind_eq_some_iff.mp f
  obtain ⟨t, e2, f⟩ := Option.bind_eq_some_iff.mp f
  split at f
  case isFalse => cases f
  case isTrue hl =>
    cases f
    obtain ⟨ex, so⟩ := asS_ok o1 e1
    obtain ⟨ex2, so2⟩ := asS_ok o2 e2
    refine ⟨s, t, ex, by rw [ex2], ?_, lim_le hl.2, fun p hp => Cont.lstN st c (Rps.ofStrs _ so.split) p hp⟩
    rw [hl.1]; rfl
end
section
open PySem.Spec PyProof.Rows HT
section
variable {prog : Program} {w : World} {A : Around} {E : Value → Shared → Prop} {s : Shared}
theorem adj_back (n : Nat) : Builtin.Slice.sliceAdjust none none (-1) (n : Int) = ((n : Int) - 1, -1) := by
  unfold Builtin.Slice.sliceAdjust
  simp
theorem places_back (n : Nat) : Builtin.Slice.slicePlaces ((n : Int) - 1) (-1) (-1) = n := by
  unfold Builtin.Slice.slicePlaces
  simp
  split <;> omega
theorem pick_back (xs : Array Value) : (List.range xs.size).filterMap (fun (m : Nat) => xs[(((xs.size : Nat) : Int) - 1 + (m : Int) * (-1)).toNat]?) = xs.toList.reverse := by
  have e := PySem.W.krv_range xs.size
  have f : (List.range xs.size).filterMap (fun (m : Nat) => xs[(((xs.size : Nat) : Int) - 1 + (m : Int) * (-1)).toNat]?) = ((List.range xs.size).map fun k => xs.size - 1 - k).filterMap (xs[·]?) := by
    rw [List.filterMap_map]
    have key : ∀ l : List Nat, (∀ m ∈ l, m < xs.size) → l.filterMap (fun (m : Nat) => xs[(((xs.size : Nat) : Int) - 1 + (m : Int) * (-1)).toNat]?) = l.filterMap ((fun x => xs[x]?) ∘ fun k => xs.size - 1 - k) := fun l => by
      induction l with
      | nil => intro _; rfl
      | cons m l ih =>
        intro h
        have hm := h m (List.mem_cons_self ..)
        rw [List.filterMap_cons, List.filterMap_cons, ih fun k hk => h k (List.mem_cons_of_mem _ hk)]
        have : (((xs.size : Nat) : Int) - 1 + (m : Int) * (-1)).toNat = xs.size - 1 - m := by omega
        rw [this]; rfl
    exact key _ fun m hm => List.mem_range.mp hm
  rw [f, e, List.filterMap_reverse, PySem.W.krv_all]
theorem item_back {t sl : Addr} {items : Array Value} {vl vu vs : Value} {Q : Value → Shared → Prop} (ht : IsTup s.heap t items) (hs : s.heap.IsSliceOf sl vl vu vs) (pl : IsPart vl none) (pu : IsPart vu none) (ps : IsPart vs (some (-1)))
    (h : Q (.ref s.heap.objs.size) { s with heap := s.heap.push { cls := .type "tuple", data := .seq items.toList.reverse.toArray } }) (hsz : items.size ≤ sizeLine) : wpAny (model prog w) A (getItem (.ref t) (.ref sl)) Q E s := by
  have fit : sizeOk (.seq items.toList.reverse.toArray) := by
    show items.toList.reverse.toArray.size ≤ sizeLine
    simpa using hsz
  obtain ⟨os, hos, hcs, hds⟩ := id hs
  have isS : s.TypeIs (.ref sl) "slice" := ⟨os, hos, hcs⟩
  unfold getItem
  try (with_reducible refine wpAny_holding ?_)
  (first
    | refine wpAny_bind (wpAny_pure ?_)
    | skip)
  refine wpAny_bind (wpAny_sequenceKey (A := A) ht.typeIs (by decide) ?_)
  refine wpAny_bind (wpAny_callSpecial?_slot (name := Str.ofString "__getitem__") (A := A) ht.typeIs PyProof.Rows.slot_tuple_getitem (wpAny_call_entry (A := A) PyProof.Rows.slot_tuple_getitem ht.typeIs entry_tuple_getitem ?_ (args_tuple_getitem _ _)))
  show wpAny _ _ (Builtin.Tuple.tupleItemsOf (.ref t) >>= fun xs => _) _ _ s
  refine wpAny_bind (tupleItemsOf_ ht (wpAny_bind (wpAny_typeOf isS ?_)))
  rw [if_pos (show _ = true by decide)]
  have ap : ∀ {A : Around} {E : Value → Shared → Prop} {R : Int × Int × Nat → Shared → Prop}, R ((items.size : Int) - 1, -1, items.size) s → wpAny (model prog w) A (Builtin.Slice.sliceApplied (.ref sl) (pure (items.size : Int))) R E s := fun {A E R} hR => by
    unfold Builtin.Slice.sliceApplied Builtin.Slice.sliceFields
    refine wpAny_bind (wpAny_bind (wpAny_field hos hds (x := vl) rfl (wpAny_bind (wpAny_field hos hds (x := vu) rfl (wpAny_bind (wpAny_field hos hds (x := vs) rfl (wpAny_pure ?_)))))))
    refine wpAny_bind (slicePart_ ps ?_)
    show wpAny _ _ (if ((-1 : Int) == 0) = true then _ else _) _ _ s
    rw [if_neg (show ¬ _ by decide)]
    refine wpAny_bind (slicePart_ pl (wpAny_bind (slicePart_ pu (wpAny_bind (wpAny_pure ?_)))))
    show wpAny _ _ (match Builtin.Slice.sliceAdjust none none (-1) (items.size : Int) with | (lo, hi) => pure (lo, (-1 : Int), Builtin.Slice.slicePlaces lo hi (-1))) _ _ s
    rw [adj_back]
    show wpAny _ _ (pure ((items.size : Int) - 1, (-1 : Int), Builtin.Slice.slicePlaces ((items.size : Int) - 1) (-1) (-1))) _ _ s
    rw [places_back]
    exact wpAny_pure hR
  refine wpAny_bind (ap ?_)
  show wpAny _ _ (if ((items.size : Int) - 1 == 0 && (-1 : Int) == 1 && items.size == items.size) = true then _ else _) _ _ s
  rw [if_neg (by simp), pick_back]
  first
    | exact wpAny_bind (m := Builtin.Tuple.tupleExact items.toList.reverse.toArray) (wpAny_newObj_type (wpAny_pure ⟨_, rfl, wpAny_pure h⟩) fit)
    | exact wpAny_bind (m := Builtin.Tuple.tupleExact items.toList.reverse.toArray) (wpAny_newObj_type (wpAny_bind (wpAny_pure (wpAny_pure ⟨_, rfl, wpAny_pure h⟩))) fit)
    | exact wpAny_bind (wpAny_bind (m := Builtin.Tuple.tupleExact items.toList.reverse.toArray) (wpAny_newObj_type (wpAny_pure (wpAny_pure ⟨_, rfl, wpAny_pure h⟩)) fit))
    | exact wpAny_bind (wpAny_bind (m := Builtin.Tuple.tupleExact items.toList.reverse.toArray) (wpAny_newObj_type (wpAny_pure ⟨_, rfl, wpAny_pure h⟩) fit))
end
end
end SD
namespace SD
open PySem L2
def tdV (d : Den) : TDen := fun Φ env => (d Φ env).bind fun r => match r.1 with
  | .d (.bl b) => some (b, r.2)
  | _ => none
def tdAnd (a b : TDen) : TDen := fun Φ env => (a Φ env).bind fun r => if r.1 then b Φ r.2 else some (false, r.2)
def tdOr (a b : TDen) : TDen := fun Φ env => (a Φ env).bind fun r => if r.1 then some (true, r.2) else b Φ r.2
def tdNot (a : TDen) : TDen := fun Φ env => (a Φ env).bind fun r => some (!r.1, r.2)
def tdYes : TDen := fun _ env => some (true, env)
def dAnd (a b : Den) : Den := fun Φ env => (a Φ env).bind fun r => match r.1 with
  | .d (.bl true) => b Φ r.2
  | .d (.bl false) => some (.d (.bl false), r.2)
  | _ => none
def dOr (a b : Den) : Den := fun Φ env => (a Φ env).bind fun r => match r.1 with
  | .d (.bl true) => some (.d (.bl true), r.2)
  | .d (.bl false) => b Φ r.2
  | _ => none
def dNot (a : Den) : Den := fun Φ env => (a Φ env).bind fun r => match r.1 with
  | .d (.bl b) => some (.d (.bl !b), r.2)
  | _ => none
def dIf (t : TDen) (a b : Den) : Den := fun Φ env => (t Φ env).bind fun r => if r.1 then a Φ r.2 else b Φ r.2
def dChain (f g : Int → Int → Bool) (a b c : Den) : Den := fun Φ env => (a Φ env).bind fun r => (b Φ r.2).bind fun s => (r.1.asI).bind fun i => (s.1.asI).bind fun j =>
  if f i j then (c Φ s.2).bind fun t => (t.1.asI).bind fun k => some (.d (.bl (g j k)), t.2) else some (.d (.bl false), s.2)
section
variable {K : Fg} {mg : MG} {Φ : Fenv} {σ : L2.St} {H : Hp}
theorem tE_cont {b : Den} {Q : VK} {F F1 H1 : Hp} {env1 env2 : Env} {fp fp1 : FP} {iv : IV} (st1 : StOk K mg F1 H1 σ env1 fp1) (p1 : EStp F H σ fp F1 H1 σ fp1) (e : b Φ env1 = some (iv, env2))
    (c : ∀ v H' F' fp' S, StOk K mg F' H' σ env2 fp' → EStp F H σ fp F' H' σ fp' → Tmp K mg H F' H' v iv S → Q v H') : tE K mg Φ b σ H1 Q :=
  ⟨F1, env1, fp1, iv, env2, st1, e, fun v H' F' fp' S a q t => c v H' F' fp' S a (p1.trans q) (t.old p1.p.fresh)⟩
theorem bl_of {F' H' : Hp} {v : V} {b : Bool} {S : AS} (t : Tmp K mg H F' H' v (.d (.bl b)) S) : v = .bl b := by cases t.1.1; rfl
theorem int_of {F' H' : Hp} {v : V} {iv : IV} {i : Int} {S : AS} (t : Tmp K mg H F' H' v iv S) (e : iv.asI = some i) : v = .int i := asI_ok t.1 e
theorem tT_V {d : Den} {Q : Bool → Hp → Prop} (h : tT K mg Φ (tdV d) σ H Q) : tE K mg Φ d σ H fun x H1 => ∃ c, x = .bl c ∧ Q c H1 := by
  obtain ⟨F, env, fp, b, env', st, e, c⟩ := h
  obtain ⟨⟨iv, env1⟩, e1, e⟩ := Option.bind_eq_some_iff.mp e
  simp only at e
  split at e
  case h_2 => cases e
  case h_1 =>
    cases e
    exact ⟨F, env, fp, _, _, st, e1, fun v H' F' fp' S a p t => ⟨b, bl_of t, c H' F' fp' a p⟩⟩
theorem tT_cont {b : TDen} {Q : Bool → Hp → Prop} {F F1 H1 : Hp} {env1 env2 : Env} {fp fp1 : FP} {r : Bool} (st1 : StOk K mg F1 H1 σ env1 fp1) (p1 : EStp F H σ fp F1 H1 σ fp1) (e : b Φ env1 = some (r, env2))
    (c : ∀ H' F' fp', StOk K mg F' H' σ env2 fp' → EStp F H σ fp F' H' σ fp' → Q r H') : tT K mg Φ b σ H1 Q :=
  ⟨F1, env1, fp1, r, env2, st1, e, fun H' F' fp' a q => c H' F' fp' a (p1.trans q)⟩
theorem tT_And {a b : TDen} {Q : Bool → Hp → Prop} (h : tT K mg Φ (tdAnd a b) σ H Q) : tAnd (tT K mg Φ a) (tT K mg Φ b) σ H Q := by
  obtain ⟨F, env, fp, r, env', st, e, c⟩ := h
  obtain ⟨⟨k, env1⟩, e1, e⟩ := Option.bind_eq_some_iff.mp e
  simp only at e
  refine ⟨F, env, fp, k, env1, st, e1, fun H1 F1 fp1 st1 p1 => ?_⟩
  cases k with
  | true => exact tT_cont st1 p1 e c
  | false => cases e; exact c H1 F1 fp1 st1 p1
theorem tT_Or {a b : TDen} {Q : Bool → Hp → Prop} (h : tT K mg Φ (tdOr a b) σ H Q) : tOr (tT K mg Φ a) (tT K mg Φ b) σ H Q := by
  obtain ⟨F, env, fp, r, env', st, e, c⟩ := h
  obtain ⟨⟨k, env1⟩, e1, e⟩ := Option.bind_eq_some_iff.mp e
  simp only at e
  refine ⟨F, env, fp, k, env1, st, e1, fun H1 F1 fp1 st1 p1 => ?_⟩
  cases k with
  | false => exact tT_cont st1 p1 e c
  | true => cases e; exact c H1 F1 fp1 st1 p1
theorem tT_Not {a : TDen} {Q : Bool → Hp → Prop} (h : tT K mg Φ (tdNot a) σ H Q) : tNot (tT K mg Φ a) σ H Q := by
  obtain ⟨F, env, fp, r, env', st, e, c⟩ := h
  obtain ⟨⟨k, env1⟩, e1, e⟩ := Option.bind_eq_some_iff.mp e
  cases e
  exact ⟨F, env, fp, k, env1, st, e1, fun H1 F1 fp1 st1 p1 => c H1 F1 fp1 st1 p1⟩
theorem tT_Yes {Q : Bool → Hp → Prop} (h : tT K mg Φ tdYes σ H Q) : tYes σ H Q := by
  obtain ⟨F, env, fp, r, env', st, e, c⟩ := h
  cases e
  exact c H F fp st (.refl ..)
theorem tE_And {a b : Den} {Q : VK} (h : tE K mg Φ (dAnd a b) σ H Q) : tAndV (tE K mg Φ a) (tE K mg Φ b) σ H Q := by
  obtain ⟨F, env, fp, r, env', st, e, c⟩ := h
  obtain ⟨⟨iv, env1⟩, e1, e⟩ := Option.bind_eq_some_iff.mp e
  simp only at e
  split at e
  case h_3 => cases e
  case h_1 q =>
    exact ⟨F, env, fp, _, env1, st, e1, fun v H1 F1 fp1 S st1 p1 t => ⟨true, bl_of t, tE_cont st1 p1 e c⟩⟩
  case h_2 q =>
    cases e
    exact ⟨F, env, fp, _, _, st, e1, fun v H1 F1 fp1 S st1 p1 t => ⟨false, bl_of t, c _ H1 F1 fp1 _ st1 p1 (.ofD (.bl _))⟩⟩
theorem tE_Or {a b : Den} {Q : VK} (h : tE K mg Φ (dOr a b) σ H Q) : tOrV (tE K mg Φ a) (tE K mg Φ b) σ H Q := by
  obtain ⟨F, env, fp, r, env', st, e, c⟩ := h
  obtain ⟨⟨iv, env1⟩, e1, e⟩ := Option.bind_eq_some_iff.mp e
  simp only at e
  split at e
  case h_3 => cases e
  case h_2 q =>
    exact ⟨F, env, fp, _, env1, st, e1, fun v H1 F1 fp1 S st1 p1 t => ⟨false, bl_of t, tE_cont st1 p1 e c⟩⟩
  case h_1 q =>
    cases e
    exact ⟨F, env, fp, _, _, st, e1, fun v H1 F1 fp1 S st1 p1 t => ⟨true, bl_of t, c _ H1 F1 fp1 _ st1 p1 (.ofD (.bl _))⟩⟩
theorem tE_Not {a : Den} {Q : VK} (h : tE K mg Φ (dNot a) σ H Q) : tNotV (tE K mg Φ a) σ H Q := by
  obtain ⟨F, env, fp, r, env', st, e, c⟩ := h
  obtain ⟨⟨iv, env1⟩, e1, e⟩ := Option.bind_eq_some_iff.mp e
  simp only at e
  split at e
  case h_2 => cases e
  case h_1 _ b =>
    cases e
    exact ⟨F, env, fp, _, _, st, e1, fun v H1 F1 fp1 S st1 p1 t => ⟨b, bl_of t, c _ H1 F1 fp1 _ st1 p1 (.ofD (.bl _))⟩⟩
theorem tE_If {t : TDen} {a b : Den} {Q : VK} (h : tE K mg Φ (dIf t a b) σ H Q) : tIf (tT K mg Φ t) (tE K mg Φ a) (tE K mg Φ b) σ H Q := by
  obtain ⟨F, env, fp, r, env', st, e, c⟩ := h
  obtain ⟨⟨k, env1⟩, e1, e⟩ := Option.bind_eq_some_iff.mp e
  simp only at e
  refine ⟨F, env, fp, k, env1, st, e1, fun H1 F1 fp1 st1 p1 => ?_⟩
  cases k with
  | true => exact tE_cont st1 p1 e c
  | false => exact tE_cont st1 p1 e c
theorem tE_Chain {f g : Int → Int → Bool} {a b d : Den} {Q : VK} (h : tE K mg Φ (dChain f g a b d) σ H Q) :
    tChain (rI0 fun i j => .bl (f i j)) (rI0 fun i j => .bl (g i j)) (tE K mg Φ a) (tE K mg Φ b) (tE K mg Φ d) σ H Q := by
  obtain ⟨F, env, fp, r, env', st, e, c⟩ := h
  unfold dChain at e
  obtain ⟨⟨x, env1⟩, e1, e⟩ := Option.bind_eq_some_iff.mp e
  obtain ⟨⟨y, env2⟩, e2, e⟩ := Option.bind_eq_some_iff.mp e
  obtain ⟨i, e3, e⟩ := Option.bind_eq_some_iff.mp e
  obtain ⟨j, e4, e⟩ := Option.bind_eq_some_iff.mp e
  refine ⟨F, env, fp, x, env1, st, e1, fun v H1 F1 fp1 S st1 p1 t1 => ?_⟩
  refine ⟨F1, env1, fp1, y, env2, st1, e2, fun w H2 F2 fp2 S2 st2 p2 t2 => ?_⟩
  refine ⟨i, j, int_of t1 e3, int_of t2 e4, f i j, rfl, ?_⟩
  split at e
  case isTrue q =>
    obtain ⟨⟨z, env3⟩, e5, e⟩ := Option.bind_eq_some_iff.mp e
    obtain ⟨k, e6, e⟩ := Option.bind_eq_some_iff.mp e
    cases e
    rw [if_pos q]
    refine ⟨F2, env2, fp2, z, env3, st2, e5, fun u H3 F3 fp3 S3 st3 p3 t3 => ?_⟩
    exact ⟨j, k, int_of t2 e4, int_of t3 e6, c _ H3 F3 fp3 _ st3 ((p1.trans p2).trans p3) (.ofD (.bl _))⟩
  case isFalse q =>
    cases e
    rw [if_neg q]
    exact c _ H2 F2 fp2 _ st2 (p1.trans p2) (.ofD (.bl _))
end
inductive Fl where
  | nx
  | bk
  | ct
  | ret (iv : IV)
  | ex (c g : Str) (x : D)
abbrev LK := Nat → Bool
abbrev SDen := Fenv → LK → Env → Option (Fl × Env)
def RTmp (K : Fg) (mg : MG) (lk : LK) (H : Hp) (fp : FP) (F' H' : Hp) (fp' : FP) (v : V) (iv : IV) (S : AS) : Prop :=
  OwnV K mg F' H' v iv S ∧ ∀ b, S b → (H b = none ∨ ∃ i, lk i = false ∧ fp i b) ∧ F' b = none ∧ ¬ fpO fp' b
def lkP (lk : LK) : Nat → Prop := fun i => lk i = true
def EndOk (K : Fg) (mg : MG) (lk : LK) (W : WX) (F H : Hp) (σ : L2.St) (fp : FP) (env' : Env) (D : Ends) : Fl → Prop
  | .nx => ∀ σ' H' F' fp', StOk K mg F' H' σ' env' fp' → Stp (lkP lk) F H σ fp F' H' σ' fp' → D.nx σ' H'
  | .bk => ∀ σ' H' F' fp', StOk K mg F' H' σ' env' fp' → Stp (lkP lk) F H σ fp F' H' σ' fp' → D.bk σ' H'
  | .ct => ∀ σ' H' F' fp', StOk K mg F' H' σ' env' fp' → Stp (lkP lk) F H σ fp F' H' σ' fp' → D.ct σ' H'
  | .ret iv => ∀ v σ' H' F' fp' S, StOk K mg F' H' σ' env' fp' → Stp (lkP lk) F H σ fp F' H' σ' fp' → RTmp K mg lk H fp F' H' fp' v iv S → D.rt v H'
  | .ex c g x => ∀ cls od σ' H' F' fp', StOk K mg F' H' σ' env' fp' → Stp (lkP lk) F H σ fp F' H' σ' fp' → XAir K mg F' cls od c g x → W cls od σ' H'
def tS (K : Fg) (mg : MG) (Φ : Fenv) (lk : LK) (W : WX) (d : SDen) : TS := fun D σ H => ∃ F env fp fl env', StOk K mg F H σ env fp ∧ d Φ lk env = some (fl, env') ∧ EndOk K mg lk W F H σ fp env' D fl
def sSkip : SDen := fun _ _ env => some (.nx, env)
def sBk : SDen := fun _ _ env => some (.bk, env)
def sCt : SDen := fun _ _ env => some (.ct, env)
def sSeq (a b : SDen) : SDen := fun Φ lk env => (a Φ lk env).bind fun r => match r.1 with
  | .nx => b Φ lk r.2
  | f => some (f, r.2)
def sIf (t : TDen) (a b : SDen) : SDen := fun Φ lk env => (t Φ env).bind fun r => if r.1 then a Φ lk r.2 else b Φ lk r.2
def sEx (d : Den) : SDen := fun Φ _ env => (d Φ env).bind fun r => some (.nx, r.2)
def sRet (d : Den) : SDen := fun Φ _ env => (d Φ env).bind fun r => some (.ret r.1, r.2)
def sRetN : SDen := fun _ _ env => some (.ret (.d .non), env)
def sRetNm (i : Nat) : SDen := fun _ lk env => match env[i]? with
  | some (some (.d x)) => some (.ret (.d x), env)
  | some (some (.own xs)) => if lk i then some (.ret (.d (.lst xs)), env.set i (some (.d (.lst xs)))) else some (.ret (.own xs), env.set i none)
  | some (some iv) => if lk i then none else some (.ret iv, env.set i none)
  | _ => none
def sSet (i : Nat) (d : Den) : SDen := fun Φ lk env => (d Φ env).bind fun r => if lk i then none else some (.nx, r.2.set i (some r.1))
/-- a tuple's things into slots -/
def setT (lk : LK) : List Nat → List D → Env → Option Env
  | [], [], env => some env
  | i :: is, x :: xs, env => if lk i then none else setT lk is xs (env.set i (some (.d x)))
  | _, _, _ => none
def sSetT (is : List Nat) (d : Den) : SDen := fun Φ lk env => (d Φ env).bind fun r => match r.1 with
  | .d (.tup xs) => (setT lk is xs r.2).bind fun env' => some (.nx, env')
  | _ => none
section
variable {K : Fg} {mg : MG} {Φ : Fenv} {lk : LK} {W : WX} {σ : L2.St} {H : Hp} {D : Ends}
theorem EStp.stp {F F' H' : Hp} {fp fp' : FP} (p : EStp F H σ fp F' H' σ fp') : Stp (lkP lk) F H σ fp F' H' σ fp' := p.weak fun _ _ => trivial
theorem Tmp.rtmp {F F' H' : Hp} {env : Env} {fp fp' : FP} {v : V} {iv : IV} {S : AS} (st : StOk K mg F H σ env fp) (p : EStp F H σ fp F' H' σ fp') (t : Tmp K mg H F' H' v iv S) : RTmp K mg lk H fp F' H' fp' v iv S :=
  ⟨t.1, fun b hb => ⟨.inl (t.2 b hb).1, (t.2 b hb).2, fun ⟨i, z⟩ => st.hs ((p.par i trivial).2 b z) (t.2 b hb).1⟩⟩
theorem EndOk.later {F F1 H1 : Hp} {σ1 : L2.St} {fp fp1 : FP} {env' : Env} {fl : Fl} (c : EndOk K mg lk W F H σ fp env' D fl) (p : Stp (lkP lk) F H σ fp F1 H1 σ1 fp1) : EndOk K mg lk W F1 H1 σ1 fp1 env' D fl := by
  cases fl with
  | nx => exact fun σ' H' F' fp' a q => c σ' H' F' fp' a (p.trans q)
  | bk => exact fun σ' H' F' fp' a q => c σ' H' F' fp' a (p.trans q)
  | ct => exact fun σ' H' F' fp' a q => c σ' H' F' fp' a (p.trans q)
  | ret iv =>
    refine fun v σ' H' F' fp' S a q t => c v σ' H' F' fp' S a (p.trans q) ⟨t.1, fun b hb => ?_⟩
    obtain ⟨h1, h2, h3⟩ := t.2 b hb
    refine ⟨?_, h2, h3⟩
    rcases h1 with z | ⟨i, hl, z⟩
    · exact .inl (p.p.fresh b z)
    · rcases p.own i b z with z | z
      · exact .inr ⟨i, hl, z⟩
      · exact .inl z
  | ex c g x => exact fun cls od σ' H' F' fp' a q y => c cls od σ' H' F' fp' a (p.trans q) y
theorem tS_Skip (h : tS K mg Φ lk W sSkip D σ H) : tNext D σ H := by
  obtain ⟨F, env, fp, fl, env', st, e, c⟩ := h
  cases e
  exact c σ H F fp st (.refl ..)
theorem tS_Bk (h : tS K mg Φ lk W sBk D σ H) : tBreak D σ H := by
  obtain ⟨F, env, fp, fl, env', st, e, c⟩ := h
  cases e
  exact c σ H F fp st (.refl ..)
theorem tS_Ct (h : tS K mg Φ lk W sCt D σ H) : tCont D σ H := by
  obtain ⟨F, env, fp, fl, env', st, e, c⟩ := h
  cases e
  exact c σ H F fp st (.refl ..)
theorem tS_Seq {a b : SDen} (h : tS K mg Φ lk W (sSeq a b) D σ H) : tSeq (tS K mg Φ lk W a) (tS K mg Φ lk W b) D σ H := by
  obtain ⟨F, env, fp, fl, env', st, e, c⟩ := h
  unfold sSeq at e
  obtain ⟨⟨f, env1⟩, e1, e⟩ := Option.bind_eq_some_iff.mp e
  refine ⟨F, env, fp, f, env1, st, e1, ?_⟩
  cases f with
  | nx => exact fun σ1 H1 F1 fp1 st1 p1 => ⟨F1, env1, fp1, fl, env', st1, e, c.later p1⟩
  | bk => cases e; exact c
  | ct => cases e; exact c
  | ret iv => cases e; exact c
  | ex _ _ _ => cases e; exact c
theorem tS_If {t : TDen} {a b : SDen} (h : tS K mg Φ lk W (sIf t a b) D σ H) : tIfS (tT K mg Φ t) (tS K mg Φ lk W a) (tS K mg Φ lk W b) D σ H := by
  obtain ⟨F, env, fp, fl, env', st, e, c⟩ := h
  obtain ⟨⟨k, env1⟩, e1, e⟩ := Option.bind_eq_some_iff.mp e
  simp only at e
  refine ⟨F, env, fp, k, env1, st, e1, fun H1 F1 fp1 st1 p1 => ?_⟩
  cases k with
  | true => exact ⟨F1, env1, fp1, fl, env', st1, e, c.later p1.stp⟩
  | false => exact ⟨F1, env1, fp1, fl, env', st1, e, c.later p1.stp⟩
theorem tS_Ex {d : Den} (h : tS K mg Φ lk W (sEx d) D σ H) : tDrop (tE K mg Φ d) D σ H := by
  obtain ⟨F, env, fp, fl, env', st, e, c⟩ := h
  obtain ⟨⟨iv, env1⟩, e1, e⟩ := Option.bind_eq_some_iff.mp e
  cases e
  exact ⟨F, env, fp, iv, env1, st, e1, fun v H1 F1 fp1 S st1 p1 t => c σ H1 F1 fp1 st1 p1.stp⟩
theorem tS_Ret {d : Den} (h : tS K mg Φ lk W (sRet d) D σ H) : tRet (tE K mg Φ d) D σ H := by
  obtain ⟨F, env, fp, fl, env', st, e, c⟩ := h
  obtain ⟨⟨iv, env1⟩, e1, e⟩ := Option.bind_eq_some_iff.mp e
  cases e
  exact ⟨F, env, fp, iv, env1, st, e1, fun v H1 F1 fp1 S st1 p1 t => c v σ H1 F1 fp1 S st1 p1.stp (t.rtmp st p1)⟩
theorem tS_RetN (h : tS K mg Φ lk W sRetN D σ H) : tRetN D σ H := by
  obtain ⟨F, env, fp, fl, env', st, e, c⟩ := h
  cases e
  exact c .non σ H F fp _ st (.refl ..) (Tmp.rtmp st (.refl ..) (.ofD .non))
theorem StOk.unset {F : Hp} {env : Env} {fp : FP} (st : StOk K mg F H σ env fp) (i : Nat) : StOk K mg F H σ (env.set i none) (fpOff fp i) := by
  refine ⟨st.ex, by simpa using st.len, fun j iv e => ?_, fun j b z => ?_, fun j k b z y => st.disj j k b z.2 y.2, fun j b z => st.fr j b z.2, st.tb⟩
  · by_cases hj : i = j
    · subst hj
      by_cases hl : i < env.length
      · rw [List.getElem?_set_self hl] at e; cases e
      · rw [List.getElem?_eq_none (by simpa using hl)] at e; cases e
    · rw [List.getElem?_set_ne hj] at e
      obtain ⟨v, h1, h2⟩ := st.slot j iv e
      have ea : fpOff fp i j = fp j := funext fun b => propext ⟨fun z => z.2, fun z => ⟨fun e => hj e.symm, z⟩⟩
      rw [ea]
      exact ⟨v, h1, h2⟩
  · obtain ⟨iv, e⟩ := st.emp j b z.2
    exact ⟨iv, by rw [List.getElem?_set_ne (Ne.symm z.1)]; exact e⟩
theorem tS_RetNm {i : Nat} (h : tS K mg Φ lk W (sRetNm i) D σ H) : tRet (tVar i) D σ H := by
  obtain ⟨F, env, fp, fl, env', st, e, c⟩ := h
  have move : ∀ iv, env[i]? = some (some iv) → lk i = false → (∀ v σ' H' F' fp' S, StOk K mg F' H' σ' (env.set i none) fp' → Stp (lkP lk) F H σ fp F' H' σ' fp' → RTmp K mg lk H fp F' H' fp' v iv S → D.rt v H') → tRet (tVar i) D σ H := fun iv q hl c => by
    obtain ⟨v, h1, h2⟩ := st.slot i _ q
    refine ⟨v, h1, c v σ H F (fpOff fp i) (fp i) (st.unset i) ⟨.refl .., fun j b z => .inl z.2, fun j _ => ⟨rfl, fun b z => z.2⟩⟩ ⟨h2, fun b hb => ⟨.inr ⟨i, hl, hb⟩, st.fr i b hb, fun ⟨j, z1, z2⟩ => z1 (st.disj j i b z2 hb)⟩⟩⟩
  unfold sRetNm at e
  split at e
  case h_1 x q =>
    cases e
    obtain ⟨v, h1, h2⟩ := st.slot i _ q
    exact ⟨v, h1, c v σ H F fp _ st (.refl ..) (Tmp.rtmp st (.refl ..) (.ofD h2.1))⟩
  case h_2 xs q =>
    split at e
    case isTrue hl =>
      cases e
      obtain ⟨a, F', h1, st', p, r⟩ := st.freeze q
      exact ⟨_, h1, c _ σ H F' _ _ st' p.stp (Tmp.rtmp st p (.ofD r))⟩
    case isFalse hl =>
      cases e
      exact move _ q (by simpa using hl) c
  case h_3 iv _ _ q =>
    split at e
    case isTrue hl => cases e
    case isFalse hl =>
      cases e
      exact move _ q (by simpa using hl) c
  case h_4 => cases e
/-- a value comes into a slot that is not the caller's -/
theorem StOk.store {F F1 H1 : Hp} {env env1 : Env} {fp fp1 : FP} {v : V} {iv : IV} {S : AS} (st : StOk K mg F H σ env fp) (st1 : StOk K mg F1 H1 σ env1 fp1) (p : Stp (lkP lk) F H σ fp F1 H1 σ fp1) (fr : ∀ b, S b → H b = none ∧ F1 b = none ∧ ¬ fpO fp1 b) (o : OwnV K mg F1 H1 v iv S) {i : Nat} (hl : lk i = false) :
    ∃ fp', StOk K mg F1 H1 (σ.set i (some v)) (env1.set i (some iv)) fp' ∧ Stp (lkP lk) F H σ fp F1 H1 (σ.set i (some v)) fp' := by
  refine ⟨fun j b => (j = i ∧ i < env1.length ∧ S b) ∨ (j ≠ i ∧ fp1 j b), ⟨st1.ex, by simpa using st1.len, fun j iv' e => ?_, fun j b z => ?_, fun j k b z y => ?_, fun j b z => ?_, st1.tb⟩, ⟨⟨p.p.fF, p.p.keep, p.p.fresh, p.p.frz⟩, fun j b z => ?_, fun j hj => ?_⟩⟩
  · by_cases hj : i = j
    · subst hj
      by_cases hl : i < env1.length
      · rw [List.getElem?_set_self hl] at e
        cases e
        have ea : (fun b => (i = i ∧ i < env1.length ∧ S b) ∨ (i ≠ i ∧ fp1 i b)) = S := funext fun b => propext ⟨fun z => by
          rcases z with z | z
          · exact z.2.2
          · exact absurd rfl z.1, fun z => .inl ⟨rfl, hl, z⟩⟩
        rw [ea]
        exact ⟨v, List.getElem?_set_self (by rw [st1.len]; exact hl), o⟩
      · rw [List.getElem?_eq_none (by simpa using hl)] at e; cases e
    · rw [List.getElem?_set_ne hj] at e
      obtain ⟨w, h1, h2⟩ := st1.slot j iv' e
      have ea : (fun b => (j = i ∧ i < env1.length ∧ S b) ∨ (j ≠ i ∧ fp1 j b)) = fp1 j := funext fun b => propext ⟨fun z => by
        rcases z with z | z
        · exact absurd z.1.symm hj
        · exact z.2, fun z => .inr ⟨fun e => hj e.symm, z⟩⟩
      rw [ea]
      exact ⟨w, by rw [List.getElem?_set_ne hj]; exact h1, h2⟩
  · rcases z with ⟨rfl, hl, z⟩ | ⟨hj, z⟩
    · exact ⟨iv, List.getElem?_set_self hl⟩
    · obtain ⟨w, e⟩ := st1.emp j b z
      exact ⟨w, by rw [List.getElem?_set_ne (Ne.symm hj)]; exact e⟩
  · rcases z with ⟨rfl, _, z⟩ | ⟨hj, z⟩
    · rcases y with ⟨rfl, _, y⟩ | ⟨hk, y⟩
      · rfl
      · exact absurd ⟨k, y⟩ (fr b z).2.2
    · rcases y with ⟨rfl, _, y⟩ | ⟨hk, y⟩
      · exact absurd ⟨j, z⟩ (fr b y).2.2
      · exact st1.disj j k b z y
  · rcases z with ⟨_, _, z⟩ | ⟨_, z⟩
    · exact (fr b z).2.1
    · exact st1.fr j b z
  · rcases z with ⟨_, _, z⟩ | ⟨_, z⟩
    · exact .inr (fr b z).1
    · exact p.own j b z
  · have ne : i ≠ j := fun e => by
      subst e
      have hj' : lk i = true := hj
      rw [hl] at hj'
      cases hj'
    obtain ⟨h1, h2⟩ := p.par j hj
    refine ⟨by rw [List.getElem?_set_ne ne], fun b z => ?_⟩
    rcases z with ⟨e, _⟩ | ⟨_, z⟩
    · exact absurd e.symm ne
    · exact h2 b z
theorem Tmp.fr {F F1 H1 : Hp} {env : Env} {fp fp1 : FP} {v : V} {iv : IV} {S : AS} (st : StOk K mg F H σ env fp) (p : EStp F H σ fp F1 H1 σ fp1) (t : Tmp K mg H F1 H1 v iv S) : ∀ b, S b → H b = none ∧ F1 b = none ∧ ¬ fpO fp1 b :=
  fun b hb => ⟨(t.2 b hb).1, (t.2 b hb).2, fun ⟨i, z⟩ => st.hs ((p.par i trivial).2 b z) (t.2 b hb).1⟩
theorem tS_Set {i : Nat} {d : Den} (h : tS K mg Φ lk W (sSet i d) D σ H) : tAsg (tE K mg Φ d) (gName i) D σ H := by
  obtain ⟨F, env, fp, fl, env', st, e, c⟩ := h
  unfold sSet at e
  obtain ⟨⟨iv, env1⟩, e1, e⟩ := Option.bind_eq_some_iff.mp e
  split at e
  case isTrue => cases e
  case isFalse hl =>
    cases e
    refine ⟨F, env, fp, iv, env1, st, e1, fun v H1 F1 fp1 S st1 p1 t => ?_⟩
    obtain ⟨fp', a, q⟩ := StOk.store st st1 (p1.stp (lk := lk)) (t.fr st p1) t.1 (i := i) (by simpa using hl)
    exact c _ H1 F1 fp' a q
def gNames : List Nat → TGs
  | [] => gNil
  | i :: is => gCons (gName i) (gNames is)
theorem setT_ok : ∀ (is : List Nat) {xs : List SD.D} {vs : List V} {F F1 H1 : Hp} {σ σ1 : L2.St} {env1 env2 : Env} {fp fp1 : FP} {Q : L2.St → Hp → Prop}, StOk K mg F1 H1 σ1 env1 fp1 → Stp (lkP lk) F H σ fp F1 H1 σ1 fp1 → Rps K mg F1 vs xs → setT lk is xs env1 = some env2 →
    (∀ σ' fp', StOk K mg F1 H1 σ' env2 fp' → Stp (lkP lk) F H σ fp F1 H1 σ' fp' → Q σ' H1) → gNames is vs σ1 H1 Q
  | [], [], vs, F, F1, H1, σ, σ1, env1, env2, fp, fp1, Q, st, p, r, e, c => by
    cases r
    cases e
    exact ⟨rfl, c σ1 fp1 st p⟩
  | [], _ :: _, vs, F, F1, H1, σ, σ1, env1, env2, fp, fp1, Q, st, p, r, e, c => by cases e
  | _ :: _, [], vs, F, F1, H1, σ, σ1, env1, env2, fp, fp1, Q, st, p, r, e, c => by cases e
  | i :: is, x :: xs, _, F, F1, H1, σ, σ1, env1, env2, fp, fp1, Q, st, p, r, e, c => by
    cases r with
    | cons r1 r2 =>
      unfold setT at e
      split at e
      case isTrue => cases e
      case isFalse hl =>
        refine ⟨_, _, rfl, ?_⟩
        obtain ⟨fp', a, q⟩ := StOk.store (H := H1) st st (Stp.refl (lkP lk) F1 H1 σ1 fp1) (S := fun _ => False) (fun b z => z.elim) (OwnV.ofD r1) (i := i) (by simpa using hl)
        exact setT_ok is a (p.trans q) r2 e c
theorem tS_SetT {is : List Nat} {d : Den} (h : tS K mg Φ lk W (sSetT is d) D σ H) : tAsg (tE K mg Φ d) (gTup K is.length (gNames is)) D σ H := by
  obtain ⟨F, env, fp, fl, env', st, e, c⟩ := h
  unfold sSetT at e
  obtain ⟨⟨iv, env1⟩, e1, e⟩ := Option.bind_eq_some_iff.mp e
  simp only at e
  split at e
  case h_2 => cases e
  case h_1 _ xs =>
    obtain ⟨env2, e2, e⟩ := Option.bind_eq_some_iff.mp e
    cases e
    refine ⟨F, env, fp, _, env1, st, e1, fun v H1 F1 fp1 S st1 p1 t => ?_⟩
    obtain ⟨a, vs, ev, s1, s2, r, _⟩ := asT_ok st1.ex t.1 rfl
    have hlen : ∀ (is : List Nat) (xs : List SD.D) (env : Env) (e : Env), setT lk is xs env = some e → is.length = xs.length := by
      intro is
      induction is with
      | nil => intro xs env e h; cases xs with
        | nil => rfl
        | cons _ _ => cases h
      | cons i is ih => intro xs env e h; cases xs with
        | nil => cases h
        | cons x xs =>
          unfold setT at h
          split at h
          case isTrue => cases h
          case isFalse => simp [ih xs _ e h]
    refine ⟨a, vs, ev, s1, by rw [r.len, hlen is xs _ _ e2], ?_⟩
    exact setT_ok is st1 (p1.stp (lk := lk)) r e2 fun σ' fp' a q => c σ' H1 F1 fp' a q
end
end SD
namespace SD
open PySem PySem.Spec PyProof.Rows L2
theorem meets_enum1 {v : Value} {o : Obj} {H : Heap → Prop} (B : Begins v o H) :
    Meets (Builtin.«enumerate.__new__» ⟨[.type "enumerate", v], []⟩) (fun _ R s => H s.heap ∧
      R (.ok (.ret (.ref (s.heap.push o).objs.size))) { s with heap := (s.heap.push o).push { cls := .type "enumerate", data := .fields #[.none, .bool false, .ref s.heap.objs.size, rawInt 0, .none, .none] } }) :=
  .of_wp fun prog w A R s h => by
    obtain ⟨hp, g, d, tk, os⟩ := s; obtain ⟨h1, h⟩ := h
    have hsub := sub_enumerate
    have q1 : ∀ {A' : Around} {E : Value → Shared → Prop} {Q : Value → Shared → Prop}, Q (.ref hp.objs.size) ⟨hp.push o, g, d, tk, os⟩ → wpAny (model prog w) A' (pyIter v) Q E ⟨hp, g, d, tk, os⟩ :=
      fun q => B.iter prog w _ _ ⟨hp, g, d, tk, os⟩ _ h1 q
    wp_walk using q1
    refine wpAny_stack_any fun st => wpAny_pure ?_
    split
    · rename_i c _ _ _ _ _
      cases (c == Value.type "enumerate")
      · wp_walk using q1
        exact ⟨_, rfl, h⟩
      · wp_walk using q1
        exact ⟨_, rfl, h⟩
    · wp_walk using q1
      exact ⟨_, rfl, h⟩
theorem call_enum_tup {prog : Program} {w : World} {A : Around} {E : Value → Shared → Prop} {s : Shared} {l : Addr} {items : Array Value} {Q : Value → Shared → Prop} (hL : s.heap.IsTuple l items)
    (h : ∀ h', IsEnum h' (s.heap.objs.size + 1) s.heap.objs.size 0 .none → h'.get? s.heap.objs.size = some { cls := .type "tuple_iterator", data := .fields #[.ref l, .int 0 0] } → h'.objs.size = s.heap.objs.size + 2 →
      (∀ b o, s.heap.get? b = some o → h'.get? b = some o) → Q (.ref (s.heap.objs.size + 1)) { s with heap := h' }) :
    wpAny (model prog w) A (call (.type "enumerate") [.ref l]) Q E s := by
  refine callType_new F.called_enumerate (by decide) (F.typeCall_enumerate_1 _) (F.newCall_enumerate_1 _) (fun obj => F.args_object_init_2 obj _) F.entry_enumerate_new
    (meets_enum1 (begins_tuple l items)) ⟨hL, ?_⟩
  have hz : (s.heap.push { cls := .type "tuple_iterator", data := .fields #[.ref l, .int 0 0] }).objs.size = s.heap.objs.size + 1 := Heap.size_push ..
  show _ ∧ _
  rw [hz]
  have he : IsEnum ((s.heap.push { cls := .type "tuple_iterator", data := .fields #[.ref l, .int 0 0] }).push
      { cls := .type "enumerate", data := .fields #[.none, .bool false, .ref s.heap.objs.size, rawInt 0, .none, .none] }) (s.heap.objs.size + 1) s.heap.objs.size 0 .none := by
    have := Heap.get?_push_size (s.heap.push { cls := .type "tuple_iterator", data := .fields #[.ref l, .int 0 0] })
      (o := { cls := .type "enumerate", data := .fields #[.none, .bool false, .ref s.heap.objs.size, rawInt 0, .none, .none] }) rfl
    rw [hz] at this; exact this
  exact ⟨⟨_, he, rfl⟩, h _ he (Heap.get?_push_of_some _ (Heap.get?_push_size _ rfl)) (by rw [Heap.size_push, hz]) fun b o x => Heap.get?_push_of_some _ (Heap.get?_push_of_some _ x)⟩
/-- the tuple at a as it stands at each turn, each item in a new pair -/
def IteT (K : Fg) (a : Addr) : It :=
  ⟨fun i H => ∃ (xs : List V) (x : V), SqT K H a xs ∧ xs[i]? = some x, fun i H v H' => ∃ T x, v = .ref T ∧ H T = none ∧ H' = upd H T (.tup [.int (i : Nat), x]) ∧ ∀ xs, SqT K H a xs → xs[i]? = some x, fun i H => ∃ xs : List V, SqT K H a xs ∧ xs.length ≤ i⟩
theorem turn_enumT {P : Program} {w : World} {K : Fg} {elts : List Expr} {kk : Nat} {tpos : Pos} (a e it : Addr) :
    Turn P w K (.Tuple elts kk tpos) (IteT K a) [e, it] e (fun i h => (∃ old, IsEnum h e it ((i : Nat) : Int) old) ∧ h.IsTupleIter it a i ∧ e ≠ it ∧ a ≠ it ∧ e ≠ a) where
  mem := by simp
  obj := fun i h st b hb => by
    obtain ⟨⟨old, he⟩, ⟨o, ho, hc, hd⟩, _⟩ := st
    have e' : b = e ∨ b = it := by simpa using hb
    rcases e' with z | z
    · rw [z]; exact ⟨_, he, fun v q => nomatch q⟩
    · rw [z]; exact ⟨o, ho, fun v q => by rw [hd] at q; cases q⟩
  keep := fun i h h' st k => let ⟨⟨old, he⟩, hi, hne⟩ := st; ⟨⟨old, k e (by simp) _ he⟩, hi.at fun o q => k it (by simp) o q, hne⟩
  item := by
    intro X hP hw hK hc i pins s σ H E I hf st hg
    subst hP hw hK
    obtain ⟨⟨old, he⟩, hit, hne, hai, hea⟩ := st
    obtain ⟨xs, x, hq, hx⟩ := hg
    obtain ⟨its, rv, p, hz⟩ := I.tuple hq
    obtain ⟨u, hu, ru⟩ := rv.get hx
    have hel : e < s.heap.objs.size := Heap.lt_size he
    have hil : it < s.heap.objs.size := by obtain ⟨_, q, _⟩ := hit; exact Heap.lt_size q
    have D := Draws.tuple (prog := X.prog) (w := X.w) (A := X.A.in1) (show X.A.in1.handled = none from I.ok.hd hc) it a hai its.toArray
    have hl := rv.length
    have hlt : i < its.toArray.size := by
      have := (List.getElem?_eq_some_iff.mp hu).1
      simpa using this
    refine wpAny_pyNext_enum_itemD D he ⟨hit, (show s.heap.IsTuple a its.toArray from p)⟩ hlt hne (by simp [hne, hea]) fun x' h' tk hx' ho hit' hT hsz hk => ?_
    have ex : x' = u := by
      have z : its.toArray[i]? = some u := by simpa using hu
      rw [z] at hx'; exact (Option.some.inj hx').symm
    subst ex
    refine ⟨_, rfl, wpAny_letOwnedTupleGo_enum (s := { s with heap := h', toks := tk + 1 }) ho fun h'' he' sb => ?_⟩
    have hT2 : h''.get? s.heap.objs.size = some { cls := .type "tuple", data := .seq #[.int i tk, x'] } := (sb.2 _ (Nat.ne_of_gt hel)).trans hT
    have new : ObjOk X.prog X.w (upd H s.heap.objs.size (.tup [.int (i : Nat), x])) h'' s.heap.objs.size (.tup [.int (i : Nat), x]) :=
      ⟨by show 2 ≤ sizeLine; decide, [.int i tk, x'], .cons ⟨_, rfl⟩ (.cons ru .nil), ⟨_, hT2, rfl, _, rfl⟩⟩
    have I1 : Inv X pins σ (upd H s.heap.objs.size (.tup [.int (i : Nat), x])) { s with heap := h'', toks := tk + 1 } :=
      I.turnedNew (ch := [e, it]) (fun b ob hb q => (sb.2 b (fun z => hb (by simp [z]))).trans (hk b ob (fun z => hb (by simp [z])) (fun z => hb (by simp [z])) q)) hf (Nat.le_refl _) new
    refine ⟨.ref s.heap.objs.size, _, I1, rfl, ⟨_, x, rfl, I.hok.fresh (Nat.le_refl _), rfl, fun ys hy => by rw [I.tuple_inj hy hq]; exact hx⟩, ⟨⟨x', ?_⟩, hit'.1.at fun o q => (sb.2 it (Ne.symm hne)).trans q, hne, hai, hea⟩, fun b hb => ?_⟩
    · have e1 : ((i + 1 : Nat) : Int) = (i : Int) + 1 := by omega
      rw [e1]; exact he'
    · have hb' : b < s.heap.objs.size := by
        have e' : b = e ∨ b = it := by simpa using hb
        rcases e' with z | z
        · rw [z]; exact hel
        · rw [z]; exact hil
      rw [upd_ne (Nat.ne_of_lt hb')]
      exact (hf b hb).1
  done := by
    intro X hP hw hK hc i pins s σ H E I hf st hg
    subst hP hw hK
    obtain ⟨⟨old, he⟩, hit, hne, hai, hea⟩ := st
    obtain ⟨xs, hq, hx⟩ := hg
    obtain ⟨its, rv, p, hz⟩ := I.tuple hq
    obtain ⟨f0, f1, f2, f3, f4, f5⟩ := hf it (by simp)
    have hl := rv.length
    have hT : s.TypeIs (.ref e) "enumerate" := ⟨_, he, rfl⟩
    unfold pyNext
    refine wpAny_bind (wpAny_attempt (wpAny_callSpecial?_slot (name := Str.ofString "__next__") hT F.slot_enumerate_next
      (wpAny_call_entry F.slot_enumerate_next hT F.entry_enumerate_next ?_ (F.args_enumerate_next_1 _))))
    show wpAny _ _ (field (.ref e) 2 >>= _) _ _ _
    refine wpAny_bind (wpAny_field he rfl (x := .ref it) rfl ?_)
    refine wpAny_bind (wpAny_nextOf_tuple_end (show X.A.in1.handled = none from I.ok.hd hc) hit (show s.heap.IsTuple a its.toArray from p) (by simp; omega) fun h' x he' hx' => ?_)
    obtain ⟨o, ho, hc2⟩ := hx'
    refine wpAny_bind (wpAny_isInstance (T := "StopIteration") (b := true) ⟨o, ho, hc2⟩ isSubtype_stop ?_)
    exact wpAny_pure ⟨rfl, I.turned (t' := s.toks) (fun b o hb q => he' b o hb q) f0 f1 f3 f4 f5⟩
  self := fun A i s Q E st h => let ⟨⟨_, he⟩, _⟩ := st; wpAny_pyIter_enum he h
def iEnumT (K : Fg) (ta : TA) : TI := fun σ H R => ta σ H fun vs H1 => ∃ a xs, vs = [.ref a] ∧ SqT K H1 a xs ∧ R (IteT K a) H1
theorem pi_enumT {X : Cx} {e : Expr} {ta : TA} {p pos tpos : Pos} {elts : List Expr} {kk : Nat} (hg : Gl X "enumerate") (hm : X.mg "enumerate" = none) (ha : PA X [e] ta) (hs : starEach [e] X.env = [(false, eval e X.env)] := by rfl) :
    PI X (.Tuple elts kk tpos) (.Call (.Name "enumerate" p) [e] [] pos) (iEnumT X.K ta) := by
  refine ⟨fun pins s σ H R I h => ?_⟩
  refine Call_ (ld_blt I hg hm boot_enumerate (PyProof.Rows.callWith_type1 (thn (ha.run pos pins s σ H _ I h) fun us s1 ⟨vs, H1, I1, r1, q1⟩ => ?_) hs rfl))
  obtain ⟨a, xs, ex, hq, q⟩ := q1
  subst ex
  cases r1 with
  | cons r rr =>
    cases rr
    cases r
    obtain ⟨its, rv, p', hz⟩ := I1.tuple hq
    refine call_enum_tup (show s1.heap.IsTuple a its.toArray from p') fun h' he hit hsz hk => wpAny_pyIter_enum he ?_
    have I2 : Inv X pins σ H1 { s1 with heap := h' } := I1.kept (t' := s1.toks) hk
    have hal : a < s1.heap.objs.size := by obtain ⟨_, q, _⟩ := (show s1.heap.IsTuple a its.toArray from p'); exact Heap.lt_size q
    refine ⟨s1.heap.objs.size + 1, [s1.heap.objs.size + 1, s1.heap.objs.size], _, _, H1, rfl, I2, turn_enumT a (s1.heap.objs.size + 1) s1.heap.objs.size, ⟨⟨.none, he⟩, ⟨_, hit, rfl, rfl⟩, Nat.succ_ne_self _, Nat.ne_of_lt hal, Nat.ne_of_gt (Nat.lt_succ_of_lt hal)⟩, fun b hb => ?_, q⟩
    have e' : b = s1.heap.objs.size + 1 ∨ b = s1.heap.objs.size := by simpa using hb
    have hle : s1.heap.objs.size ≤ b := by
      rcases e' with z | z
      · rw [z]; exact Nat.le_add_right _ _
      · rw [z]; exact Nat.le_refl _
    exact I1.fpOk hle (I1.hok.fresh hle)
/-- over either -/
theorem pi_enumA {X : Cx} {e : Expr} {ta : TA} {p pos tpos : Pos} {elts : List Expr} {kk : Nat} (hg : Gl X "enumerate") (hm : X.mg "enumerate" = none) (ha : PA X [e] ta) (hs : starEach [e] X.env = [(false, eval e X.env)]) :
    PI X (.Tuple elts kk tpos) (.Call (.Name "enumerate" p) [e] [] pos) (fun σ H R => iEnum X.K ta σ H R ∨ iEnumT X.K ta σ H R) :=
  ⟨fun pins s σ H R I z => z.elim (fun z => (pi_enum hg hm ha hs).run pins s σ H R I z) fun z => (pi_enumT hg hm ha hs).run pins s σ H R I z⟩
end SD
namespace SD
open PySem PySem.Spec PyProof.Rows L2
/-- what an iterator of one kind does -/
structure ZSrc (P : Program) (w : World) where
  it : Heap → Addr → Addr → Nat → Prop
  sq : Heap → Addr → Array Value → Prop
  itk : ∀ {h g : Heap} {i l : Addr} {k : Nat}, it h i l k → (∀ o, h.get? i = some o → g.get? i = some o) → it g i l k
  sqk : ∀ {h g : Heap} {l : Addr} {xs : Array Value}, sq h l xs → (∀ o, h.get? l = some o → g.get? l = some o) → sq g l xs
  ito : ∀ {h : Heap} {i l : Addr} {k : Nat}, it h i l k → ∃ o, h.get? i = some o ∧ ∃ fs, o.data = .fields fs
  nx : ∀ {A : Around} {E : Value → Shared → Prop} {s : Shared} {i l : Addr} {k : Nat} {xs : Array Value} {x : Value} {Q : Value → Shared → Prop}, it s.heap i l k → sq s.heap l xs → xs[k]? = some x →
    (∀ g, it g i l (k + 1) → Heap.SameBut i s.heap g → Q x { s with heap := g }) → wpAny (model P w) A (Builtin.SmallTypes.nextOf (.ref i)) Q E s
  fin : ∀ {A : Around} {E : Value → Shared → Prop} {s : Shared} {i l : Addr} {k : Nat} {xs : Array Value} {Q : Value → Shared → Prop}, A.handled = none → it s.heap i l k → sq s.heap l xs → xs[k]? = none →
    (∀ g e, Heap.ExtBut i s.heap g → (∃ o, g.get? e = some o ∧ o.cls = .type "StopIteration") → E (.ref e) { s with heap := g }) → wpAny (model P w) A (Builtin.SmallTypes.nextOf (.ref i)) Q E s
def srcL (P : Program) (w : World) : ZSrc P w where
  it := fun h i l k => h.IsListIter i l k
  sq := fun h l xs => h.IsList l xs
  itk := fun a e => a.at e
  sqk := fun a e => a.at e
  ito := fun ⟨o, e, _, d⟩ => ⟨o, e, _, d⟩
  nx := fun a b c d => wpAny_nextOf_list_item a b c d
  fin := fun a b c d e => wpAny_nextOf_list_end a b c d e
def srcT (P : Program) (w : World) : ZSrc P w where
  it := fun h i l k => h.IsTupleIter i l k
  sq := fun h l xs => h.IsTuple l xs
  itk := fun a e => a.at e
  sqk := fun a e => a.at e
  ito := fun ⟨o, e, _, d⟩ => ⟨o, e, _, d⟩
  nx := fun a b c d => RZ.nextOf_tuple_item a b c d
  fin := fun a b c d e => RZ.nextOf_tuple_end a b c d e
section
variable {prog : Program} {w : World} {A : Around} {E : Value → Shared → Prop} {s : Shared} {S1 S2 : ZSrc prog w} {z TI TO i1 i2 l1 l2 : Addr} {k1 k2 : Nat} {xs ys : Array Value} {a b : Value}
abbrev Kp4 (z TO i1 i2 : Addr) (h g : Heap) : Prop := ∀ (c : Addr) o, c ≠ z → c ≠ TO → c ≠ i1 → c ≠ i2 → h.get? c = some o → g.get? c = some o
/-- both have one more: a new pair -/
theorem zipM_item {x y : Value} {Q : Value → Shared → Prop} (D : ZipApart z TI TO i1 i2 l1 l2) (hz : IsZip s.heap z TI TO .none) (hp : IsPair s.heap TI (.ref i1) (.ref i2)) (ho : IsPair s.heap TO a b)
    (a1 : S1.it s.heap i1 l1 k1) (a2 : S2.it s.heap i2 l2 k2) (b1 : S1.sq s.heap l1 xs) (b2 : S2.sq s.heap l2 ys) (hx : xs[k1]? = some x) (hy : ys[k2]? = some y)
    (c : ∀ g, IsZip g z TI TO (rawInt s.heap.objs.size) → IsPair g TO x y → S1.it g i1 l1 (k1 + 1) → S2.it g i2 l2 (k2 + 1) → IsPair g s.heap.objs.size x y → g.objs.size = s.heap.objs.size + 1 → Kp4 z TO i1 i2 s.heap g → Q (.ref s.heap.objs.size) { s with heap := g }) :
    wpAny (model prog w) A (Builtin.«zip.__next__» ⟨[.ref z], []⟩) (fun fin t => ∃ v, fin = .done (.ret v) ∧ Q v t) E s := by
  show wpAny _ _ (field (.ref _) 2 >>= _) _ _ _
  refine wpAny_bind (wpAny_field hz rfl (x := .bool false) rfl ?_); show wpAny _ _ (field (.ref _) 3 >>= _) _ _ _
  refine wpAny_bind (wpAny_field hz rfl (x := .ref _) rfl ?_); refine wpAny_bind (wpAny_seqItems hp rfl ?_)
  show wpAny _ _ (Builtin.SmallTypes.ownedTupleIsFree (.ref _) >>= _) _ _ _
  refine wpAny_bind ?_; unfold Builtin.SmallTypes.ownedTupleIsFree; refine wpAny_bind (wpAny_field hz rfl (x := .none) rfl (wpAny_pure ?_))
  simp only [if_true]; refine wpAny_bind (wpAny_rule ?_); refine wpAny_bind (wpAny_field hz rfl (x := .ref _) rfl ?_)
  refine wpAny_bind (wpAny_setField_rec hz (by simp) fun g1 z1 m1 => ?_)
  have z1 : IsZip g1 z TI TO .ellipsis := z1
  have k1' : ∀ (d : Addr) o, d ≠ z → s.heap.get? d = some o → g1.get? d = some o := fun d o q e => m1.extBut _ _ q e
  refine wpAny_bind ?_
  simp only [List.zipIdx_cons, List.zipIdx_nil, List.forIn_cons, List.forIn_nil]
  refine wpAny_bind (wpAny_bind (wpAny_onRaise ?_)); show wpAny _ _ (Builtin.SmallTypes.nextOf (.ref i1) >>= _) _ _ _
  refine wpAny_bind (S1.nx (S1.itk a1 fun o e => k1' _ o D.i1z e) (S1.sqk b1 fun o e => k1' _ o D.l1z e) hx fun g2 f1 m2 => wpAny_pure ?_)
  have k2' : ∀ (d : Addr) o, d ≠ z → d ≠ i1 → s.heap.get? d = some o → g2.get? d = some o := fun d o q r e => m2.extBut _ _ r (k1' d o q e)
  have o2 : IsPair g2 TO a b := k2' _ _ D.TOz D.TOi1 ho
  refine wpAny_bind (wpAny_seqItems o2 rfl ?_)
  refine wpAny_bind (wpAny_updateSeq_pair o2 fun g3 o3 m3 => ?_)
  have o3 : IsPair g3 TO x b := o3
  have k3 : ∀ (d : Addr) o, d ≠ z → d ≠ i1 → d ≠ TO → s.heap.get? d = some o → g3.get? d = some o := fun d o q r t e => m3.extBut _ _ t (k2' d o q r e)
  refine wpAny_bind (wpAny_letGo (wpAny_pure ?_))
  refine wpAny_bind (wpAny_bind (wpAny_onRaise ?_)); show wpAny _ _ (Builtin.SmallTypes.nextOf (.ref i2) >>= _) _ _ _
  refine wpAny_bind (S2.nx (S2.itk a2 fun o e => k3 _ o D.i2z D.i12.symm D.TOi2.symm e) (S2.sqk b2 fun o e => k3 _ o D.l2z D.l2i1 D.l2TO e) hy fun g4 f2 m4 => wpAny_pure ?_)
  have o4 : IsPair g4 TO x b := m4.extBut _ _ D.TOi2 o3
  refine wpAny_bind (wpAny_seqItems o4 rfl ?_)
  refine wpAny_bind (wpAny_updateSeq_pair o4 fun g5 o5 m5 => ?_)
  have o5 : IsPair g5 TO x y := o5
  refine wpAny_bind (wpAny_letGo (wpAny_pure (wpAny_pure ?_)))
  refine wpAny_bind (wpAny_seqItems o5 rfl ?_)
  refine wpAny_bind (wpAny_newTuple ?_)
  have sz : g5.objs.size = s.heap.objs.size := by rw [m5.1, m4.1, m3.1, m2.1, m1.1]
  have up5 : Kp4 z TO i1 i2 s.heap g5 := fun d o q1 q2 q3 q4 e => m5.extBut _ _ q2 (m4.extBut _ _ q4 (k3 d o q1 q3 q2 e))
  have z5 : IsZip g5 z TI TO .ellipsis := m5.extBut _ _ D.TOz.symm (m4.extBut _ _ D.i2z.symm (m3.extBut _ _ D.TOz.symm (m2.extBut _ _ D.i1z.symm z1)))
  have f1' : S1.it g5 i1 l1 (k1 + 1) := S1.itk f1 fun o e => m5.extBut _ _ D.TOi1.symm (m4.extBut _ _ D.i12 (m3.extBut _ _ D.TOi1.symm e))
  have f2' : S2.it g5 i2 l2 (k2 + 1) := S2.itk f2 fun o e => m5.extBut _ _ D.TOi2.symm e
  have zlt : z < g5.objs.size := Heap.lt_size z5
  show wpAny _ _ (Builtin.SmallTypes.ownedTupleHandOut (.ref z) (.ref g5.objs.size) >>= _) _ _ _
  refine wpAny_bind ?_
  unfold Builtin.SmallTypes.ownedTupleHandOut
  have z6 : IsZip (g5.push { cls := .type "tuple", data := .seq #[x, y] }) z TI TO .ellipsis := Heap.get?_push_of_some _ z5
  refine wpAny_bind (wpAny_setField_rec z6 (by simp) fun g7 z7 m7 => ?_)
  have z7 : IsZip g7 z TI TO (rawInt g5.objs.size) := z7
  refine wpAny_setField_rec z7 (by simp) fun g8 z8 m8 => ?_
  have z8 : IsZip g8 z TI TO (rawInt g5.objs.size) := z8
  have up : ∀ (d : Addr) o, d ≠ z → (g5.push { cls := .type "tuple", data := .seq #[x, y] }).get? d = some o → g8.get? d = some o := fun d o q e => m8.extBut _ _ q (m7.extBut _ _ q e)
  have old : ∀ (d : Addr) o, d ≠ z → g5.get? d = some o → g8.get? d = some o := fun d o q e => up d o q (Heap.get?_push_of_some _ e)
  have t8 : IsPair g8 g5.objs.size x y := up _ _ (Nat.ne_of_gt zlt) (Heap.get?_push_size _ rfl)
  have s8 : g8.objs.size = g5.objs.size + 1 := by rw [m8.1, m7.1, Heap.size_push]
  rw [sz] at z8 t8 s8
  refine wpAny_pure ⟨_, rfl, ?_⟩
  show Q (.ref g5.objs.size) _
  rw [sz]
  exact c g8 z8 (old _ _ D.TOz o5) (S1.itk f1' fun o e => old _ o D.i1z e) (S2.itk f2' fun o e => old _ o D.i2z e) t8 s8 fun d o q1 q2 q3 q4 e => old d o q1 (up5 d o q1 q2 q3 q4 e)
/-- one of both has no more -/
theorem zipM_end {Q : Fin → Shared → Prop} (hh : A.handled = none) (D : ZipApart z TI TO i1 i2 l1 l2) (hz : IsZip s.heap z TI TO .none) (hp : IsPair s.heap TI (.ref i1) (.ref i2)) (ho : IsPair s.heap TO a b)
    (a1 : S1.it s.heap i1 l1 k1) (a2 : S2.it s.heap i2 l2 k2) (b1 : S1.sq s.heap l1 xs) (b2 : S2.sq s.heap l2 ys) (hn : xs[k1]? = none ∨ ys[k2]? = none)
    (c : ∀ g e, Kp4 z TO i1 i2 s.heap g → (∃ o, g.get? e = some o ∧ o.cls = .type "StopIteration") → E (.ref e) { s with heap := g }) : wpAny (model prog w) A (Builtin.«zip.__next__» ⟨[.ref z], []⟩) Q E s := by
  show wpAny _ _ (field (.ref _) 2 >>= _) _ _ _
  refine wpAny_bind (wpAny_field hz rfl (x := .bool false) rfl ?_); show wpAny _ _ (field (.ref _) 3 >>= _) _ _ _
  refine wpAny_bind (wpAny_field hz rfl (x := .ref _) rfl ?_); refine wpAny_bind (wpAny_seqItems hp rfl ?_)
  show wpAny _ _ (Builtin.SmallTypes.ownedTupleIsFree (.ref _) >>= _) _ _ _
  refine wpAny_bind ?_; unfold Builtin.SmallTypes.ownedTupleIsFree; refine wpAny_bind (wpAny_field hz rfl (x := .none) rfl (wpAny_pure ?_))
  simp only [if_true]; refine wpAny_bind (wpAny_rule ?_); refine wpAny_bind (wpAny_field hz rfl (x := .ref _) rfl ?_)
  refine wpAny_bind (wpAny_setField_rec hz (by simp) fun g1 z1 m1 => ?_)
  have z1 : IsZip g1 z TI TO .ellipsis := z1
  have k1' : ∀ (d : Addr) o, d ≠ z → s.heap.get? d = some o → g1.get? d = some o := fun d o q e => m1.extBut _ _ q e
  refine wpAny_bind ?_
  simp only [List.zipIdx_cons, List.zipIdx_nil, List.forIn_cons, List.forIn_nil]
  refine wpAny_bind (wpAny_bind (wpAny_onRaise ?_)); show wpAny _ _ (Builtin.SmallTypes.nextOf (.ref i1) >>= _) _ _ _
  cases hx : xs[k1]? with
  | none =>
    refine wpAny_bind (S1.fin hh (S1.itk a1 fun o e => k1' _ o D.i1z e) (S1.sqk b1 fun o e => k1' _ o D.l1z e) hx fun g2 e m2 ⟨oe, he, hc⟩ => ?_)
    have z2 : IsZip g2 z TI TO .ellipsis := m2 _ _ D.i1z.symm z1
    have ez : e ≠ z := fun q => by rw [q, z2] at he; cases he; simp at hc
    exact wpAny_setField_rec z2 (by simp) fun g3 _ m3 => c g3 e (fun d o q1 _ q3 _ r => m3.extBut _ _ q1 (m2 _ _ q3 (k1' d o q1 r))) ⟨oe, m3.extBut _ _ ez he, hc⟩
  | some x =>
    have hy : ys[k2]? = none := hn.resolve_left fun q => by rw [hx] at q; cases q
    refine wpAny_bind (S1.nx (S1.itk a1 fun o e => k1' _ o D.i1z e) (S1.sqk b1 fun o e => k1' _ o D.l1z e) hx fun g2 f1 m2 => wpAny_pure ?_)
    have k2' : ∀ (d : Addr) o, d ≠ z → d ≠ i1 → s.heap.get? d = some o → g2.get? d = some o := fun d o q r e => m2.extBut _ _ r (k1' d o q e)
    have o2 : IsPair g2 TO a b := k2' _ _ D.TOz D.TOi1 ho
    refine wpAny_bind (wpAny_seqItems o2 rfl ?_)
    refine wpAny_bind (wpAny_updateSeq_pair o2 fun g3 _ m3 => ?_)
    have k3 : ∀ (d : Addr) o, d ≠ z → d ≠ i1 → d ≠ TO → s.heap.get? d = some o → g3.get? d = some o := fun d o q r t e => m3.extBut _ _ t (k2' d o q r e)
    refine wpAny_bind (wpAny_letGo (wpAny_pure ?_))
    refine wpAny_bind (wpAny_bind (wpAny_onRaise ?_)); show wpAny _ _ (Builtin.SmallTypes.nextOf (.ref i2) >>= _) _ _ _
    refine wpAny_bind (S2.fin hh (S2.itk a2 fun o e => k3 _ o D.i2z D.i12.symm D.TOi2.symm e) (S2.sqk b2 fun o e => k3 _ o D.l2z D.l2i1 D.l2TO e) hy fun g4 e m4 ⟨oe, he, hc⟩ => ?_)
    have z4 : IsZip g4 z TI TO .ellipsis := m4 _ _ D.i2z.symm (m3.extBut _ _ D.TOz.symm (m2.extBut _ _ D.i1z.symm z1))
    have ez : e ≠ z := fun q => by rw [q, z4] at he; cases he; simp at hc
    exact wpAny_setField_rec z4 (by simp) fun g5 _ m5 => c g5 e (fun d o q1 q2 q3 q4 r => m5.extBut _ _ q1 (m4 _ _ q4 (k3 d o q1 q3 q2 r))) ⟨oe, m5.extBut _ _ ez he, hc⟩
theorem nextM_item {x y : Value} {Q : Option Value → Shared → Prop} (D : ZipApart z TI TO i1 i2 l1 l2) (hz : IsZip s.heap z TI TO .none) (hp : IsPair s.heap TI (.ref i1) (.ref i2)) (ho : IsPair s.heap TO a b)
    (a1 : S1.it s.heap i1 l1 k1) (a2 : S2.it s.heap i2 l2 k2) (b1 : S1.sq s.heap l1 xs) (b2 : S2.sq s.heap l2 ys) (hx : xs[k1]? = some x) (hy : ys[k2]? = some y)
    (c : ∀ g, IsZip g z TI TO (rawInt s.heap.objs.size) → IsPair g TO x y → S1.it g i1 l1 (k1 + 1) → S2.it g i2 l2 (k2 + 1) → IsPair g s.heap.objs.size x y → g.objs.size = s.heap.objs.size + 1 → Kp4 z TO i1 i2 s.heap g → Q (some (.ref s.heap.objs.size)) { s with heap := g }) :
    wpAny (model prog w) A (pyNext (.ref z)) Q E s := by
  have ty : s.TypeIs (.ref z) "zip" := ⟨_, hz, rfl⟩
  unfold pyNext
  refine wpAny_bind (wpAny_attempt (wpAny_callSpecial?_slot (name := Str.ofString "__next__") ty F.slot_zip_next (wpAny_call_entry F.slot_zip_next ty F.entry_zip_next ?_ (F.args_zip_next_1 _))))
  exact zipM_item D hz hp ho a1 a2 b1 b2 hx hy fun g q1 q2 q3 q4 q5 q6 q7 => wpAny_pure (c g q1 q2 q3 q4 q5 q6 q7)
theorem nextM_end {Q : Option Value → Shared → Prop} (hh : A.handled = none) (D : ZipApart z TI TO i1 i2 l1 l2) (hz : IsZip s.heap z TI TO .none) (hp : IsPair s.heap TI (.ref i1) (.ref i2)) (ho : IsPair s.heap TO a b)
    (a1 : S1.it s.heap i1 l1 k1) (a2 : S2.it s.heap i2 l2 k2) (b1 : S1.sq s.heap l1 xs) (b2 : S2.sq s.heap l2 ys) (hn : xs[k1]? = none ∨ ys[k2]? = none)
    (c : ∀ g, Kp4 z TO i1 i2 s.heap g → Q none { s with heap := g }) : wpAny (model prog w) A (pyNext (.ref z)) Q E s := by
  have ty : s.TypeIs (.ref z) "zip" := ⟨_, hz, rfl⟩
  unfold pyNext
  refine wpAny_bind (wpAny_attempt (wpAny_callSpecial?_slot (name := Str.ofString "__next__") ty F.slot_zip_next (wpAny_call_entry F.slot_zip_next ty F.entry_zip_next ?_ (F.args_zip_next_1 _))))
  refine zipM_end hh D hz hp ho a1 a2 b1 b2 hn fun g e hk ⟨o, h1, h2⟩ => ?_
  refine wpAny_bind (wpAny_isInstance (T := "StopIteration") (b := true) ⟨o, h1, h2⟩ isSubtype_stop ?_)
  exact wpAny_pure (c _ hk)
end
def itName (t : Bool) : String := if t then "tuple_iterator" else "list_iterator"
def srcB (P : Program) (w : World) (t : Bool) : ZSrc P w := if t then srcT P w else srcL P w
abbrev zN1 (h : Heap) (t : Bool) (l1 : Addr) : Heap := h.push { cls := .type (itName t), data := .fields #[.ref l1, .int 0 0] }
abbrev zN2 (h : Heap) (t u : Bool) (l1 l2 : Addr) : Heap := (zN1 h t l1).push { cls := .type (itName u), data := .fields #[.ref l2, .int 0 0] }
abbrev zN3 (h : Heap) (t u : Bool) (l1 l2 : Addr) : Heap := (zN2 h t u l1 l2).push { cls := .type "tuple", data := .seq #[.ref h.objs.size, .ref (zN1 h t l1).objs.size] }
abbrev zN4 (h : Heap) (t u : Bool) (l1 l2 : Addr) : Heap := (zN3 h t u l1 l2).push { cls := .type "tuple", data := .seq #[.none, .none] }
abbrev zN5 (h : Heap) (t u : Bool) (l1 l2 : Addr) : Heap := (zN4 h t u l1 l2).push { cls := .type "zip", data := .fields #[.none, .bool false, .bool false, .ref (zN2 h t u l1 l2).objs.size, .ref (zN3 h t u l1 l2).objs.size] }
theorem zip_makes (t u : Bool) (l1 l2 : Addr) (xs ys : Array Value) : Meets (Builtin.«zip.__new__» ⟨[.type "zip", .ref l1, .ref l2], []⟩)
    (fun _ R s => (∀ P w, (srcB P w t).sq s.heap l1 xs) ∧ (∀ P w, (srcB P w u).sq s.heap l2 ys) ∧ R (.ok (.ret (.ref (zN4 s.heap t u l1 l2).objs.size))) { s with heap := zN5 s.heap t u l1 l2 }) :=
  .of_wp fun prog w A R s h => by
    obtain ⟨hp, g, d, tk, os⟩ := s
    obtain ⟨q1, q2, h⟩ := h
    have hsub := sub_zip
    have q1 := q1 prog w
    have q2 := q2 prog w
    cases t <;> cases u
    · have e1 : Heap.IsList (Shared.heap ⟨hp, g, d, tk, os⟩) l1 xs := q1
      have e2 : Heap.IsList (Shared.heap ⟨hp.push { cls := .type "list_iterator", data := .fields #[.ref l1, .int 0 0] }, g, d, tk, os⟩) l2 ys := Heap.IsList.push q2 _
      wp_walk using wpAny_pyIter_list e1, wpAny_pyIter_list e2
      exact ⟨_, rfl, h⟩
    · have e1 : Heap.IsList (Shared.heap ⟨hp, g, d, tk, os⟩) l1 xs := q1
      have e2 : Heap.IsTuple (Shared.heap ⟨hp.push { cls := .type "list_iterator", data := .fields #[.ref l1, .int 0 0] }, g, d, tk, os⟩) l2 ys := Heap.IsTuple.push q2 _
      wp_walk using wpAny_pyIter_list e1, wpAny_pyIter_tuple e2
      exact ⟨_, rfl, h⟩
    · have e1 : Heap.IsTuple (Shared.heap ⟨hp, g, d, tk, os⟩) l1 xs := q1
      have e2 : Heap.IsList (Shared.heap ⟨hp.push { cls := .type "tuple_iterator", data := .fields #[.ref l1, .int 0 0] }, g, d, tk, os⟩) l2 ys := Heap.IsList.push q2 _
      wp_walk using wpAny_pyIter_tuple e1, wpAny_pyIter_list e2
      exact ⟨_, rfl, h⟩
    · have e1 : Heap.IsTuple (Shared.heap ⟨hp, g, d, tk, os⟩) l1 xs := q1
      have e2 : Heap.IsTuple (Shared.heap ⟨hp.push { cls := .type "tuple_iterator", data := .fields #[.ref l1, .int 0 0] }, g, d, tk, os⟩) l2 ys := Heap.IsTuple.push q2 _
      wp_walk using wpAny_pyIter_tuple e1, wpAny_pyIter_tuple e2
      exact ⟨_, rfl, h⟩
section
variable {prog : Program} {w : World} {A : Around} {E : Value → Shared → Prop} {s : Shared}
theorem it_fresh {h : Heap} {t : Bool} {i l : Addr} (e : h.get? i = some { cls := .type (itName t), data := .fields #[.ref l, .int 0 0] }) : (srcB prog w t).it h i l 0 := by
  cases t <;> exact ⟨_, e, rfl, rfl⟩
theorem call_zipM {t u : Bool} {l1 l2 : Addr} {xs ys : Array Value} {Q : Value → Shared → Prop} (q1 : ∀ P w, (srcB P w t).sq s.heap l1 xs) (q2 : ∀ P w, (srcB P w u).sq s.heap l2 ys)
    (c : ∀ g, IsZip g (s.heap.objs.size + 4) (s.heap.objs.size + 2) (s.heap.objs.size + 3) .none → IsPair g (s.heap.objs.size + 2) (.ref s.heap.objs.size) (.ref (s.heap.objs.size + 1)) → IsPair g (s.heap.objs.size + 3) .none .none →
      (srcB prog w t).it g s.heap.objs.size l1 0 → (srcB prog w u).it g (s.heap.objs.size + 1) l2 0 → (∀ (d : Addr) o, s.heap.get? d = some o → g.get? d = some o) → Q (.ref (s.heap.objs.size + 4)) { s with heap := g }) :
    wpAny (model prog w) A (call (.type "zip") [.ref l1, .ref l2]) Q E s := by
  refine callType_new F.called_zip (by decide) (F.typeCall_zip_2 _ _) (F.newCall_zip_2 _ _) (fun obj => F.args_object_init_3 obj _ _) F.entry_zip_new (zip_makes t u l1 l2 xs ys) ⟨q1, q2, ?_⟩
  have n1 : (zN1 s.heap t l1).objs.size = s.heap.objs.size + 1 := Heap.size_push ..
  have n2 : (zN2 s.heap t u l1 l2).objs.size = s.heap.objs.size + 2 := by rw [Heap.size_push, n1]
  have n3 : (zN3 s.heap t u l1 l2).objs.size = s.heap.objs.size + 3 := by rw [Heap.size_push, n2]
  have n4 : (zN4 s.heap t u l1 l2).objs.size = s.heap.objs.size + 4 := by rw [Heap.size_push, n3]
  have p1 : ∀ (d : Addr) o, (zN4 s.heap t u l1 l2).get? d = some o → (zN5 s.heap t u l1 l2).get? d = some o := fun d o e => Heap.get?_push_of_some _ e
  have p2 : ∀ (d : Addr) o, (zN3 s.heap t u l1 l2).get? d = some o → (zN5 s.heap t u l1 l2).get? d = some o := fun d o e => p1 d o (Heap.get?_push_of_some _ e)
  have p3 : ∀ (d : Addr) o, (zN2 s.heap t u l1 l2).get? d = some o → (zN5 s.heap t u l1 l2).get? d = some o := fun d o e => p2 d o (Heap.get?_push_of_some _ e)
  have p4 : ∀ (d : Addr) o, (zN1 s.heap t l1).get? d = some o → (zN5 s.heap t u l1 l2).get? d = some o := fun d o e => p3 d o (Heap.get?_push_of_some _ e)
  have j5 : (zN5 s.heap t u l1 l2).get? (zN4 s.heap t u l1 l2).objs.size = some _ := Heap.get?_push_size _ rfl
  have j4 : (zN5 s.heap t u l1 l2).get? (zN3 s.heap t u l1 l2).objs.size = some _ := p1 _ _ (Heap.get?_push_size _ rfl)
  have j3 : (zN5 s.heap t u l1 l2).get? (zN2 s.heap t u l1 l2).objs.size = some _ := p2 _ _ (Heap.get?_push_size _ rfl)
  have j2 : (zN5 s.heap t u l1 l2).get? (zN1 s.heap t l1).objs.size = some _ := p3 _ _ (Heap.get?_push_size _ rfl)
  have j1 : (zN5 s.heap t u l1 l2).get? s.heap.objs.size = some _ := p4 _ _ (Heap.get?_push_size _ rfl)
  show _ ∧ _
  rw [n2, n3, n4] at j5
  rw [n1, n2] at j3
  rw [n3] at j4
  rw [n1] at j2
  rw [n4]
  exact ⟨⟨_, j5, rfl⟩, c _ j5 j3 j4 (it_fresh j1) (it_fresh j2) fun d o e => p4 d o (Heap.get?_push_of_some _ e)⟩
end
end SD
namespace SD
open PySem PySem.Spec PyProof.Rows L2
def sqB (t : Bool) (K : PySem.W.Frag) (H : Hp) (a : Addr) (xs : List V) : Prop := if t then SqT K H a xs else SqL K H a xs
section
variable {X : Cx} {pins : List (Addr × Obj)} {σ : L2.St} {H : Hp} {s : Shared} {a : Addr} {xs ys : List V}
theorem Inv.sqB {t : Bool} (I : Inv X pins σ H s) (h : sqB t X.K H a xs) : ∃ its : List Value, Vals xs its ∧ ∀ P w, (srcB P w t).sq s.heap a its.toArray := by
  cases t with
  | true =>
    obtain ⟨its, r, p, _⟩ := I.tuple h
    exact ⟨its, r, fun _ _ => p⟩
  | false =>
    obtain ⟨its, r, p, _⟩ := I.list h
    exact ⟨its, r, fun _ _ => p.isList⟩
theorem Inv.sqB_inj {t : Bool} (I : Inv X pins σ H s) (h : SD.sqB t X.K H a xs) (h' : SD.sqB t X.K H a ys) : xs = ys := by
  cases t with
  | true => exact I.tuple_inj h h'
  | false => exact I.list_inj h h'
end
theorem sq_lt {P : Program} {w : World} {t : Bool} {h : Heap} {l : Addr} {xs : Array Value} (q : (srcB P w t).sq h l xs) : l < h.objs.size := by
  cases t with
  | true => obtain ⟨o, e, _⟩ := q; exact Heap.lt_size e
  | false => obtain ⟨o, e, _⟩ := q; exact Heap.lt_size e
def ItzM (K : PySem.W.Frag) (t u : Bool) (a b : Addr) : It :=
  ⟨fun i H => ∃ (xs ys : List V) (x y : V), sqB t K H a xs ∧ sqB u K H b ys ∧ xs[i]? = some x ∧ ys[i]? = some y,
    fun i H v H' => ∃ T x y, v = .ref T ∧ H T = none ∧ H' = upd H T (.tup [x, y]) ∧ (∀ xs, sqB t K H a xs → xs[i]? = some x) ∧ ∀ ys, sqB u K H b ys → ys[i]? = some y,
    fun i H => ∃ xs ys : List V, sqB t K H a xs ∧ sqB u K H b ys ∧ (xs.length ≤ i ∨ ys.length ≤ i)⟩
theorem five {c z TI TO i1 i2 : Addr} (h : c ∈ [z, TI, TO, i1, i2]) : c = z ∨ c = TI ∨ c = TO ∨ c = i1 ∨ c = i2 := by simpa using h
theorem turn_zipM {P : Program} {w : World} {K : PySem.W.Frag} {elts : List Expr} {kk : Nat} {tpos : Pos} {t u : Bool} {a b z TI TO i1 i2 : Addr} (D : ZipApart z TI TO i1 i2 a b) :
    Turn P w K (.Tuple elts kk tpos) (ItzM K t u a b) [z, TI, TO, i1, i2] z (fun i h => IsZip h z TI TO .none ∧ IsPair h TI (.ref i1) (.ref i2) ∧ (∃ x y, IsPair h TO x y) ∧ (srcB P w t).it h i1 a i ∧ (srcB P w u).it h i2 b i) where
  mem := List.mem_cons_self ..
  obj := fun i h ⟨q1, q2, ⟨x, y, q3⟩, q4, q5⟩ c hc => by
    obtain ⟨o4, e4, f4, d4⟩ := (srcB P w t).ito q4
    obtain ⟨o5, e5, f5, d5⟩ := (srcB P w u).ito q5
    rcases five hc with r | r | r | r | r <;> rw [r]
    · exact ⟨_, q1, nofun⟩
    · exact ⟨_, q2, nofun⟩
    · exact ⟨_, q3, nofun⟩
    · exact ⟨o4, e4, fun v q => by rw [d4] at q; cases q⟩
    · exact ⟨o5, e5, fun v q => by rw [d5] at q; cases q⟩
  keep := fun i h g ⟨q1, q2, ⟨x, y, q3⟩, q4, q5⟩ k =>
    ⟨k z (by simp) _ q1, k TI (by simp) _ q2, ⟨x, y, k TO (by simp) _ q3⟩, (srcB P w t).itk q4 fun o e => k i1 (by simp) o e, (srcB P w u).itk q5 fun o e => k i2 (by simp) o e⟩
  item := by
    intro X hP hw hK hc i pins s σ H E I hf ⟨q1, q2, ⟨x0, y0, q3⟩, q4, q5⟩ ⟨xs, ys, x, y, s1, s2, hx, hy⟩
    subst hP hw hK
    obtain ⟨its, rv, p1⟩ := Inv.sqB I s1
    obtain ⟨jts, rw_, p2⟩ := Inv.sqB I s2
    obtain ⟨v1, e1, r1⟩ := rv.get hx
    obtain ⟨v2, e2, r2⟩ := rw_.get hy
    have zl : z < s.heap.objs.size := Heap.lt_size q1
    refine nextM_item (S1 := srcB X.prog X.w t) (S2 := srcB X.prog X.w u) D q1 q2 q3 q4 q5 (p1 _ _) (p2 _ _) (x := v1) (y := v2) (by simpa using e1) (by simpa using e2) fun g z1 o1 f1 f2 hT _ kp => ?_
    refine ⟨_, rfl, wpAny_letOwnedTupleGo_zip (s := { s with heap := g }) z1 fun g2 z2 sb => ?_⟩
    have tz : g2.get? s.heap.objs.size = some { cls := .type "tuple", data := .seq #[v1, v2] } := (sb.2 _ (Nat.ne_of_gt zl)).trans hT
    have I1 : Inv X pins σ (upd H s.heap.objs.size (.tup [x, y])) { s with heap := g2 } := I.turnedNew (t' := s.toks) (ch := [z, TI, TO, i1, i2]) (fun c o hb q => by
        have nb : c ≠ z ∧ c ≠ TI ∧ c ≠ TO ∧ c ≠ i1 ∧ c ≠ i2 := by simpa using hb
        exact (sb.2 c nb.1).trans (kp c o nb.1 nb.2.2.1 nb.2.2.2.1 nb.2.2.2.2 q)) hf (Nat.le_refl _) ⟨by show 2 ≤ sizeLine; decide, [v1, v2], .cons r1 (.cons r2 .nil), ⟨_, tz, rfl, _, rfl⟩⟩
    refine ⟨.ref s.heap.objs.size, _, I1, rfl, ⟨_, x, y, rfl, I.hok.fresh (Nat.le_refl _), rfl, fun l hl => by rw [Inv.sqB_inj I hl s1]; exact hx, fun l hl => by rw [Inv.sqB_inj I hl s2]; exact hy⟩,
      ⟨z2, (sb.2 _ D.TIz).trans (kp _ _ D.TIz D.TITO D.TIi1 D.TIi2 q2), ⟨v1, v2, (sb.2 _ D.TOz).trans o1⟩, (srcB X.prog X.w t).itk f1 fun o e => (sb.2 _ D.i1z).trans e, (srcB X.prog X.w u).itk f2 fun o e => (sb.2 _ D.i2z).trans e⟩, fun c hm => ?_⟩
    have lt : c < s.heap.objs.size := by
      rcases five hm with r | r | r | r | r <;> rw [r]
      · exact zl
      · exact Heap.lt_size q2
      · exact Heap.lt_size q3
      · obtain ⟨_, e, _⟩ := (srcB X.prog X.w t).ito q4; exact Heap.lt_size e
      · obtain ⟨_, e, _⟩ := (srcB X.prog X.w u).ito q5; exact Heap.lt_size e
    rw [upd_ne (Nat.ne_of_lt lt)]
    exact (hf c hm).1
  done := by
    intro X hP hw hK hc i pins s σ H E I hf ⟨q1, q2, ⟨x0, y0, q3⟩, q4, q5⟩ ⟨xs, ys, s1, s2, hend⟩
    subst hP hw hK
    obtain ⟨its, rv, p1⟩ := Inv.sqB I s1
    obtain ⟨jts, rw_, p2⟩ := Inv.sqB I s2
    have m1 := rv.length
    have m2 := rw_.length
    refine nextM_end (S1 := srcB X.prog X.w t) (S2 := srcB X.prog X.w u) (I.ok.hd hc) D q1 q2 q3 q4 q5 (p1 _ _) (p2 _ _) (hend.imp (fun q => by simp; omega) fun q => by simp; omega) fun g kp => ⟨rfl, I.turnedL (t' := s.toks) (ch := [z, TI, TO, i1, i2]) (fun c o hb q => ?_) hf⟩
    have nb : c ≠ z ∧ c ≠ TI ∧ c ≠ TO ∧ c ≠ i1 ∧ c ≠ i2 := by simpa using hb
    exact kp c o nb.1 nb.2.2.1 nb.2.2.2.1 nb.2.2.2.2 q
  self := fun A i s Q E q h => wpAny_pyIter_zip q.1 h
def iZipM (K : PySem.W.Frag) (ta : TA) : TI := fun σ H R => ta σ H fun vs H1 => ∃ (a b : Addr) (xs ys : List V) (t u : Bool), vs = [.ref a, .ref b] ∧ sqB t K H1 a xs ∧ sqB u K H1 b ys ∧ R (ItzM K t u a b) H1
theorem pi_zipM {X : Cx} {e e2 : Expr} {ta : TA} {p pos tpos : Pos} {elts : List Expr} {kk : Nat} (hg : Gl X "zip") (hm : X.mg "zip" = none) (ha : PA X [e, e2] ta)
    (hs : starEach [e, e2] X.env = (false, eval e X.env) :: starEach [e2] X.env := by rfl) (hpl : (backTo pos (starEach [e2] X.env)).any (·.1) = false := by rfl) :
    PI X (.Tuple elts kk tpos) (.Call (.Name "zip" p) [e, e2] [] pos) (iZipM X.K ta) := by
  refine ⟨fun pins s σ H R I h => Call_ (ld_blt I hg hm PyProof.Rows.boot_zip (PyProof.Rows.callWith_type1 (thn (ha.run pos pins s σ H _ I h) fun us s1 ⟨vs, H1, I1, rr, a, b, xs, ys, t, u, ev, q1, q2, q⟩ => ?_) hs hpl))⟩
  subst ev
  cases rr with
  | cons ra rr => cases rr with
    | cons rb rr =>
      cases rr
      cases ra
      cases rb
      obtain ⟨its, _, p1⟩ := Inv.sqB I1 q1
      obtain ⟨jts, _, p2⟩ := Inv.sqB I1 q2
      refine call_zipM p1 p2 fun g z1 z2 z3 f1 f2 kp => wpAny_pyIter_zip z1 ?_
      have I2 : Inv X pins σ H1 { s1 with heap := g } := I1.kept (t' := s1.toks) kp
      refine ⟨s1.heap.objs.size + 4, [s1.heap.objs.size + 4, s1.heap.objs.size + 2, s1.heap.objs.size + 3, s1.heap.objs.size, s1.heap.objs.size + 1], _, _, H1, rfl, I2, turn_zipM (PySem.W.ktu_apart s1.heap.objs.size a b (sq_lt (p1 X.prog X.w)) (sq_lt (p2 X.prog X.w))), ⟨z1, z2, ⟨_, _, z3⟩, f1, f2⟩, fun c hm => ?_, q⟩
      have le : s1.heap.objs.size ≤ c := by rcases five hm with r | r | r | r | r <;> rw [r] <;> simp
      exact I1.fpOk le (I1.hok.fresh le)
end SD
namespace SD
open PySem L2
abbrev IDen := Fenv → Env → Option (List D × Env)
structure ItOk (K : Fg) (mg : MG) (J : It) (F : Hp) (xs : List D) : Prop where
  stop : ∀ H, Same F H → J.stop xs.length H
  go : ∀ (i : Nat) H, Same F H → i < xs.length → J.go i H
  yld : ∀ (i : Nat) H F1 x H' d, Same F F1 → Same F1 H → J.yld i H x H' → xs[i]? = some d →
    ∃ F2, ((F2 = F1 ∧ H' = H) ∨ ∃ T o, H T = none ∧ F2 = upd F1 T o ∧ H' = upd H T o) ∧ Rp K mg F2 x d
def tIt (K : Fg) (mg : MG) (Φ : Fenv) (d : IDen) : TI := fun σ H R => ∃ F env fp xs env', StOk K mg F H σ env fp ∧ d Φ env = some (xs, env') ∧
  ∀ J H' F' fp', StOk K mg F' H' σ env' fp' → EStp F H σ fp F' H' σ fp' → ItOk K mg J F' xs → R J H'
def signs (s : Str) : List D := s.cps.toList.map fun c => .str ⟨#[c]⟩
def rangeD (lo : Int) (n : Nat) : List D := (List.range n).map fun (k : Nat) => .int (lo + k)
def enumD : Nat → List D → List D
  | _, [] => []
  | k, x :: xs => .tup [.int k, x] :: enumD (k + 1) xs
def zipD : List D → List D → List D
  | x :: xs, y :: ys => .tup [x, y] :: zipD xs ys
  | _, _ => []
def itSeq (d : Den) : IDen := fun Φ env => (dFz d Φ env).bind fun r => match r.1 with
  | .d (.lst xs) => some (xs, r.2)
  | .d (.tup xs) => some (xs, r.2)
  | .d (.str s) => some (signs s, r.2)
  | _ => none
def itR1 (d : Den) : IDen := fun Φ env => (d Φ env).bind fun r => (r.1.asI).bind fun n => if -1000000 ≤ n ∧ n ≤ 1000000 then some (rangeD 0 n.toNat, r.2) else none
def itR2 (a b : Den) : IDen := fun Φ env => (a Φ env).bind fun r => (b Φ r.2).bind fun s => (r.1.asI).bind fun m => (s.1.asI).bind fun n =>
  if (-1000000 ≤ m ∧ m ≤ 1000000) ∧ (-1000000 ≤ n ∧ n ≤ 1000000) then some (rangeD m (n - m).toNat, s.2) else none
def itEnum (d : Den) : IDen := fun Φ env => (dFz d Φ env).bind fun r => match r.1 with
  | .d (.lst xs) => some (enumD 0 xs, r.2)
  | .d (.tup xs) => some (enumD 0 xs, r.2)
  | _ => none
def itRev (d : Den) : IDen := fun Φ env => (dFz d Φ env).bind fun r => match r.1 with
  | .d (.lst xs) => some (xs.reverse, r.2)
  | .d (.tup xs) => some (xs.reverse, r.2)
  | _ => none
def itZip (a b : Den) : IDen := fun Φ env => (dFz a Φ env).bind fun r => (dFz b Φ r.2).bind fun s => match r.1, s.1 with
  | .d (.lst xs), .d (.lst ys) => some (zipD xs ys, s.2)
  | .d (.tup xs), .d (.tup ys) => some (zipD xs ys, s.2)
  | .d (.tup xs), .d (.lst ys) => some (zipD xs ys, s.2)
  | .d (.lst xs), .d (.tup ys) => some (zipD xs ys, s.2)
  | _, _ => none
theorem rangeD_get {lo : Int} {n i : Nat} {d : D} (h : (rangeD lo n)[i]? = some d) : d = .int (lo + i) ∧ i < n := by
  unfold rangeD at h
  rw [List.getElem?_map] at h
  obtain ⟨k, h1, h2⟩ := Option.map_eq_some_iff.mp h
  obtain ⟨h3, h4⟩ := List.getElem?_eq_some_iff.mp h1
  rw [List.getElem_range] at h4
  subst h4
  exact ⟨h2.symm, by simpa using h3⟩
theorem rangeD_len (lo : Int) (n : Nat) : (rangeD lo n).length = n := by simp [rangeD]
theorem enumD_get : ∀ {xs : List D} {k i : Nat} {d : D}, (enumD k xs)[i]? = some d → ∃ x, xs[i]? = some x ∧ d = .tup [.int ((k + i : Nat) : Int), x]
  | [], _, _, _, h => by simp [enumD] at h
  | x :: xs, k, 0, d, h => by
    simp only [enumD, List.getElem?_cons_zero, Option.some.injEq] at h
    exact ⟨x, rfl, h.symm⟩
  | x :: xs, k, i + 1, d, h => by
    simp only [enumD, List.getElem?_cons_succ] at h
    obtain ⟨y, e1, e2⟩ := enumD_get h
    exact ⟨y, by simpa using e1, by rw [e2, show k + 1 + i = k + (i + 1) by omega]⟩
theorem enumD_len : ∀ (xs : List D) (k : Nat), (enumD k xs).length = xs.length
  | [], _ => rfl
  | x :: xs, k => by simp [enumD, enumD_len xs]
theorem zipD_get : ∀ {xs ys : List D} {i : Nat} {d : D}, (zipD xs ys)[i]? = some d → ∃ x y, xs[i]? = some x ∧ ys[i]? = some y ∧ d = .tup [x, y]
  | x :: xs, y :: ys, 0, d, h => by
    simp only [zipD, List.getElem?_cons_zero, Option.some.injEq] at h
    exact ⟨x, y, rfl, rfl, h.symm⟩
  | x :: xs, y :: ys, i + 1, d, h => by
    simp only [zipD, List.getElem?_cons_succ] at h
    obtain ⟨a, b, e1, e2, e3⟩ := zipD_get h
    exact ⟨a, b, by simpa using e1, by simpa using e2, e3⟩
  | [], _, _, _, h => by simp [zipD] at h
  | _ :: _, [], _, _, h => by simp [zipD] at h
theorem zipD_len : ∀ (xs ys : List D), (zipD xs ys).length = min xs.length ys.length
  | x :: xs, y :: ys => by
    show (zipD xs ys).length + 1 = min (xs.length + 1) (ys.length + 1)
    rw [zipD_len xs ys]
    omega
  | [], ys => by simp [zipD]
  | _ :: _, [] => by simp [zipD]
section
variable {K : Fg} {mg : MG} {F : Hp}
theorem it_list {a : Addr} {vs : List V} {xs : List D} (h : SqL K F a vs) (r : Rps K mg F vs xs) : ItOk K mg (Itl K a) F xs := by
  refine ⟨fun H e => ⟨vs, Same.sql e h, by rw [r.len]; exact Nat.le_refl _⟩, fun i H e hi => ?_, fun i H F1 x H' d e1 e2 y hd => ?_⟩
  · have hv : i < vs.length := by rw [r.len]; exact hi
    exact ⟨vs, vs[i], Same.sql e h, by simp [hv]⟩
  · obtain ⟨rfl, y⟩ := y
    obtain ⟨v, g1, g2⟩ := r.get i hd
    have := y vs (Same.sql (e1.trans e2) h)
    rw [g1] at this
    cases this
    exact ⟨F1, .inl ⟨rfl, rfl⟩, Rp.mono e1 _ _ g2⟩
theorem it_tup {a : Addr} {vs : List V} {xs : List D} (h : SqT K F a vs) (r : Rps K mg F vs xs) : ItOk K mg (Itt K a) F xs := by
  refine ⟨fun H e => ⟨vs, Same.sqt e h, by rw [r.len]; exact Nat.le_refl _⟩, fun i H e hi => ?_, fun i H F1 x H' d e1 e2 y hd => ?_⟩
  · have hv : i < vs.length := by rw [r.len]; exact hi
    exact ⟨vs, vs[i], Same.sqt e h, by simp [hv]⟩
  · obtain ⟨rfl, y⟩ := y
    obtain ⟨v, g1, g2⟩ := r.get i hd
    have := y vs (Same.sqt (e1.trans e2) h)
    rw [g1] at this
    cases this
    exact ⟨F1, .inl ⟨rfl, rfl⟩, Rp.mono e1 _ _ g2⟩
theorem it_str {s : Str} (h : SOk s) : ItOk K mg (Its s) F (signs s) := by
  have hl : (signs s).length = s.cps.size := by simp [signs]
  refine ⟨fun H e => by rw [hl]; exact Nat.le_refl _, fun i H e hi => by rw [hl] at hi; exact hi, fun i H F1 x H' d e1 e2 y hd => ?_⟩
  obtain ⟨rfl, c, g1, rfl⟩ := y
  unfold signs at hd
  rw [List.getElem?_map, Array.getElem?_toList, g1] at hd
  cases hd
  refine ⟨F1, .inl ⟨rfl, rfl⟩, .str _ fun k hk => ?_⟩
  have : k = c := by simpa using hk
  rw [this]
  exact h c (List.mem_of_getElem? (by rw [Array.getElem?_toList]; exact g1))
theorem it_range {lo : Int} {n : Nat} : ItOk K mg (Itr lo n) F (rangeD lo n) := by
  refine ⟨fun H e => by rw [rangeD_len]; exact Nat.le_refl _, fun i H e hi => by rw [rangeD_len] at hi; exact hi, fun i H F1 x H' d e1 e2 y hd => ?_⟩
  obtain ⟨rfl, rfl⟩ := y
  obtain ⟨rfl, _⟩ := rangeD_get hd
  exact ⟨F1, .inl ⟨rfl, rfl⟩, .int _⟩
theorem it_enum {a : Addr} {vs : List V} {xs : List D} (h : SqL K F a vs) (r : Rps K mg F vs xs) : ItOk K mg (Ite K a) F (enumD 0 xs) := by
  refine ⟨fun H e => ⟨vs, Same.sql e h, by rw [r.len, enumD_len]; exact Nat.le_refl _⟩, fun i H e hi => ?_, fun i H F1 x H' d e1 e2 y hd => ?_⟩
  · rw [enumD_len] at hi
    have hv : i < vs.length := by rw [r.len]; exact hi
    exact ⟨vs, vs[i], Same.sql e h, by simp [hv]⟩
  · obtain ⟨T, z, rfl, nT, rfl, y⟩ := y
    obtain ⟨w, q1, rfl⟩ := enumD_get hd
    obtain ⟨v, g1, g2⟩ := r.get i q1
    have := y vs (Same.sql (e1.trans e2) h)
    rw [g1] at this
    cases this
    refine ⟨upd F1 T (.tup [.int i, z]), .inr ⟨T, _, nT, rfl, rfl⟩, .tup (.inl (.inl upd_same)) ?_⟩
    have s1 : Same F1 (upd F1 T (.tup [.int i, z])) := same_upd (e2.free nT)
    rw [Nat.zero_add]
    exact .cons (.int _) (.cons (Rp.mono (e1.trans s1) _ _ g2) .nil)
theorem it_enumT {a : Addr} {vs : List V} {xs : List D} (h : SqT K F a vs) (r : Rps K mg F vs xs) : ItOk K mg (IteT K a) F (enumD 0 xs) := by
  refine ⟨fun H e => ⟨vs, Same.sqt e h, by rw [r.len, enumD_len]; exact Nat.le_refl _⟩, fun i H e hi => ?_, fun i H F1 x H' d e1 e2 y hd => ?_⟩
  · rw [enumD_len] at hi
    have hv : i < vs.length := by rw [r.len]; exact hi
    exact ⟨vs, vs[i], Same.sqt e h, by simp [hv]⟩
  · obtain ⟨T, z, rfl, nT, rfl, y⟩ := y
    obtain ⟨w, q1, rfl⟩ := enumD_get hd
    obtain ⟨v, g1, g2⟩ := r.get i q1
    have := y vs (Same.sqt (e1.trans e2) h)
    rw [g1] at this
    cases this
    refine ⟨upd F1 T (.tup [.int i, z]), .inr ⟨T, _, nT, rfl, rfl⟩, .tup (.inl (.inl upd_same)) ?_⟩
    have s1 : Same F1 (upd F1 T (.tup [.int i, z])) := same_upd (e2.free nT)
    rw [Nat.zero_add]
    exact .cons (.int _) (.cons (Rp.mono (e1.trans s1) _ _ g2) .nil)
theorem it_rev {a : Addr} {vs : List V} {xs : List D} (h : SqL K F a vs) (r : Rps K mg F vs xs) : ItOk K mg (Itv K a vs.length) F xs.reverse := by
  refine ⟨fun H e => by show _ ≤ _; rw [List.length_reverse, r.len]; exact Nat.le_refl _, fun i H e hi => ?_, fun i H F1 x H' d e1 e2 y hd => ?_⟩
  · rw [List.length_reverse] at hi
    have hv : i < vs.length := by rw [r.len]; exact hi
    exact ⟨hv, vs, vs[vs.length - 1 - i], Same.sql e h, List.getElem?_eq_getElem (by omega)⟩
  · obtain ⟨rfl, y⟩ := y
    have hi : i < xs.length := by
      have := (List.getElem?_eq_some_iff.mp hd).1
      simpa using this
    rw [List.getElem?_reverse hi] at hd
    obtain ⟨v, g1, g2⟩ := r.get _ hd
    have := y vs (Same.sql (e1.trans e2) h)
    rw [r.len, g1] at this
    cases this
    exact ⟨F1, .inl ⟨rfl, rfl⟩, Rp.mono e1 _ _ g2⟩
theorem it_revT {a : Addr} {vs : List V} {xs : List D} (h : SqT K F a vs) (r : Rps K mg F vs xs) : ItOk K mg (RT.ItvT K a vs.length) F xs.reverse := by
  refine ⟨fun H e => by show _ ≤ _; rw [List.length_reverse, r.len]; exact Nat.le_refl _, fun i H e hi => ?_, fun i H F1 x H' d e1 e2 y hd => ?_⟩
  · rw [List.length_reverse] at hi
    have hv : i < vs.length := by rw [r.len]; exact hi
    exact ⟨hv, vs, vs[vs.length - 1 - i], Same.sqt e h, List.getElem?_eq_getElem (by omega)⟩
  · obtain ⟨rfl, y⟩ := y
    have hi : i < xs.length := by
      have := (List.getElem?_eq_some_iff.mp hd).1
      simpa using this
    rw [List.getElem?_reverse hi] at hd
    obtain ⟨v, g1, g2⟩ := r.get _ hd
    have := y vs (Same.sqt (e1.trans e2) h)
    rw [r.len, g1] at this
    cases this
    exact ⟨F1, .inl ⟨rfl, rfl⟩, Rp.mono e1 _ _ g2⟩
theorem Same.sqB {F F' : Hp} (s : Same F F') {t : Bool} {a : Addr} {xs : List V} (h : SD.sqB t K F a xs) : SD.sqB t K F' a xs := by
  cases t with
  | true => exact Same.sqt s h
  | false => exact Same.sql s h
theorem it_zipM {t u : Bool} {a b : Addr} {vs ws : List V} {xs ys : List D} (h : sqB t K F a vs) (h' : sqB u K F b ws) (r : Rps K mg F vs xs) (r' : Rps K mg F ws ys) : ItOk K mg (ItzM K t u a b) F (zipD xs ys) := by
  refine ⟨fun H e => ⟨vs, ws, Same.sqB e h, (Same.sqB e h'), by rw [r.len, r'.len, zipD_len]; omega⟩, fun i H e hi => ?_, fun i H F1 x H' d e1 e2 y hd => ?_⟩
  · rw [zipD_len] at hi
    have hv : i < vs.length := by rw [r.len]; omega
    have hw : i < ws.length := by rw [r'.len]; omega
    exact ⟨vs, ws, vs[i], ws[i], Same.sqB e h, (Same.sqB e h'), by simp [hv], by simp [hw]⟩
  · obtain ⟨T, z, z', rfl, nT, rfl, y, y'⟩ := y
    obtain ⟨p, q, q1, q2, rfl⟩ := zipD_get hd
    obtain ⟨v, g1, g2⟩ := r.get i q1
    obtain ⟨w, g3, g4⟩ := r'.get i q2
    have t1 := y vs (Same.sqB (e1.trans e2) h)
    have t2 := y' ws (Same.sqB (e1.trans e2) h')
    rw [g1] at t1
    rw [g3] at t2
    cases t1
    cases t2
    refine ⟨upd F1 T (.tup [z, z']), .inr ⟨T, _, nT, rfl, rfl⟩, .tup (.inl (.inl upd_same)) ?_⟩
    have s1 : Same F1 (upd F1 T (.tup [z, z'])) := same_upd (e2.free nT)
    exact .cons (Rp.mono (e1.trans s1) _ _ g2) (.cons (Rp.mono (e1.trans s1) _ _ g4) .nil)
end
section
variable {K : Fg} {mg : MG} {Φ : Fenv} {σ : L2.St} {H : Hp} {R : It → Hp → Prop}
/-- from a reading of a frozen value to one of the value -/
theorem fz_then {d : Den} {F : Hp} {env env1 : Env} {fp : FP} {x : D} {Q : VK} (st : StOk K mg F H σ env fp) (e : dFz d Φ env = some (.d x, env1))
    (k : ∀ v H1 F1 fp1, StOk K mg F1 H1 σ env1 fp1 → EStp F H σ fp F1 H1 σ fp1 → Rp K mg F1 v x → Q v H1) : tE K mg Φ d σ H Q :=
  tE_Fz ⟨F, env, fp, .d x, env1, st, e, fun v H1 F1 fp1 S a p t => k v H1 F1 fp1 a p t.1.1⟩
theorem fz_d {d : Den} {env env1 : Env} {iv : IV} (e : dFz d Φ env = some (iv, env1)) : ∃ x, iv = .d x := by
  unfold dFz at e
  obtain ⟨⟨iv, env1⟩, e1, e⟩ := Option.bind_eq_some_iff.mp e
  obtain ⟨x, e2, e⟩ := Option.bind_eq_some_iff.mp e
  cases e
  exact ⟨x, rfl⟩
theorem tIt_Seq {d : Den} (h : tIt K mg Φ (itSeq d) σ H R) : iList K (tE K mg Φ d) σ H R ∨ iTup K (tE K mg Φ d) σ H R ∨ iStr (tE K mg Φ d) σ H R := by
  obtain ⟨F, env, fp, xs, env', st, e, c⟩ := h
  unfold itSeq at e
  obtain ⟨⟨iv, env1⟩, e1, e⟩ := Option.bind_eq_some_iff.mp e
  simp only at e
  split at e
  case h_4 => cases e
  case h_1 =>
    cases e
    refine .inl (fz_then st e1 fun v H1 F1 fp1 a p r => ?_)
    cases r with
    | lst h1 h2 => exact ⟨_, rfl, ⟨_, (Same.sql a.ex h1)⟩, c _ H1 F1 fp1 a p (it_list h1 h2)⟩
  case h_2 =>
    cases e
    refine .inr (.inl (fz_then st e1 fun v H1 F1 fp1 a p r => ?_))
    cases r with
    | tup h1 h2 => exact ⟨_, rfl, ⟨_, Same.sqt a.ex h1⟩, c _ H1 F1 fp1 a p (it_tup h1 h2)⟩
  case h_3 =>
    cases e
    refine .inr (.inr (fz_then st e1 fun v H1 F1 fp1 a p r => ?_))
    cases r with
    | str _ h1 => exact ⟨_, rfl, c _ H1 F1 fp1 a p (it_str h1)⟩
theorem tIt_R1 {d : Den} (h : tIt K mg Φ (itR1 d) σ H R) : iRng1 (tCons (tE K mg Φ d) tNil) σ H R := by
  obtain ⟨F, env, fp, xs, env', st, e, c⟩ := h
  unfold itR1 at e
  obtain ⟨⟨iv, env1⟩, e1, e⟩ := Option.bind_eq_some_iff.mp e
  obtain ⟨n, e2, e⟩ := Option.bind_eq_some_iff.mp e
  split at e
  case isFalse => cases e
  case isTrue hn =>
    cases e
    refine ⟨F, env, fp, iv, _, st, e1, fun v H1 F1 fp1 S a p t => ?_⟩
    exact ⟨n, by rw [int_of t e2], by omega, by omega, c _ H1 F1 fp1 a p it_range⟩
theorem tIt_R2 {d d' : Den} (h : tIt K mg Φ (itR2 d d') σ H R) : iRng2 (tCons (tE K mg Φ d) (tCons (tE K mg Φ d') tNil)) σ H R := by
  obtain ⟨F, env, fp, xs, env', st, e, c⟩ := h
  unfold itR2 at e
  obtain ⟨⟨iv, env1⟩, e1, e⟩ := Option.bind_eq_some_iff.mp e
  obtain ⟨⟨iv', env2⟩, e2, e⟩ := Option.bind_eq_some_iff.mp e
  obtain ⟨m, e3, e⟩ := Option.bind_eq_some_iff.mp e
  obtain ⟨n, e4, e⟩ := Option.bind_eq_some_iff.mp e
  split at e
  case isFalse => cases e
  case isTrue hn =>
    cases e
    refine ⟨F, env, fp, iv, _, st, e1, fun v H1 F1 fp1 S a p t => ?_⟩
    refine ⟨F1, env1, fp1, iv', _, a, e2, fun v' H2 F2 fp2 S2 a2 p2 t2 => ?_⟩
    exact ⟨m, n, by rw [int_of t e3, int_of t2 e4], ⟨by omega, by omega, by omega, by omega⟩, c _ H2 F2 fp2 a2 (p.trans p2) it_range⟩
theorem tIt_Enum {d : Den} (h : tIt K mg Φ (itEnum d) σ H R) : iEnum K (tCons (tE K mg Φ d) tNil) σ H R ∨ iEnumT K (tCons (tE K mg Φ d) tNil) σ H R := by
  obtain ⟨F, env, fp, xs, env', st, e, c⟩ := h
  unfold itEnum at e
  obtain ⟨⟨iv, env1⟩, e1, e⟩ := Option.bind_eq_some_iff.mp e
  simp only at e
  split at e
  case h_3 => cases e
  case h_1 =>
    cases e
    refine .inl (fz_then st e1 fun v H1 F1 fp1 a p r => ?_)
    cases r with
    | lst h1 h2 => exact ⟨_, _, rfl, (Same.sql a.ex h1), c _ H1 F1 fp1 a p (it_enum h1 h2)⟩
  case h_2 =>
    cases e
    refine .inr (fz_then st e1 fun v H1 F1 fp1 a p r => ?_)
    cases r with
    | tup h1 h2 => exact ⟨_, _, rfl, (Same.sqt a.ex h1), c _ H1 F1 fp1 a p (it_enumT h1 h2)⟩
theorem tIt_Rev {d : Den} (h : tIt K mg Φ (itRev d) σ H R) : RT.iRevA K (tE K mg Φ d) σ H R := by
  obtain ⟨F, env, fp, xs, env', st, e, c⟩ := h
  unfold itRev at e
  obtain ⟨⟨iv, env1⟩, e1, e⟩ := Option.bind_eq_some_iff.mp e
  simp only at e
  split at e
  case h_3 => cases e
  case h_1 =>
    cases e
    refine fz_then st e1 fun v H1 F1 fp1 a p r => ?_
    cases r with
    | lst h1 h2 => exact ⟨_, _, rfl, .inl ⟨(Same.sql a.ex h1), c _ H1 F1 fp1 a p (it_rev h1 h2)⟩⟩
  case h_2 =>
    cases e
    refine fz_then st e1 fun v H1 F1 fp1 a p r => ?_
    cases r with
    | tup h1 h2 => exact ⟨_, _, rfl, .inr ⟨(Same.sqt a.ex h1), c _ H1 F1 fp1 a p (it_revT h1 h2)⟩⟩
theorem tIt_Zip {d d' : Den} (h : tIt K mg Φ (itZip d d') σ H R) : iZipM K (tCons (tE K mg Φ d) (tCons (tE K mg Φ d') tNil)) σ H R := by
  obtain ⟨F, env, fp, xs, env', st, e, c⟩ := h
  unfold itZip at e
  obtain ⟨⟨iv, env1⟩, e1, e⟩ := Option.bind_eq_some_iff.mp e
  obtain ⟨⟨iv', env2⟩, e2, e⟩ := Option.bind_eq_some_iff.mp e
  simp only at e
  split at e
  case h_5 => cases e
  case h_1 =>
    cases e
    refine fz_then st e1 fun v H1 F1 fp1 a p r => ?_
    refine fz_then a e2 fun v' H2 F2 fp2 a2 p2 r2 => ?_
    cases r with
    | lst h1 h2 => cases r2 with
      | lst h3 h4 =>
        have h1' : sqB false K _ _ _ := Same.sqB (t := false) p2.p.fF h1
        have h3' : sqB false K _ _ _ := h3
        exact ⟨_, _, _, _, false, false, rfl, Same.sqB a2.ex h1', Same.sqB a2.ex h3', c _ H2 F2 fp2 a2 (p.trans p2) (it_zipM h1' h3' (Rps.mono p2.p.fF _ _ h2) h4)⟩
  case h_2 =>
    cases e
    refine fz_then st e1 fun v H1 F1 fp1 a p r => ?_
    refine fz_then a e2 fun v' H2 F2 fp2 a2 p2 r2 => ?_
    cases r with
    | tup h1 h2 => cases r2 with
      | tup h3 h4 =>
        have h1' : sqB true K _ _ _ := Same.sqB (t := true) p2.p.fF h1
        have h3' : sqB true K _ _ _ := h3
        exact ⟨_, _, _, _, true, true, rfl, Same.sqB a2.ex h1', Same.sqB a2.ex h3', c _ H2 F2 fp2 a2 (p.trans p2) (it_zipM h1' h3' (Rps.mono p2.p.fF _ _ h2) h4)⟩
  case h_3 =>
    cases e
    refine fz_then st e1 fun v H1 F1 fp1 a p r => ?_
    refine fz_then a e2 fun v' H2 F2 fp2 a2 p2 r2 => ?_
    cases r with
    | tup h1 h2 => cases r2 with
      | lst h3 h4 =>
        have h1' : sqB true K _ _ _ := Same.sqB (t := true) p2.p.fF h1
        have h3' : sqB false K _ _ _ := h3
        exact ⟨_, _, _, _, true, false, rfl, Same.sqB a2.ex h1', Same.sqB a2.ex h3', c _ H2 F2 fp2 a2 (p.trans p2) (it_zipM h1' h3' (Rps.mono p2.p.fF _ _ h2) h4)⟩
  case h_4 =>
    cases e
    refine fz_then st e1 fun v H1 F1 fp1 a p r => ?_
    refine fz_then a e2 fun v' H2 F2 fp2 a2 p2 r2 => ?_
    cases r with
    | lst h1 h2 => cases r2 with
      | tup h3 h4 =>
        have h1' : sqB false K _ _ _ := Same.sqB (t := false) p2.p.fF h1
        have h3' : sqB true K _ _ _ := h3
        exact ⟨_, _, _, _, false, true, rfl, Same.sqB a2.ex h1', Same.sqB a2.ex h3', c _ H2 F2 fp2 a2 (p.trans p2) (it_zipM h1' h3' (Rps.mono p2.p.fF _ _ h2) h4)⟩
end
inductive Tgt where
  | nm (i : Nat)
  | tp (is : List Nat)
  /-- x, (a, b, ..) -/
  | t2 (i : Nat) (is : List Nat)
def asgT (lk : LK) : Tgt → D → Env → Option Env
  | .nm i, x, env => if lk i then none else some (env.set i (some (.d x)))
  | .tp is, x, env => match x with
    | .tup xs => setT lk is xs env
    | _ => none
  | .t2 i is, x, env => match x with
    | .tup [y, .tup xs] => if lk i then none else setT lk is xs (env.set i (some (.d y)))
    | _ => none
def tgG (K : Fg) : Tgt → TG
  | .nm i => gName i
  | .tp is => gTup K is.length (gNames is)
  | .t2 i is => gTup K 2 (gCons (gName i) (gCons (gTup K is.length (gNames is)) gNil))
def forL (t : Tgt) (body : SDen) (Φ : Fenv) (lk : LK) : List D → Env → Option (Fl × Env)
  | [], env => some (.nx, env)
  | x :: xs, env => (asgT lk t x env).bind fun env1 => (body Φ lk env1).bind fun r => match r.1 with
    | .nx => forL t body Φ lk xs r.2
    | .ct => forL t body Φ lk xs r.2
    | .bk => some (.nx, r.2)
    | f => some (f, r.2)
def sFor (it : IDen) (t : Tgt) (body : SDen) : SDen := fun Φ lk env => (it Φ env).bind fun r => forL t body Φ lk r.1 r.2
def whileN (t : TDen) (body : SDen) (Φ : Fenv) (lk : LK) : Nat → Env → Option (Fl × Env)
  | 0, _ => none
  | n + 1, env => (t Φ env).bind fun b => if b.1 then (body Φ lk b.2).bind fun r => match r.1 with
    | .nx => whileN t body Φ lk n r.2
    | .ct => whileN t body Φ lk n r.2
    | .bk => some (.nx, r.2)
    | f => some (f, r.2) else some (.nx, b.2)
def whileFuel : Nat := 1000000
/-- through a list of the caller's, which stays his -/
def forO (i : Nat) (t : Tgt) (body : SDen) (Φ : Fenv) (lk : LK) : Nat → Nat → Env → Option (Fl × Env)
  | 0, _, _ => none
  | n + 1, k, env => match env[i]? with
    | some (some (.own xs)) => match xs[k]? with
      | none => some (.nx, env)
      | some x => (asgT lk t x env).bind fun e => (body Φ lk e).bind fun r => match r.1 with
        | .nx => forO i t body Φ lk n (k + 1) r.2
        | .ct => forO i t body Φ lk n (k + 1) r.2
        | .bk => some (.nx, r.2)
        | f => some (f, r.2)
    | _ => none
def sForO (i : Nat) (t : Tgt) (body : SDen) : SDen := fun Φ lk env => if lk i then forO i t body Φ lk whileFuel 0 env else none
def sWhile (t : TDen) (body : SDen) : SDen := fun Φ lk env => whileN t body Φ lk whileFuel env
theorem setT_len {lk : LK} : ∀ (is : List Nat) (xs : List D) (env e : Env), setT lk is xs env = some e → is.length = xs.length := by
  intro is
  induction is with
  | nil => intro xs env e h; cases xs with
    | nil => rfl
    | cons _ _ => cases h
  | cons i is ih => intro xs env e h; cases xs with
    | nil => cases h
    | cons x xs =>
      unfold setT at h
      split at h
      case isTrue => cases h
      case isFalse => simp [ih xs _ e h]
section
variable {K : Fg} {mg : MG} {Φ : Fenv} {lk : LK} {W : WX} {σ : L2.St} {H : Hp} {D : Ends}
theorem asg_t2 {i : Nat} {is : List Nat} {x : SD.D} {env env' : Env} (h : asgT lk (.t2 i is) x env = some env') : ∃ y xs, x = .tup [y, .tup xs] ∧ lk i = false ∧ setT lk is xs (env.set i (some (.d y))) = some env' := by
  unfold asgT at h
  simp only at h
  split at h
  case h_2 => cases h
  case h_1 y xs =>
    split at h
    case isTrue => cases h
    case isFalse hl => exact ⟨y, xs, rfl, by simpa using hl, h⟩
theorem asg_ok {t : Tgt} {x : SD.D} {v : V} {F1 H1 : Hp} {σ1 : L2.St} {env1 env2 : Env} {fp1 : FP} {Q : L2.St → Hp → Prop} (st : StOk K mg F1 H1 σ1 env1 fp1) (r : Rp K mg F1 v x) (e : asgT lk t x env1 = some env2)
    (c : ∀ σ' fp', StOk K mg F1 H1 σ' env2 fp' → Stp (lkP lk) F1 H1 σ1 fp1 F1 H1 σ' fp' → Q σ' H1) : tgG K t v σ1 H1 Q := by
  cases t with
  | nm i =>
    have e : (if lk i then none else some (env1.set i (some (.d x)))) = some env2 := e
    split at e
    case isTrue => cases e
    case isFalse hl =>
      cases e
      obtain ⟨fp', a, q⟩ := StOk.store (H := H1) st st (Stp.refl (lkP lk) F1 H1 σ1 fp1) (S := fun _ => False) (fun b z => z.elim) (OwnV.ofD r) (i := i) (by simpa using hl)
      exact c _ fp' a q
  | tp is =>
    cases r with
    | tup h1 h2 =>
      rename_i xs
      have e : setT lk is xs env1 = some env2 := e
      refine ⟨_, _, rfl, Same.sqt st.ex h1, by rw [h2.len, setT_len is xs _ _ e], ?_⟩
      exact setT_ok is st (.refl ..) h2 e fun σ' fp' a q => c σ' fp' a q
    | _ => cases e
  | t2 i is =>
    obtain ⟨y, xs, rfl, hl, e⟩ := asg_t2 e
    cases r with
    | tup h1 h2 =>
      cases h2 with
      | cons r1 h2 =>
        cases h2 with
        | cons r2 h2 =>
          cases h2
          refine ⟨_, _, rfl, Same.sqt st.ex h1, rfl, _, _, rfl, ?_⟩
          obtain ⟨fp', a, q⟩ := StOk.store (H := H1) st st (Stp.refl (lkP lk) F1 H1 σ1 fp1) (S := fun _ => False) (fun b z => z.elim) (OwnV.ofD r1) (i := i) (by simp [lkP, hl])
          refine ⟨_, _, rfl, ?_⟩
          cases r2 with
          | tup g1 g2 =>
            refine ⟨_, _, rfl, Same.sqt st.ex g1, by rw [g2.len, setT_len is xs _ _ e], ?_⟩
            exact setT_ok is a q g2 e fun σ' fp'' b q' => ⟨rfl, c σ' fp'' b q'⟩
theorem StOk.yield {F H' F1 : Hp} {J : It} {xs : List SD.D} {i : Nat} {x : V} {d : SD.D} {env : Env} {fp : FP} (st : StOk K mg F H σ env fp) (ok : ItOk K mg J F1 xs) (s : Same F1 F) (y : J.yld i H x H') (e : xs[i]? = some d) :
    ∃ F2, StOk K mg F2 H' σ env fp ∧ EStp F H σ fp F2 H' σ fp ∧ Rp K mg F2 x d := by
  obtain ⟨F2, q, r⟩ := ok.yld i H F x H' d s st.ex y e
  rcases q with ⟨rfl, rfl⟩ | ⟨T, o, nT, rfl, rfl⟩
  · exact ⟨F2, st, .refl .., r⟩
  · obtain ⟨a, b⟩ := StOk.alloc (o := o) st nT
    exact ⟨_, a, b, r⟩
theorem tS_For {it : IDen} {t : Tgt} {body : SDen} (h : tS K mg Φ lk W (sFor it t body) D σ H) : tFor (tIt K mg Φ it) (tgG K t) (tS K mg Φ lk W body) D σ H := by
  obtain ⟨F, env, fp, fl, env', st, e, c⟩ := h
  unfold sFor at e
  obtain ⟨⟨xs, env1⟩, e1, e⟩ := Option.bind_eq_some_iff.mp e
  refine ⟨F, env, fp, xs, env1, st, e1, fun J H1 F1 fp1 st1 p1 ok => ?_⟩
  refine ⟨fun i m σi Hi => ∃ Fi envi fpi, StOk K mg Fi Hi σi envi fpi ∧ Same F1 Fi ∧ m = xs.length - i ∧ i ≤ xs.length ∧ forL t body Φ lk (xs.drop i) envi = some (fl, env') ∧ EndOk K mg lk W Fi Hi σi fpi env' D fl,
    ⟨xs.length, F1, env1, fp1, st1, Same.refl _, by simp, Nat.zero_le _, e, c.later p1.stp⟩, ?_⟩
  rintro i m σi Hi ⟨Fi, envi, fpi, sti, si, rfl, hi, ei, ci⟩
  by_cases hlt : i < xs.length
  · rw [List.drop_eq_getElem_cons hlt] at ei
    unfold forL at ei
    obtain ⟨env2, g1, ei⟩ := Option.bind_eq_some_iff.mp ei
    obtain ⟨⟨f, env3⟩, g2, ei⟩ := Option.bind_eq_some_iff.mp ei
    simp only at ei
    refine .inr ⟨ok.go i Hi (si.trans sti.ex) hlt, fun σ' H' => ∃ Fi envi fpi, StOk K mg Fi H' σ' envi fpi ∧ Same F1 Fi ∧ i + 1 ≤ xs.length ∧ forL t body Φ lk (xs.drop (i + 1)) envi = some (fl, env') ∧ EndOk K mg lk W Fi H' σ' fpi env' D fl, ?_, ?_⟩
    · rintro σ' H' ⟨F', env4, fp', a1, a2, a3, a4, a5⟩
      exact ⟨xs.length - (i + 1), by omega, F', env4, fp', a1, a2, rfl, a3, a4, a5⟩
    · intro x H' y
      obtain ⟨F2, st2, p2, r⟩ := StOk.yield sti ok si y (d := xs[i]) (by simp [hlt])
      refine asg_ok st2 r g1 fun σ3 fp3 st3 p3 => ⟨F2, env2, fp3, f, env3, st3, g2, ?_⟩
      have pq := p2.stp (lk := lk) |>.trans p3
      have go : ∀ σ' H' F' fp', StOk K mg F' H' σ' env3 fp' → Stp (lkP lk) F2 _ σ3 fp3 F' H' σ' fp' → forL t body Φ lk (xs.drop (i + 1)) env3 = some (fl, env') →
          ∃ Fi envi fpi, StOk K mg Fi H' σ' envi fpi ∧ Same F1 Fi ∧ i + 1 ≤ xs.length ∧ forL t body Φ lk (xs.drop (i + 1)) envi = some (fl, env') ∧ EndOk K mg lk W Fi H' σ' fpi env' D fl :=
        fun σ' H' F' fp' a q z => ⟨F', env3, fp', a, si.trans (p2.p.fF.trans q.p.fF), hlt, z, ci.later (pq.trans q)⟩
      cases f with
      | nx => exact fun σ' H' F' fp' a q => go σ' H' F' fp' a q ei
      | ct => exact fun σ' H' F' fp' a q => go σ' H' F' fp' a q ei
      | bk => cases ei; exact EndOk.later (fl := .nx) ci pq
      | ret iv => cases ei; exact EndOk.later (fl := .ret iv) ci pq
      | ex x1 x2 x3 => cases ei; exact EndOk.later (fl := .ex x1 x2 x3) ci pq
  · have hi' : i = xs.length := by omega
    subst hi'
    rw [List.drop_length] at ei
    cases ei
    exact .inl ⟨ok.stop Hi (si.trans sti.ex), ci σi Hi Fi fpi sti (.refl ..)⟩
theorem tS_ForO {i : Nat} {t : Tgt} {body : SDen} (h : tS K mg Φ lk W (sForO i t body) D σ H) : tFor (iList K (tVar i)) (tgG K t) (tS K mg Φ lk W body) D σ H := by
  obtain ⟨F, env, fp, fl, env', st, e, c⟩ := h
  unfold sForO at e
  split at e
  case isFalse => cases e
  case isTrue hl =>
  obtain ⟨n0, hn0⟩ : ∃ n, whileFuel = n + 1 := ⟨999999, rfl⟩
  have hx : ∃ xs, env[i]? = some (some (.own xs)) := by
    rw [hn0] at e
    unfold forO at e
    split at e
    case h_1 xs q => exact ⟨xs, q⟩
    case h_2 => cases e
  obtain ⟨xs0, hx0⟩ := hx
  obtain ⟨v0, s0, a, vs0, rfl, ha0, rp0, _⟩ := st.slot i _ hx0
  refine ⟨.ref a, s0, a, rfl, ⟨vs0, .inl (.inl ha0)⟩, fun k m σi Hi => ∃ Fi envi fpi, StOk K mg Fi Hi σi envi fpi ∧ σi[i]? = σ[i]? ∧ forO i t body Φ lk m k envi = some (fl, env') ∧ EndOk K mg lk W Fi Hi σi fpi env' D fl, ⟨whileFuel, F, env, fp, st, rfl, e, c⟩, ?_⟩
  rintro k m σi Hi ⟨Fi, envi, fpi, sti, si, ei, ci⟩
  cases m with
  | zero => cases ei
  | succ m =>
    unfold forO at ei
    split at ei
    case h_2 => cases ei
    case h_1 xs hxs =>
    obtain ⟨v, s1, a', vs, e1, ha, rp, _⟩ := sti.slot i _ hxs
    rw [si, s0] at s1
    have ea : V.ref a = v := Option.some.inj (Option.some.inj s1)
    subst ea
    cases e1
    have sq : SqL K Hi a vs := .inl (.inl ha)
    split at ei
    case h_1 hk =>
      cases ei
      refine .inl ⟨⟨vs, sq, ?_⟩, ci σi Hi Fi fpi sti (.refl ..)⟩
      rw [rp.len]
      exact List.getElem?_eq_none_iff.mp hk
    case h_2 x hk =>
      obtain ⟨env2, g1, ei⟩ := Option.bind_eq_some_iff.mp ei
      obtain ⟨⟨f, env3⟩, g2, ei⟩ := Option.bind_eq_some_iff.mp ei
      simp only at ei
      obtain ⟨y0, hy0, ry⟩ := rp.get k hk
      refine .inr ⟨⟨vs, y0, sq, hy0⟩, fun σ' H' => ∃ Fi envi fpi, StOk K mg Fi H' σ' envi fpi ∧ σ'[i]? = σ[i]? ∧ forO i t body Φ lk m (k + 1) envi = some (fl, env') ∧ EndOk K mg lk W Fi H' σ' fpi env' D fl, ?_, ?_⟩
      · rintro σ' H' ⟨F', env4, fp', a1, a2, a3, a4⟩
        exact ⟨m, by omega, F', env4, fp', a1, a2, a3, a4⟩
      · rintro y H' ⟨rfl, hy⟩
        have ey := hy vs sq
        rw [hy0] at ey
        cases ey
        refine asg_ok sti ry g1 fun σ3 fp3 st3 p3 => ⟨Fi, env2, fp3, f, env3, st3, g2, ?_⟩
        have go : ∀ σ' H' F' fp', StOk K mg F' H' σ' env3 fp' → Stp (lkP lk) Fi _ σ3 fp3 F' H' σ' fp' → forO i t body Φ lk m (k + 1) env3 = some (fl, env') →
            ∃ Fi envi fpi, StOk K mg Fi H' σ' envi fpi ∧ σ'[i]? = σ[i]? ∧ forO i t body Φ lk m (k + 1) envi = some (fl, env') ∧ EndOk K mg lk W Fi H' σ' fpi env' D fl :=
          fun σ' H' F' fp' b q z => ⟨F', env3, fp', b, ((q.par i hl).1.trans (p3.par i hl).1).trans si, z, ci.later (p3.trans q)⟩
        cases f with
        | nx => exact fun σ' H' F' fp' a q => go σ' H' F' fp' a q ei
        | ct => exact fun σ' H' F' fp' a q => go σ' H' F' fp' a q ei
        | bk => cases ei; exact EndOk.later (fl := .nx) ci p3
        | ret iv => cases ei; exact EndOk.later (fl := .ret iv) ci p3
        | ex x1 x2 x3 => cases ei; exact EndOk.later (fl := .ex x1 x2 x3) ci p3
theorem tS_While {t : TDen} {body : SDen} (h : tS K mg Φ lk W (sWhile t body) D σ H) : tWhile (tT K mg Φ t) (tS K mg Φ lk W body) D σ H := by
  obtain ⟨F, env, fp, fl, env', st, e, c⟩ := h
  refine ⟨fun m σi Hi => ∃ Fi envi fpi, StOk K mg Fi Hi σi envi fpi ∧ whileN t body Φ lk m envi = some (fl, env') ∧ EndOk K mg lk W Fi Hi σi fpi env' D fl, ⟨whileFuel, F, env, fp, st, e, c⟩, ?_⟩
  rintro m σi Hi ⟨Fi, envi, fpi, sti, ei, ci⟩
  cases m with
  | zero => cases ei
  | succ m =>
    unfold whileN at ei
    obtain ⟨⟨b, env1⟩, g1, ei⟩ := Option.bind_eq_some_iff.mp ei
    simp only at ei
    refine ⟨Fi, envi, fpi, b, env1, sti, g1, fun H1 F1 fp1 st1 p1 => ?_⟩
    cases b with
    | false =>
      cases ei
      exact ci σi H1 F1 fp1 st1 p1.stp
    | true =>
      have ei : ((body Φ lk env1).bind fun r => match r.1 with
        | .nx => whileN t body Φ lk m r.2
        | .ct => whileN t body Φ lk m r.2
        | .bk => some (.nx, r.2)
        | f => some (f, r.2)) = some (fl, env') := ei
      obtain ⟨⟨f, env3⟩, g2, ei⟩ := Option.bind_eq_some_iff.mp ei
      simp only at ei
      refine ⟨fun σ' H' => ∃ Fi envi fpi, StOk K mg Fi H' σ' envi fpi ∧ whileN t body Φ lk m envi = some (fl, env') ∧ EndOk K mg lk W Fi H' σ' fpi env' D fl, fun σ' H' z => ⟨m, Nat.lt_succ_self m, z⟩, F1, env1, fp1, f, env3, st1, g2, ?_⟩
      have pq := p1.stp (lk := lk)
      cases f with
      | nx => exact fun σ' H' F' fp' a q => ⟨F', env3, fp', a, ei, ci.later (pq.trans q)⟩
      | ct => exact fun σ' H' F' fp' a q => ⟨F', env3, fp', a, ei, ci.later (pq.trans q)⟩
      | bk => cases ei; exact EndOk.later (fl := .nx) ci pq
      | ret iv => cases ei; exact EndOk.later (fl := .ret iv) ci pq
      | ex x1 x2 x3 => cases ei; exact EndOk.later (fl := .ex x1 x2 x3) ci pq
end
end SD
namespace SD
open PySem L2
def wipeE (env : Env) : List Nat → Env
  | [] => env
  | v :: vs => (wipeE env vs).set v none
def backE (env0 env : Env) : List Nat → Env
  | [] => env
  | v :: vs => (backE env0 env vs).set v ((env0[v]?).bind id)
def lkC (vs : List Nat) : LK := fun i => !decide (i ∈ vs)
def fpW (fp : FP) (vs : List Nat) : FP := fun i b => i ∉ vs ∧ fp i b
def compL (t : Tgt) (tt : TDen) (el : Den) (vs : List Nat) (Φ : Fenv) : List D → Env → List D → Option (List D × Env)
  | [], env, acc => some (acc, env)
  | x :: xs, env, acc => (asgT (lkC vs) t x env).bind fun env1 => (tt Φ env1).bind fun b =>
    if b.1 then (dFz el Φ b.2).bind fun r => (r.1.asD).bind fun z => if acc.length < lim then compL t tt el vs Φ xs (wipeE r.2 vs) (acc ++ [z]) else none
    else compL t tt el vs Φ xs (wipeE b.2 vs) acc
def dComp (it : IDen) (t : Tgt) (tt : TDen) (el : Den) (vs : List Nat) : Den := fun Φ env => (it Φ env).bind fun r => (compL t tt el vs Φ r.1 (wipeE r.2 vs) []).bind fun q => some (.own q.1, backE r.2 q.2 vs)
theorem wipe_get (σ : L2.St) (j : Nat) : ∀ vs : List Nat, (wipe σ vs)[j]? = if j ∈ vs then (σ[j]?).map (fun _ => none) else σ[j]?
  | [] => by simp [wipe]
  | v :: vs => by
    have ih := wipe_get σ j vs
    unfold wipe
    by_cases hj : v = j
    · subst hj
      rw [if_pos (List.mem_cons_self ..)]
      by_cases hl : v < σ.length
      · rw [List.getElem?_set_self (by rw [wipe_length]; exact hl)]
        simp [hl]
      · rw [List.getElem?_eq_none (by rw [List.length_set, wipe_length]; omega), List.getElem?_eq_none (by omega)]
        rfl
    · rw [List.getElem?_set_ne hj, ih]
      have : (j ∈ v :: vs) ↔ j ∈ vs := by
        rw [List.mem_cons]
        exact ⟨fun z => z.elim (fun e => absurd e.symm hj) id, .inr⟩
      simp only [this]
theorem wipeE_len (env : Env) : ∀ vs : List Nat, (wipeE env vs).length = env.length
  | [] => rfl
  | v :: vs => by unfold wipeE; rw [List.length_set, wipeE_len env vs]
theorem wipeE_get (env : Env) (j : Nat) : ∀ vs : List Nat, (wipeE env vs)[j]? = if j ∈ vs then (env[j]?).map (fun _ => none) else env[j]?
  | [] => by simp [wipeE]
  | v :: vs => by
    have ih := wipeE_get env j vs
    unfold wipeE
    by_cases hj : v = j
    · subst hj
      rw [if_pos (List.mem_cons_self ..)]
      by_cases hl : v < env.length
      · rw [List.getElem?_set_self (by rw [wipeE_len]; exact hl)]
        simp [hl]
      · rw [List.getElem?_eq_none (by rw [List.length_set, wipeE_len]; omega), List.getElem?_eq_none (by omega)]
        rfl
    · rw [List.getElem?_set_ne hj, ih]
      have : (j ∈ v :: vs) ↔ j ∈ vs := by
        rw [List.mem_cons]
        exact ⟨fun z => z.elim (fun e => absurd e.symm hj) id, .inr⟩
      simp only [this]
theorem backE_len (env0 env : Env) : ∀ vs : List Nat, (backE env0 env vs).length = env.length
  | [] => rfl
  | v :: vs => by unfold backE; rw [List.length_set, backE_len env0 env vs]
theorem backE_get (env0 env : Env) (j : Nat) (hl : env0.length = env.length) : ∀ vs : List Nat, (backE env0 env vs)[j]? = if j ∈ vs then env0[j]? else env[j]?
  | [] => by simp [backE]
  | v :: vs => by
    have ih := backE_get env0 env j hl vs
    unfold backE
    by_cases hj : v = j
    · subst hj
      rw [if_pos (List.mem_cons_self ..)]
      by_cases hv : v < env.length
      · rw [List.getElem?_set_self (by rw [backE_len]; exact hv)]
        have : v < env0.length := by omega
        simp [this]
      · rw [List.getElem?_eq_none (by rw [List.length_set, backE_len]; omega), List.getElem?_eq_none (by omega)]
    · rw [List.getElem?_set_ne hj, ih]
      have : (j ∈ v :: vs) ↔ j ∈ vs := by
        rw [List.mem_cons]
        exact ⟨fun z => z.elim (fun e => absurd e.symm hj) id, .inr⟩
      simp only [this]
theorem asgT_len {lk : LK} {t : Tgt} {x : D} {e e' : Env} (h : asgT lk t x e = some e') : e'.length = e.length := by
  have key : ∀ (is : List Nat) (zs : List D) (e e' : Env), setT lk is zs e = some e' → e'.length = e.length := by
    intro is
    induction is with
    | nil => intro zs e e' h; cases zs with
      | nil => cases h; rfl
      | cons _ _ => cases h
    | cons k is ih => intro zs e e' h; cases zs with
      | nil => cases h
      | cons z zs =>
        unfold setT at h
        split at h
        case isTrue => cases h
        case isFalse => rw [ih zs _ e' h, List.length_set]
  cases t with
  | nm k =>
    have h : (if lk k then none else some (e.set k (some (.d x)))) = some e' := h
    split at h
    case isTrue => cases h
    case isFalse => cases h; simp
  | tp is =>
    cases x with
    | tup zs => exact key is zs e e' h
    | _ => cases h
  | t2 k is =>
    obtain ⟨y, xs, _, _, h⟩ := asg_t2 h
    rw [key is _ _ e' h, List.length_set]
section
variable {K : Fg} {mg : MG} {Φ : Fenv} {σ : L2.St} {H : Hp}
theorem StOk.wiped {F : Hp} {env : Env} {fp : FP} (st : StOk K mg F H σ env fp) (vs : List Nat) : StOk K mg F H (wipe σ vs) (wipeE env vs) (fpW fp vs) := by
  refine ⟨st.ex, by rw [wipe_length, wipeE_len]; exact st.len, fun i iv e => ?_, fun i b z => ?_, fun i j b z y => st.disj i j b z.2 y.2, fun i b z => st.fr i b z.2, st.tb⟩
  · rw [wipeE_get] at e
    split at e
    case isTrue => obtain ⟨_, _, e⟩ := Option.map_eq_some_iff.mp e; cases e
    case isFalse hi =>
      obtain ⟨v, h1, h2⟩ := st.slot i iv e
      have ea : fpW fp vs i = fp i := funext fun b => propext ⟨fun z => z.2, fun z => ⟨hi, z⟩⟩
      rw [ea]
      exact ⟨v, by rw [wipe_get, if_neg hi]; exact h1, h2⟩
  · obtain ⟨iv, e⟩ := st.emp i b z.2
    exact ⟨iv, by rw [wipeE_get, if_neg z.1]; exact e⟩
theorem wipe_same {σ1 σ2 : L2.St} {vs : List Nat} (hl : σ2.length = σ1.length) (h : ∀ j, j ∉ vs → σ2[j]? = σ1[j]?) : wipe σ2 vs = wipe σ1 vs := by
  refine List.ext_getElem? fun j => ?_
  rw [wipe_get, wipe_get]
  by_cases hj : j ∈ vs
  · rw [if_pos hj, if_pos hj]
    by_cases hb : j < σ1.length
    · have : j < σ2.length := by omega
      simp [hb, this]
    · rw [List.getElem?_eq_none (by omega), List.getElem?_eq_none (by omega)]
  · rw [if_neg hj, if_neg hj, h j hj]
theorem wipe_wipe (σ : L2.St) (vs : List Nat) : wipe (wipe σ vs) vs = wipe σ vs := by
  refine List.ext_getElem? fun j => ?_
  rw [wipe_get, wipe_get]
  by_cases hj : j ∈ vs
  · rw [if_pos hj, if_pos hj]
    cases σ[j]? <;> rfl
  · rw [if_neg hj, if_neg hj]
/-- a list that nobody holds yet grows -/
theorem StOk.grow {F : Hp} {env : Env} {fp : FP} {q : Addr} {o : HO} (st : StOk K mg F H σ env fp) (hF : F q = none) (hq : ¬ fpO fp q) (hH : H q = none ∨ ∃ ws, H q = some (.lst ws)) : StOk K mg F (upd H q o) σ env fp := by
  have tb : TbOk K F (upd H q o) := by
    rcases hH with hH | ⟨ws, hH⟩
    · exact st.tb.allocO hH
    · exact st.tb.put hH (fun ps z => by cases z)
  refine ⟨fun b x e => ?_, st.len, fun i iv e => ?_, st.emp, st.disj, st.fr, tb⟩
  · rw [upd_ne (ne_of_none e hF)]; exact st.ex b x e
  · obtain ⟨v, h1, h2⟩ := st.slot i iv e
    exact ⟨v, h1, h2.mono (Same.refl _) fun b z => upd_ne fun e => hq ⟨i, e ▸ z⟩⟩
theorem tE_Comp {it : IDen} {t : Tgt} {tt : TDen} {el : Den} {vs : List Nat} {Q : VK} (h : tE K mg Φ (dComp it t tt el vs) σ H Q) :
    tLc (tIt K mg Φ it) (tgG K t) (tT K mg Φ tt) (tE K mg Φ el) vs σ H Q := by
  obtain ⟨F, env, fp, iv, env', st, e, c⟩ := h
  unfold dComp at e
  obtain ⟨⟨xs, env1⟩, e1, e⟩ := Option.bind_eq_some_iff.mp e
  obtain ⟨⟨acc', env2⟩, e2, e⟩ := Option.bind_eq_some_iff.mp e
  cases e
  refine ⟨F, env, fp, xs, env1, st, e1, fun J H1 F1 fp1 st1 p1 ok q hq => ?_⟩
  have Fq : F1 q = none := st1.Fnone hq
  have nq : ∀ j, ¬ fp1 j q := fun j z => st1.hs z hq
  refine ⟨fun i m Hi => ∃ Fi envi fpi acc ws, StOk K mg Fi Hi (wipe σ vs) envi fpi ∧ Same F1 Fi ∧ Hi q = some (.lst ws) ∧ Rps K mg Fi ws acc ∧ Fi q = none ∧ ¬ fpO fpi q ∧ m = xs.length - i ∧ i ≤ xs.length ∧
      compL t tt el vs Φ (xs.drop i) envi acc = some (acc', env2) ∧ PStp F1 H1 (fpO (fpW fp1 vs)) Fi Hi ∧ (∀ j b, fpi j b → fpW fp1 vs j b), ?_, ?_⟩
  · refine ⟨xs.length, F1, wipeE env1 vs, fpW fp1 vs, [], [], ?_, Same.refl _, upd_same, .nil, Fq, fun ⟨j, z⟩ => nq j z.2, by simp, Nat.zero_le _, e2, ⟨Same.refl _, fun b o z _ _ => ?_, fun b z => ?_, fun b o z => .inl z⟩, fun j b z => z⟩
    · exact StOk.grow (st1.wiped vs) Fq (fun ⟨j, z⟩ => nq j z.2) (.inl hq)
    · rw [upd_ne (ne_of_none z hq)]; exact z
    · by_cases hb : b = q
      · rw [hb]; exact hq
      · rw [upd_ne hb] at z; exact z
  · rintro i m Hi ⟨Fi, envi, fpi, acc, ws, sti, si, hqi, racc, Fqi, nqi, rfl, hi, ei, pi, oi⟩
    by_cases hlt : i < xs.length
    · rw [List.drop_eq_getElem_cons hlt] at ei
      unfold compL at ei
      obtain ⟨env3, g1, ei⟩ := Option.bind_eq_some_iff.mp ei
      obtain ⟨⟨b, env4⟩, g2, ei⟩ := Option.bind_eq_some_iff.mp ei
      simp only at ei
      refine .inr ⟨ok.go i Hi (si.trans sti.ex) hlt, fun H' => ∃ Fi envi fpi acc ws, StOk K mg Fi H' (wipe σ vs) envi fpi ∧ Same F1 Fi ∧ H' q = some (.lst ws) ∧ Rps K mg Fi ws acc ∧ Fi q = none ∧ ¬ fpO fpi q ∧ i + 1 ≤ xs.length ∧
        compL t tt el vs Φ (xs.drop (i + 1)) envi acc = some (acc', env2) ∧ PStp F1 H1 (fpO (fpW fp1 vs)) Fi H' ∧ (∀ j b, fpi j b → fpW fp1 vs j b), ?_, ?_⟩
      · rintro H' ⟨Fj, envj, fpj, accj, wsj, a1, a2, a3, a4, a5, a6, a7, a8, a9, a10⟩
        exact ⟨xs.length - (i + 1), by omega, Fj, envj, fpj, accj, wsj, a1, a2, a3, a4, a5, a6, rfl, a7, a8, a9, a10⟩
      · intro x H' y
        obtain ⟨F2, st2, p2, r⟩ := StOk.yield sti ok si y (d := xs[i]) (by simp [hlt])
        refine asg_ok st2 r g1 fun σ3 fp3 st3 p3 => ?_
        have pq := (p2.stp (lk := lkC vs)).trans p3
        -- the slots that are not the comprehension's own
        have lkj : ∀ j, j ∉ vs → lkP (lkC vs) j := fun j hj => by
          unfold lkP lkC
          simp [hj]
        have par3 : ∀ j, j ∉ vs → σ3[j]? = (wipe σ vs)[j]? ∧ ∀ b, fp3 j b → fpi j b := fun j hj => pq.par j (lkj j hj)
        have l3 : σ3.length = (wipe σ vs).length := by
          have h1 := st3.len
          have h2 := sti.len
          have h3 : env3.length = envi.length := asgT_len g1
          omega
        have w3 : wipe σ3 vs = wipe σ vs := by
          rw [wipe_same (σ1 := wipe σ vs) l3 fun j hj => (par3 j hj).1, wipe_wipe]
        refine ⟨w3, ?_⟩
        have nq3 : ¬ fpO fp3 q := fun ⟨j, z⟩ => by
          rcases pq.own j q z with z | z
          · exact nqi ⟨j, z⟩
          · rw [hqi] at z; cases z
        have ntl : ∀ {zs : List V}, NT (.lst zs) := fun ps z => by cases z
        have hq2 := pq.p.keep q _ hqi nqi ntl
        have Fq2 := pq.p.nofrz (by rw [hqi]; simp) nqi Fqi
        refine ⟨F2, env3, fp3, b, env4, st3, g2, fun H4 F4 fp4 st4 p4 => ?_⟩
        have hq4 := p4.p.keep q _ hq2 nq3 ntl
        have Fq4 := p4.p.nofrz (by rw [hq2]; simp) nq3 Fq2
        have nq4 : ¬ fpO fp4 q := fun ⟨j, z⟩ => nq3 ⟨j, (p4.par j trivial).2 q z⟩
        have pall4 : PStp F1 H1 (fpO (fpW fp1 vs)) F4 H4 := by
          refine (pi.trans pq.p fun b ⟨j, z⟩ => .inl ⟨j, oi j b z⟩).trans p4.p fun b ⟨j, z⟩ => ?_
          rcases pq.own j b z with z | z
          · exact .inl ⟨j, oi j b z⟩
          · exact .inr (pi.fresh b z)
        have o4 : ∀ j b, fpW fp4 vs j b → fpW fp1 vs j b := fun j b ⟨hj, z⟩ => oi j b ((par3 j hj).2 b ((p4.par j trivial).2 b z))
        have racc4 : Rps K mg F4 ws acc := Rps.mono (pq.p.fF.trans p4.p.fF) _ _ racc
        cases b with
        | false =>
          have ei : compL t tt el vs Φ (xs.drop (i + 1)) (wipeE env4 vs) acc = some (acc', env2) := ei
          refine ⟨F4, wipeE env4 vs, fpW fp4 vs, acc, ws, ?_, si.trans (pq.p.fF.trans p4.p.fF), hq4, racc4, Fq4, fun ⟨j, z⟩ => nq4 ⟨j, z.2⟩, hlt, ei, pall4, o4⟩
          rw [← w3]
          exact st4.wiped vs
        | true =>
          have ei : ((dFz el Φ env4).bind fun r => (r.1.asD).bind fun z => if acc.length < lim then compL t tt el vs Φ (xs.drop (i + 1)) (wipeE r.2 vs) (acc ++ [z]) else none) = some (acc', env2) := ei
          obtain ⟨⟨iv5, env5⟩, g3, ei⟩ := Option.bind_eq_some_iff.mp ei
          obtain ⟨z, g4, ei⟩ := Option.bind_eq_some_iff.mp ei
          split at ei
          case isFalse => cases ei
          case isTrue hacc =>
          obtain ⟨x5, rfl⟩ := fz_d g3
          cases g4
          refine fz_then st4 g3 fun v5 H5 F5 fp5 st5 p5 r5 => ?_
          have hq5 := p5.p.keep q _ hq4 nq4 ntl
          have Fq5 := p5.p.nofrz (by rw [hq4]; simp) nq4 Fq4
          have nq5 : ¬ fpO fp5 q := fun ⟨j, z⟩ => nq4 ⟨j, (p5.par j trivial).2 q z⟩
          have racc5 : Rps K mg F5 ws acc := Rps.mono p5.p.fF _ _ racc4
          refine ⟨ws, hq5, by rw [racc5.len]; exact Nat.lt_of_lt_of_le hacc (by decide), ?_⟩
          have pall5 : PStp F1 H1 (fpO (fpW fp1 vs)) F5 H5 := pall4.trans p5.p fun b ⟨j, z⟩ => by
            have z3 := (p4.par j trivial).2 b z
            rcases pq.own j b z3 with z | z
            · exact .inl ⟨j, oi j b z⟩
            · exact .inr (pi.fresh b z)
          refine ⟨F5, wipeE env5 vs, fpW fp5 vs, acc ++ [_], ws ++ [v5], ?_, si.trans (pq.p.fF.trans (p4.p.fF.trans p5.p.fF)), upd_same, racc5.app (.one r5), Fq5, fun ⟨j, z⟩ => nq5 ⟨j, z.2⟩, hlt, ei, ⟨pall5.fF, fun b o z n nt => ?_, fun b z => ?_, pall5.frz⟩, fun j b ⟨hj, z⟩ => o4 j b ⟨hj, (p5.par j trivial).2 b z⟩⟩
          · have := StOk.grow (o := .lst (ws ++ [v5])) (st5.wiped vs) Fq5 (fun ⟨j, z⟩ => nq5 ⟨j, z.2⟩) (.inr ⟨_, hq5⟩)
            rw [w3] at this
            exact this
          · rw [upd_ne (ne_of_none z hq)]; exact pall5.keep b o z n nt
          · by_cases hb : b = q
            · rw [hb]; exact hq
            · rw [upd_ne hb] at z; exact pall5.fresh b z
    · have hi' : i = xs.length := by omega
      subst hi'
      rw [List.drop_length] at ei
      cases ei
      refine .inl ⟨ok.stop Hi (si.trans sti.ex), ?_⟩
      have le : env1.length = env2.length := by
        have h1 := sti.len
        have h2 := st1.len
        rw [wipe_length] at h1
        omega
      have offO : ∀ j b, j ∈ vs → fp1 j b → ¬ fpO (fpW fp1 vs) b := fun j b hj z ⟨k, hk, y⟩ => hk (st1.disj j k b z y ▸ hj)
      refine c (.ref q) Hi Fi (fun j b => (j ∈ vs ∧ fp1 j b) ∨ (j ∉ vs ∧ fpi j b)) (fun b => b = q) ⟨sti.ex, ?_, ?_, ?_, ?_, ?_, sti.tb⟩ ⟨p1.p.trans pi fun b ⟨j, z⟩ => .inl ⟨j, (p1.par j trivial).2 b z.2⟩, ?_, ?_⟩ ⟨⟨q, ws, rfl, hqi, racc, fun _ => Iff.rfl⟩, fun b hb => by rw [hb]; exact ⟨p1.p.fresh q hq, Fqi⟩⟩
      · have h2 := st1.len
        rw [backE_len, ← le]
        exact h2
      · intro j iv e
        rw [backE_get env1 env2 j le] at e
        split at e
        case isTrue hj =>
          obtain ⟨v, h1, h2⟩ := st1.slot j iv e
          have ea : (fun b => (j ∈ vs ∧ fp1 j b) ∨ (j ∉ vs ∧ fpi j b)) = fp1 j := funext fun b => propext ⟨fun z => z.elim (·.2) fun z => absurd hj z.1, fun z => .inl ⟨hj, z⟩⟩
          rw [ea]
          exact ⟨v, h1, h2.mono si fun b z => pi.same (st1.hs z) (offO j b hj z) (h2.nt z)⟩
        case isFalse hj =>
          obtain ⟨v, h1, h2⟩ := sti.slot j iv e
          rw [wipe_get, if_neg hj] at h1
          have ea : (fun b => (j ∈ vs ∧ fp1 j b) ∨ (j ∉ vs ∧ fpi j b)) = fpi j := funext fun b => propext ⟨fun z => z.elim (fun z => absurd z.1 hj) (·.2), fun z => .inr ⟨hj, z⟩⟩
          rw [ea]
          exact ⟨v, h1, h2⟩
      · intro j b z
        rw [backE_get env1 env2 j le]
        rcases z with ⟨hj, z⟩ | ⟨hj, z⟩
        · rw [if_pos hj]; exact st1.emp j b z
        · rw [if_neg hj]; exact sti.emp j b z
      · intro j k b z y
        have f1 : ∀ j, ((j ∈ vs ∧ fp1 j b) ∨ (j ∉ vs ∧ fpi j b)) → fp1 j b := fun j z => z.elim (·.2) fun z => (oi j b z.2).2
        exact st1.disj j k b (f1 j z) (f1 k y)
      · intro j b z
        rcases z with ⟨hj, z⟩ | ⟨hj, z⟩
        · exact pi.nofrz (st1.hs z) (offO j b hj z) (st1.fr j b z)
        · exact sti.fr j b z
      · intro j b z
        rcases z with ⟨hj, z⟩ | ⟨hj, z⟩
        · exact .inl ((p1.par j trivial).2 b z)
        · exact .inl ((p1.par j trivial).2 b (oi j b z).2)
      · intro j _
        refine ⟨rfl, fun b z => ?_⟩
        rcases z with ⟨hj, z⟩ | ⟨hj, z⟩
        · exact (p1.par j trivial).2 b z
        · exact (p1.par j trivial).2 b (oi j b z).2
/-- over a list of the caller's, which stays his -/
def compO (i : Nat) (t : Tgt) (tt : TDen) (el : Den) (vs : List Nat) (Φ : Fenv) : Nat → Nat → Env → List D → Option (List D × Env)
  | 0, _, _, _ => none
  | n + 1, k, env, acc => match env[i]? with
    | some (some (.own xs)) => match xs[k]? with
      | none => some (acc, env)
      | some x => (asgT (lkC vs) t x env).bind fun env1 => (tt Φ env1).bind fun b =>
        if b.1 then (dFz el Φ b.2).bind fun r => (r.1.asD).bind fun z => if acc.length < lim then compO i t tt el vs Φ n (k + 1) (wipeE r.2 vs) (acc ++ [z]) else none
        else compO i t tt el vs Φ n (k + 1) (wipeE b.2 vs) acc
    | _ => none
def dCompO (i : Nat) (t : Tgt) (tt : TDen) (el : Den) (vs : List Nat) : Den := fun Φ env => if i ∈ vs then none else (compO i t tt el vs Φ whileFuel 0 (wipeE env vs) []).bind fun q => some (.own q.1, backE env q.2 vs)
theorem tE_CompO {i0 : Nat} {t : Tgt} {tt : TDen} {el : Den} {vs : List Nat} {Q : VK} (h : tE K mg Φ (dCompO i0 t tt el vs) σ H Q) :
    tLc (iList K (tVar i0)) (tgG K t) (tT K mg Φ tt) (tE K mg Φ el) vs σ H Q := by
  obtain ⟨F, env, fp, iv, env', st, e, c⟩ := h
  unfold dCompO at e
  split at e
  case isTrue => cases e
  case isFalse hiv =>
  obtain ⟨⟨acc', env2⟩, e2, e⟩ := Option.bind_eq_some_iff.mp e
  cases e
  have hx : ∃ xs, env[i0]? = some (some (.own xs)) := by
    obtain ⟨n0, hn0⟩ : ∃ n, whileFuel = n + 1 := ⟨999999, rfl⟩
    have e2 := e2
    rw [hn0] at e2
    unfold compO at e2
    rw [wipeE_get, if_neg hiv] at e2
    split at e2
    case h_1 xs q => exact ⟨xs, q⟩
    case h_2 => cases e2
  obtain ⟨xs0, hx0⟩ := hx
  obtain ⟨v0, s0, a0, vs0, rfl, ha0, rp0, _⟩ := st.slot i0 _ hx0
  refine ⟨.ref a0, s0, a0, rfl, ⟨vs0, .inl (.inl ha0)⟩, fun q hq => ?_⟩
  have p1 := (Stp.refl .. : EStp F H σ fp F H σ fp)
  generalize hF1 : F = F1 at *
  generalize hH1 : H = H1 at *
  generalize hfp1 : fp = fp1 at *
  generalize henv1 : env = env1 at *
  have st1 := st
  have Fq : F1 q = none := st1.Fnone hq
  have nq : ∀ j, ¬ fp1 j q := fun j z => st1.hs z hq
  refine ⟨fun i m Hi => ∃ Fi envi fpi acc ws, StOk K mg Fi Hi (wipe σ vs) envi fpi ∧ Same F1 Fi ∧ Hi q = some (.lst ws) ∧ Rps K mg Fi ws acc ∧ Fi q = none ∧ ¬ fpO fpi q ∧ 
      compO i0 t tt el vs Φ m i envi acc = some (acc', env2) ∧ PStp F1 H1 (fpO (fpW fp1 vs)) Fi Hi ∧ (∀ j b, fpi j b → fpW fp1 vs j b), ?_, ?_⟩
  · refine ⟨whileFuel, F1, wipeE env1 vs, fpW fp1 vs, [], [], ?_, Same.refl _, upd_same, .nil, Fq, fun ⟨j, z⟩ => nq j z.2, e2, ⟨Same.refl _, fun b o z _ _ => ?_, fun b z => ?_, fun b o z => .inl z⟩, fun j b z => z⟩
    · exact StOk.grow (st1.wiped vs) Fq (fun ⟨j, z⟩ => nq j z.2) (.inl hq)
    · rw [upd_ne (ne_of_none z hq)]; exact z
    · by_cases hb : b = q
      · rw [hb]; exact hq
      · rw [upd_ne hb] at z; exact z
  · rintro i m Hi ⟨Fi, envi, fpi, acc, ws, sti, si, hqi, racc, Fqi, nqi, ei, pi, oi⟩
    cases m with
    | zero => cases ei
    | succ m =>
    unfold compO at ei
    split at ei
    case h_2 => cases ei
    case h_1 xs hxs =>
    obtain ⟨v', s1, a', vs', e1, ha, rp, _⟩ := sti.slot i0 _ hxs
    rw [wipe_get, if_neg hiv, s0] at s1
    have ea : V.ref a0 = v' := Option.some.inj (Option.some.inj s1)
    subst ea
    cases e1
    have sq : SqL K Hi a0 vs' := .inl (.inl ha)
    split at ei
    case h_2 xk hk =>
      obtain ⟨y0, hy0, ry⟩ := rp.get i hk
      obtain ⟨env3, g1, ei⟩ := Option.bind_eq_some_iff.mp ei
      obtain ⟨⟨b, env4⟩, g2, ei⟩ := Option.bind_eq_some_iff.mp ei
      simp only at ei
      refine .inr ⟨⟨vs', y0, sq, hy0⟩, fun H' => ∃ Fi envi fpi acc ws, StOk K mg Fi H' (wipe σ vs) envi fpi ∧ Same F1 Fi ∧ H' q = some (.lst ws) ∧ Rps K mg Fi ws acc ∧ Fi q = none ∧ ¬ fpO fpi q ∧
        compO i0 t tt el vs Φ m (i + 1) envi acc = some (acc', env2) ∧ PStp F1 H1 (fpO (fpW fp1 vs)) Fi H' ∧ (∀ j b, fpi j b → fpW fp1 vs j b), ?_, ?_⟩
      · rintro H' ⟨Fj, envj, fpj, accj, wsj, a1, a2, a3, a4, a5, a6, a8, a9, a10⟩
        exact ⟨m, by omega, Fj, envj, fpj, accj, wsj, a1, a2, a3, a4, a5, a6, a8, a9, a10⟩
      · rintro x H' ⟨rfl, hy⟩
        have ey := hy vs' sq
        rw [hy0] at ey
        cases ey
        obtain ⟨F2, hF2⟩ : ∃ F2, F2 = Fi := ⟨_, rfl⟩
        subst hF2
        have p2 := (Stp.refl .. : EStp F2 H' (wipe σ vs) fpi F2 H' (wipe σ vs) fpi)
        refine asg_ok sti ry g1 fun σ3 fp3 st3 p3 => ?_
        have pq := p3
        -- the slots that are not the comprehension's own
        have lkj : ∀ j, j ∉ vs → lkP (lkC vs) j := fun j hj => by
          unfold lkP lkC
          simp [hj]
        have par3 : ∀ j, j ∉ vs → σ3[j]? = (wipe σ vs)[j]? ∧ ∀ b, fp3 j b → fpi j b := fun j hj => pq.par j (lkj j hj)
        have l3 : σ3.length = (wipe σ vs).length := by
          have h1 := st3.len
          have h2 := sti.len
          have h3 : env3.length = envi.length := asgT_len g1
          omega
        have w3 : wipe σ3 vs = wipe σ vs := by
          rw [wipe_same (σ1 := wipe σ vs) l3 fun j hj => (par3 j hj).1, wipe_wipe]
        refine ⟨w3, ?_⟩
        have nq3 : ¬ fpO fp3 q := fun ⟨j, z⟩ => by
          rcases pq.own j q z with z | z
          · exact nqi ⟨j, z⟩
          · rw [hqi] at z; cases z
        have ntl : ∀ {zs : List V}, NT (.lst zs) := fun ps z => by cases z
        have hq2 := pq.p.keep q _ hqi nqi ntl
        have Fq2 := pq.p.nofrz (by rw [hqi]; simp) nqi Fqi
        refine ⟨F2, env3, fp3, b, env4, st3, g2, fun H4 F4 fp4 st4 p4 => ?_⟩
        have hq4 := p4.p.keep q _ hq2 nq3 ntl
        have Fq4 := p4.p.nofrz (by rw [hq2]; simp) nq3 Fq2
        have nq4 : ¬ fpO fp4 q := fun ⟨j, z⟩ => nq3 ⟨j, (p4.par j trivial).2 q z⟩
        have pall4 : PStp F1 H1 (fpO (fpW fp1 vs)) F4 H4 := by
          refine (pi.trans pq.p fun b ⟨j, z⟩ => .inl ⟨j, oi j b z⟩).trans p4.p fun b ⟨j, z⟩ => ?_
          rcases pq.own j b z with z | z
          · exact .inl ⟨j, oi j b z⟩
          · exact .inr (pi.fresh b z)
        have o4 : ∀ j b, fpW fp4 vs j b → fpW fp1 vs j b := fun j b ⟨hj, z⟩ => oi j b ((par3 j hj).2 b ((p4.par j trivial).2 b z))
        have racc4 : Rps K mg F4 ws acc := Rps.mono (pq.p.fF.trans p4.p.fF) _ _ racc
        cases b with
        | false =>
          have ei : compO i0 t tt el vs Φ m (i + 1) (wipeE env4 vs) acc = some (acc', env2) := ei
          refine ⟨F4, wipeE env4 vs, fpW fp4 vs, acc, ws, ?_, si.trans (pq.p.fF.trans p4.p.fF), hq4, racc4, Fq4, fun ⟨j, z⟩ => nq4 ⟨j, z.2⟩, ei, pall4, o4⟩
          rw [← w3]
          exact st4.wiped vs
        | true =>
          have ei : ((dFz el Φ env4).bind fun r => (r.1.asD).bind fun z => if acc.length < lim then compO i0 t tt el vs Φ m (i + 1) (wipeE r.2 vs) (acc ++ [z]) else none) = some (acc', env2) := ei
          obtain ⟨⟨iv5, env5⟩, g3, ei⟩ := Option.bind_eq_some_iff.mp ei
          obtain ⟨z, g4, ei⟩ := Option.bind_eq_some_iff.mp ei
          split at ei
          case isFalse => cases ei
          case isTrue hacc =>
          obtain ⟨x5, rfl⟩ := fz_d g3
          cases g4
          refine fz_then st4 g3 fun v5 H5 F5 fp5 st5 p5 r5 => ?_
          have hq5 := p5.p.keep q _ hq4 nq4 ntl
          have Fq5 := p5.p.nofrz (by rw [hq4]; simp) nq4 Fq4
          have nq5 : ¬ fpO fp5 q := fun ⟨j, z⟩ => nq4 ⟨j, (p5.par j trivial).2 q z⟩
          have racc5 : Rps K mg F5 ws acc := Rps.mono p5.p.fF _ _ racc4
          refine ⟨ws, hq5, by rw [racc5.len]; exact Nat.lt_of_lt_of_le hacc (by decide), ?_⟩
          have pall5 : PStp F1 H1 (fpO (fpW fp1 vs)) F5 H5 := pall4.trans p5.p fun b ⟨j, z⟩ => by
            have z3 := (p4.par j trivial).2 b z
            rcases pq.own j b z3 with z | z
            · exact .inl ⟨j, oi j b z⟩
            · exact .inr (pi.fresh b z)
          refine ⟨F5, wipeE env5 vs, fpW fp5 vs, acc ++ [_], ws ++ [v5], ?_, si.trans (pq.p.fF.trans (p4.p.fF.trans p5.p.fF)), upd_same, racc5.app (.one r5), Fq5, fun ⟨j, z⟩ => nq5 ⟨j, z.2⟩, ei, ⟨pall5.fF, fun b o z n nt => ?_, fun b z => ?_, pall5.frz⟩, fun j b ⟨hj, z⟩ => o4 j b ⟨hj, (p5.par j trivial).2 b z⟩⟩
          · have := StOk.grow (o := .lst (ws ++ [v5])) (st5.wiped vs) Fq5 (fun ⟨j, z⟩ => nq5 ⟨j, z.2⟩) (.inr ⟨_, hq5⟩)
            rw [w3] at this
            exact this
          · rw [upd_ne (ne_of_none z hq)]; exact pall5.keep b o z n nt
          · by_cases hb : b = q
            · rw [hb]; exact hq
            · rw [upd_ne hb] at z; exact pall5.fresh b z
    case h_1 hk =>
      cases ei
      refine .inl ⟨⟨vs', sq, by rw [rp.len]; exact List.getElem?_eq_none_iff.mp hk⟩, ?_⟩
      have le : env1.length = env2.length := by
        have h1 := sti.len
        have h2 := st1.len
        rw [wipe_length] at h1
        omega
      have offO : ∀ j b, j ∈ vs → fp1 j b → ¬ fpO (fpW fp1 vs) b := fun j b hj z ⟨k, hk, y⟩ => hk (st1.disj j k b z y ▸ hj)
      refine c (.ref q) Hi Fi (fun j b => (j ∈ vs ∧ fp1 j b) ∨ (j ∉ vs ∧ fpi j b)) (fun b => b = q) ⟨sti.ex, ?_, ?_, ?_, ?_, ?_, sti.tb⟩ ⟨p1.p.trans pi fun b ⟨j, z⟩ => .inl ⟨j, (p1.par j trivial).2 b z.2⟩, ?_, ?_⟩ ⟨⟨q, ws, rfl, hqi, racc, fun _ => Iff.rfl⟩, fun b hb => by rw [hb]; exact ⟨p1.p.fresh q hq, Fqi⟩⟩
      · have h2 := st1.len
        rw [backE_len, ← le]
        exact h2
      · intro j iv e
        rw [backE_get env1 env2 j le] at e
        split at e
        case isTrue hj =>
          obtain ⟨v, h1, h2⟩ := st1.slot j iv e
          have ea : (fun b => (j ∈ vs ∧ fp1 j b) ∨ (j ∉ vs ∧ fpi j b)) = fp1 j := funext fun b => propext ⟨fun z => z.elim (·.2) fun z => absurd hj z.1, fun z => .inl ⟨hj, z⟩⟩
          rw [ea]
          exact ⟨v, h1, h2.mono si fun b z => pi.same (st1.hs z) (offO j b hj z) (h2.nt z)⟩
        case isFalse hj =>
          obtain ⟨v, h1, h2⟩ := sti.slot j iv e
          rw [wipe_get, if_neg hj] at h1
          have ea : (fun b => (j ∈ vs ∧ fp1 j b) ∨ (j ∉ vs ∧ fpi j b)) = fpi j := funext fun b => propext ⟨fun z => z.elim (fun z => absurd z.1 hj) (·.2), fun z => .inr ⟨hj, z⟩⟩
          rw [ea]
          exact ⟨v, h1, h2⟩
      · intro j b z
        rw [backE_get env1 env2 j le]
        rcases z with ⟨hj, z⟩ | ⟨hj, z⟩
        · rw [if_pos hj]; exact st1.emp j b z
        · rw [if_neg hj]; exact sti.emp j b z
      · intro j k b z y
        have f1 : ∀ j, ((j ∈ vs ∧ fp1 j b) ∨ (j ∉ vs ∧ fpi j b)) → fp1 j b := fun j z => z.elim (·.2) fun z => (oi j b z.2).2
        exact st1.disj j k b (f1 j z) (f1 k y)
      · intro j b z
        rcases z with ⟨hj, z⟩ | ⟨hj, z⟩
        · exact pi.nofrz (st1.hs z) (offO j b hj z) (st1.fr j b z)
        · exact sti.fr j b z
      · intro j b z
        rcases z with ⟨hj, z⟩ | ⟨hj, z⟩
        · exact .inl ((p1.par j trivial).2 b z)
        · exact .inl ((p1.par j trivial).2 b (oi j b z).2)
      · intro j _
        refine ⟨rfl, fun b z => ?_⟩
        rcases z with ⟨hj, z⟩ | ⟨hj, z⟩
        · exact (p1.par j trivial).2 b z
        · exact (p1.par j trivial).2 b (oi j b z).2
end
end SD
namespace SD
open PySem L2
def fput (f : Str) (x : D ⊕ List D) : List (Str × (D ⊕ List D)) → List (Str × (D ⊕ List D))
  | [] => []
  | (g, y) :: r => if g = f then (g, x) :: r else (g, y) :: fput f x r
section
variable {K : Fg} {mg : MG} {F H : Hp} {σ : L2.St} {env : Env} {fp : FP}
theorem TbOk.chg {F' H' : Hp} {S : AS} (h : TbOk K F H) (e : Same F F') (kp : ∀ b, ¬ S b → H' b = H b) (hf : ∀ b o, F' b = some o → F b = some o ∨ S b) (nt : ∀ b, S b → ∃ o, H b = some o ∧ NT o) : TbOk K F' H' := fun p hp => by
  have ns : ¬ S p.2 := fun z => by
    obtain ⟨_, ps, h1, _⟩ := h p hp
    obtain ⟨o, h2, n⟩ := nt _ z
    rw [h1] at h2
    exact n ps (Option.some.inj h2).symm
  refine (h p hp).to e ?_ (kp _ ns)
  cases q : F' p.2 with
  | none => rfl
  | some o =>
    rcases hf _ _ q with z | z
    · rw [(h p hp).1] at z; cases z
    · exact absurd z ns
def fpPut (fp : FP) (i : Nat) (S : AS) : FP := fun j => if j = i then S else fp j
theorem fpPut_self {i : Nat} {S : AS} : fpPut fp i S i = S := if_pos rfl
theorem fpPut_ne {i j : Nat} {S : AS} (h : j ≠ i) : fpPut fp i S j = fp j := if_neg h
/-- what slot i holds is changed where it stands -/
theorem StOk.chg (st : StOk K mg F H σ env fp) {i : Nat} {v : V} {iv iv' : IV} {F' H' : Hp} {S' : AS} (e : env[i]? = some (some iv)) (hs : σ[i]? = some (some v)) (hF : Same F F') (ex : Same F' H') (kp : ∀ b, ¬ fp i b → H' b = H b) (nn : ∀ b, H' b = none → H b = none)
    (hf : ∀ b o, F' b = some o → F b = some o ∨ fp i b) (ow : OwnV K mg F' H' v iv' S') (sub : ∀ b, S' b → fp i b) (nf : ∀ b, S' b → F' b = none) :
    StOk K mg F' H' σ (env.set i (some iv')) (fpPut fp i S') ∧ EStp F H σ fp F' H' σ (fpPut fp i S') := by
  have il : i < env.length := (List.getElem?_eq_some_iff.mp e).1
  obtain ⟨v0, _, o0⟩ := st.slot i iv e
  have up : ∀ j b, fpPut fp i S' j b → fp j b := fun j b z => by
    by_cases hj : j = i
    · subst hj; rw [fpPut_self] at z; exact sub b z
    · rw [fpPut_ne hj] at z; exact z
  refine ⟨⟨ex, by simpa using st.len, fun j jv q => ?_, fun j b z => ?_, fun j k b z y => st.disj j k b (up j b z) (up k b y), fun j b z => ?_, st.tb.chg hF kp hf fun b z => ?_⟩, ⟨⟨hF, fun b o q n _ => ?_, nn, fun b o q => (hf b o q).imp id fun z => .inl ⟨i, z⟩⟩, fun j b z => .inl (up j b z), fun j _ => ⟨rfl, fun b z => up j b z⟩⟩⟩
  · by_cases hj : j = i
    · subst hj
      rw [List.getElem?_set_self il] at q
      cases q
      rw [fpPut_self]
      exact ⟨v, hs, ow⟩
    · rw [List.getElem?_set_ne (Ne.symm hj)] at q
      obtain ⟨w, h1, h2⟩ := st.slot j jv q
      rw [fpPut_ne hj]
      exact ⟨w, h1, h2.mono hF fun b z => kp b fun y => hj (st.disj j i b z y)⟩
  · by_cases hj : j = i
    · subst hj; exact ⟨_, List.getElem?_set_self il⟩
    · obtain ⟨jv, q⟩ := st.emp j b (up j b z)
      exact ⟨jv, by rw [List.getElem?_set_ne (Ne.symm hj)]; exact q⟩
  · by_cases hj : j = i
    · subst hj; rw [fpPut_self] at z; exact nf b z
    · rw [fpPut_ne hj] at z
      cases q : F' b with
      | none => rfl
      | some o =>
        rcases hf b o q with y | y
        · rw [st.fr j b z] at y; cases y
        · exact absurd (st.disj j i b z y) hj
  · have hn := o0.hs z
    cases q : H b with
    | none => exact absurd q hn
    | some o => exact ⟨o, rfl, o0.nt z o q⟩
  · rw [kp b fun z => n ⟨i, z⟩]; exact q
/-- something that no slot holds is changed -/
theorem StOk.side (st : StOk K mg F H σ env fp) {x : Addr} {o o' : HO} (hx : H x = some o) (nt : NT o) (Fx : F x = none) (np : ∀ i, ¬ fp i x) : StOk K mg F (upd H x o') σ env fp := by
  refine ⟨fun b y q => ?_, st.len, fun j jv q => ?_, st.emp, st.disj, st.fr, st.tb.put hx nt⟩
  · rw [upd_ne (ne_of_none q Fx)]; exact st.ex b y q
  · obtain ⟨w, h1, h2⟩ := st.slot j jv q
    exact ⟨w, h1, h2.mono (Same.refl _) fun b z => upd_ne fun e => np j (by rw [← e]; exact z)⟩
/-- slot i is set aside -/
theorem StOk.aside (st : StOk K mg F H σ env fp) {i : Nat} : StOk K mg F H σ (env.set i none) (fpOff fp i) := by
  refine ⟨st.ex, by simpa using st.len, fun j jv q => ?_, fun j b z => ?_, fun j k b z y => st.disj j k b z.2 y.2, fun j b z => st.fr j b z.2, st.tb⟩
  · have hj : i ≠ j := fun e => by
      subst e
      by_cases hl : i < env.length
      · rw [List.getElem?_set_self hl] at q; cases q
      · rw [List.getElem?_eq_none (by simpa using Nat.le_of_not_lt hl)] at q; cases q
    rw [List.getElem?_set_ne hj] at q
    obtain ⟨v, g1, g2⟩ := st.slot j jv q
    have ea : fpOff fp i j = fp j := funext fun b => propext ⟨fun z => z.2, fun z => ⟨fun e => hj e.symm, z⟩⟩
    rw [ea]
    exact ⟨v, g1, g2⟩
  · obtain ⟨jv, q⟩ := st.emp j b z.2
    exact ⟨jv, by rw [List.getElem?_set_ne (Ne.symm z.1)]; exact q⟩
/-- and back -/
theorem StOk.back (st : StOk K mg F H σ env fp) {i : Nat} {v : V} {iv : IV} (e : env[i]? = some (some iv)) (hs : σ[i]? = some (some v)) {F2 H2 : Hp} {env2 : Env} {fp2 : FP} (st2 : StOk K mg F2 H2 σ env2 fp2) (p : EStp F H σ (fpOff fp i) F2 H2 σ fp2) :
    OwnV K mg F2 H2 v iv (fp i) ∧ StOk K mg F2 H2 σ (env2.set i (some iv)) (fpPut fp2 i (fp i)) ∧ EStp F H σ fp F2 H2 σ (fpPut fp2 i (fp i)) := by
  obtain ⟨w, h1, ow⟩ := st.slot i iv e
  rw [hs] at h1; cases h1
  have il : i < env2.length := by rw [← st2.len, st.len]; exact (List.getElem?_eq_some_iff.mp e).1
  have off : ∀ b, fp i b → ¬ fpO (fpOff fp i) b := fun b z ⟨j, y1, y2⟩ => y1 (st.disj j i b y2 z)
  have ow2 : OwnV K mg F2 H2 v iv (fp i) := ow.mono p.p.fF fun b z => p.p.same (ow.hs z) (off b z) (ow.nt z)
  have dn : ∀ j b, fp2 j b → j ≠ i ∧ fp j b := fun j b z => (p.par j trivial).2 b z
  have up : ∀ j b, fpPut fp2 i (fp i) j b → fp j b := fun j b z => by
    by_cases hj : j = i
    · subst hj; rw [fpPut_self] at z; exact z
    · rw [fpPut_ne hj] at z; exact (dn j b z).2
  refine ⟨ow2, ⟨st2.ex, by simpa using st2.len, fun j jv q => ?_, fun j b z => ?_, fun j k b z y => st.disj j k b (up j b z) (up k b y), fun j b z => ?_, st2.tb⟩, ⟨p.p.mono fun b ⟨j, z⟩ => ⟨j, z.2⟩, fun j b z => .inl (up j b z), fun j _ => ⟨rfl, fun b z => up j b z⟩⟩⟩
  · by_cases hj : j = i
    · subst hj
      rw [List.getElem?_set_self il] at q
      cases q
      rw [fpPut_self]
      exact ⟨v, hs, ow2⟩
    · rw [List.getElem?_set_ne (Ne.symm hj)] at q
      rw [fpPut_ne hj]
      exact st2.slot j jv q
  · by_cases hj : j = i
    · subst hj; exact ⟨_, List.getElem?_set_self il⟩
    · rw [fpPut_ne hj] at z
      obtain ⟨jv, q⟩ := st2.emp j b z
      exact ⟨jv, by rw [List.getElem?_set_ne (Ne.symm hj)]; exact q⟩
  · by_cases hj : j = i
    · subst hj
      rw [fpPut_self] at z
      exact p.p.nofrz (ow.hs z) (off b z) (st.fr _ b z)
    · rw [fpPut_ne hj] at z; exact st2.fr j b z
theorem look_cons {α : Type} {f n : Str} {x : α} {r : List (Str × α)} : List.lookup f ((n, x) :: r) = if f = n then some x else List.lookup f r := by
  rw [List.lookup_cons]
  by_cases h : f = n
  · subst h; simp
  · rw [if_neg h, beq_eq_false_iff_ne.mpr h]
theorem FldsOk.len {fv : List (Str × V)} {fs : List (Str × (D ⊕ List D))} {os : List Addr} (h : FldsOk K mg F H fv fs os) : fv.length = fs.length := by
  induction h with
  | nil => rfl
  | dat _ _ ih => simp [ih]
  | own _ _ _ _ ih => simp [ih]
theorem FldsOk.non0 {fv : List (Str × V)} {fs : List (Str × (D ⊕ List D))} {os : List Addr} {f : Str} (h : FldsOk K mg F H fv fs os) : fs.lookup f = none → fv.lookup f = none := by
  induction h with
  | nil => exact fun _ => rfl
  | dat _ _ ih =>
    rw [look_cons, look_cons]
    split
    · exact fun z => nomatch z
    · exact ih
  | own _ _ _ _ ih =>
    rw [look_cons, look_cons]
    split
    · exact fun z => nomatch z
    · exact ih
theorem FldsOk.inl {fv : List (Str × V)} {fs : List (Str × (D ⊕ List D))} {os : List Addr} {f : Str} {d : D} (h : FldsOk K mg F H fv fs os) : fs.lookup f = some (.inl d) → ∃ v, fv.lookup f = some v ∧ Rp K mg F v d := by
  induction h with
  | nil => exact fun z => nomatch z
  | dat h1 _ ih =>
    rw [look_cons, look_cons]
    split
    · intro z; cases z; exact ⟨_, rfl, h1⟩
    · exact ih
  | own _ _ _ _ ih =>
    rw [look_cons, look_cons]
    split
    · exact fun z => nomatch z
    · exact ih
theorem FldsOk.inr {fv : List (Str × V)} {fs : List (Str × (D ⊕ List D))} {os : List Addr} {f : Str} {xs : List D} (h : FldsOk K mg F H fv fs os) : fs.lookup f = some (.inr xs) → ∃ b vs, fv.lookup f = some (.ref b) ∧ b ∈ os ∧ H b = some (.lst vs) ∧ Rps K mg F vs xs := by
  induction h with
  | nil => exact fun z => nomatch z
  | dat h1 _ ih =>
    rw [look_cons, look_cons]
    split
    · exact fun z => nomatch z
    · exact ih
  | own h1 h2 _ _ ih =>
    rw [look_cons, look_cons]
    split
    · intro z; cases z; exact ⟨_, _, rfl, List.mem_cons_self .., h1, h2⟩
    · intro z
      obtain ⟨b, vs, g1, g2, g3⟩ := ih z
      exact ⟨b, vs, g1, List.mem_cons_of_mem _ g2, g3⟩
theorem FldsOk.put {fv : List (Str × V)} {fs : List (Str × (D ⊕ List D))} {os : List Addr} {f : Str} {v : V} {d : D} (h : FldsOk K mg F H fv fs os) (r : Rp K mg F v d) : (fs.lookup f).isSome = true → ∃ os', FldsOk K mg F H (putF f v fv) (fput f (.inl d) fs) os' ∧ ∀ b ∈ os', b ∈ os := by
  induction h with
  | nil => exact fun z => nomatch z
  | @dat n w e rv rs os h1 h2 ih =>
    rw [look_cons]
    intro z
    show ∃ os', FldsOk K mg F H (if n = f then (n, v) :: rv else (n, w) :: putF f v rv) (if n = f then (n, .inl d) :: rs else (n, .inl e) :: fput f (.inl d) rs) os' ∧ _
    by_cases hn : n = f
    · rw [if_pos hn, if_pos hn]
      exact ⟨os, .dat r h2, fun b hb => hb⟩
    · rw [if_neg hn, if_neg hn]
      rw [if_neg (fun e => hn e.symm)] at z
      obtain ⟨os', g1, g2⟩ := ih z
      exact ⟨os', .dat h1 g1, g2⟩
  | @own n b0 ws xs rv rs os h1 h2 h3 h4 ih =>
    rw [look_cons]
    intro z
    show ∃ os', FldsOk K mg F H (if n = f then (n, v) :: rv else (n, .ref b0) :: putF f v rv) (if n = f then (n, .inl d) :: rs else (n, .inr xs) :: fput f (.inl d) rs) os' ∧ _
    by_cases hn : n = f
    · rw [if_pos hn, if_pos hn]
      exact ⟨os, .dat r h4, fun b hb => List.mem_cons_of_mem _ hb⟩
    · rw [if_neg hn, if_neg hn]
      rw [if_neg (fun e => hn e.symm)] at z
      obtain ⟨os', g1, g2⟩ := ih z
      refine ⟨b0 :: os', .own h1 h2 (fun y => h3 (g2 _ y)) g1, fun b hb => ?_⟩
      rcases List.mem_cons.mp hb with e | e
      · rw [e]; exact List.mem_cons_self ..
      · exact List.mem_cons_of_mem _ (g2 b e)
theorem FldsOk.frz {fv : List (Str × V)} {fs : List (Str × (D ⊕ List D))} {os : List Addr} {f : Str} {xs : List D} {b : Addr} {vs : List V} (h : FldsOk K mg F H fv fs os) (Fb : F b = none) (hb : H b = some (.lst vs)) (rs : Rps K mg F vs xs) :
    fs.lookup f = some (.inr xs) → fv.lookup f = some (.ref b) → ∃ os', FldsOk K mg (upd F b (.lst vs)) H fv (fput f (.inl (.lst xs)) fs) os' ∧ ∀ x ∈ os', x ∈ os ∧ x ≠ b := by
  have s1 : Same F (upd F b (.lst vs)) := same_upd Fb
  induction h with
  | nil => exact fun z => nomatch z
  | @dat n w e rv rs2 os h1 h2 ih =>
    rw [look_cons, look_cons]
    intro z y
    show ∃ os', FldsOk K mg _ H ((n, w) :: rv) (if n = f then (n, .inl (.lst xs)) :: rs2 else (n, .inl e) :: fput f (.inl (.lst xs)) rs2) os' ∧ _
    by_cases hn : f = n
    · rw [if_pos hn] at z; cases z
    · rw [if_neg hn] at z y
      rw [if_neg (fun e => hn e.symm)]
      obtain ⟨os', g1, g2⟩ := ih z y
      exact ⟨os', .dat (Rp.mono s1 _ _ h1) g1, g2⟩
  | @own n b0 ws xs0 rv rs2 os h1 h2 h3 h4 ih =>
    rw [look_cons, look_cons]
    intro z y
    show ∃ os', FldsOk K mg _ H ((n, .ref b0) :: rv) (if n = f then (n, .inl (.lst xs)) :: rs2 else (n, .inr xs0) :: fput f (.inl (.lst xs)) rs2) os' ∧ _
    by_cases hn : f = n
    · rw [if_pos hn] at z y
      cases z
      cases y
      rw [if_pos hn.symm]
      refine ⟨os, .dat (.lst (.inl (.inl upd_same)) (Rps.mono s1 _ _ rs)) (h4.mono s1 fun _ _ => rfl), fun x hx => ⟨List.mem_cons_of_mem _ hx, fun e => h3 (by rw [← e]; exact hx)⟩⟩
    · rw [if_neg hn] at z y
      rw [if_neg (fun e => hn e.symm)]
      obtain ⟨os', g1, g2⟩ := ih z y
      obtain ⟨b', _, q1, q2, _⟩ := h4.inr z
      rw [y] at q1
      cases q1
      refine ⟨b0 :: os', .own h1 (Rps.mono s1 _ _ h2) (fun q => h3 (g2 _ q).1) g1, fun x hx => ?_⟩
      rcases List.mem_cons.mp hx with e | e
      · rw [e]; exact ⟨List.mem_cons_self .., fun e => h3 (by rw [e]; exact q2)⟩
      · exact ⟨List.mem_cons_of_mem _ (g2 x e).1, (g2 x e).2⟩
theorem FldsOk.app {fv : List (Str × V)} {fs : List (Str × (D ⊕ List D))} {os : List Addr} {f : Str} {xs xs' : List D} {b : Addr} {ws : List V} (h : FldsOk K mg F H fv fs os) (rs : Rps K mg F ws xs') :
    fs.lookup f = some (.inr xs) → fv.lookup f = some (.ref b) → FldsOk K mg F (upd H b (.lst ws)) fv (fput f (.inr xs') fs) os := by
  induction h with
  | nil => exact fun z => nomatch z
  | @dat n w e rv rs2 os h1 h2 ih =>
    rw [look_cons, look_cons]
    intro z y
    show FldsOk K mg F _ ((n, w) :: rv) (if n = f then (n, .inr xs') :: rs2 else (n, .inl e) :: fput f (.inr xs') rs2) os
    by_cases hn : f = n
    · rw [if_pos hn] at z; cases z
    · rw [if_neg hn] at z y
      rw [if_neg (fun e => hn e.symm)]
      exact .dat h1 (ih z y)
  | @own n b0 ws0 xs0 rv rs2 os h1 h2 h3 h4 ih =>
    rw [look_cons, look_cons]
    intro z y
    show FldsOk K mg F _ ((n, .ref b0) :: rv) (if n = f then (n, .inr xs') :: rs2 else (n, .inr xs0) :: fput f (.inr xs') rs2) (b0 :: os)
    by_cases hn : f = n
    · rw [if_pos hn] at z y
      cases z
      cases y
      rw [if_pos hn.symm]
      exact .own upd_same rs h3 (h4.mono (Same.refl _) fun x hx => upd_ne fun e => h3 (by rw [← e]; exact hx))
    · rw [if_neg hn] at z y
      rw [if_neg (fun e => hn e.symm)]
      obtain ⟨b', _, q1, q2, _⟩ := h4.inr z
      rw [y] at q1
      cases q1
      exact .own (by rw [upd_ne fun e => h3 (by rw [e]; exact q2)]; exact h1) h2 h3 (ih z y)
theorem FldsOk.snocD {fv : List (Str × V)} {fs : List (Str × (D ⊕ List D))} {os : List Addr} {f : Str} {v : V} {d : D} (h : FldsOk K mg F H fv fs os) (r : Rp K mg F v d) : FldsOk K mg F H (fv ++ [(f, v)]) (fs ++ [(f, .inl d)]) os := by
  induction h with
  | nil => exact .dat r .nil
  | dat h1 _ ih => exact .dat h1 ih
  | own h1 h2 h3 _ ih => exact .own h1 h2 h3 ih
theorem FldsOk.snocO {fv : List (Str × V)} {fs : List (Str × (D ⊕ List D))} {os : List Addr} {f : Str} {b : Addr} {vs : List V} {xs : List D} (h : FldsOk K mg F H fv fs os) (hb : H b = some (.lst vs)) (r : Rps K mg F vs xs) : b ∉ os → FldsOk K mg F H (fv ++ [(f, .ref b)]) (fs ++ [(f, .inr xs)]) (os ++ [b]) := by
  induction h with
  | nil => exact fun _ => .own hb r (by simp) .nil
  | dat h1 _ ih => exact fun z => .dat h1 (ih z)
  | own h1 h2 h3 _ ih =>
    intro z
    refine .own h1 h2 (fun q => ?_) (ih fun q => z (List.mem_cons_of_mem _ q))
    rcases List.mem_append.mp q with q | q
    · exact h3 q
    · exact z (by rw [List.mem_singleton.mp q]; exact List.mem_cons_self ..)
theorem putF_new {f : Str} {v : V} : ∀ {fv : List (Str × V)}, fv.lookup f = none → putF f v fv = fv ++ [(f, v)]
  | [], _ => rfl
  | (n, w) :: r, h => by
    rw [look_cons] at h
    split at h
    case isTrue => cases h
    case isFalse hn =>
      show (if n = f then (n, v) :: r else (n, w) :: putF f v r) = _
      rw [if_neg (fun e => hn e.symm), putF_new h]; rfl
def pFld (fl : List (Str × Str)) (f : Str) : Prim := fun ivs => match ivs with
  | [.obj c fs] => if fl.contains (c, f) then (match fs.lookup f with
    | some (.inl x) => some (.d x, [.obj c fs])
    | some (.inr xs) => some (.d (.lst xs), [.obj c (fput f (.inl (.lst xs)) fs)])
    | none => none) else none
  | _ => none
theorem ok_fld {fl : List (Str × Str)} {f : Str} {x : V} {Q : VK} (h : tPrim K mg (pFld fl f) [x] H Q) : ∃ a C dx fv v c, x = .ref a ∧ H a = some (.ins C dx fv) ∧ (c, f) ∈ fl ∧ mg c = some (.ref C) ∧ fv.lookup f = some v ∧ Q v H := by
  obtain ⟨F, ivs, fp, res, ivs', st, e, c⟩ := h
  unfold pFld at e
  split at e
  case h_2 => cases e
  case h_1 cn fs =>
    split at e
    case isFalse => cases e
    case isTrue hc =>
      have hm : (cn, f) ∈ fl := List.contains_iff_mem.mp hc
      obtain ⟨w, g1, a, C, dx, fv, os, e1, m, e2, fo, s⟩ := st.slot 0 _ rfl
      cases g1
      subst e1
      split at e
      case h_1 y l =>
        cases e
        obtain ⟨v, l1, r⟩ := fo.inl l
        exact ⟨a, C, dx, fv, v, cn, rfl, e2, hm, m, l1, c v H F fp _ st (.refl ..) (.ofD r)⟩
      case h_2 xs l =>
        cases e
        obtain ⟨b, vs, l1, hb, h3, r⟩ := fo.inr l
        have fb : fp 0 b := (s b).mpr (.inr hb)
        have fa : fp 0 a := (s a).mpr (.inl rfl)
        have Fb : F b = none := st.fr 0 b fb
        obtain ⟨os', g1, g2⟩ := fo.frz Fb h3 r l l1
        have nab : a ≠ b := fun e => by rw [e, h3] at e2; cases e2
        obtain ⟨st', p'⟩ := st.chg (i := 0) (v := .ref a) (iv' := .obj cn (fput f (.inl (.lst xs)) fs)) (F' := upd F b (.lst vs)) (H' := H) (S' := fun z => z = a ∨ z ∈ os') rfl rfl (same_upd Fb) (fun z o q => by
          by_cases hz : z = b
          · rw [hz, upd_same] at q; cases q; rw [hz]; exact h3
          · rw [upd_ne hz] at q; exact st.ex z o q) (fun _ _ => rfl) (fun _ q => q) (fun z o q => by
          by_cases hz : z = b
          · rw [hz]; exact .inr fb
          · rw [upd_ne hz] at q; exact .inl q) ⟨a, C, dx, fv, os', rfl, m, e2, g1, fun z => Iff.rfl⟩ (fun z q => by
          rcases q with q | q
          · rw [q]; exact fa
          · exact (s z).mpr (.inr (g2 z q).1)) (fun z q => by
          rcases q with q | q
          · rw [q, upd_ne nab]; exact st.fr 0 a fa
          · rw [upd_ne (g2 z q).2]; exact st.fr 0 z ((s z).mpr (.inr (g2 z q).1)))
        exact ⟨a, C, dx, fv, .ref b, cn, rfl, e2, hm, m, l1, c _ H _ _ _ st' p' (.ofD (.lst (.inl (.inl upd_same)) (Rps.mono (same_upd Fb) _ _ r)))⟩
      case h_3 => cases e
def pSetF (fl : List (Str × Str)) (f : Str) : Prim := fun ivs => match ivs with
  | [.d x, .obj c fs] => if fl.contains (c, f) && (fs.lookup f).isSome && decide (fs.length < 1000) then some (.d .non, [.d x, .obj c (fput f (.inl x) fs)]) else none
  | _ => none
theorem ok_setF {fl : List (Str × Str)} {f : Str} {x y : V} {Q : VK} (h : tPrim K mg (pSetF fl f) [y, x] H Q) : ∃ a C dx fv c, x = .ref a ∧ H a = some (.ins C dx fv) ∧ (c, f) ∈ fl ∧ mg c = some (.ref C) ∧ fv.length < 1000 ∧ Q .non (upd H a (.ins C dx (putF f y fv))) := by
  obtain ⟨F, ivs, fp, res, ivs', st, e, c⟩ := h
  unfold pSetF at e
  split at e
  case h_2 => cases e
  case h_1 z cn fs =>
    split at e
    case isFalse => cases e
    case isTrue hc =>
      obtain ⟨hc, h3⟩ := Bool.and_eq_true_iff.mp hc
      obtain ⟨h1, h2⟩ := Bool.and_eq_true_iff.mp hc
      cases e
      obtain ⟨w0, g0, rz⟩ := st.slot 0 _ rfl
      cases g0
      obtain ⟨w, g1, a, C, dx, fv, os, e1, m, e2, fo, s⟩ := st.slot 1 _ rfl
      cases g1
      subst e1
      obtain ⟨os', k1, k2⟩ := fo.put rz.1 h2
      have fa : fp 1 a := (s a).mpr (.inl rfl)
      have Fa : F a = none := st.fr 1 a fa
      have no : ∀ b ∈ os, b ≠ a := fun b hb e => by
        obtain ⟨vs, q⟩ := fo.hs b hb
        rw [e, e2] at q; cases q
      obtain ⟨st', p'⟩ := st.chg (i := 1) (v := .ref a) (iv' := .obj cn (fput f (.inl z) fs)) (F' := F) (H' := upd H a (.ins C dx (putF f y fv))) (S' := fun z => z = a ∨ z ∈ os') rfl rfl (Same.refl _) (fun b o q => by
        rw [upd_ne (ne_of_none q Fa)]; exact st.ex b o q) (fun b n => upd_ne fun e => n (by rw [e]; exact fa)) (fun b q => by
        by_cases hb : b = a
        · rw [hb, upd_same] at q; cases q
        · rw [upd_ne hb] at q; exact q) (fun b o q => .inl q) ⟨a, C, dx, _, os', rfl, m, upd_same, k1.mono (Same.refl _) fun b hb => upd_ne (no b (k2 b hb)), fun z => Iff.rfl⟩ (fun z q => by
        rcases q with q | q
        · rw [q]; exact fa
        · exact (s z).mpr (.inr (k2 z q))) (fun z q => by
        rcases q with q | q
        · rw [q]; exact Fa
        · exact st.fr 1 z ((s z).mpr (.inr (k2 z q))))
      exact ⟨a, C, dx, fv, cn, rfl, e2, List.contains_iff_mem.mp h1, m, by rw [fo.len]; exact of_decide_eq_true h3, c .non _ _ _ _ st' p' (.ofD .non)⟩
def dAppF (fl : List (Str × Str)) (i : Nat) (f : Str) (d : Den) : Den := fun Φ env => match env[i]? with
  | some (some (.obj c fs)) => if fl.contains (c, f) then (match fs.lookup f with
    | some (.inr xs) => (dFz d Φ (env.set i none)).bind fun r => match r.1 with
      | .d x => if xs.length < lim then some (.d .non, r.2.set i (some (.obj c (fput f (.inr (xs ++ [x])) fs)))) else none
      | _ => none
    | _ => none) else none
  | _ => none
theorem ok_appF {Φ : Fenv} {fl : List (Str × Str)} {i : Nat} {f : Str} {d : Den} {Q : VK} (h : tE K mg Φ (dAppF fl i f d) σ H Q) : tVar i σ H fun x H1 => ∃ a C dx fv v c vs, x = .ref a ∧ H1 a = some (.ins C dx fv) ∧ (c, f) ∈ fl ∧ mg c = some (.ref C) ∧ fv.lookup f = some v ∧ (∃ b, v = .ref b ∧ SqL K H1 b vs) ∧
    tE K mg Φ (dFz d) σ H1 fun y H2 => rAppend v [y] H2 Q := by
  obtain ⟨F, env, fp, iv, env', st, e, cc⟩ := h
  unfold dAppF at e
  split at e
  case h_2 => cases e
  case h_1 cn fs q =>
    split at e
    case isFalse => cases e
    case isTrue hc =>
      split at e
      case h_2 => cases e
      case h_1 xs l =>
        obtain ⟨⟨iv1, env1⟩, e1, e⟩ := Option.bind_eq_some_iff.mp e
        simp only at e
        split at e
        case h_2 => cases e
        case h_1 z =>
          split at e
          case isFalse => cases e
          case isTrue hl =>
            cases e
            obtain ⟨w, g1, a, C, dx, fv, os, e2, m, e3, fo, s⟩ := st.slot i _ q
            subst e2
            obtain ⟨b, vs, l1, hb, h3, r⟩ := fo.inr l
            refine ⟨_, g1, a, C, dx, fv, .ref b, cn, vs, rfl, e3, List.contains_iff_mem.mp hc, m, l1, ⟨b, rfl, .inl (.inl h3)⟩, F, env.set i none, fpOff fp i, .d z, env1, st.aside, e1, fun y H2 F2 fp2 S st2 p2 t => ?_⟩
            obtain ⟨⟨a2, C2, dx2, fv2, os2, f1, m2, f2, fo2, s2⟩, stb, pb⟩ := st.back q g1 st2 p2
            have off : ∀ x, fp i x → ¬ fpO (fpOff fp i) x := fun x hz ⟨j, y1, y2⟩ => y1 (st.disj j i x y2 hz)
            have fa : fp i a := (s a).mpr (.inl rfl)
            have fb : fp i b := (s b).mpr (.inr hb)
            cases f1
            have ea : H2 a = some (.ins C dx fv) := p2.p.keep a _ e3 (off a fa) (fun ps z => by cases z)
            rw [ea] at f2
            cases f2
            obtain ⟨b', vs', l2, hb', h4, r'⟩ := fo2.inr l
            rw [l1] at l2
            cases l2
            have eb : H2 b = some (.lst vs) := p2.p.keep b _ h3 (off b fb) (fun ps z => by cases z)
            rw [eb] at h4
            cases h4
            have il : i < env1.length := by
              have h1 := (List.getElem?_eq_some_iff.mp q).1
              have h2 := st2.len
              have h3 := st.len
              omega
            have qb : (env1.set i (some (.obj cn fs)))[i]? = some (some (.obj cn fs)) := List.getElem?_set_self il
            have Fb : F2 b = none := by
              have := stb.fr i b
              rw [fpPut_self] at this
              exact this fb
            have Fa : F2 a = none := by
              have := stb.fr i a
              rw [fpPut_self] at this
              exact this fa
            have nab : a ≠ b := fun e => by rw [e, eb] at ea; cases ea
            have ry : Rps K mg F2 (vs ++ [y]) (xs ++ [z]) := r'.app (.one t.1.1)
            obtain ⟨st', p'⟩ := stb.chg (i := i) (v := .ref a) (iv' := .obj cn (fput f (.inr (xs ++ [z])) fs)) (F' := F2) (H' := upd H2 b (.lst (vs ++ [y]))) (S' := fun z => z = a ∨ z ∈ os2) qb g1 (Same.refl _) (fun x o w => by
              rw [upd_ne (ne_of_none w Fb)]; exact stb.ex x o w) (fun x n => upd_ne fun e => n (by rw [fpPut_self, e]; exact fb)) (fun x w => by
              by_cases hx : x = b
              · rw [hx, upd_same] at w; cases w
              · rw [upd_ne hx] at w; exact w) (fun x o w => .inl w) ⟨a, C, dx, fv, os2, rfl, m, by rw [upd_ne nab]; exact ea, fo2.app ry l l1, fun z => Iff.rfl⟩ (fun x w => by
              rw [fpPut_self]; exact (s2 x).mpr w) (fun x w => by
              have := stb.fr i x
              rw [fpPut_self] at this
              exact this ((s2 x).mpr w))
            rw [List.set_set] at st'
            have hl2 : vs.length < sizeLine := by rw [r'.len]; exact Nat.lt_of_lt_of_le hl (by decide)
            exact ⟨b, vs, y, rfl, rfl, eb, hl2, cc .non _ _ _ _ st' (pb.trans p') (.ofD .non)⟩
/-- what __init__ is handed: the new instance itself, then its arguments -/
def tInit (K : Fg) (mg : MG) (Ca : Addr) (p : Prim) : List V → Hp → VK → Prop := fun vs H Q => ∃ x vs0 dx F ivs fp res ivs', vs = .ref x :: vs0 ∧ H x = some (.ins Ca dx []) ∧ F x = none ∧ (∀ i, ¬ fp i x) ∧ StOk K mg F H (vs0.map some) (ivs.map some) fp ∧ p ivs = some (res, ivs') ∧
  ∀ H' F' fp' S, StOk K mg F' H' (vs0.map some) (ivs'.map some) fp' → PStp F H (fun b => fpO fp b ∨ b = x) F' H' → (∀ i b, fp' i b → fp i b) → OwnV K mg F' H' (.ref x) res S → (∀ b, S b → (b = x ∨ H b = none) ∧ F' b = none) → Q .non H'
theorem prim_init {Ca : Addr} {p : Prim} {vs : List V} {Q : VK} (h : tPrim K mg p vs H Q) : ∀ x dx, H x = none → H dx = none → dx ≠ x → tInit K mg Ca p (.ref x :: vs) (upd (upd H dx (.own x)) x (.ins Ca dx [])) (fun v H2 => v = .non ∧ Q (.ref x) H2) := by
  intro x dx hx hd hne
  obtain ⟨F, ivs, fp, res, ivs', st, e, c⟩ := h
  obtain ⟨s1, p1⟩ := StOk.allocO (o := .own x) st hd
  have hx' : upd H dx (.own x) x = none := by rw [upd_ne (Ne.symm hne)]; exact hx
  obtain ⟨s2, p2⟩ := StOk.allocO (o := .ins Ca dx []) s1 hx'
  refine ⟨x, vs, dx, F, ivs, fp, res, ivs', rfl, upd_same, st.ex.free hx, fun i z => st.hs z hx, s2, e, fun H' F' fp' S st' ps par ow new => ⟨rfl, ?_⟩⟩
  have p12 := p1.trans p2
  refine c (.ref x) H' F' fp' S st' ⟨p12.p.trans ps fun b z => ?_, fun i b z => .inl (par i b z), fun i _ => ⟨rfl, fun b z => par i b z⟩⟩ ⟨ow, fun b z => ⟨?_, (new b z).2⟩⟩
  · rcases z with z | z
    · exact .inl z
    · rw [z]; exact .inr hx
  · rcases (new b z).1 with z | z
    · rw [z]; exact hx
    · exact p12.p.fresh b z
def runIni (Φ : Fenv) : List (Str × Den) → Env → List (Str × (D ⊕ List D)) → Option (List (Str × (D ⊕ List D)) × Env)
  | [], env, fs => some (fs, env)
  | (f, d) :: r, env, fs => if (fs.lookup f).isNone && decide (fs.length < 1000) then (d Φ env).bind fun q => match q.1 with
    | .d x => runIni Φ r q.2 (fs ++ [(f, .inl x)])
    | .own xs => runIni Φ r q.2 (fs ++ [(f, .inr xs)])
    | _ => none else none
end
end SD
namespace SD
open PySem PySem.Spec PyProof.Rows L2
section
variable {X : Cx} {pins : List (Addr × Obj)} {σ : L2.St} {H : Hp} {s : Shared} {a : Addr}
theorem excO_get {P : Program} {w : World} {h : Heap} {cls : Value} {od : Option Addr} (hok : HOk P w H h) (e : H a = some (ExcO cls od a)) : ∃ (oe : Obj) (vs : Array Value), h.get? a = some oe ∧ Zc cls od oe ∧ oe.data = .fields vs := by
  have z : ObjOk P w H h a (.ext fun h => ∃ (oe : Obj) (vs : Array Value), h.get? a = some oe ∧ Zc cls od oe ∧ oe.data = .fields vs) := hok a _ e
  exact z.1
theorem excO_ok {P : Program} {w : World} {h : Heap} {cls : Value} {od : Option Addr} {oe : Obj} {vs : Array Value} (e : h.get? a = some oe) (z : Zc cls od oe) (d : oe.data = .fields vs) : ObjOk P w H h a (ExcO cls od a) :=
  ⟨⟨oe, vs, e, z, d⟩, ⟨oe, e⟩, fun _ _ ⟨o, v, q, r⟩ k => ⟨o, v, k o q, r⟩⟩
/-- what is new and stands is tracked from now on -/
theorem Inv.track (I : Inv X pins σ H s) {o : HO} (ok : ObjOk X.prog X.w H s.heap a o) (na : H a = none) (new : X.s_0.heap.get? a = none) (nL : a ≠ X.env.locals) (nc : ∀ v, ¬ s.heap.IsCell a v) (np : ∀ p ∈ X.pn ++ pins, p.1 ≠ a)
    (ok' : ObjOk X.prog X.w H s.heap a o → ObjOk X.prog X.w (upd H a o) s.heap a o) : Inv X pins σ (upd H a o) s := by
  have off : ∀ {b : Addr} {u : HO}, H b = some u → b ≠ a := fun e z => by rw [z, na] at e; cases e
  refine ⟨I.ok, I.os, I.bare, ⟨I.base.keep, I.base.slot, fun b ob e n x => ?_, I.base.there, fun b xs e => ?_, fun b ob xs e => ?_, fun b ps e => ?_⟩, I.loc, I.cell, ?_, fun x c e => ?_, fun p hp => ?_, fun b ob e => ?_, I.len⟩
  · have hb : b ≠ a := fun z => by rw [z, new] at e; cases e
    rw [upd_ne hb]
    exact I.base.free b ob e n x
  · have z := I.base.tups b xs e
    rw [upd_ne (off z)]; exact z
  · have z := I.base.frzs b ob xs e
    rw [upd_ne (off z)]; exact z
  · obtain ⟨more, z⟩ := I.base.tbls b ps e
    exact ⟨more, by rw [upd_ne (off z)]; exact z⟩
  · rw [upd_ne (Ne.symm nL)]; exact I.free
  · obtain ⟨v, z⟩ := I.cell x c e
    rw [upd_ne fun q => nc v (by rw [q] at z; exact z)]
    exact I.freeC x c e
  · obtain ⟨p1, p2, p3⟩ := I.pin p hp
    exact ⟨p1, by rw [upd_ne (np p hp)]; exact p2, p3⟩
  · by_cases hb : b = a
    · subst hb
      rw [upd_same] at e
      cases e
      exact ok' ok
    · rw [upd_ne hb] at e
      exact (I.hok b ob e).stay (fun _ _ _ q => q) (fun c q => by rw [upd_ne (off q)]; exact q) fun c xs q => by rw [upd_ne (off q)]; exact q
theorem Inv.trackX (I : Inv X pins σ H s) {cls : Value} {od : Option Addr} {oe : Obj} {vs : Array Value} (ha : s.heap.get? a = some oe) (hz : Zc cls od oe) (hd : oe.data = .fields vs) (na : H a = none) (new : X.s_0.heap.get? a = none) (nL : a ≠ X.env.locals) (np : ∀ p ∈ X.pn ++ pins, p.1 ≠ a) :
    Inv X pins σ (upd H a (ExcO cls od a)) s :=
  Inv.track I (excO_ok ha hz hd) na new nL (fun v ⟨o, e, d⟩ => by
    rw [ha] at e
    cases e
    rw [hd] at d
    cases d) np fun _ => excO_ok ha hz hd
theorem Inv.suiteT (I : Inv X pins σ H s) (a : Addr) : Inv (X.suite a (X.pn ++ pins)) [] σ H s :=
  ⟨I.ok.suite _ _, I.os, I.bare, I.base, I.loc, I.cell, I.free, I.freeC, fun p hp => I.pin p (by rw [List.append_nil] at hp; exact hp), I.hok, I.len⟩
theorem Inv.unsuiteT {pn' : List (Addr × Obj)} (I : Inv (X.suite a (X.pn ++ pins)) pn' σ H s) (ok : X.Ok) : Inv X pins σ H s :=
  ⟨ok, I.os, I.bare, I.base, I.loc, I.cell, I.free, I.freeC, fun p hp => I.pin p (List.mem_append_left _ hp), I.hok, I.len⟩
end
/-- what the clause 'except x as n' wishes -/
def wT (K : Fg) (c : Value) (i : Nat) (ts : TS) (Wout : WX) (D : Ends) : WX := fun cls od σ H => ∃ b, PySem.W.exmOne K cls c = some b ∧ (b = false → Wout cls od σ H) ∧
  (b = true → ∀ a, H a = none → ts ⟨fun σ' H' => D.nx (σ'.set i none) H', D.rt, fun σ' H' => D.bk (σ'.set i none) H', fun σ' H' => D.ct (σ'.set i none) H'⟩ (σ.set i (some (.ref a))) (upd H a (ExcO cls od a)))
section
variable {X : Cx} {x n : Str} {c : Value} {i : Nat} {body suite : List Stmt} {b₀ : Stmt} {np p1 p2 : Pos} {tb : WX → TS} {ts : TS} {Wout : WX}
/-- an exception that flies over the ground B is new -/
theorem sky_new {pins : List (Addr × Obj)} {σ : L2.St} {H : Hp} {s : Shared} {B h : Heap} {a : Addr} {Z : Obj → Prop} (I : Inv X pins σ H s) (nb : ∀ b o, s.heap.get? b = some o → b ∉ frs X.stack → B.get? b = some o) (fl : HandSPX.FlyingZ B X.stack a Z h) (hx : X.ex = []) :
    a ∉ frs X.stack ∧ s.heap.get? a = none ∧ X.s_0.heap.get? a = none := by
  obtain ⟨_, f2, f3, oe, vs, T, oT, ts, he, hz, hd, _⟩ := fl
  have n1 : a ∉ frs X.stack := fun hm => by
    obtain ⟨_, o, e, nf⟩ := f3.mem hm
    rw [he] at e
    cases e
    exact nf _ hd
  have n2 : s.heap.get? a = none := by
    cases q : s.heap.get? a with
    | none => rfl
    | some o => have z := nb a o q n1; rw [f2] at z; cases z
  refine ⟨n1, n2, ?_⟩
  cases q : X.s_0.heap.get? a with
  | none => rfl
  | some o =>
    obtain ⟨o', z⟩ := I.base.there a o q (by rw [hx]; exact fun z => nomatch z)
    rw [n2] at z
    cases z
theorem ps_tryT (hx0 : X.ex = []) (hs : X.stack = X.env :: X.outer) (hf : X.env.frame = some X.env.locals) (hN : X.N.Nodup) (hi : X.N[i]? = some n) (hln : X.env.kindOf n = some .local) (hc : Names X x c) (tk : L2.Takes X Wout)
    (hb : ∀ (W : WX) (pn : List (Addr × Obj)) (xe : Value → Shared → Prop), L2.Takes (X.tr pn xe) W → PassesOwn (model X.prog X.w) X.A X.env xe → PSs (X.tr pn xe) body (tb W)) (hsu : ∀ (a : Addr) (pn : List (Addr × Obj)), PSs (X.suite a pn) (b₀ :: suite) ts) :
    PS X (.Try body [.ExceptHandler (some (.Name x np)) (some n) (b₀ :: suite) p1] [] [] p2) (fun D σ H => tb (wT X.K c i ts Wout D) D σ H) := by
  constructor
  intro pins s σ H D I h
  have ok := I.ok
  have fr : X.A.frames = some (X.env :: X.outer) := hs ▸ ok.frames
  -- where an exception of the body goes
  have catch_ : ∀ (xe : Value → Shared → Prop) (u : Value) (t : Shared), L2.XE (X.tr (X.pn ++ pins) xe) (wT X.K c i ts Wout D) u t →
      wpAny (model X.prog X.w) X.A (noteFrame u X.env) (fun _ t2 => wpAny (model X.prog X.w) X.A (setFlight u none) (fun _ t3 =>
        wpAny (model X.prog X.w) X.A (handleBy u X.env [.ExceptHandler (some (.Name x np)) (some n) (b₀ :: suite) p1]) (SP X pins D) X.xe t3) X.xe t2) X.xe t := fun xe u t xx => by
    obtain ⟨a, B, sI, pins', σ', H', cls, od, rfl, J', nb, up, sky, na, os, ag, b, hb1, hno, hyes⟩ := xx
    have J : Inv X pins σ' H' sI := J'.ofTry ok
    have sky2 : Sky B (X.env :: X.outer) a (Zc cls od) X.env.locals t.heap := by
      have z : Sky B X.stack a (Zc cls od) X.env.locals t.heap := sky
      rw [hs] at z; exact z
    refine Sky.land Zc.steady fr hf sky2 fun h3 f3 up3 => ?_
    have J3 : Inv X pins σ' H' { t with heap := h3 } := J.landed nb f3.1 (up.trans up3) os ag
    have f3s : HandSPX.FlyingZ B X.stack a (Zc cls od) h3 := by rw [hs]; exact f3
    obtain ⟨nfr, nsI, new⟩ := sky_new J nb f3s hx0
    obtain ⟨oe3, vs3, e3, z3, d3⟩ := f3.there
    have nL : a ≠ X.env.locals := fun z => nfr (List.mem_filterMap.mpr ⟨X.env, by rw [hs]; exact List.mem_cons_self, by rw [hf, z]⟩)
    have npin : ∀ p ∈ X.pn ++ pins, p.1 ≠ a := fun p hp z => by
      have q := (J.pin p hp).1
      rw [z, nsI] at q
      cases q
    have S3 := Inv.suiteT J3 a
    refine wpAny_handleBy_cons (codeAny_handlers_test ?_) (by intro q; cases q)
    have LT : PySem.W.Looks (model X.prog X.w) h3 (typeOf (.ref a)) cls := fun A Q E s k q => wpAny_typeOf_ref (k _ _ e3) (by rw [z3.1]; exact q)
    have LM := PySem.W.exm_one (M := model X.prog X.w) J3.kIn LT hb1
    have named : ∀ {Q : Value → Shared → Prop} {E : Value → Shared → Prop}, Q c { t with heap := h3 } → wpAny (model X.prog X.w) (X.A.mark (some (.ref a))) (eval (.Name x np) X.env) Q E { t with heap := h3 } := fun {Q E} q => by
      rcases hc with ⟨g1, g2, g3 | ⟨g3, g4, g5⟩⟩
      · exact ld_glob (X := X.suite a (X.pn ++ pins)) S3 g1 g3 q g2
      · exact ld_blt (X := X.suite a (X.pn ++ pins)) S3 g1 g3 g4 q g5 g2
    refine named (LM.here ?_)
    cases b with
    | false =>
      show wpAny _ X.A (handleBy (.ref a) X.env []) _ _ _
      refine wpAny_handleBy_nil ?_
      obtain ⟨_, _, _, oe, vs, T, oT, tt, he, hz, hd, h1, _⟩ := id f3
      unfold PySem.passOn
      refine wpAny_bind (wpAny_field he hd h1 ?_)
      rw [if_neg (show ¬ ((Value.ref T == Value.none) = true) from by simp)]
      have fin : wpAny (model X.prog X.w) X.A (setFlight (.ref a) X.env.frame) (fun _ t4 => wpAny (model X.prog X.w) X.A (throw (.ref a) : Sem Flow) (SP X pins D) X.xe t4) X.xe { t with heap := h3 } := by
        rw [hf]
        refine HandSPX.setFlight_upZ f3 fun h4 hh4 up4 => wpAny_throw (tk _ _ ⟨a, B, sI, pins, σ', H', cls, od, rfl, J, nb, (up.trans up3).trans up4, .inr (.inr ?_), na, os, ag, hno rfl⟩)
        rw [hs]; exact hh4
      first
        | exact wpAny_bind (wpAny_pure (wpAny_bind fin))
        | exact wpAny_bind fin
    | true =>
      refine codeAny_handlers_suite_as (HandSPX.lands_againZ f3 fun h4 f4 up4 => ?_)
      have J4 : Inv X pins σ' H' { t with heap := h4 } := J.landed nb f4.1 ((up.trans up3).trans up4) os ag
      obtain ⟨oe4, vs4, e4, z4, d4⟩ := f4.there
      have S4 : Inv (X.suite a (X.pn ++ pins)) [] σ' (upd H' a (ExcO cls od a)) { t with heap := h4 } := Inv.suiteT (Inv.trackX J4 e4 z4 d4 na new nL npin) a
      refine store_ok (X := X.suite a (X.pn ++ pins)) (v := .ref a) S4 hN hi (.inl hln) rfl (fun t5 S5 => ?_) (.inr hln)
      refine wpAny_mono ((hsu a (X.pn ++ pins)).run [] t5 _ _ _ S5 (hyes rfl a na)) (fun f t6 hsp => ?_) fun _ _ z => False.elim z
      have gone : ∀ {σ6 : L2.St} {H6 : Hp} {Q : Shared → Prop}, Inv (X.suite a (X.pn ++ pins)) [] σ6 H6 t6 → (∀ t7, Inv X pins (σ6.set i none) H6 t7 → Q t7) →
          wpAny (model X.prog X.w) X.A (do bindName X.env n .none; unbindBehindTheSuite X.env n p1) (fun _ t7 => Q t7) X.xe t6 := fun S6 hq => gone_ok (Inv.unsuiteT S6 ok) hN hi hln hq
      cases f with
      | ret u =>
        obtain ⟨v6, σ6, H6, S6, r6, q6⟩ := hsp
        exact gone S6 fun t7 J7 => ⟨_, _, _, J7, r6, q6⟩
      | next => obtain ⟨σ6, H6, S6, q6⟩ := hsp; exact gone S6 fun t7 J7 => ⟨_, _, J7, q6⟩
      | brk => obtain ⟨σ6, H6, S6, q6⟩ := hsp; exact gone S6 fun t7 J7 => ⟨_, _, J7, q6⟩
      | cont => obtain ⟨σ6, H6, S6, q6⟩ := hsp; exact gone S6 fun t7 J7 => ⟨_, _, J7, q6⟩
  refine wpAny_Try_except (wpAny_mono ((hb (wT X.K c i ts Wout D) (X.pn ++ pins) _ (fun u t xx => catch_ _ u t xx) PassesOwn.looking).run [] s σ H D (I.toTry _) h) (fun f t hsp => ?_) fun e t he => he)
  cases f with
  | ret u =>
    obtain ⟨v, σ', H', J', r, q⟩ := hsp
    exact ⟨v, σ', H', J'.ofTry ok, r, q⟩
  | next => obtain ⟨σ', H', J', q⟩ := hsp; exact wpAny_execs_nil ⟨σ', H', J'.ofTry ok, q⟩
  | brk => obtain ⟨σ', H', J', q⟩ := hsp; exact ⟨σ', H', J'.ofTry ok, q⟩
  | cont => obtain ⟨σ', H', J', q⟩ := hsp; exact ⟨σ', H', J'.ofTry ok, q⟩
end
end SD
namespace SD
open PySem PySem.Spec PyProof.Rows L2
structure FnHt (P : Program) (w : World) (K : Fg) (mg : MG) (base : Heap) (k : Nat) (f : Addr) (fd : FuncData) (ps : List Str) (sp : Sp) : Prop where
  len : ∀ vs H Q E, sp vs H Q E → vs.length = ps.length
  run : ∀ (A : Around) (outer : List PySem.Env) (s : Shared) (H : Hp) (args : Args) (us : List Value) (vs : List V) (Q : VK) (E : XK), L2H.RoomH k A → Env0 P w K mg base A outer s H → BindsTo s fd args (ps.zip us) → Vals vs us → sp vs H Q E →
    codeAny (model P w) A (.call (.ref f) args) (CR (L2.CX P w) outer P w H s Q E) s
def cxHt (P : Program) (w : World) (K : Fg) (mg : MG) (base : Heap) (N : List Str) (qual : Str) (scope : Scope) (f : Addr) (cd : Value) (A : Around) (outer : List PySem.Env) (s : Shared) (H : Hp) (E : XK) : Cx :=
  { cxOf (L2.CX P w) P w K mg base N qual scope f cd A outer s H E with calm := false }
section
variable {P : Program} {w : World} {K : Fg} {mg : MG} {base : Heap} {k : Nat} {f : Addr} {N ps : List Str} {qual name : Str} {scope : Scope} {sp : Sp}
theorem startHt {cd : Value} {A : Around} {outer : List PySem.Env} {s s1 : Shared} {H : Hp} {E : XK} {us : List Value} {vs : List V} (S : FnScope N ps scope) (e0 : Env0 P w K mg base A outer s H) (hl : vs.length = ps.length) (r : Vals vs us)
    (x : InCallC s s.heap.objs.size (bindL (envOfC qual scope s.heap.objs.size f cd).kindOf (ps.zip us) fun _ => none) (cellsFrom (s.heap.objs.size + 1) scope.names []) (bindC (envOfC qual scope s.heap.objs.size f cd).kindOf (ps.zip us) fun _ => none) s1) :
    Inv (cxHt P w K mg base N qual scope f cd A outer s H E) [] (L2.start N vs) H s1 := by
  have I := inv_start (CX := L2.CX P w) (E := E) (A := { A with handled := none }) (cd := cd) (f := f) (qual := qual) S rfl ⟨e0.frames, e0.mod, e0.bs, e0.bsz, e0.funs, e0.frf, e0.hok, e0.bare⟩ hl r x
  exact ⟨⟨I.ok.mod, I.ok.kind, I.ok.glob, I.ok.blt, I.ok.above, I.ok.inj, I.ok.has, I.ok.cab, (fun z => Bool.noConfusion (show false = true from z)), Around.frames_deeper e0.frames, I.ok.stk, I.ok.exf, I.ok.bs, I.ok.bsz, I.ok.noex, I.ok.exfs, I.ok.funs, I.ok.frf⟩,
    I.os, I.bare, I.base, I.loc, I.cell, I.free, I.freeC, I.pin, I.hok, I.len⟩
theorem fn_ofHt {params : Arguments} {body : List Stmt} {dV kV doc pm cdv ct oc : Value} {an od : Option Addr} {osl : Array (Option Value)}
    (lk : K.lookup f = some ⟨oc, od, .func (PySem.W.fnOf name qual params body scope dV kV doc pm an cdv ct), osl⟩) (hcd : PySem.W.codeIn K cdv qual = true) (S : FnScope N ps scope) (len : ∀ vs H Q E, sp vs H Q E → vs.length = ps.length)
    (hb : ∀ (A : Around) (outer : List PySem.Env) (s : Shared) (H : Hp) (vs : List V) (Q : VK) (E : XK), L2H.RoomH k (A.deeper (envOfC qual scope s.heap.objs.size f cdv)) → sp vs H Q E →
      ∃ t, PSs (cxHt P w K mg base N qual scope f cdv A outer s H E) body t ∧ t { nx := fun _ H' => Q .non H', rt := Q } (L2.start N vs) H) :
    FnHt P w K mg base (k + 1) f (PySem.W.fnOf name qual params body scope dV kV doc pm an cdv ct) ps sp := by
  constructor
  · exact len
  intro A outer s H args us vs Q E hr e0 hbd r hsp
  have KX : K.In s.heap := e0.mod.kin.keeps fun b o e => (e0.bs b o e).1
  have lim : s.heap.NoLimit := e0.mod.nolimit.keeps fun b o e => (e0.bs b o e).1
  have hk : ∀ y ∈ ps.zip us, scope.names.lookup y.1 = some .local ∨ (scope.names.lookup y.1 = some .cell ∧ ((cellsFrom (s.heap.objs.size + 1) scope.names []).lookup y.1).isSome = true) := fun y hy =>
    (S.par y.1 (List.of_mem_zip (show (y.1, y.2) ∈ ps.zip us from hy)).1).imp id fun q => ⟨q, PySem.W.cellsFrom_some _ _ _ (.inl q)⟩
  refine codeAny_call_function hr.depth (KX _ _ lk) rfl S.co S.gen rfl (PySem.W.codeRec_of KX hcd) (hbd _ _ _ _ (wpAny_newFunctionEnv_cells S.kind hk fun env he s1 x => ?_))
  subst he
  obtain ⟨t, ht, hq⟩ := hb A outer s H vs Q E (hr.deeper _) hsp
  have I := startHt (N := N) (qual := qual) (f := f) (cd := cdv) (E := E) S e0 (len _ _ _ _ hsp) r x
  refine ⟨lim.keeps x.toInCall.keep, codeAny_func (wpAny_mono (ht.run [] s1 (L2.start N vs) H _ I hq) (fun fl s' hs => ?_) fun e s' hs => hs)⟩
  cases fl with
  | ret u => obtain ⟨v, σ', H', J, rv, q⟩ := hs; exact ⟨v, H', J.os, J.bare, J.base, J.hok, rv, q⟩
  | next => obtain ⟨σ', H', J, q⟩ := hs; exact ⟨.non, H', J.os, J.bare, J.base, J.hok, rfl, q⟩
  | brk => obtain ⟨_, _, _, q⟩ := hs; exact q.elim
  | cont => obtain ⟨_, _, _, q⟩ := hs; exact q.elim
end
section
variable {X : Cx} {k : Nat} {f : Addr} {fd : FuncData} {ps : List Str} {sp : Sp} {x : Str} {p pos : Pos} {e : Expr} {es : List Expr} {t : TA} {E : XK}
theorem pe_callHt (F : FnHt X.prog X.w X.K X.mg X.base k f fd ps sp) (hr : L2H.RoomH k X.A) (hg : Gl X x) (hm : X.mg x = some (.ref f)) (hk : PySem.W.keepIn X.K (.ref f) = true) (hb : Binds X.K fd ps []) (ha : PA X (e :: es) t)
    (hdb : (x == ("__debug__" : Str)) = false) (he : starEach (e :: es) X.env = (false, eval e X.env) :: starEach es X.env) (hpl : (backTo pos (starEach es X.env)).any (·.1) = false) :
    PE X (.Call (.Name x p) (e :: es) [] pos) (fun σ H Q => t σ H fun vs H1 => sp vs H1 Q E0) := by
  constructor
  intro pins s σ H Q I h
  refine wpAny_Call_Name_kw (ld_glob I hg hm (PySem.W.callWith_K (h₀ := X.base) I.ok.mod.kin hk (thn (ha.run pos pins s σ H _ I h) fun us s1 ⟨vs, H1, I1, r, q⟩ => ⟨I1.kIn, ?_⟩) he hpl) hdb)
  have hl : us.length = ps.length := by rw [← r.length]; exact F.len _ _ _ _ q
  have bd := hb s1 us I1.kIn (by simpa using hl)
  rw [List.append_nil] at bd
  refine wpAny_call (codeAny_mono (F.run X.A X.stack s1 H1 ⟨us, []⟩ us vs Q E0 hr I1.env0 bd r q) fun r' s' hq => ?_)
  cases r' with
  | error u => exact passL pins σ H1 s1 u s' I1 hq
  | ok fl => cases fl with
    | ret u => exact I1.after hq
    | _ => exact False.elim hq
end
structure XcC (K : Fg) (C : Addr) : Prop where
  cl : (PySem.W.clsIn K C).isSome = true
  ga : PySem.W.findIn K (.ref C) "__getattribute__" = some (some (.builtin "BaseException.__getattribute__"))
  gg : PySem.W.findIn K (.ref C) "__getattr__" = some none
  sb : PySem.W.subIn K (.ref C) (.type "BaseException") = some true
  ty : PySem.W.typeIn K (.ref C) = some (.type "type")
  hd : PySem.W.hasDictIn K C = true
  ca : PySem.W.findIn K (.ref C) "__class__" = some (some (.builtin "object.__class__"))
  cg : PySem.W.specialIn K (.builtin "object.__class__") "__get__" = some (some (.builtin "getset_descriptor.__get__"))
  ct : PySem.W.takesIn K (.builtin "object.__class__") = some true
  cm : PySem.W.mroIn K C (.type "object") = some true
section
variable {X : Cx} {pins : List (Addr × Obj)} {σ : L2.St} {H : Hp} {s : Shared} {a C : Addr}
/-- the object, its dict looked at -/
theorem excO_inst {od : Option Addr} {F : Hp} {g : Str} {v : V} (I : Inv X pins σ H s) (ex : Same F H) (e : F a = some (ExcO (.ref C) od a)) (x : XdAt F od g v) :
    ∃ oe ob, PySem.W.InstAt s.heap a oe C ob ∧ ∀ dd fv, od = some dd → F dd = some (.xd fv) → ∃ od', ob = some od' ∧ ∃ mA, s.heap.Ns1 dd mA ∧ (∀ f, RelO (fv.lookup f) (mA f)) ∧ ∀ y, PySem.W.lookIn y od' = some (mA y) := by
  obtain ⟨oe, vs, e1, z, d⟩ := excO_get I.hok (ex _ _ e)
  rcases x with ⟨_, _, hn⟩ | ⟨dd, fv, h1, h2, h3⟩
  · subst hn
    refine ⟨oe, none, ⟨e1, z.1, by unfold PySem.W.notCls; rw [d], by rw [z.2]; trivial⟩, fun dd fv e => nomatch e⟩
  · subst h1
    have hx : ObjOk X.prog X.w H s.heap dd (.xd fv) := I.hok dd _ (ex _ _ h2)
    obtain ⟨mA, hns, hr⟩ := hx
    obtain ⟨ob, ho, hl⟩ := lookIn_ns hns
    refine ⟨oe, some ob, ⟨e1, z.1, by unfold PySem.W.notCls; rw [d], by rw [z.2]; exact ho⟩, fun dd' fv' e e' => ?_⟩
    cases e
    rw [h2] at e'
    cases e'
    exact ⟨ob, rfl, mA, hns, hr, hl⟩
end
end SD
namespace SD
open PySem PySem.Spec PyProof.Rows L2
section
variable {X : Cx}
def rIsX (K : Fg) : List V → Hp → VK → Prop := fun xs H Q => ∃ (a C : Addr) (od : Option Addr) (g : Str) (v : V) (F : Hp) (y : V) (b : Bool), xs = [.ref a, y] ∧ Same F H ∧ F a = some (ExcO (.ref C) od a) ∧ XdAt F od g v ∧ XcC K C ∧
  ((∃ cv, (∀ u, RelV y u → u = cv) ∧ PySem.W.kitOne K (.ref C) cv = some b) ∨ ∃ (l : Addr) (cs : List V) (cvs : List Value), y = .ref l ∧ SqT K H l cs ∧ (∀ its, Vals cs its → its = cvs) ∧ PySem.W.kitAny K (.ref C) cvs = some b) ∧ Q (.bl b) H
theorem call_isX : CallR X (.builtin "isinstance") (rIsX X.K) := by
  intro pins s σ H xs us Q I r h
  obtain ⟨a, C, od, g, v, F, y, b, rfl, ex, e, xd, T, h1, q⟩ := h
  obtain ⟨oe, ob, J, _⟩ := excO_inst I ex e xd
  have Z := PySem.W.kitx_exc (x := a) (ox := oe) (od := ob) T.cl T.ga T.gg T.sb T.ca T.cg T.ct T.cm
  cases r with
  | cons rx rr => cases rr with
    | cons rt rr =>
      cases rr
      cases rx
      rcases h1 with ⟨cv, hc, k⟩ | ⟨l, cs, cvs, rfl, hq, hc, k⟩
      · have ec := hc _ rt
        subst ec
        exact PySem.W.kia_one Z I.kIn J k (fun z => nomatch z) fun tk => ⟨.bl b, H, I.kept (t' := tk) fun _ _ z => z, rfl, q⟩
      · cases rt
        obtain ⟨its, rv, ⟨⟨oc, odi, oda, osl⟩, ho, hcl, n, hd⟩, _⟩ := I.tuple hq
        have ei := hc _ rv
        subst ei
        dsimp only at hcl hd
        subst hcl hd
        exact PySem.W.kia_tup Z I.kIn J ho k (fun z => nomatch z) fun tk => ⟨.bl b, H, I.kept (t' := tk) fun _ _ z => z, rfl, q⟩
/-- e.n, e a held exception -/
def tXn (K : Fg) (n : Str) (te : TE) : TE := fun σ H Q => te σ H fun x H1 => ∃ (a C dd : Addr) (fv : List (Str × V)) (v : V) (F : Hp), x = .ref a ∧ Same F H1 ∧ F a = some (ExcO (.ref C) (some dd) a) ∧ F dd = some (.xd fv) ∧ fv.lookup n = some v ∧ XcC K C ∧
  PySem.W.findIn K (.ref C) n = some none ∧ Q v H1
theorem pe_xn {e : Expr} {te : TE} {n : Str} {pos : Pos} (he : PE X e te) (hb : attributeBase e n X.env (eval e X.env) = eval e X.env) : PE X (.Attribute e n pos) (tXn X.K n te) := by
  constructor
  intro pins s σ H Q I h
  refine attr_of hb (thn (he.run pins s σ H _ I h) fun u s1 ⟨x, H1, I1, rx, a, C, dd, fv, v, F, ex, sm, e1, e2, l, T, no, q⟩ => ?_)
  subst ex
  cases rx
  obtain ⟨oe, ob, J, k⟩ := excO_inst I1 sm e1 (g := n) (v := v) (.inr ⟨dd, fv, rfl, e2, l⟩)
  obtain ⟨od', eo, mA, _, hr, hl⟩ := k dd fv rfl e2
  subst eo
  obtain ⟨u, hu, ru⟩ := RelO.some_of (v := v) (o := mA n) (by rw [← l]; exact hr n)
  exact HandSPX.exc_get I1.kIn J T.ga T.gg T.sb (PySem.W.findObj_own T.hd no rfl (by rw [hl, hu])) (handed_of ru) ⟨v, H1, I1.tok _, ru, q⟩
end
end SD
namespace SD
open PySem PySem.Spec PyProof.Rows L2
/-- a class without own __init__ -/
structure XpC (K : Fg) (C : Addr) : Prop where
  x : XcC K C
  q : PySem.W.excIn K C He.veBase "ValueError.__new__" = true
  kp : PySem.W.keepIn K (.ref C) = true
/-- what an __init__ of one field does -/
def spI (K : Fg) (g : Str) : Sp := fun vs H Q _ => ∃ (a C : Addr) (y : V), vs = [.ref a, y] ∧ OexC K C ∧ PySem.W.findIn K (.ref C) g = some none ∧ H a = some (exo a C none) ∧
  ∀ dx, H dx = none → dx ≠ a → Q .non (upd (upd H dx (exd dx [(g, y)])) a (exo a C (some dx)))
structure XfCl (P : Program) (w : World) (K : Fg) (mg : MG) (base : Heap) (C : Addr) (g : Str) : Prop where
  x : XcC K C
  o : OexC K C
  fr : PySem.W.findIn K (.ref C) g = some none
  ini : ∃ fI fd ps, PySem.W.findIn K (.ref C) "__init__" = some (some (.ref fI)) ∧ PySem.W.typeIn K (.ref fI) = some (.type "function") ∧ Binds K fd ps [] ∧ FnOk P w K mg base (L2.CX P w) 1 fI fd ps (spI K g)
section
variable {X : Cx} {W : WX} {c : Str} {C : Addr} {e : Expr} {ta : TE} {p pos pos' : Pos}
theorem ps_raiseP (hc : X.calm = true) (tk : L2.Takes X W) (T : XpC X.K C) (hm : X.mg c = some (.ref C)) (hg : Gl X c) (hdb : (c == ("__debug__" : Str)) = false) (he : PE X e ta) (hs : starEach [e] X.env = (false, eval e X.env) :: starEach [] X.env) :
    PS X (.Raise (some (.Call (.Name c p) [e] [] pos)) none pos') (fun _ σ H => ta σ H fun _ H1 => W (.ref C) none σ H1) :=
  L2.ps_raise hc tk (SkE.pmk_own1 PySem.F.excBase_ValueError T.q hm T.kp (raises_own T.x.sb T.x.ty) hg he hs hdb)
/-- what the maker of an exception with one field asks for -/
def RzF (K : Fg) (C : Addr) (g : Str) (W : XK) (y : V) (H1 : Hp) : Prop := [y].length ≤ 1000 ∧ ∀ a, H1 a = none → spI K g [.ref a, y] (upd H1 a (exo a C none))
  (fun v H2 => v = .non ∧ ∃ (d : Addr) (fs : List (Str × V)), H2 a = some (exo a C (some d)) ∧ H2 d = some (exd d fs) ∧ H1 d = none ∧ W (.ref C) (some d) (upd (del H2 a) d (.xd fs))) (fun _ _ _ => False)
theorem RzF.of {K : Fg} {g : Str} {W : XK} {y : V} {H1 : Hp} (o : OexC K C) (fr : PySem.W.findIn K (.ref C) g = some none) (h : ∀ dx, H1 dx = none → W (.ref C) (some dx) (upd H1 dx (.xd [(g, y)]))) : RzF K C g W y H1 := by
  refine ⟨(by show 1 ≤ 1000; decide), fun a na => ⟨a, C, y, rfl, o, fr, upd_same, fun dx nd ne => ⟨rfl, dx, [(g, y)], upd_same, ?_, ?_, ?_⟩⟩⟩
  · rw [upd_ne ne, upd_same]
  · rw [upd_ne ne] at nd; exact nd
  · rw [upd_ne ne] at nd
    have e : upd (del (upd (upd (upd H1 a (exo a C none)) dx (exd dx [(g, y)])) a (exo a C (some dx))) a) dx (.xd [(g, y)]) = upd H1 dx (.xd [(g, y)]) := by
      funext b
      by_cases hb : b = dx
      · rw [hb, upd_same, upd_same]
      · rw [upd_ne hb, upd_ne hb]
        by_cases ha : b = a
        · rw [ha, del_same, na]
        · rw [del_ne ha, upd_ne ha, upd_ne hb, upd_ne ha]
    rw [e]
    exact h dx nd
theorem ps_raiseF {g : Str} {k : Nat} (hc : X.calm = true) (tk : L2.Takes X W) (T : XfCl X.prog X.w X.K X.mg X.base C g) (hr : Room (k + 2) X.A) (hm : X.mg c = some (.ref C)) (hg : Gl X c) (hdb : (c == ("__debug__" : Str)) = false) (he : PE X e ta)
    (hs : starEach [e] X.env = (false, eval e X.env) :: starEach [] X.env) :
    PS X (.Raise (some (.Call (.Name c p) [e] [] pos)) none pos') (fun _ σ H => ta σ H fun y H1 => RzF X.K C g (fun cls od H' => W cls od σ H') y H1) := by
  obtain ⟨fI, fd, ps, iC, tI, hb, F⟩ := T.ini
  have z := L2.ps_raise (pos := pos') hc tk (pmk_oex (p := p) (pos := pos) (ta := tCons ta tNil) (dvs := []) T.o iC tI F (hr.mono (by omega)) hb .nil passL hg hm (pa_cons he pa_nil hs) hdb hs rfl)
  exact ⟨fun pins s σ H D I h => z.run pins s σ H D I h⟩
end
end SD
namespace SD
open PySem PySem.Spec PyProof.Rows L2
/-- the __init__ of one field, walked -/
theorem ini_one {P : Program} {w : World} {K : Fg} {mg : MG} {base : Heap} {f : Addr} {name qual x y g : Str} {params : Arguments} {scope : Scope} {dV kV doc pm cdv ct oc : Value} {an od : Option Addr} {osl : Array (Option Value)} {p1 p2 p3 p4 : Pos}
    (lk : K.lookup f = some ⟨oc, od, .func (PySem.W.fnOf name qual params [.Assign [.Attribute (.Name x p1) g p2] (.Name y p3) p4] scope dV kV doc pm an cdv ct), osl⟩) (hcd : PySem.W.codeIn K cdv qual = true) (S : FnScope [x, y] [x, y] scope)
    (nx : (x == ("__debug__" : Str)) = false ∧ (x == ("__classdict__" : Str)) = false) (ny : (y == ("__debug__" : Str)) = false ∧ (y == ("__classdict__" : Str)) = false) :
    FnOk P w K mg base (L2.CX P w) 1 f (PySem.W.fnOf name qual params [.Assign [.Attribute (.Name x p1) g p2] (.Name y p3) p4] scope dV kV doc pm an cdv ct) [x, y] (spI K g) := by
  refine fn_of lk hcd S (fun vs H Q E ⟨a, C, v, e, _⟩ => by rw [e]; rfl) fun A outer s H vs Q E hr ⟨a, C, v, e, o, fr, ha, q⟩ => ?_
  subst e
  have vis : ∀ z, z ∈ [x, y] → Vis scope z := fun z hz => (S.par z hz).elim .inl fun h => .inr (.inl h)
  refine ⟨_, pss_cons (ps_ost (f := g) (pe_var (i := 0) (x := x) rfl (vis x (by simp)) nx.1 nx.2) (pe_var (i := 1) (x := y) rfl (vis y (by simp)) ny.1 ny.2)) pss_nil, ?_⟩
  exact ⟨v, rfl, .ref a, rfl, a, C, rfl, o, fr, .inl ⟨ha, q⟩⟩
end SD
namespace SD
open PySem L2
structure Ctx where
  N : List Str
  sc : Scope
  loc : Str → Bool
  gl : List (Str × D)
  fs : List Str
  /-- plain classes with those above them; methods: class, name, key -/
  cs : List (Str × List Str)
  ms : List (Str × Str × Str)
  /-- lambdas may be made -/
  lam : Bool
  /-- fields: class, name; classes with an __init__: class, key -/
  fl : List (Str × Str)
  ks : List (Str × Str)
  /-- lists handed in are gone through without being kept -/
  bor : Bool := false
  /-- an exception is handled here -/
  hot : Bool := false
  /-- defs called there; what defs raise is looked at -/
  hts : List Str := []
  rz : List Str := []
  rzOn : Bool := false
  /-- classes of exceptions with all names above them; those with one field, those without -/
  xs : List (Str × List Str) := []
  xf : List (Str × Str) := []
  xp : List Str := []
def isVis (sc : Scope) (x : Str) : Bool := match sc.names.lookup x with
  | some .local => true
  | some .cell => true
  | some .free => true
  | _ => false
def isGl (sc : Scope) (x : Str) : Bool := match sc.names.lookup x with
  | some .globalImplicit => true
  | _ => false
def goodName (x : Str) : Bool := !(x == ("__debug__" : Str)) && !(x == ("__classdict__" : Str)) && !(x == ("__name__" : Str))
def slotIn (N : List Str) (x : Str) : Option Nat := N.findIdx? (· == x)
def plainE : Expr → Bool
  | .Starred .. => false
  | .Set .. => false
  | .Slice .. => false
  | _ => true
def notComp : Expr → Bool
  | .ListComp .. => false
  | .SetComp .. => false
  | .DictComp .. => false
  | _ => true
def notCall0 : Expr → Bool
  | .Call (.Name x _) [] [] _ => !(x == ("super" : Str))
  | _ => true
def bltNames : List Str := ["len", "range", "tuple", "list", "int", "min", "max", "sum", "all", "any", "sorted", "isinstance", "enumerate", "zip", "bool", "str", "set", "reversed", "dict", "type", "ValueError"]
theorem slotIn_ok {N : List Str} {x : Str} {i : Nat} (h : slotIn N x = some i) : N[i]? = some x := by
  unfold slotIn at h
  obtain ⟨hi, he, _⟩ := List.findIdx?_eq_some_iff_getElem.mp h
  rw [List.getElem?_eq_getElem hi, eq_of_beq he]
theorem vis_ok {sc : Scope} {x : Str} (h : isVis sc x = true) : Vis sc x := by
  unfold isVis at h
  split at h
  case h_1 e => exact .inl e
  case h_2 e => exact .inr (.inl e)
  case h_3 e => exact .inr (.inr e)
  case h_4 => cases h
theorem gl_ok {X : Cx} {x : Str} (h : isGl X.env.scope x = true) : Gl X x := by
  unfold isGl at h
  split at h
  case h_1 e => exact e
  case h_2 => cases h
theorem good_ok {x : Str} (h : goodName x = true) : (x == ("__debug__" : Str)) = false ∧ (x == ("__classdict__" : Str)) = false ∧ x ≠ "__name__" := by
  unfold goodName at h
  simp only [Bool.and_eq_true, Bool.not_eq_true'] at h
  exact ⟨h.1.1, h.1.2, fun e => by rw [e] at h; simp at h⟩
theorem star_plain {e : Expr} {es : List Expr} {env : PySem.Env} (h : plainE e = true) : starEach (e :: es) env = (false, eval e env) :: starEach es env := by
  cases e <;> first | rfl | cases h
theorem star_any {pos : Pos} {env : PySem.Env} : ∀ {es : List Expr}, es.all plainE = true → (backTo pos (starEach es env)).any (·.1) = false
  | [], _ => rfl
  | e :: es, h => by
    rw [List.all_cons] at h
    obtain ⟨h1, h2⟩ := Bool.and_eq_true_iff.mp h
    rw [star_plain h1]
    show (false || (backTo pos (starEach es env)).any (·.1)) = false
    rw [star_any h2]; rfl
theorem star_all {pos : Pos} {env : PySem.Env} : ∀ {es : List Expr}, es.all plainE = true → (backTo pos (starEach es env)).all (fun x => !x.1) = true
  | [], _ => rfl
  | e :: es, h => by
    rw [List.all_cons] at h
    obtain ⟨h1, h2⟩ := Bool.and_eq_true_iff.mp h
    rw [star_plain h1]
    show (true && (backTo pos (starEach es env)).all (fun x => !x.1)) = true
    rw [star_all h2]; rfl
theorem marks_plain {op : CmpOp} {e : Expr} (h : plainE e = true) : behindInMarks op e = false := by
  cases e <;> first | rfl | cases h
theorem folded_plain {e : Expr} {env : PySem.Env} (h : plainE e = true) : ∀ x, foldedSetIterable e env x = pure x := fun x => by
  cases e <;> first | rfl | cases h
theorem ix_plain {b : Expr} (h : plainE b = true) : PlainIx b := fun o i => by
  cases b <;> first | rfl | cases h
theorem swaps_plain {e : Expr} {t : Option Expr} {l : Nat} {env : PySem.Env} (h : notComp e = true) : swapsWith e t l env = pure false := by
  cases e <;> first | rfl | cases h
theorem base_plain {o : Expr} {m : Str} {env : PySem.Env} (h : notCall0 o = true) : attributeBase o m env (eval o env) = eval o env := by
  cases o with
  | Call f args kws pos =>
    cases f with
    | Name x p =>
      cases args with
      | nil => cases kws with
        | nil =>
          have hx : (x != ("super" : Str)) = true := h
          generalize eval (.Call (.Name x p) [] [] pos) env = w
          show (do
            if x != "super" || m == "__class__" || env.kindOf "super" != some .globalImplicit || env.kindOf "__class__" != some .free then return ← w
            _ : Sem Value) = w
          rw [hx]
          simp only [Bool.true_or, if_true, bind_pure]
        | cons _ _ => rfl
      | cons _ _ => rfl
    | _ => rfl
  | _ => rfl
def FnHas (P : Program) (w : World) (K : Fg) (mg : MG) (base : Heap) (k : Nat) (p px : Prim) (f : Str) : Prop :=
  ∃ a fd ps dvs ds sp, mg f = some (.ref a) ∧ PySem.W.keepIn K (.ref a) = true ∧ Binds K fd ps ds ∧ Vals dvs ds ∧ FnOk P w K mg base (L2.CX P w) k a fd ps sp ∧ (∀ vs H Q, tPrim K mg p vs H Q → sp (vs ++ dvs) H Q E0) ∧
    ∀ vs H Q E, tRz K mg px vs H E → ds = [] ∧ sp vs H Q E
/-- a def called while an exception is handled -/
def HotHas (P : Program) (w : World) (K : Fg) (mg : MG) (base : Heap) (k : Nat) (p : Prim) (f : Str) : Prop :=
  ∃ a fd ps sp, mg f = some (.ref a) ∧ PySem.W.keepIn K (.ref a) = true ∧ Binds K fd ps [] ∧ FnHt P w K mg base k a fd ps sp ∧ ∀ vs H Q, tPrim K mg p vs H Q → sp vs H Q E0
/-- what a def raises; what a def means where an exception is handled -/
def keyX (f : Str) : Str := "!" ++ f
def keyH (f : Str) : Str := "?" ++ f
structure ClsOk (K : Fg) (C : Addr) : Prop where
  cls : Cls K C
  mks : PySem.W.makesIn K C = true
  ini : PySem.W.findIn K (.ref C) "__init__" = some (some (.builtin "object.__init__"))
  kp : PySem.W.keepIn K (.ref C) = true
  ha : PySem.W.findIn K (.ref C) "__class__" = some (some (.builtin "object.__class__"))
  hn : PySem.W.specialIn K (.builtin "object.__class__") "__get__" = some (some (.builtin "getset_descriptor.__get__"))
  ht : PySem.W.takesIn K (.builtin "object.__class__") = some true
  hm : PySem.W.mroIn K C (.type "object") = some true
/-- a lambda is called -/
def LamHas (P : Program) (w : World) (K : Fg) (mg : MG) (base : Heap) (k : Nat) (p : Prim) : Prop :=
  ∀ (A : Around) (outer : List PySem.Env) (s : Shared) (H : Hp) (x : V) (vs : List V) (us : List Value) (Q : VK), Room k A → Env0 P w K mg base A outer s H → Vals vs us → tPrim K mg p (x :: vs) H Q →
    ∃ f, x = .ref f ∧ PySem.W.FnAt f s.heap ∧ codeAny (model P w) A (.call (.ref f) ⟨us, []⟩) (CR (L2.CX P w) outer P w H s Q E0) s
def keyL : Str := "λ"
def isSub (p : Str × List Str) (c : Str) : Bool := p.1 == c || p.2.contains c
structure XOk (X : Cx) (C : Ctx) (Φ : Fenv) (k : Nat) : Prop where
  hN : X.N = C.N
  nd : C.N.Nodup
  sc : X.env.scope = C.sc
  calm : C.hot = false → X.calm = true
  room : L2H.RoomH k X.A
  hd : C.hot = false → X.A.handled = none
  k2 : 2 ≤ k
  blt : ∀ x ∈ bltNames, X.mg x = none
  gl : ∀ p ∈ C.gl, ∃ u v, X.mg p.1 = some u ∧ RelV v u ∧ ∀ F, Rp X.K X.mg F v p.2
  fns : ∀ f ∈ C.fs, FnHas X.prog X.w X.K X.mg X.base k (Φ f) (Φ (keyX f)) f
  hts : ∀ f ∈ C.hts, HotHas X.prog X.w X.K X.mg X.base k (Φ (keyH f)) f
  cls : ∀ p ∈ C.cs, ∃ Ca, X.mg p.1 = some (.ref Ca) ∧ ClsOk X.K Ca
  isi : ∀ p ∈ C.cs, ∀ q ∈ C.cs, ∀ Ca Da, X.mg p.1 = some (.ref Ca) → X.mg q.1 = some (.ref Da) → PySem.W.kitOne X.K (.ref Ca) (.ref Da) = some (isSub p q.1)
  mts : ∀ p ∈ C.ms, ∃ Ca f fd ps, X.mg p.1 = some (.ref Ca) ∧ Cls X.K Ca ∧ Meth X.K Ca p.2.1 f ∧ Binds X.K fd ps [] ∧ FnOk X.prog X.w X.K X.mg X.base (L2.CX X.prog X.w) k f fd ps (fun vs H Q E => tPrim X.K X.mg (Φ p.2.2) vs H Q ∨ tRz X.K X.mg (Φ (keyX p.2.2)) vs H E)
  loc : ∀ x, C.loc x = true → Loc X.env.scope x ∧ (X.fn x = true ∨ X.env.scope.names.lookup x = some .local)
  lm : LamHas X.prog X.w X.K X.mg X.base k (Φ keyL)
  fld : ∀ p ∈ C.fl, ∃ Ca, X.mg p.1 = some (.ref Ca) ∧ Cls X.K Ca ∧ NoAttr X.K Ca p.2
  mks : ∀ p ∈ C.ks, (∀ ivs, Φ p.2 ivs = none) ∨ ∃ Ca f fd ps j, X.mg p.1 = some (.ref Ca) ∧ Mk X.K Ca f ∧ Binds X.K fd ps [] ∧ j + 1 = k ∧ FnOk X.prog X.w X.K X.mg X.base (L2.CX X.prog X.w) j f fd ps (fun vs H Q _ => tInit X.K X.mg Ca (Φ p.2) vs H Q)
  lam : C.lam = true → ∃ c P, (c, P) ∈ lamT X.K ∧ lamT X.K = [(c, P)] ∧ LamX.TabB X.base X.mg c P ∧ X.env.code = .ref c ∧ X.env.qual ++ "<lambda>" = lamQ
  xcs : ∀ p ∈ C.xs, ∃ Ca, X.mg p.1 = some (.ref Ca) ∧ XcC X.K Ca
  xis : ∀ p ∈ C.xs, ∀ Ca, X.mg p.1 = some (.ref Ca) → (∀ q ∈ C.xs, ∀ Da, X.mg q.1 = some (.ref Da) → PySem.W.kitOne X.K (.ref Ca) (.ref Da) = some (p.2.contains q.1) ∧ PySem.W.exmOne X.K (.ref Ca) (.ref Da) = some (p.2.contains q.1)) ∧
    PySem.W.kitOne X.K (.ref Ca) (.type "ValueError") = some (p.2.contains "ValueError")
  xfs : ∀ p ∈ C.xf, ∃ Ca, X.mg p.1 = some (.ref Ca) ∧ XfCl X.prog X.w X.K X.mg X.base Ca p.2
  xps : ∀ c ∈ C.xp, ∃ Ca, X.mg c = some (.ref Ca) ∧ XpC X.K Ca
theorem XOk.roomC {X : Cx} {C : Ctx} {Φ : Fenv} {k : Nat} (ok : XOk X C Φ k) (h : C.hot = false) : Room k X.A := ⟨ok.hd h, ok.room.dp, ok.room.un⟩
theorem XOk.u64 {X : Cx} {C : Ctx} {Φ : Fenv} {k : Nat} (ok : XOk X C Φ k) : X.A.units + 65 < cLine := by have := ok.room.un; omega
abbrev XE (X : Cx) (Φ : Fenv) (e : Expr) (d : Den) : Prop := PE X e (tE X.K X.mg Φ d)
abbrev XO (X : Cx) (Φ : Fenv) (e : Expr) (d : ODen) : Prop := PE X e (tO X.K X.mg Φ d)
abbrev XT (X : Cx) (Φ : Fenv) (e : Expr) (d : TDen) : Prop := PT X e (tT X.K X.mg Φ d)
theorem XE.opd {X : Cx} {Φ : Fenv} {e : Expr} {d : Den} (h : XE X Φ e d) : XO X Φ e (oV d) := PE.imp h fun _ _ _ => tO_V
theorem XE.fz {X : Cx} {Φ : Fenv} {e : Expr} {d : Den} (h : XE X Φ e d) : XE X Φ e (dFz d) := PE.imp h fun _ _ _ => tE_Fz
/-- several expressions -/
inductive XOs (X : Cx) (Φ : Fenv) : List Expr → List ODen → Prop
  | nil : XOs X Φ [] []
  | cons {e : Expr} {es : List Expr} {d : ODen} {ds : List ODen} : XO X Φ e d → XOs X Φ es ds → XOs X Φ (e :: es) (d :: ds)
theorem XOs.pa {X : Cx} {Φ : Fenv} : ∀ {es : List Expr} {ds : List ODen}, XOs X Φ es ds → es.all plainE = true → PA X es (tArgs (ds.map (tO X.K X.mg Φ)))
  | [], _, h, _ => by cases h; exact pa_nil
  | e :: es, _, h, a => by
    rw [List.all_cons] at a
    obtain ⟨a1, a2⟩ := Bool.and_eq_true_iff.mp a
    cases h with
    | cons h1 h2 => exact pa_cons h1 (XOs.pa h2 a2) (star_plain a1)
/-- arguments, then a primitive: whatever the machine does with the values -/
theorem XOs.prim {X : Cx} {Φ : Fenv} {es : List Expr} {ds : List ODen} {p : Prim} {r : List V → Hp → VK → Prop} (h : XOs X Φ es ds) (a : es.all plainE = true) (hr : ∀ vs H Q, tPrim X.K X.mg p vs H Q → r vs H Q) :
    ∃ t, PA X es t ∧ ∀ σ H Q, tE X.K X.mg Φ (dPrim p ds) σ H Q → tCB r t σ H Q := by
  refine ⟨_, h.pa a, fun σ H Q w => ?_⟩
  refine tArgs.imp (fun t ht σ H Q Q' => ?_) (prim_args w) fun vs H1 z => hr vs H1 Q z
  obtain ⟨d, _, rfl⟩ := List.mem_map.mp ht
  exact fun w i => w.imp i
section
variable {X : Cx} {Φ : Fenv} {a b : Expr} {da db : ODen} {p : Prim} {r : R2} {pos : Pos}
theorem two_args {σ : L2.St} {H : Hp} {Q : VK} (hr : ∀ x y H Q, tPrim X.K X.mg p [x, y] H Q → r x y H Q) (w : tE X.K X.mg Φ (dPrim p [da, db]) σ H Q) : tOp r (tO X.K X.mg Φ da) (tO X.K X.mg Φ db) σ H Q := by
  have z : tArgs [tO X.K X.mg Φ da, tO X.K X.mg Φ db] σ H fun vs H1 => tPrim X.K X.mg p vs H1 Q := prim_args w
  exact tO.imp (Φ := Φ) z fun x H1 z1 => tO.imp (Φ := Φ) z1 fun y H2 z2 => hr x y H2 Q z2
theorem xe_bin {op : Operator} (ho : OpR X (binaryOp op) r) (hr : ∀ x y H Q, tPrim X.K X.mg p [x, y] H Q → r x y H Q) (ha : XO X Φ a da) (hb : XO X Φ b db) : XE X Φ (.BinOp a op b pos) (dPrim p [da, db]) :=
  PE.imp (pe_op ho ha hb) fun σ H Q w => two_args hr w
theorem xe_cmp {op : CmpOp} (ho : OpR X (compareOp op) r) (hr : ∀ x y H Q, tPrim X.K X.mg p [x, y] H Q → r x y H Q) (ha : XO X Φ a da) (hb : XO X Φ b db) (hm : plainE b = true) : XE X Φ (.Compare a [op] [b] pos) (dPrim p [da, db]) :=
  PE.imp (pe_cmpR ho ha hb (marks_plain hm)) fun σ H Q w => two_args hr w
theorem xt_cmp {op : CmpOp} (ho : OpR X (compareOp op) r) (hr : ∀ x y H Q, tPrim X.K X.mg p [x, y] H Q → r x y H Q) (ha : XO X Φ a da) (hb : XO X Φ b db) (hm : plainE b = true) : XT X Φ (.Compare a [op] [b] pos) (tdV (dPrim p [da, db])) :=
  PT.imp (pt_cmpR ho ha hb (marks_plain hm)) fun σ H Q w => two_args hr (tT_V w)
theorem xe_ix (ho : IxR X r) (hr : ∀ x y H Q, tPrim X.K X.mg p [x, y] H Q → r x y H Q) (ha : XO X Φ a da) (hb : XO X Φ b db) (hm : plainE b = true) : XE X Φ (.Subscript a b pos) (dPrim p [da, db]) :=
  PE.imp (pe_ix ho ha hb (ix_plain hm)) fun σ H Q w => two_args hr w
theorem one_arg {σ : L2.St} {H : Hp} {Q : VK} {r : V → Hp → VK → Prop} (hr : ∀ x H Q, tPrim X.K X.mg p [x] H Q → r x H Q) (w : tE X.K X.mg Φ (dPrim p [da]) σ H Q) : tUn r (tO X.K X.mg Φ da) σ H Q := by
  have z : tArgs [tO X.K X.mg Φ da] σ H fun vs H1 => tPrim X.K X.mg p vs H1 Q := prim_args w
  exact tO.imp (Φ := Φ) z fun x H1 z1 => hr x H1 Q z1
end
section
variable {X : Cx} {C : Ctx} {Φ : Fenv} {k : Nat} {f : Str} {fp pos : Pos} {es : List Expr} {ds : List ODen}
theorem xe_call (ok : XOk X C Φ k) (ht : C.hot = false) (hf : f ∈ C.fs) (hg : isGl C.sc f = true) (hn : goodName f = true) (h : XOs X Φ es ds) (a : es.all plainE = true) : XE X Φ (.Call (.Name f fp) es [] pos) (dPrim (Φ f) ds) := by
  obtain ⟨ad, fd, ps, dvs, dfs, sp, hm, hk, hb, hv, F, hsp, _⟩ := ok.fns f hf
  have hg' : Gl X f := gl_ok (by rw [ok.sc]; exact hg)
  obtain ⟨t, pa, wX⟩ := h.prim (p := Φ f) (r := fun vs H Q => sp (vs ++ dvs) H Q E0) a fun vs H Q z => hsp vs H Q z
  have w' : ∀ σ H Q, tE X.K X.mg Φ (dPrim (Φ f) ds) σ H Q → tCall sp dvs E0 t σ H Q := fun σ H Q z => wX σ H Q z
  cases es with
  | nil =>
    cases h
    refine PE.imp (pe_call0 F (ok.roomC ht) hg' hm hk hb hv passL (good_ok hn).1) fun σ H Q z => ?_
    have q : tArgs [] σ H fun vs H1 => tPrim X.K X.mg (Φ f) vs H1 Q := prim_args z
    exact hsp [] H Q q
  | cons e es =>
    rw [List.all_cons] at a
    obtain ⟨a1, a2⟩ := Bool.and_eq_true_iff.mp a
    exact PE.imp (pe_call F (ok.roomC ht) hg' hm hk hb hv passL pa (good_ok hn).1 (star_plain a1) (star_any a2)) w'
/-- what it raises -/
abbrev XX (X : Cx) (Φ : Fenv) (W : WX) (e : Expr) (d : XDen) : Prop := PE X e fun σ H _ => tX X.K X.mg Φ W d σ H
theorem xx_call {W : WX} {e : Expr} (ok : XOk X C Φ k) (ht : C.hot = false) (tk : L2.Takes X W) (hf : f ∈ C.fs) (hg : isGl C.sc f = true) (hn : goodName f = true) (h : XOs X Φ (e :: es) ds) (a : (e :: es).all plainE = true) : XX X Φ W (.Call (.Name f fp) (e :: es) [] pos) (xRz (Φ (keyX f)) ds) := by
  obtain ⟨ad, fd, ps, dvs, dfs, sp, hm, hk, hb, hv, F, _, hsp⟩ := ok.fns f hf
  have hg' : Gl X f := gl_ok (by rw [ok.sc]; exact hg)
  have pa := h.pa a
  rw [List.all_cons] at a
  obtain ⟨a1, a2⟩ := Bool.and_eq_true_iff.mp a
  cases dfs with
  | nil => exact PE.imp (pe_callS F (ok.roomC ht) hg' hm hk hb (passAt tk) pa (good_ok hn).1 (star_plain a1) (star_any a2)) fun σ H Q w => tArgs.imp (fun t ht σ H Q Q' => by
      obtain ⟨d, _, rfl⟩ := List.mem_map.mp ht
      exact fun w i => w.imp i) (rz_args w) fun vs H1 z => (hsp vs H1 Q _ z).2
  | cons x xs =>
    exact PE.imp (pe_call (F.imp (sp' := fun _ _ _ _ => False) fun _ _ _ _ z => z.elim) (ok.roomC ht) hg' hm hk hb hv passL pa (good_ok hn).1 (star_plain a1) (star_any a2)) fun σ H Q w => tArgs.imp (fun t ht σ H Q Q' => by
      obtain ⟨d, _, rfl⟩ := List.mem_map.mp ht
      exact fun w i => w.imp i) (rz_args w) fun vs H1 z => nomatch (hsp vs H1 Q _ z).1
theorem xe_hot {e : Expr} (ok : XOk X C Φ k) (hf : f ∈ C.hts) (hg : isGl C.sc f = true) (hn : goodName f = true) (h : XOs X Φ (e :: es) ds) (a : (e :: es).all plainE = true) : XE X Φ (.Call (.Name f fp) (e :: es) [] pos) (dPrim (Φ (keyH f)) ds) := by
  obtain ⟨ad, fd, ps, sp, hm, hk, hb, F, hsp⟩ := ok.hts f hf
  obtain ⟨t, pa, w⟩ := h.prim (p := Φ (keyH f)) (r := fun vs H Q => sp vs H Q E0) a hsp
  rw [List.all_cons] at a
  obtain ⟨a1, a2⟩ := Bool.and_eq_true_iff.mp a
  exact PE.imp (pe_callHt F ok.room (gl_ok (by rw [ok.sc]; exact hg)) hm hk hb pa (good_ok hn).1 (star_plain a1) (star_any a2)) w
theorem xe_blt {id : String} {r : List V → Hp → VK → Prop} {p : Prim} {e : Expr} (ok : XOk X C Φ k) (hc : CallR X (.builtin id) r) (hv : bootBuiltins f = some (.builtin id)) (hb : f ∈ bltNames) (hg : isGl C.sc f = true) (hn : goodName f = true) (h : XOs X Φ (e :: es) ds)
    (a : (e :: es).all plainE = true) (hr : ∀ vs H Q, tPrim X.K X.mg p vs H Q → r vs H Q) : XE X Φ (.Call (.Name f fp) (e :: es) [] pos) (dPrim p ds) := by
  obtain ⟨t, pa, w⟩ := h.prim (p := p) a hr
  rw [List.all_cons] at a
  obtain ⟨a1, a2⟩ := Bool.and_eq_true_iff.mp a
  exact PE.imp (pe_callB hc (gl_ok (by rw [ok.sc]; exact hg)) (ok.blt f hb) hv pa (good_ok hn).2.2 (good_ok hn).1 (star_plain a1) (star_any a2)) w
theorem xe_ty {T : String} {r : List V → Hp → VK → Prop} {p : Prim} {e : Expr} (ok : XOk X C Φ k) (hc : CallR X (.type T) r) (hv : bootBuiltins f = some (.type T)) (hb : f ∈ bltNames) (hg : isGl C.sc f = true) (hn : goodName f = true) (h : XOs X Φ (e :: es) ds)
    (a : (e :: es).all plainE = true) (hr : ∀ vs H Q, tPrim X.K X.mg p vs H Q → r vs H Q) : XE X Φ (.Call (.Name f fp) (e :: es) [] pos) (dPrim p ds) := by
  obtain ⟨t, pa, w⟩ := h.prim (p := p) a hr
  rw [List.all_cons] at a
  obtain ⟨a1, a2⟩ := Bool.and_eq_true_iff.mp a
  exact PE.imp (pe_callTy hc (gl_ok (by rw [ok.sc]; exact hg)) (ok.blt f hb) hv pa (good_ok hn).2.2 (good_ok hn).1 (star_plain a1) (star_any a2)) w
end
def noFree (sc : Scope) : Bool := sc.names.all fun y => match y.2 with
  | .free => false
  | _ => true
theorem clo_nil {cells : List (Str × Addr)} : ∀ {names : List (Str × NameKind)} {acc : List (Str × Addr)}, (names.all fun y => match y.2 with
  | .free => false
  | _ => true) = true → cloFrom cells names acc = acc
  | [], _, _ => rfl
  | (n, kd) :: r, acc, h => by
    rw [List.all_cons] at h
    obtain ⟨h1, h2⟩ := Bool.and_eq_true_iff.mp h
    unfold cloFrom
    rw [if_neg (fun z => by
      have z := eq_of_beq z
      rw [z] at h1; cases h1)]
    exact clo_nil h2
def dLam (q : Str) (ps : Arguments) (b : Expr) (sc : Scope) : Den := fun _ env => some (.d (.lam q ps b sc), env)
def lamDf (ps : Arguments) : Bool := ps.defaults.isEmpty && ps.kw_defaults.isEmpty
/-- the heap behind a lambda: its table, its code object, itself -/
theorem lam_laid {X : Cx} {pins : List (Addr × Obj)} {σ : L2.St} {H1 : Hp} {s : Shared} {h' : Heap} {tk : Nat} {ps : Arguments} {b : Expr} {sc : Scope} {c : Addr} {pm ctv : Value} (I : Inv X pins σ H1 { s with heap := h', toks := tk }) :
    Inv X pins σ (upd H1 h'.objs.size (LamO h'.objs.size lamQ ps b sc c)) { s with heap := h'.push (PySem.W.kla_obj "<lambda>" lamQ ps b sc [] pm c ctv), toks := tk } :=
  Inv.laid (s := { s with heap := h', toks := tk }) (t' := tk) I (fun d u e => Heap.get?_push_of_some _ e) (Nat.le_refl _)
    ⟨⟨pm, ctv, Heap.get?_push_size _ rfl⟩, ⟨_, Heap.get?_push_size _ rfl⟩, fun g1 g2 ⟨pm, ctv, e⟩ st => ⟨pm, ctv, st _ e⟩⟩
theorem xe_lam {X : Cx} {C : Ctx} {Φ : Fenv} {k : Nat} (ok : XOk X C Φ k) (hl : C.lam = true) {ps : Arguments} {b : Expr} {sc : Scope} {pos : Pos} (hd : lamDf ps = true) (hf : noFree sc = true) : XE X Φ (.Lambda ps b sc pos) (dLam lamQ ps b sc) := by
  refine ⟨fun pins s σ H Q I w => ?_⟩
  obtain ⟨F, env, fp, iv, env', st, e, cc⟩ := w
  cases e
  obtain ⟨c, P, hm, hu, TB, hcode, hq⟩ := ok.lam hl
  obtain ⟨fP, pp, hP, ht, ha⟩ := st.tb (c, P) hm
  have hdef : defaultsOf ps X.env = ([], []) := by
    obtain ⟨d1, d2⟩ := Bool.and_eq_true_iff.mp hd
    rw [defaultsOf_eq, List.isEmpty_iff.mp d1, List.isEmpty_iff.mp d2]; rfl
  have hcl : closureFor sc X.env = pure [] := by
    rw [closure_ok fun y hy z => by
      have q := List.all_eq_true.mp hf y hy
      rw [z] at q; cases q]
    rw [clo_nil hf]
  refine PySem.W.kla_eval hdef ?_
  rw [hq]
  have bP : s.heap.BuiltinsAt X.mg P := TB.bm.keeps I.bk
  have hP' : s.heap.get? P = some { cls := .none, data := .fields pp } := I.hok P _ hP
  have fPn : ∀ q : Addr, H q = none → P ≠ q := fun q z => ne_of_none hP z
  cases hc : codeAmong pos pp.toList with
  | some cv =>
    obtain ⟨c', rfl, hco⟩ := ha pos cv hc
    refine PySem.W.kla_makeFunctionHit (mg := X.mg) (c := c) (P := P) (ps := pp) hcl I.ok.glob (I.mod.glob.keeps I.bk) hcode (TB.code.keeps I.bk) hP' ht hc bP fun ctv h' tk hx hsz => ?_
    have hfr : H h'.objs.size = none := I.hok.fresh hsz
    have I1 : Inv X pins σ H { s with heap := h', toks := tk } := I.kept hx
    obtain ⟨st1, p1⟩ := StOk.alloc (o := LamO h'.objs.size lamQ ps b sc c') st hfr
    have nc : c' ≠ h'.objs.size := ne_of_none (st.ex _ _ hco) hfr
    exact ⟨.ref h'.objs.size, _, lam_laid I1, rfl, cc _ _ _ _ _ st1 p1 (Tmp.ofD (.lam upd_same (by rw [upd_ne nc]; exact hco)))⟩
  | none =>
    refine PySem.W.kla_makeFunction (mg := X.mg) (c := c) (P := P) (ps := pp) hcl I.ok.glob (I.mod.glob.keeps I.bk) hcode (TB.code.keeps I.bk) hP' ht hc TB.gP bP fun c' ctv h' tk hx hge hlt hrec htb => ?_
    obtain ⟨c2, oc, vs, t, e2, hoc, hd2, hv⟩ := hrec
    cases e2
    have hsz : s.heap.objs.size ≤ h'.objs.size := Nat.le_trans hge (Nat.le_of_lt hlt)
    have nC : H c' = none := I.hok.fresh hge
    have nf : H h'.objs.size = none := I.hok.fresh hsz
    have I1 := LamX.inv_table (t' := tk) (more := #[rawInt pos.line, rawInt pos.col, .ref c']) (h' := h') (q := lamQ) I hP hx htb hge ⟨oc, vs, t, hoc, hd2, hv⟩
    have ncf : c' ≠ h'.objs.size := Nat.ne_of_lt hlt
    have nPf : P ≠ h'.objs.size := ne_of_none hP nf
    have nPc : P ≠ c' := ne_of_none hP nC
    have Fc : F c' = none := st.Fnone nC
    have s1 : Same F (upd F c' (LamX.CodeO c' lamQ)) := same_upd Fc
    have ne : ∀ i d, fp i d → d ≠ P := fun i d z e => by
      obtain ⟨iv, e1⟩ := st.emp i d z
      obtain ⟨v, _, o⟩ := st.slot i iv e1
      exact o.nt z _ (by rw [e]; exact hP) pp rfl
    have nec : ∀ i d, fp i d → d ≠ c' := fun i d z e => st.hs z (by rw [e]; exact nC)
    have H1at : ∀ d, d ≠ P → d ≠ c' → upd (upd H P (.tbl (pp ++ #[rawInt pos.line, rawInt pos.col, .ref c']))) c' (LamX.CodeO c' lamQ) d = H d := fun d g1 g2 => by rw [upd_ne g2, upd_ne g1]
    have st1 : StOk X.K X.mg (upd F c' (LamX.CodeO c' lamQ)) (upd (upd H P (.tbl (pp ++ #[rawInt pos.line, rawInt pos.col, .ref c']))) c' (LamX.CodeO c' lamQ)) σ env fp ∧
        EStp F H σ fp (upd F c' (LamX.CodeO c' lamQ)) (upd (upd H P (.tbl (pp ++ #[rawInt pos.line, rawInt pos.col, .ref c']))) c' (LamX.CodeO c' lamQ)) σ fp := by
      refine ⟨⟨fun d x q => ?_, st.len, fun i iv q => ?_, st.emp, st.disj, fun i d z => ?_, fun p hp => ?_⟩, ⟨⟨s1, fun d x q _ nt => ?_, fun d q => ?_, fun d x q => ?_⟩, fun i d z => .inl z, fun i _ => ⟨rfl, fun d z => z⟩⟩⟩
      · by_cases hb : d = c'
        · subst hb; rw [upd_same] at q ⊢; exact q
        · rw [upd_ne hb] at q
          rw [H1at d (fun z => by rw [z, fP] at q; cases q) hb]
          exact st.ex d x q
      · obtain ⟨v, g1, g2⟩ := st.slot i iv q
        exact ⟨v, g1, g2.mono s1 fun d z => H1at d (ne i d z) (nec i d z)⟩
      · rw [upd_ne (nec i d z)]; exact st.fr i d z
      · have hp2 : p = (c, P) := by
          have hp := hp
          rw [hu] at hp
          exact List.mem_singleton.mp hp
        subst hp2
        have eL : (pp ++ #[rawInt pos.line, rawInt pos.col, .ref c']).toList = pp.toList ++ [rawInt pos.line, rawInt pos.col, .ref c'] := by simp
        refine ⟨by rw [upd_ne nPc]; exact fP, _, by rw [upd_ne nPc, upd_same], by rw [eL]; exact PySem.TriplesOk_snoc _ _ _ _ ht, fun p' cv hcv => ?_⟩
        rw [eL] at hcv
        rcases LamX.among_app _ ht hcv with z | z
        · obtain ⟨c0, e1, e2⟩ := ha p' cv z
          exact ⟨c0, e1, s1 _ _ e2⟩
        · exact ⟨c', z, upd_same⟩
      · rw [H1at d (fun z => nt pp (by rw [z, hP] at q; exact (Option.some.inj q).symm)) (ne_of_none q nC)]; exact q
      · by_cases hb : d = c'
        · rw [hb]; exact nC
        · rw [upd_ne hb] at q
          by_cases hb2 : d = P
          · rw [hb2, upd_same] at q; cases q
          · rw [upd_ne hb2] at q; exact q
      · by_cases hb : d = c'
        · rw [hb]; exact .inr (.inr nC)
        · rw [upd_ne hb] at q; exact .inl q
    obtain ⟨st1, p1⟩ := st1
    have nf1 : upd (upd H P (.tbl (pp ++ #[rawInt pos.line, rawInt pos.col, .ref c']))) c' (LamX.CodeO c' lamQ) h'.objs.size = none := by rw [H1at _ (Ne.symm nPf) (Ne.symm ncf)]; exact nf
    obtain ⟨st2, p2⟩ := StOk.alloc (o := LamO h'.objs.size lamQ ps b sc c') st1 nf1
    exact ⟨.ref h'.objs.size, _, lam_laid I1, rfl, cc _ _ _ _ _ st2 (p1.trans p2) (Tmp.ofD (.lam upd_same (by rw [upd_ne ncf, upd_same])))⟩
/-- a lambda that a name holds is called -/
def isLamIV : IV → Bool
  | .d (.lam _ _ _ _) => true
  | _ => false
def dCallL (o : ODen) (ds : List ODen) : Den := fun Φ env => dMeth isLamIV (Φ keyL) o ds Φ env
theorem xe_callL {X : Cx} {C : Ctx} {Φ : Fenv} {k : Nat} (ok : XOk X C Φ k) (ht : C.hot = false) {f : Str} {fp pos : Pos} {od : ODen} {e : Expr} {es : List Expr} {ds : List ODen} (ho : XO X Φ (.Name f fp) od) (h : XOs X Φ (e :: es) ds) (a : (e :: es).all plainE = true) :
    XE X Φ (.Call (.Name f fp) (e :: es) [] pos) (dCallL od ds) := by
  refine ⟨fun pins s σ H Q I w => ?_⟩
  have w : tE X.K X.mg Φ (dMeth isLamIV (Φ keyL) od ds) σ H Q := w
  have pA := h.pa a
  rw [List.all_cons] at a
  obtain ⟨a1, a2⟩ := Bool.and_eq_true_iff.mp a
  refine wpAny_Call_Name_kw (thn (ho.run pins s σ H _ I (meth_args w)) fun u s1 ⟨v, H1, I1, r1, ⟨F, iv, S, h1, h2, h3⟩, q1⟩ => ?_)
  have key : ∃ g, v = .ref g ∧ PySem.W.FnAt g s1.heap := by
    cases iv with
    | d y =>
      cases y with
      | lam q ps b sc =>
        cases h3.1 with
        | lam g1 g2 =>
          obtain ⟨⟨pm, ctv, z⟩, _⟩ := I1.hok _ _ (h2 _ _ g1)
          exact ⟨_, rfl, _, _, _, _, z⟩
      | _ => cases h1
    | _ => cases h1
  obtain ⟨g, rfl, fa⟩ := key
  cases r1
  refine PySem.W.callWith_F fa (thn (pA.run pos pins s1 σ _ _ I1 q1) fun us s2 ⟨vs, H2, I2, r, q⟩ => ?_) (star_plain a1) (star_any a2)
  obtain ⟨g', e, fa2, rc⟩ := ok.lm X.A X.stack s2 H2 (.ref g) vs us Q (ok.roomC ht) I2.env0 r q
  cases e
  refine ⟨fa2, wpAny_call (codeAny_mono rc fun r s' hq => ?_)⟩
  cases r with
  | error e => exact passL pins _ _ _ e s' I2 hq
  | ok fl =>
    cases fl with
    | ret u => exact I2.after hq
    | _ => exact False.elim hq
def isListIV (iv : IV) : Bool := (iv.asL).isSome
def isStrIV (iv : IV) : Bool := (iv.asS).isSome
section
variable {X : Cx} {Φ : Fenv} {o : Expr} {od : ODen} {m : Str} {ap pos : Pos} {T id : String} {okv : IV → Bool} {p : Prim} {r : V → List V → Hp → VK → Prop}
def TyOk (K : Fg) (mg : MG) (T : String) (okv : IV → Bool) : Prop := ∀ F H v iv S, okv iv = true → Same F H → OwnV K mg F H v iv S → tyV K T v H
theorem ty_list {K : Fg} {mg : MG} : TyOk K mg "list" isListIV := fun F H v iv S h ex o => by
  unfold isListIV at h
  obtain ⟨xs, e⟩ := Option.isSome_iff_exists.mp h
  obtain ⟨a, vs, rfl, hr, _⟩ := asL_ok ex o e
  exact .inl ⟨rfl, vs, hr⟩
theorem ty_str {K : Fg} {mg : MG} : TyOk K mg "str" isStrIV := fun F H v iv S h ex o => by
  unfold isStrIV at h
  obtain ⟨xs, e⟩ := Option.isSome_iff_exists.mp h
  obtain ⟨rfl, _⟩ := asS_ok o e
  exact (rfl : "str" = "str")
theorem xe_meth0 (pa : PlainAttrs T) (slot : Slot T m id) (hty : typeOf (.builtin id) = pure (.type "method_descriptor")) (hm : MtR X id r) (ty : TyOk X.K X.mg T okv) (hr : ∀ x vs H Q, tPrim X.K X.mg p (x :: vs) H Q → r x vs H Q)
    (ho : XO X Φ o od) (hb : notCall0 o = true) (hl : (ap.endLine == pos.line) = true) : XE X Φ (.Call (.Attribute o m ap) [] [] pos) (dMeth okv p od []) := by
  refine PE.imp (pe_bm0 pa slot hty hm ho (base_plain hb) hl) fun σ H Q w => ?_
  exact tO.imp (meth_args w) fun x H1 ⟨⟨F, iv, S, h1, h2, h3⟩, z⟩ => ⟨ty F H1 x iv S h1 h2 h3, hr x [] H1 Q z⟩
theorem xe_meth {e : Expr} {es : List Expr} {ds : List ODen} (pa : PlainAttrs T) (slot : Slot T m id) (hty : typeOf (.builtin id) = pure (.type "method_descriptor")) (hm : MtR X id r) (ty : TyOk X.K X.mg T okv) (hr : ∀ x vs H Q, tPrim X.K X.mg p (x :: vs) H Q → r x vs H Q)
    (ho : XO X Φ o od) (hb : notCall0 o = true) (hl : (ap.endLine == pos.line) = true) (h : XOs X Φ (e :: es) ds) (a : (e :: es).all plainE = true) (h30 : (e :: es).length < 30) : XE X Φ (.Call (.Attribute o m ap) (e :: es) [] pos) (dMeth okv p od ds) := by
  have pA := h.pa a
  have a' := a
  rw [List.all_cons] at a'
  obtain ⟨a1, a2⟩ := Bool.and_eq_true_iff.mp a'
  have hfew : ((backTo pos (starEach (e :: es) X.env)).all (fun x => !x.1) && (backToKw pos (keywordEach [] X.env)).all (fun x => x.1.isSome)
      && decide ((e :: es).length + ([] : List Keyword).length + (if ([] : List Keyword).isEmpty then 0 else 1) < 30)) = true := by
    rw [star_all a]
    show (true && true && decide ((e :: es).length + 0 + 0 < 30)) = true
    rw [decide_eq_true (by omega)]; rfl
  refine PE.imp (pe_bm pa slot hty hm ho pA (base_plain hb) hfew hl (star_plain a1) (star_any a2)) fun σ H Q w => ?_
  refine tO.imp (meth_args w) fun x H1 ⟨⟨F, iv, S, h1, h2, h3⟩, z⟩ => ⟨ty F H1 x iv S h1 h2 h3, ?_⟩
  refine tArgs.imp (fun t ht σ H Q Q' => ?_) z fun vs H2 z2 => hr x vs H2 Q z2
  obtain ⟨d, _, rfl⟩ := List.mem_map.mp ht
  exact fun w i => w.imp i
end
def dNew (c : Str) : Den := fun _ env => some (.d (.ins c), env)
theorem pe_made0 {X : Cx} {x : Str} {C : Addr} {p pos : Pos} (mk : PySem.W.makesIn X.K C = true) (ini : PySem.W.findIn X.K (.ref C) "__init__" = some (some (.builtin "object.__init__"))) (kp : PySem.W.keepIn X.K (.ref C) = true) (hg : Gl X x) (hm : X.mg x = some (.ref C)) (hdb : (x == ("__debug__" : Str)) = false) :
    PE X (.Call (.Name x p) [] [] pos) (fun σ H Q => ∀ a dx, H a = none → H dx = none → dx ≠ a → Q (.ref a) (upd (upd H dx (.own a)) a (.ins C dx []))) := by
  refine ⟨fun pins s σ H Q I h => ?_⟩
  refine wpAny_Call_Name_kw (ld_glob I hg hm ?_ hdb)
  have I2 := Inv.made (C := C) I
  have q := h (s.heap.objs.size + 1) s.heap.objs.size (I.hok.fresh (Nat.le_succ _)) (I.hok.fresh (Nat.le_refl _)) (Nat.ne_of_lt (Nat.lt_succ_self _))
  refine PySem.W.callWith_K0 I.kIn kp (wpAny_call (make_map0 I.kIn mk ini (fun self => PySem.W.Looks.of_pure (PySem.W.oi_bind self)) ?_))
  have Y := PySem.W.makes_of (M := model X.prog X.w) I.kIn mk
  obtain ⟨hh, g, d, t, os⟩ := s
  have hx : ((hh.push PySem.W.emptyDict).push (PySem.W.instObj C hh.objs.size)).get? (hh.objs.size + 1) = some (PySem.W.instObj C hh.objs.size) := by heap_get
  have t1 : PySem.W.Looks (model X.prog X.w) ((hh.push PySem.W.emptyDict).push (PySem.W.instObj C hh.objs.size)) (typeOf (.ref (hh.objs.size + 1))) (.ref C) := (PySem.W.Looks.ld hx).andThen .now
  have t2 : PySem.W.Looks (model X.prog X.w) ((hh.push PySem.W.emptyDict).push (PySem.W.instObj C hh.objs.size)) (isInstance (.ref (hh.objs.size + 1)) (.type "object")) true := t1.andThen (Y.top.keeps fun b o e => Heap.get?_push_of_some _ (Heap.get?_push_of_some _ e))
  refine codeAny_call_builtin PySem.W.oi_plain PySem.W.entry_oi (@PySem.W.check_slot (model X.prog X.w) _ _ _ "object.__init__" "object" "__init__" (.ref (hh.objs.size + 1)) [] [] _ PySem.W.oi_kind PySem.W.oi_split t2 (PySem.W.oi_args (.ref (hh.objs.size + 1))) ?_)
  rw [PySem.W.oi_run]
  exact wpAny_pure (And.intro rfl ⟨.ref (hh.objs.size + 1), _, I2, rfl, q⟩)
section
variable {X : Cx} {C : Ctx} {Φ : Fenv} {k : Nat}
theorem xe_new (ok : XOk X C Φ k) {p : Str × List Str} {np pos : Pos} (hp : p ∈ C.cs) (hg : isGl C.sc p.1 = true) (hn : goodName p.1 = true) : XE X Φ (.Call (.Name p.1 np) [] [] pos) (dNew p.1) := by
  obtain ⟨Ca, hm, c⟩ := ok.cls p hp
  refine PE.imp (pe_made0 c.mks c.ini c.kp (gl_ok (by rw [ok.sc]; exact hg)) hm (good_ok hn).1) fun σ H Q h a dx ha hd hne => ?_
  obtain ⟨F, env, fp, iv, env', st, e, cc⟩ := h
  cases e
  obtain ⟨s1, p1⟩ := StOk.allocO (o := .own a) st hd
  have ha' : upd H dx (.own a) a = none := by rw [upd_ne (Ne.symm hne)]; exact ha
  obtain ⟨s2, p2⟩ := StOk.alloc (o := .ins Ca dx []) s1 ha'
  exact cc _ _ _ _ _ s2 (p1.trans p2) (Tmp.ofD (.ins upd_same hm))
def isInsIV (c m : Str) : IV → Bool
  | .d (.ins c') => c' == c
  | .obj c' fs => c' == c && (fs.lookup m).isNone
  | _ => false
def insC : Option IV → Option Str
  | some (.d (.ins c)) => some c
  | some (.obj c _) => some c
  | _ => none
def dMethI (m : Str) (tbl : List (Str × Str)) (o : ODen) (ds : List ODen) : Den := fun Φ env => (insC ((o Φ env).bind fun r => deref r.2 r.1)).bind fun c => (tbl.lookup c).bind fun key => dMeth (isInsIV c m) (Φ key) o ds Φ env
theorem ins_at {K : Fg} {mg : MG} {F H : Hp} {x : V} {iv : IV} {S : AS} {c m : Str} (h : isInsIV c m iv = true) (ex : Same F H) (o : OwnV K mg F H x iv S) : ∃ a Ca dx fs, x = .ref a ∧ H a = some (.ins Ca dx fs) ∧ fs.lookup m = none ∧ mg c = some (.ref Ca) := by
  cases iv with
  | d y =>
    cases y with
    | ins c' =>
      have e : c' = c := eq_of_beq h
      subst e
      cases o.1 with
      | ins h1 h2 => exact ⟨_, _, _, _, rfl, ex _ _ h1, rfl, h2⟩
    | _ => cases h
  | obj c' fs =>
    obtain ⟨h1, h2⟩ := Bool.and_eq_true_iff.mp h
    have e : c' = c := eq_of_beq h1
    subst e
    obtain ⟨a, C, dx, fv, os, e1, m1, e2, f, s⟩ := o
    exact ⟨a, C, dx, fv, e1, e2, f.non0 (Option.isNone_iff_eq_none.mp h2), m1⟩
  | _ => cases h
theorem ev_meth {o : Expr} {m : Str} {ap pos : Pos} {es : List Expr} {env : PySem.Env} (hb : notCall0 o = true) (hl : (ap.endLine == pos.line) = true) (a : es.all plainE = true) (h30 : es.length < 30) : eval (.Call (.Attribute o m ap) es [] pos) env = (do
      let ov ← eval o env
      standAt ap.atName
      let (f, first) ← holding [ov] (getMethod ov m (do return (← importBound o env).getD true))
      callWith pos f first (backTo pos (starEach es env)) (backToKw pos (keywordEach [] env))) := by
  have hform : methodCallForm (es.length + ([] : List Keyword).length) (backTo pos (starEach es env)) (backToKw pos (keywordEach [] env)) = true := by
    unfold methodCallForm
    rw [star_all a]
    show (true && true && decide (es.length + 0 + 0 < 30)) = true
    rw [decide_eq_true (by omega)]; rfl
  have hpos : methodCallPos true o env ap pos = pure pos := by unfold methodCallPos; simp [hl]
  rw [arm_eval_Call, base_plain hb]
  unfold methodCall
  rw [hform]
  simp only [hpos, pure_bind, calleeOf, if_true]
theorem xe_methI (ok : XOk X C Φ k) (hh : C.hot = false) {tbl : List (Str × Str)} {m : Str} {o : Expr} {od : ODen} {es : List Expr} {ds : List ODen} {ap pos : Pos} (ht : ∀ q ∈ tbl, (q.1, m, q.2) ∈ C.ms) (ho : XO X Φ o od) (hb : notCall0 o = true) (hl : (ap.endLine == pos.line) = true) (h : XOs X Φ es ds) (a : es.all plainE = true) (h30 : es.length < 30) :
    XE X Φ (.Call (.Attribute o m ap) es [] pos) (dMethI m tbl od ds) := by
  refine ⟨fun pins s σ H Q I w => ?_⟩
  obtain ⟨F, env, fp, iv, env', st, e, c⟩ := w
  unfold dMethI at e
  obtain ⟨cn, e1, e⟩ := Option.bind_eq_some_iff.mp e
  obtain ⟨key, e2, e⟩ := Option.bind_eq_some_iff.mp e
  have w : tE X.K X.mg Φ (dMeth (isInsIV cn m) (Φ key) od ds) σ H Q := ⟨F, env, fp, iv, env', st, e, c⟩
  obtain ⟨Ca, f, fd, ps, hm, hc, hM, hB, hF⟩ := ok.mts (cn, m, key) (ht (cn, key) (lookup_mem e2))
  have key2 : ∀ x H1, (∃ F iv S, isInsIV cn m iv = true ∧ Same F H1 ∧ OwnV X.K X.mg F H1 x iv S) → ∃ a dx fs, x = .ref a ∧ H1 a = some (.ins Ca dx fs) ∧ fs.lookup m = none := fun x H1 ⟨F, iv, S, h1, h2, h3⟩ => by
    obtain ⟨a, Cb, dx, fs, rfl, g1, g0, g2⟩ := ins_at h1 h2 h3
    rw [show X.mg cn = some (.ref Ca) from hm] at g2
    cases g2
    exact ⟨a, dx, fs, rfl, g1, g0⟩
  have z := meth_args w
  cases es with
  | nil =>
    cases h
    have ev := ev_meth (m := m) (env := X.env) hb hl a h30
    refine (pe_meth0 ho hc hM hF (ok.roomC hh) hB .nil (passL (X := X)) ev).run pins s σ H Q I ?_
    refine tO.imp z fun x H1 ⟨k1, k2⟩ => ?_
    obtain ⟨a, dx, fs, rfl, g1, g2⟩ := key2 x H1 k1
    exact ⟨a, dx, fs, rfl, g1, g2, .inl k2⟩
  | cons e0 es =>
    have pA := h.pa a
    have a' := a
    rw [List.all_cons] at a'
    obtain ⟨a1, a2⟩ := Bool.and_eq_true_iff.mp a'
    have ev := ev_meth (m := m) (env := X.env) hb hl a h30
    refine (pe_meth ho hc hM hF (ok.roomC hh) hB .nil (passL (X := X)) pA (star_plain a1) (star_any a2) ev).run pins s σ H Q I ?_
    refine tO.imp z fun x H1 ⟨k1, k2⟩ => ?_
    obtain ⟨a, dx, fs, rfl, g1, g2⟩ := key2 x H1 k1
    refine ⟨a, dx, fs, rfl, g1, g2, ?_⟩
    refine tArgs.imp (fun t ht σ H Q Q' => ?_) k2 fun vs H2 z2 => ?_
    · obtain ⟨d, _, rfl⟩ := List.mem_map.mp ht
      exact fun w i => w.imp i
    · show tPrim X.K X.mg (Φ key) (.ref a :: (vs ++ [])) H2 Q ∨ _
      rw [List.append_nil]; exact .inl z2
end
def isiC (cs : List (Str × List Str)) (x y : IV) : Option IV := match x, y with
  | .d (.ins c), .d (.cls d) => (cs.find? fun p => p.1 == c).bind fun p => if cs.any fun q => q.1 == d then some (.d (.bl (isSub p d))) else none
  | _, _ => none
theorem ok_isiC {X : Cx} {C : Ctx} {Φ : Fenv} {k : Nat} (ok : XOk X C Φ k) {vs : List V} {H : Hp} {Q : VK} (h : tPrim X.K X.mg (p2 (isiC C.cs)) vs H Q) : rIsi X.K vs H Q := by
  obtain ⟨F, a, b, fp, res, v, w, e, st, o1, o2, f, c⟩ := prim2 h
  subst e
  unfold isiC at f
  split at f
  case h_2 => cases f
  case h_1 cn d =>
    obtain ⟨p, e1, f⟩ := Option.bind_eq_some_iff.mp f
    split at f
    case isFalse => cases f
    case isTrue hd =>
      cases f
      have p1 := List.mem_of_find?_eq_some e1
      have p2 : p.1 = cn := by have q := List.find?_some e1; exact eq_of_beq q
      subst p2
      obtain ⟨q, q1, q2⟩ := List.any_eq_true.mp hd
      have q2 : q.1 = d := eq_of_beq q2
      subst q2
      obtain ⟨Ca, hm, cc⟩ := ok.cls p p1
      cases o1.1 with
      | ins h1 h2 =>
        rw [hm] at h2
        cases h2
        cases o2.1 with
        | cls h3 =>
          exact ⟨_, _, .ref _, .ref _, _, rfl, .own _, .base (.ins (st.ex _ _ h1) cc.cls cc.ha cc.hn cc.ht cc.hm), ok.isi p p1 q q1 _ _ hm h3, Cont.data st c (.bl _)⟩
def xcName : D → Option Str
  | .cls d => some d
  | .ty n => if n = "ValueError" then some "ValueError" else none
  | _ => none
def xcKnown (xs : List (Str × List Str)) (n : Str) : Bool := n == ("ValueError" : Str) || xs.any fun q => q.1 == n
def xcNames : List D → Option (List Str)
  | [] => some []
  | y :: ys => (xcName y).bind fun n => (xcNames ys).bind fun ns => some (n :: ns)
def isiX (xs : List (Str × List Str)) (x y : IV) : Option IV := match x with
  | .d (.exc c _ _) => (xs.lookup c).bind fun sup => match y with
    | .d (.tup ys) => (xcNames ys).bind fun ns => if ns.all (xcKnown xs) then some (.d (.bl (ns.any fun n => sup.contains n))) else none
    | .d z => (xcName z).bind fun n => if xcKnown xs n then some (.d (.bl (sup.contains n))) else none
    | _ => none
  | _ => none
section
variable {X : Cx} {C : Ctx} {Φ : Fenv} {k : Nat}
theorem xc_one (ok : XOk X C Φ k) {c : Str} {sup : List Str} (hc : (c, sup) ∈ C.xs) {Ca : Addr} (hm : X.mg c = some (.ref Ca)) {F : Hp} {w : V} {z : D} {n : Str} (r : Rp X.K X.mg F w z) (e : xcName z = some n) (kn : xcKnown C.xs n = true) :
    ∃ cv, (∀ u, RelV w u → u = cv) ∧ PySem.W.kitOne X.K (.ref Ca) cv = some (sup.contains n) := by
  obtain ⟨i1, i2⟩ := ok.xis (c, sup) hc Ca hm
  cases r with
  | @cls a d hd =>
    have e : d = n := Option.some.inj e
    subst e
    have kn2 : (d == ("ValueError" : Str) || C.xs.any fun q => q.1 == d) = true := kn
    rcases Bool.or_eq_true_iff.mp kn2 with z | z
    · rw [eq_of_beq z, ok.blt _ (by decide +kernel)] at hd
      cases hd
    · obtain ⟨q, q1, q2⟩ := List.any_eq_true.mp z
      have q2 : q.1 = d := eq_of_beq q2
      subst q2
      exact ⟨.ref a, fun u ru => ru, (i1 q q1 a hd).1⟩
  | ty m =>
    have e : (if m = "ValueError" then some ("ValueError" : Str) else none) = some n := e
    split at e
    case isTrue hm2 =>
      cases e
      subst hm2
      exact ⟨.type "ValueError", fun u ru => ru, i2⟩
    case isFalse => cases e
  | _ => cases e
theorem xc_many (ok : XOk X C Φ k) {c : Str} {sup : List Str} (hc : (c, sup) ∈ C.xs) {Ca : Addr} (hm : X.mg c = some (.ref Ca)) {F : Hp} : ∀ {ws : List V} {ys : List D} {ns : List Str}, Rps X.K X.mg F ws ys → xcNames ys = some ns → ns.all (xcKnown C.xs) = true →
    ∃ cvs, (∀ its, Vals ws its → its = cvs) ∧ PySem.W.kitAny X.K (.ref Ca) cvs = some (ns.any fun n => sup.contains n)
  | _, _, _, .nil, e, _ => by
    cases e
    exact ⟨[], fun its r => by cases r; rfl, rfl⟩
  | _, _, _, .cons r rs, e, kn => by
    obtain ⟨n, e1, e⟩ := Option.bind_eq_some_iff.mp e
    obtain ⟨ns, e2, e⟩ := Option.bind_eq_some_iff.mp e
    cases e
    rw [List.all_cons] at kn
    obtain ⟨k1, k2⟩ := Bool.and_eq_true_iff.mp kn
    obtain ⟨cv, a1, a2⟩ := xc_one ok hc hm r e1 k1
    obtain ⟨cvs, b1, b2⟩ := xc_many ok hc hm rs e2 k2
    refine ⟨cv :: cvs, fun its q => by
      cases q with
      | cons q1 q2 => rw [a1 _ q1, b1 _ q2], ?_⟩
    show (match PySem.W.kitOne X.K (.ref Ca) cv with
      | some true => some true
      | some false => PySem.W.kitAny X.K (.ref Ca) cvs
      | none => none) = _
    rw [a2, List.any_cons]
    cases sup.contains n with
    | true => rfl
    | false => simpa using b2
theorem ok_isiX (ok : XOk X C Φ k) {vs : List V} {H : Hp} {Q : VK} (h : tPrim X.K X.mg (p2 (isiX C.xs)) vs H Q) : rIsX X.K vs H Q := by
  obtain ⟨F, a, b, fp, res, v, w, e, st, o1, o2, f, c⟩ := prim2 h
  subst e
  unfold isiX at f
  split at f
  case h_2 => cases f
  case h_1 cn g x =>
    obtain ⟨sup, e1, f⟩ := Option.bind_eq_some_iff.mp f
    have hc := lookup_mem e1
    cases o1.1 with
    | @exc ad Ca od _ _ _ vv h1 h2 h3 h4 =>
    obtain ⟨Cb, hm, T⟩ := ok.xcs _ hc
    rw [show X.mg cn = some (.ref Cb) from hm] at h2
    cases h2
    split at f
    case h_1 ys =>
      obtain ⟨ns, e2, f⟩ := Option.bind_eq_some_iff.mp f
      split at f
      case isFalse => cases f
      case isTrue kn =>
        cases f
        cases o2.1 with
        | @tup l ws _ q1 q2 =>
          obtain ⟨cvs, b1, b2⟩ := xc_many ok hc hm q2 e2 kn
          exact ⟨_, _, od, g, vv, F, _, _, rfl, st.ex, h1, h3, T, .inr ⟨l, ws, cvs, rfl, Same.sqt st.ex q1, b1, b2⟩, Cont.data st c (.bl _)⟩
    case h_2 z _ =>
      obtain ⟨n, e2, f⟩ := Option.bind_eq_some_iff.mp f
      split at f
      case isFalse => cases f
      case isTrue kn =>
        cases f
        exact ⟨_, _, od, g, vv, F, _, _, rfl, st.ex, h1, h3, T, .inl (xc_one ok hc hm o2.1 e2 kn), Cont.data st c (.bl _)⟩
    case h_3 => cases f
def pXn (xf : List (Str × Str)) (f : Str) : Prim := fun ivs => match ivs with
  | [.d (.exc c g x)] => if g == f && xf.contains (c, f) && !(g == Str.empty) then some (.d x, [.d (.exc c g x)]) else none
  | _ => none
theorem xe_xn (ok : XOk X C Φ k) {o : Expr} {od : ODen} {f : Str} {pos : Pos} (ho : XO X Φ o od) (hb : notCall0 o = true) : XE X Φ (.Attribute o f pos) (dPrim (pXn C.xf f) [od]) := by
  refine PE.imp (pe_xn ho (base_plain hb)) fun σ H Q w => ?_
  have z : tArgs [tO X.K X.mg Φ od] σ H fun vs H1 => tPrim X.K X.mg (pXn C.xf f) vs H1 Q := prim_args w
  refine tO.imp (Φ := Φ) z fun x H1 z1 => ?_
  obtain ⟨F, ivs, fp, res, ivs', st, e, c⟩ := z1
  unfold pXn at e
  split at e
  case h_2 => cases e
  case h_1 cn g y =>
    split at e
    case isFalse => cases e
    case isTrue q =>
      cases e
      obtain ⟨q, q3⟩ := Bool.and_eq_true_iff.mp q
      obtain ⟨q1, q2⟩ := Bool.and_eq_true_iff.mp q
      have q1 : g = f := eq_of_beq q1
      subst q1
      obtain ⟨v, s1, s2⟩ := st.slot 0 _ rfl
      cases s1
      obtain ⟨Ca, hm, T⟩ := ok.xfs (cn, g) (by simpa using q2)
      have n0 : ∀ b, ¬ fp 0 b := s2.2
      cases s2.1 with
      | @exc ad Cb od' _ _ _ vv h1 h2 h3 h4 =>
        rw [show X.mg cn = some (.ref Ca) from hm] at h2
        cases h2
        rcases h3 with ⟨hg, _⟩ | ⟨dd, fv, e1, e2, e3⟩
        · rw [hg] at q3; cases q3
        · subst e1
          exact ⟨ad, Ca, dd, fv, vv, F, rfl, st.ex, h1, e2, e3, T.x, T.fr, c vv H1 F fp _ st (.refl ..) (.ofD h4)⟩
end
section
variable {X : Cx} {C : Ctx} {Φ : Fenv} {k : Nat}
theorem xe_fld (ok : XOk X C Φ k) {o : Expr} {od : ODen} {f : Str} {pos : Pos} (ho : XO X Φ o od) (hb : notCall0 o = true) : XE X Φ (.Attribute o f pos) (dPrim (pFld C.fl f) [od]) := by
  refine PE.imp (pe_fld ho (base_plain hb)) fun σ H Q w => ?_
  have z : tArgs [tO X.K X.mg Φ od] σ H fun vs H1 => tPrim X.K X.mg (pFld C.fl f) vs H1 Q := prim_args w
  refine tO.imp (Φ := Φ) z fun x H1 z1 => ?_
  obtain ⟨a, Ca, dx, fv, v, c, e, h1, h2, h3, h4, q⟩ := ok_fld z1
  obtain ⟨Cb, g1, g2, g3⟩ := ok.fld (c, f) h2
  rw [h3] at g1
  cases g1
  exact ⟨a, Ca, dx, fv, v, e, h1, g2, g3, h4, q⟩
theorem xs_fld (ok : XOk X C Φ k) {o v : Expr} {od : ODen} {d : Den} {f : Str} {pos pos' : Pos} (ho : XO X Φ o od) (hv : XE X Φ v d) (hc : notComp v = true) {D : Ends} {σ : L2.St} {H : Hp} (w : tE X.K X.mg Φ (dPrim (pSetF C.fl f) [oV (dFz d), od]) σ H fun _ H1 => D.nx σ H1) :
    sFld X.K (tO X.K X.mg Φ od) (tO X.K X.mg Φ (oV (dFz d))) f D σ H := by
  have z : tArgs [tO X.K X.mg Φ (oV (dFz d)), tO X.K X.mg Φ od] σ H fun vs H1 => tPrim X.K X.mg (pSetF C.fl f) vs H1 (fun _ H1 => D.nx σ H1) := prim_args w
  refine tO.imp (Φ := Φ) z fun y H1 z1 => tO.imp (Φ := Φ) z1 fun x H2 z2 => ?_
  obtain ⟨a, Ca, dx, fv, c, e, h1, h2, h3, h4, q⟩ := ok_setF z2
  obtain ⟨Cb, g1, g2, g3⟩ := ok.fld (c, f) h2
  rw [h3] at g1
  cases g1
  exact ⟨a, Ca, dx, fv, e, h1, g2, g3, h4, q⟩
theorem xe_appF (ok : XOk X C Φ k) {o e : Expr} {i : Nat} {d : Den} {f : Str} {ap fp pos : Pos} (ho : PE X o (tVar i)) (hb : notCall0 o = true) (he : XE X Φ e d) (hp : plainE e = true) (hl : (ap.endLine == pos.line) = true) :
    XE X Φ (.Call (.Attribute (.Attribute o f fp) "append" ap) [e] [] pos) (dAppF C.fl i f d) := by
  have pA : PA X [e] (tArgs [tE X.K X.mg Φ (dFz d)]) := pa_cons he.fz pa_nil (star_plain hp)
  have a : [e].all plainE = true := by simp [hp]
  have hfew : ((backTo pos (starEach [e] X.env)).all (fun x => !x.1) && (backToKw pos (keywordEach [] X.env)).all (fun x => x.1.isSome)
      && decide ([e].length + ([] : List Keyword).length + (if ([] : List Keyword).isEmpty then 0 else 1) < 30)) = true := by
    rw [star_all a]; rfl
  refine PE.imp (pe_bm PySem.F.plainAttrs_list PySem.F.slot_list_append PySem.F.type_list_append mt_append (pe_fld ho (base_plain hb)) pA (base_plain rfl) hfew hl (star_plain hp) (star_any (es := []) rfl)) fun σ H Q w => ?_
  obtain ⟨x, hx, a, Ca, dx, fv, v, c, vs, e1, h1, h2, h3, h4, ⟨b, e2, h5⟩, q⟩ := ok_appF w
  obtain ⟨Cb, g1, g2, g3⟩ := ok.fld (c, f) h2
  rw [h3] at g1
  cases g1
  refine ⟨x, hx, a, Ca, dx, fv, v, e1, h1, g2, g3, h4, ?_, q⟩
  rw [e2]
  exact .inl ⟨rfl, vs, h5⟩
theorem xe_make (ok : XOk X C Φ k) (hh : C.hot = false) {p : Str × Str} {np pos : Pos} {e : Expr} {es : List Expr} {ds : List ODen} (hp : p ∈ C.ks) (hg : isGl C.sc p.1 = true) (hn : goodName p.1 = true) (h : XOs X Φ (e :: es) ds) (a : (e :: es).all plainE = true) : XE X Φ (.Call (.Name p.1 np) (e :: es) [] pos) (dPrim (Φ p.2) ds) := by
  rcases ok.mks p hp with hz | ⟨Ca, f, fd, ps, j, hm, M, hB, hj, hF⟩
  · refine ⟨fun pins s σ H Q I w => ?_⟩
    obtain ⟨F, env, fp, iv, env', st, e, c⟩ := w
    exfalso
    unfold dPrim at e
    obtain ⟨r, e1, e⟩ := Option.bind_eq_some_iff.mp e
    split at e
    case isFalse => cases e
    case isTrue =>
      obtain ⟨ivs, e2, e⟩ := Option.bind_eq_some_iff.mp e
      rw [hz] at e
      cases e
  have pA := h.pa a
  have a' := a
  rw [List.all_cons] at a'
  obtain ⟨a1, a2⟩ := Bool.and_eq_true_iff.mp a'
  refine PE.imp (pe_make M hF (by rw [hj]; exact ok.roomC hh) (gl_ok (by rw [ok.sc]; exact hg)) hm hB .nil (passL (X := X)) pA (good_ok hn).1 (star_plain a1) (star_any a2)) fun σ H Q w => ?_
  refine tArgs.imp (fun t ht σ H Q Q' => ?_) (prim_args w) fun vs H2 z2 => ?_
  · obtain ⟨d, _, rfl⟩ := List.mem_map.mp ht
    exact fun w i => w.imp i
  · intro x dx hx hd hne
    rw [List.append_nil]
    exact prim_init z2 x dx hx hd hne
end
def asDs : List IV → Option (List D)
  | [] => some []
  | .d x :: r => (asDs r).bind fun l => some (x :: l)
  | _ :: _ => none
def pTup : Prim := fun ivs => (asDs ivs).bind fun xs => if xs.length ≤ lim then some (.d (.tup xs), ivs) else none
def pLst : Prim := fun ivs => (asDs ivs).bind fun xs => if xs.length ≤ lim then some (.own xs, ivs) else none
theorem asDs_ok {K : Fg} {mg : MG} {F H : Hp} {fp : FP} : ∀ {ivs : List IV} {vs : List V} {xs : List D}, (∀ (k : Nat) iv, ivs[k]? = some iv → ∃ v, vs[k]? = some v ∧ OwnV K mg F H v iv (fp k)) → vs.length = ivs.length → asDs ivs = some xs → Rps K mg F vs xs
  | [], vs, xs, _, hl, e => by
    cases e
    match vs, hl with
    | [], _ => exact .nil
  | .d x :: r, vs, xs, h, hl, e => by
    obtain ⟨l, e1, e⟩ := Option.bind_eq_some_iff.mp e
    cases e
    match vs, hl with
    | v :: vs, hl =>
      obtain ⟨w, g1, g2⟩ := h 0 _ rfl
      cases g1
      refine .cons g2.1 (asDs_ok (H := H) (fp := fun k => fp (k + 1)) (fun k iv e => ?_) (by simpa using hl) e1)
      obtain ⟨w, g3, g4⟩ := h (k + 1) iv (by simpa using e)
      exact ⟨w, by simpa using g3, g4⟩
  | .own _ :: _, _, _, _, _, e => by cases e
  | .dct _ :: _, _, _, _, _, e => by cases e
  | .obj _ _ :: _, _, _, _, _, e => by cases e
theorem ok_pTup {K : Fg} {mg : MG} {vs : List V} {H : Hp} {Q : VK} (h : tPrim K mg pTup vs H Q) : vs.length ≤ sizeLine ∧ ∀ p, H p = none → Q (.ref p) (upd H p (.tup vs)) := by
  obtain ⟨F, ivs, fp, res, ivs', st, e, c⟩ := h
  obtain ⟨xs, e1, e⟩ := Option.bind_eq_some_iff.mp e
  split at e
  case isFalse => cases e
  case isTrue hl =>
    cases e
    have r := asDs_ok (fun k iv q => ArgsOk.at st q) (ArgsOk.lens st) e1
    exact ⟨lim_le (by rw [r.len]; exact hl), Cont.tupN st c r⟩
theorem ok_pLst {K : Fg} {mg : MG} {vs : List V} {H : Hp} {Q : VK} (h : tPrim K mg pLst vs H Q) : vs.length ≤ sizeLine ∧ ∀ p, H p = none → Q (.ref p) (upd H p (.lst vs)) := by
  obtain ⟨F, ivs, fp, res, ivs', st, e, c⟩ := h
  obtain ⟨xs, e1, e⟩ := Option.bind_eq_some_iff.mp e
  split at e
  case isFalse => cases e
  case isTrue hl =>
    cases e
    have r := asDs_ok (fun k iv q => ArgsOk.at st q) (ArgsOk.lens st) e1
    exact ⟨lim_le (by rw [r.len]; exact hl), Cont.lstN st c r⟩
section
variable {X : Cx} {Φ : Fenv} {es : List Expr} {ds : List ODen} {k : Nat} {pos : Pos}
theorem xe_tup (h : XOs X Φ es ds) (a : es.all plainE = true) : XE X Φ (.Tuple es k pos) (dPrim pTup ds) := by
  obtain ⟨t, pa, w⟩ := h.prim (p := pTup) (r := fun vs H Q => vs.length ≤ sizeLine ∧ ∀ p, H p = none → Q (.ref p) (upd H p (.tup vs))) a fun _ _ _ z => ok_pTup z
  exact PE.imp (pe_tup pa) w
theorem xe_lst (h : XOs X Φ es ds) (a : es.all plainE = true) : XE X Φ (.List es pos) (dPrim pLst ds) := by
  obtain ⟨t, pa, w⟩ := h.prim (p := pLst) (r := fun vs H Q => vs.length ≤ sizeLine ∧ ∀ p, H p = none → Q (.ref p) (upd H p (.lst vs))) a fun _ _ _ z => ok_pLst z
  exact PE.imp (pe_lst pa) w
end
end SD
namespace SD
open PySem PySem.Spec PyProof.Rows L2
def ddS (xs : List Str) : List Str := xs.foldl (fun g v => if g.any (· == v) then g else g ++ [v]) []
theorem ddS_snoc (xs : List Str) (v : Str) : ddS (xs ++ [v]) = if (ddS xs).any (· == v) then ddS xs else ddS xs ++ [v] := by
  unfold ddS; rw [List.foldl_append]; rfl
theorem strs_ind {P : List Str → Prop} (h0 : P []) (h1 : ∀ xs v, P xs → P (xs ++ [v])) : ∀ xs, P xs := fun xs => by
  have key : ∀ n (xs : List Str), xs.length = n → P xs := fun n => by
    induction n with
    | zero => intro xs h; rw [List.eq_nil_of_length_eq_zero h]; exact h0
    | succ n ih =>
      intro xs h
      have hne : xs ≠ [] := fun e => by rw [e] at h; cases h
      rw [← List.dropLast_concat_getLast hne]
      exact h1 _ _ (ih _ (by rw [List.length_dropLast, h]; rfl))
  exact key _ xs rfl
theorem ddS_len (xs : List Str) : (ddS xs).length ≤ xs.length := by
  refine strs_ind (P := fun xs => (ddS xs).length ≤ xs.length) (Nat.le_refl 0) (fun xs v ih => ?_) xs
  rw [ddS_snoc, List.length_append]
  split
  · omega
  · rw [List.length_append]; show (ddS xs).length + 1 ≤ xs.length + 1; omega
section
variable {prog : Program} {w : World} {A : Around}
theorem zs_loop {R : Result → Shared → Prop} {I : Addr} {fp wr : List Addr} {G : Array GenState → Array GenState → Prop} {n : Nat} {P : Nat → Value → Prop} {St : Nat → Shared → Prop} (W : WalksS prog w A.in1 I fp wr G n P St) (Z : Addr) (zf : Z ∉ fp) (xs : List Str) (xl : xs.length = n) (small : n + 1 < scanBound)
    (val : ∀ i v, P i v → ∃ t, v = .str (xs.getD i Str.empty) t) : ∀ (k i : Nat) (s : Shared), n - i = k → i ≤ n → St i s → s.heap.SetOf (PySem.strKind prog w) Z (fun c => (ddS (xs.take i)).any (· == c)) (ddS (xs.take i)).length →
      (∀ s', Moved (Z :: wr) G s s' → s'.heap.SetOf (PySem.strKind prog w) Z (fun c => (ddS xs).any (· == c)) (ddS xs).length → R (.ok (.ret .none)) s') → codeAny (model prog w) A (.builtin "set.update.loop" ⟨[.ref Z, .ref I], []⟩) R s := by
  have zw : Z ∉ wr := fun h => zf (W.sub _ h)
  have sb : ∀ b ∈ wr, b ∈ Z :: wr := fun b hb => List.mem_cons_of_mem _ hb
  intro k
  induction k with
  | zero =>
    intro i s e1 e2 hst hZ hR
    have en : i = n := by omega
    subst en
    refine codeAny_builtin PyProof.Rows.F.entry_set_update_loop ?_; rw [Around.under_plainId PyProof.Rows.F.plain_set_update_loop _]
    show wpAny _ A.in1 (pyNext (.ref I) >>= _) _ _ s
    refine wpAny_bind (W.done s _ _ hst fun s' mv => ?_)
    show wpAny _ A.in1 (ret Value.none) _ _ s'
    refine wpAny_pure (hR s' (mv.mono sb) ?_)
    obtain ⟨o, es, ep, t, ho, rest⟩ := hZ
    rw [← xl, List.take_length] at rest
    exact ⟨o, es, ep, t, mv.heap Z _ zw ho, rest⟩
  | succ k ih =>
    intro i s e1 e2 hst hZ hR
    have il : i < n := by omega
    have ix : i < xs.length := by omega
    refine codeAny_builtin PyProof.Rows.F.entry_set_update_loop ?_; rw [Around.under_plainId PyProof.Rows.F.plain_set_update_loop _]
    show wpAny _ A.in1 (pyNext (.ref I) >>= _) _ _ s
    refine wpAny_bind (W.item i s _ _ il hst fun v s' hP st' mv => ?_)
    obtain ⟨t, rfl⟩ := val i v hP
    have z1 : s'.heap.SetOf (PySem.strKind prog w) Z (fun c => (ddS (xs.take i)).any (· == c)) (ddS (xs.take i)).length := by
      obtain ⟨o, es, ep, tb, ho, rest⟩ := hZ
      exact ⟨o, es, ep, tb, mv.heap Z _ zw ho, rest⟩
    show wpAny _ A.in1 (holding [Value.str (xs.getD i Str.empty) t] (setAdd Z (.str (xs.getD i Str.empty) t)) >>= _) _ _ s'
    refine wpAny_bind (wpAny_holding ?_)
    unfold setAdd
    refine wpAny_holding (wpAny_bind ((PySem.strKind prog w).pyHash (k := xs.getD i Str.empty) (strKind_is _ _ _ _) ?_))
    have room : (ddS (xs.take i)).length + 1 < scanBound := by have := ddS_len (xs.take i); rw [List.length_take] at this; omega
    refine wpAny_setAddHashed_of (knd := PySem.strKind prog w) (s := { s' with toks := s'.toks + 1 }) (strKind_is _ _ _ _) rfl z1 room fun g gs z2 => ?_
    have tk : xs.take (i + 1) = xs.take i ++ [xs.getD i Str.empty] := by
      rw [List.take_succ, List.getElem?_eq_getElem ix, List.getD_eq_getElem?_getD, List.getElem?_eq_getElem ix]; rfl
    have z3 : g.SetOf (PySem.strKind prog w) Z (fun c => (ddS (xs.take (i + 1))).any (· == c)) (ddS (xs.take (i + 1))).length := by
      rw [tk, ddS_snoc]
      refine SetOf_congr z2 (fun c => ?_) ?_
      · by_cases q : (ddS (xs.take i)).any (· == xs.getD i Str.empty) = true
        · rw [if_pos q]
          by_cases e : c = xs.getD i Str.empty
          · subst e; rw [q]; rfl
          · rw [decide_eq_false e, Bool.or_false]
        · rw [if_neg q, List.any_append]
          congr 1
          by_cases e : c = xs.getD i Str.empty
          · show decide (c = xs.getD i Str.empty) = (xs.getD i Str.empty == c || false)
            rw [e, decide_eq_true rfl, beq_self_eq_true]; rfl
          · show decide (c = xs.getD i Str.empty) = (xs.getD i Str.empty == c || false)
            rw [decide_eq_false e, beq_eq_false_iff_ne.mpr fun z => e z.symm]; rfl
      · by_cases q : (ddS (xs.take i)).any (· == xs.getD i Str.empty) = true
        · rw [if_pos q, if_pos q]
        · rw [if_neg q, if_neg q, List.length_append]; rfl
    refine wpAny_pure ⟨plainId_quiet PyProof.Rows.F.plain_set_update_loop _, ih (i + 1) _ (by omega) il (W.frame _ s' _ _ st' (Nat.le_succ _) fun b hb o e => ?_) z3 fun s2 mv2 z4 => ?_⟩
    · rw [gs.2 b (fun q : b = Z => zf (q ▸ hb))]; exact e
    · refine hR s2 (Moved.trans W.gtrans ((mv.mono sb).then_heap (Nat.le_succ _) fun b o hb e => ?_) mv2) z4
      rw [gs.2 b (fun q : b = Z => hb (q ▸ List.mem_cons_self))]; exact e
variable {E : Value → Shared → Prop} {s : Shared}
/-- what is gone through: a list's, a tuple's things -/
def Gone (P : Program) (w : World) (l : Addr) (items : Array Value) (o : Obj) : Prop :=
  ∀ {A : Around} {E : Value → Shared → Prop} {Q : Value → Shared → Prop} {s : Shared}, s.heap.get? l = some o →
    (∀ io : Obj, (∀ A2 : Around, A2.handled = none → ∃ St : Nat → Shared → Prop, WalksS P w A2 s.heap.objs.size [s.heap.objs.size, l] [s.heap.objs.size] (fun a b => b = a) items.size (fun i v => items[i]? = some v) St ∧ St 0 { s with heap := s.heap.push io }) →
      Q (.ref s.heap.objs.size) { s with heap := s.heap.push io }) → wpAny (model P w) A (pyIter (.ref l)) Q E s
theorem gone_list {l : Addr} {items : Array Value} {o : Obj} (hc : o.cls = .type "list") (hd : ∃ n, o.data = .seq items n) : Gone prog w l items o := fun {A E Q s} ho h => by
  have hl : s.heap.IsList l items := ⟨o, ho, hc, hd⟩
  have ne : l ≠ s.heap.objs.size := Nat.ne_of_lt (Heap.lt_size ho)
  exact wpAny_pyIter_list hl (h _ fun A2 hA => ⟨_, (Walks.list hA _ l ne items).toS, ⟨_, Heap.get?_push_size _ rfl, rfl, rfl⟩, hl.push _⟩)
theorem gone_tuple {l : Addr} {items : Array Value} {o : Obj} (hc : o.cls = .type "tuple") (hd : ∃ n, o.data = .seq items n) : Gone prog w l items o := fun {A E Q s} ho h => by
  have hl : s.heap.IsTuple l items := ⟨o, ho, hc, hd⟩
  have ne : l ≠ s.heap.objs.size := Nat.ne_of_lt (Heap.lt_size ho)
  exact wpAny_pyIter_tuple hl (h _ fun A2 hA => ⟨_, (Walks.tuple hA _ l ne items).toS, ⟨_, Heap.get?_push_size _ rfl, rfl, rfl⟩, hl.push _⟩)
theorem zs_call {l : Addr} {items : Array Value} {xs : List Str} {o0 : Obj} {T : String} {Q : Value → Shared → Prop} (hh : A.handled = none) (ho : s.heap.get? l = some o0) (hc : o0.cls = .type T) (q1 : isSubtype (.type T) (.type "set") = pure false) (q2 : isSubtype (.type T) (.type "frozenset") = pure false) (q3 : (Value.type T == Value.type "dict") = false) (hg : Gone prog w l items o0) (hi : StrsAre items.toList xs) (small : items.size + 1 < scanBound)
    (h : ∀ (g : Heap) (tk : Nat), g.SetOf (PySem.strKind prog w) s.heap.objs.size (fun c => (ddS xs).any (· == c)) (ddS xs).length → (∀ b o, b < s.heap.objs.size → s.heap.get? b = some o → g.get? b = some o) → Q (.ref s.heap.objs.size) { s with heap := g, toks := tk }) :
    wpAny (model prog w) A (call (.type "set") [.ref l]) Q E s := by
  obtain ⟨_, _, mro⟩ := PySem.F.called_set.mro
  have made := PySem.F.called_set.made
  have sub := PySem.F.called_set.sub
  refine wpAny_call (codeAny_of_tree ?_); show wpAny _ _ (callAny (.type "set") _) _ _ _
  refine wpAny_pure ⟨Code.quiet_builtin _ (by decide +kernel), codeAny_builtin PySem.F.entry_type_call ?_⟩; rw [Around.under_plain (weight_type_call_type "set" [.ref l] []) rfl]
  have k1 := PySem.F.called_set.notType
  have k2 := PySem.F.called_set.canCreate
  have k3 := PySem.F.typeCall_set_1 (.ref l)
  (repeat (any_goals (first | assumption | wp_step)))
  refine codeAny_mono (code_set_new_1 (.ref l) (E := E) (Q₁ := fun r t => ∃ led : Bool, r = .ref s.heap.objs.size ∧ t = { s with heap := s.heap.push { cls := .type "set", dict := none, data := .set #[] 0 (.fresh 0 0 led) } }) fun led => ⟨led, rfl, rfl⟩) fun r t hr => ?_
  cases r with
  | error e => exact hr
  | ok fl => cases fl with
    | ret v =>
      obtain ⟨led, rfl, rfl⟩ := hr
      generalize hG : s.heap.push { cls := .type "set", dict := none, data := .set #[] 0 (.fresh 0 0 led) } = G1
      have gz : G1.get? s.heap.objs.size = some { cls := .type "set", dict := none, data := .set #[] 0 (.fresh 0 0 led) } := by rw [← hG]; exact Heap.get?_push_size _ rfl
      have gn : G1.objs.size = s.heap.objs.size + 1 := by rw [← hG]; exact Heap.size_push ..
      have up : ∀ b o, s.heap.get? b = some o → G1.get? b = some o := fun b o e => by rw [← hG]; exact Heap.get?_push_of_some _ e
      have ty : Shared.TypeIs { s with heap := G1 } (.ref s.heap.objs.size) "set" := ⟨_, gz, rfl⟩
      have li := PySem.F.called_set.init.lookup
      have bi := PySem.F.called_set.init.bind (.ref s.heap.objs.size)
      clear hG
      (repeat (any_goals (first | assumption | wp_step)))
      refine codeAny_mono (codeAny_call_builtin (R := wants (fun r t => r = .none ∧ ∃ g tk, t = { s with heap := g, toks := tk } ∧ g.SetOf (PySem.strKind prog w) s.heap.objs.size (fun c => (ddS xs).any (· == c)) (ddS xs).length ∧
          (∀ b o, b < s.heap.objs.size → s.heap.get? b = some o → g.get? b = some o)) E) PySem.F.called_set.init.plain PySem.F.entry_set_init (check_set_init_1 ty ?_)) fun r t hr => ?_
      · have ho2 := up l _ ho
        have tl : ∀ t : Shared, t.heap = G1 → t.TypeIs (.ref l) T := fun t e => ⟨o0, by rw [e]; exact ho2, hc⟩
        have ls : l < s.heap.objs.size := Heap.lt_size ho
        obtain ⟨ocl, odi, oda, osl⟩ := o0
        simp only at hc
        subst hc
        unfold Builtin.«set.__init__» noKeywords Builtin.Frozenset.updateFrom
        generalize hPI : pyIter = PI
        have hg2 : True → Gone prog w l items { cls := .type T, dict := odi, data := oda, slots := osl } := fun _ => hg
        clear hg
        wp_walk
        subst hPI
        refine hg2 trivial (s := { s with heap := G1 }) ho2 fun io hW => wpAny_bind (wpAny_runValue ?_)
        obtain ⟨St, W, w0⟩ := hW A.in1.in1.in1 (by simp [hh])
        have zf : s.heap.objs.size ∉ [G1.objs.size, l] := fun z => (List.mem_cons.mp z).elim (fun e => absurd (e.trans gn) (Nat.ne_of_lt (Nat.lt_succ_self _))) fun e => absurd (List.mem_singleton.mp e) (Nat.ne_of_gt ls)
        have xl : xs.length = items.size := by rw [← StrsAre.len_eq hi, Array.length_toList]
        have gz2 := Heap.get?_push_of_some io gz
        refine zs_loop W s.heap.objs.size zf xs xl small (fun i v hv => SS.strs_at hi i v (by rw [Array.getElem?_toList]; exact hv)) (items.size - 0) 0 _ rfl (Nat.zero_le _) w0 (SetOf_congr ((setObjOf_fresh (knd := PySem.strKind prog w) led).setOf gz2 (by unfold scanBound; omega)) (fun _ => rfl) rfl) ?zR
        rintro ⟨g, g', d', tk, os'⟩ mv z2
        obtain rfl : g' = s.gens := mv.gens
        obtain rfl : d' = s.drawn := mv.drawn
        obtain rfl : os' = s.os := mv.os
        show wpAny _ _ _ _ _ _
        refine wpAny_pure ?_
        show wpAny _ _ (ret Value.none) _ _ _
        refine wpAny_pure ⟨rfl, g, tk, rfl, z2, fun b o hb e => mv.heap b o (fun z => ?_) (Heap.get?_push_of_some _ (up b o e))⟩
        rw [List.mem_cons, List.mem_singleton] at z
        rcases z with z | z
        · exact absurd hb (by rw [z]; exact Nat.lt_irrefl _)
        · have z : b = G1.objs.size := z
          exact absurd hb (by rw [z, gn]; exact Nat.not_lt_of_le (Nat.le_succ _))
      · cases r with
        | error e => exact hr
        | ok fl2 => cases fl2 with
          | ret v =>
            obtain ⟨rfl, g, tk, rfl, z2, keep⟩ := hr
            (repeat (any_goals (first | assumption | wp_step)))
            exact h _ _ z2 keep
          | _ => exact hr.elim
    | _ => exact hr.elim
theorem zs_callL {l : Addr} {items : Array Value} {xs : List Str} {Q : Value → Shared → Prop} (hh : A.handled = none) (hl : s.heap.IsList l items) (hi : StrsAre items.toList xs) (small : items.size + 1 < scanBound)
    (h : ∀ (g : Heap) (tk : Nat), g.SetOf (PySem.strKind prog w) s.heap.objs.size (fun c => (ddS xs).any (· == c)) (ddS xs).length → (∀ b o, b < s.heap.objs.size → s.heap.get? b = some o → g.get? b = some o) → Q (.ref s.heap.objs.size) { s with heap := g, toks := tk }) :
    wpAny (model prog w) A (call (.type "set") [.ref l]) Q E s :=
  let ⟨_, ho, hc, hd⟩ := hl
  zs_call hh ho hc PySem.F.sub_list_set PySem.F.sub_list_frozenset (by decide) (gone_list hc hd) hi small h
theorem zs_callT {l : Addr} {items : Array Value} {xs : List Str} {Q : Value → Shared → Prop} (hh : A.handled = none) (hl : s.heap.IsTuple l items) (hi : StrsAre items.toList xs) (small : items.size + 1 < scanBound)
    (h : ∀ (g : Heap) (tk : Nat), g.SetOf (PySem.strKind prog w) s.heap.objs.size (fun c => (ddS xs).any (· == c)) (ddS xs).length → (∀ b o, b < s.heap.objs.size → s.heap.get? b = some o → g.get? b = some o) → Q (.ref s.heap.objs.size) { s with heap := g, toks := tk }) :
    wpAny (model prog w) A (call (.type "set") [.ref l]) Q E s :=
  let ⟨_, ho, hc, hd⟩ := hl
  zs_call hh ho hc PySem.F.sub_tuple_set PySem.F.sub_tuple_frozenset (by decide) (gone_tuple hc hd) hi small h
end
def tLenSets (K : PySem.W.Frag) (ta : TE) : TE := fun σ H Q => ta σ H fun x H1 => ∃ l, ∃ xs : List Str, x = .ref l ∧ (SqL K H1 l (xs.map V.str) ∨ SqT K H1 l (xs.map V.str)) ∧ xs.length ≤ 4000 ∧ Q (.int (ddS xs).length) H1
theorem pe_lenSets {X : Cx} {a : Expr} {ta : TE} {p p2 q pos : Pos} (hc : X.calm = true) (hg : Gl X "len") (hm : X.mg "len" = none) (hg2 : Gl X "set") (hm2 : X.mg "set" = none) (ha : PE X a ta)
    (na : starEach [a] X.env = (false, eval a X.env) :: starEach [] X.env := by rfl) : PE X (.Call (.Name "len" p) [.Call (.Name "set" p2) [a] [] q] [] pos) (tLenSets X.K ta) := by
  refine ⟨fun pins s σ H Q I h => Call_ (ld_blt I hg hm boot_len (PyProof.Rows.callWith_builtin1 (PyProof.Rows.args_cons (Call_ (ld_blt I hg2 hm2 boot_set (PyProof.Rows.callWith_type1 (PyProof.Rows.args_cons (thn (ha.run pins s σ H _ I h) fun v s1 ⟨x, H1, I1, r1, q1⟩ => PyProof.Rows.args_nil ?_) na) na rfl))) rfl) rfl rfl))⟩
  obtain ⟨l, xs, rfl, hq, h1, q1⟩ := q1
  cases r1
  have fin : ∀ (its : List Value), Vals (xs.map V.str) its → ∀ (g : Heap) (tk : Nat), g.SetOf (PySem.strKind X.prog X.w) s1.heap.objs.size (fun c => (ddS xs).any (· == c)) (ddS xs).length → (∀ b o, b < s1.heap.objs.size → s1.heap.get? b = some o → g.get? b = some o) →
      wpAny (model X.prog X.w) X.A (spliced (backTo pos (starEach [] X.env))) (fun vs t => wpAny (model X.prog X.w) X.A (call (.builtin "len") (Value.ref s1.heap.objs.size :: vs)) (EP X pins σ Q) X.xe t) X.xe { s1 with heap := g, toks := tk } := fun its r g tk hS hk => by
    refine PyProof.Rows.args_nil ?_
    have dl := ddS_len xs
    obtain ⟨o, es, ep, t, ho, hex, hd, _, _, _, hf, hn⟩ := hS
    have I2 : Inv X pins σ H1 { s1 with heap := g, toks := tk } := I1.kept fun b o e => hk b o (Heap.lt_size e) e
    exact call_len_set ho hex hd hf (by rw [hn]; omega) ⟨.int (ddS xs).length, H1, I2.tok _, ⟨_, by rw [hn]⟩, q1⟩
  have sm : ∀ {its : List Value}, Vals (xs.map V.str) its → its.toArray.size + 1 < scanBound := fun {its} r => by
    have hl : its.toArray.size = xs.length := by rw [List.size_toArray, ← r.length, List.length_map]
    unfold scanBound; omega
  rcases hq with hq | hq
  · obtain ⟨its, r, pl, hz⟩ := I1.list hq
    exact zs_callL (I1.ok.hd hc) pl.isList (by simpa using strsAre_of r) (sm r) fun g tk hS hk => fin its r g tk hS hk
  · obtain ⟨its, r, pl, hz⟩ := I1.tuple hq
    exact zs_callT (I1.ok.hd hc) pl (by simpa using strsAre_of r) (sm r) fun g tk hS hk => fin its r g tk hS hk
end SD
namespace SD
open PySem L2
def isDctIV : IV → Bool
  | .dct _ => true
  | _ => false
theorem ty_dct {K : Fg} {mg : MG} : TyOk K mg "dict" isDctIV := fun F H v iv S h ex o => by
  cases iv with
  | dct kvs =>
    obtain ⟨a, kvv, rfl, hH, _⟩ := o
    exact .inr (.inr (.inl ⟨rfl, .inl ⟨kvv, hH⟩⟩))
  | d _ => cases h
  | own _ => cases h
  | obj _ _ => cases h
theorem KvsOk.non {K : Fg} {mg : MG} {F : Hp} {vs : List (Key × V)} {xs : List (Key × D)} (h : KvsOk K mg F vs xs) (k : Key) (e : valD xs k = none) : valV vs k = none := by
  induction h with
  | nil => rfl
  | @cons k' v' d' r rs h1 _ ih =>
    by_cases hk : k' = k
    · simp [valD, List.find?_cons, hk] at e
    · rw [valV_neg (p := (k', v')) hk]
      exact ih (by simpa [valD, List.find?_cons, hk] using e)
/-- d.get(k) -/
def getIV (x y : IV) : Option IV := match x with
  | .dct kvs => (keyIV y).bind fun k => some (.d ((valD kvs k).getD .non))
  | _ => none
def rGetK : V → List V → Hp → VK → Prop := fun x xs H Q => ∃ (a : Addr) (kvs : List (Key × V)) (k : Key), x = .ref a ∧ xs = [kV k] ∧ H a = some (.dK kvs) ∧ Q ((valV kvs k).getD .non) H
section
variable {X : Cx} {K : Fg} {mg : MG} {x : V} {vs : List V} {H : Hp} {Q : VK}
theorem mt_get : MtR X "dict.get" rGetK := by
  intro pins s σ H x xs v us Q I rx rxs h
  obtain ⟨a, kvs, k, rfl, rfl, e, q⟩ := h
  cases rx
  obtain ⟨u, rfl, ry⟩ := rxs.one
  obtain ⟨z, hd, vs, rel, dd⟩ := dk_rd I.hok (.inl e)
  refine call_meetsIn PySem.F.slot_dict_get dd.typeIs PySem.F.entry_dict_get (PySem.F.args_dict_get_2 _ _) (meets_dict_get (mixKind X.prog X.w) a (kV_is ry) hd) ⟨_, dd.mapOf, ?_⟩
  exact ⟨(valV kvs k).getD .non, H, I.tok _, (rel.val k).getD rfl, q⟩
theorem ok_get (h : tPrim K mg (p2 getIV) (x :: vs) H Q) : rGetK x vs H Q := by
  obtain ⟨F, a, b, fp, res, v, w, e, st, o1, o2, f, c⟩ := prim2 h
  cases e
  unfold getIV at f
  split at f
  case h_2 => cases f
  case h_1 kvs =>
    obtain ⟨k, e1, f⟩ := Option.bind_eq_some_iff.mp f
    cases f
    obtain ⟨p, kvv, ep, hH, r, _⟩ := o1
    have ey := key_ok o2 e1
    subst ey
    refine ⟨p, kvv, k, ep, rfl, hH, ?_⟩
    cases hv : valD kvs k with
    | none => rw [r.non k hv]; rw [hv] at c; exact Cont.data st c .non
    | some z =>
      obtain ⟨u, e3, r3⟩ := r.val k hv
      rw [e3]; rw [hv] at c
      exact Cont.data st c r3
/-- text.index(sign) where it is -/
def sindexIV (x y : IV) : Option IV := (x.asS).bind fun a => (y.asS).bind fun b => match Builtin.Str.occurrences a b 0 a.length 1 with
  | i :: _ => some (.d (.int (i : Nat)))
  | [] => none
def rSIndex : V → List V → Hp → VK → Prop := fun x xs H Q => ∃ a b i rest, x = .str a ∧ xs = [.str b] ∧ Builtin.Str.occurrences a b 0 a.length 1 = i :: rest ∧ Q (.int (i : Nat)) H
theorem ok_sindex (h : tPrim K mg (p2 sindexIV) (x :: vs) H Q) : rSIndex x vs H Q := by
  obtain ⟨F, a, b, fp, res, v, w, e, st, o1, o2, f, c⟩ := prim2 h
  cases e
  obtain ⟨s, e1, f⟩ := Option.bind_eq_some_iff.mp f
  obtain ⟨t, e2, f⟩ := Option.bind_eq_some_iff.mp f
  split at f
  case h_2 => cases f
  case h_1 i rest ho =>
    cases f
    obtain ⟨ex, _⟩ := asS_ok o1 e1
    obtain ⟨ey, _⟩ := asS_ok o2 e2
    subst ex ey
    exact ⟨s, t, i, rest, rfl, rfl, ho, Cont.data st c (.int _)⟩
/-- list.count of flat things -/
def countIV (x y : IV) : Option IV := (x.asL).bind fun xs => match y with
  | .d b => if flatD b && xs.all flatD then some (.d (.int ((xs.countP fun z => eqD z b : Nat) : Int))) else none
  | _ => none
def rCntF (K : Fg) : V → List V → Hp → VK → Prop := fun x xs H Q => ∃ (a : Addr) (ys : List V) (y : V), x = V.ref a ∧ xs = [y] ∧ SqL K H a ys ∧ flatV y = true ∧ ys.all flatV = true ∧ Q (.int ((ys.countP fun z => eqV z y : Nat) : Int)) H
theorem count_same {f : Value → Bool} {g : V → Bool} : ∀ {ys : List V} {its : List Value}, Vals ys its → (∀ y u, y ∈ ys → RelV y u → f u = g y) → its.countP f = ys.countP g
  | [], [], .nil, _ => rfl
  | y :: ys, u :: its, .cons r rs, h => by
    rw [List.countP_cons, List.countP_cons, count_same rs (fun y' u' hy hr => h y' u' (List.mem_cons_of_mem _ hy) hr), h y u (List.mem_cons_self ..) r]
theorem mt_countF : MtR X "list.count" (rCntF X.K) := by
  intro pins s σ H x xs v us Q I rx rxs h
  obtain ⟨a, ys, y, rfl, rfl, hs, fy, fys, q⟩ := h
  cases rx
  cases rxs with
  | cons ry rt =>
    rename_i uy ut
    cases rt
    obtain ⟨its, rv, ⟨⟨cls, dd, data, sl⟩, n, ho, hc, hdn, hd⟩, hlen⟩ := I.list hs
    simp only at hc hd
    subst hc hd
    refine call_meets PySem.F.slot_list_count ⟨_, ho, rfl⟩ PySem.F.entry_list_count (PySem.F.args_list_count_2 _ _)
      (SeqAt.list_countAt a its.toArray n dd sl uy (eqU y)) ⟨ho, fun u' hu' => mem_eqAt ry fy rv fys u' (by simpa using hu'), ?_⟩
    have ec : its.toArray.toList.countP (eqU y) = ys.countP fun z => eqV z y := by
      show its.countP (eqU y) = _
      exact count_same rv fun z u hz hr => eqU_of hr (List.all_eq_true.mp fys z hz)
    refine ⟨.int ((ys.countP fun z => eqV z y : Nat) : Int), H, I.tok _, ⟨s.toks, ?_⟩, q⟩
    show Value.int ((its.toArray.toList.countP (eqU y) : Nat) : Int) s.toks = Value.int ((ys.countP fun z => eqV z y : Nat) : Int) s.toks
    rw [ec]
theorem countP_rps {F : Hp} {w : V} {b : D} (rb : Rp K mg F w b) (fb : flatD b = true) : ∀ {ws : List V} {xs : List D}, Rps K mg F ws xs → xs.all flatD = true → (ws.countP fun z => eqV z w) = xs.countP fun z => eqD z b
  | [], [], _, _ => rfl
  | u :: ws, x :: xs, .cons r rs, h => by
    obtain ⟨h1, h2⟩ := Bool.and_eq_true_iff.mp (by simpa using h : (flatD x && xs.all flatD) = true)
    rw [List.countP_cons, List.countP_cons, countP_rps rb fb rs h2, flat_eq rb r fb h1]
theorem ok_count (h : tPrim K mg (p2 countIV) (x :: vs) H Q) : rCntF K x vs H Q := by
  obtain ⟨F, a, b, fp, res, v, w, e, st, o1, o2, f, c⟩ := prim2 h
  cases e
  obtain ⟨xs, e1, f⟩ := Option.bind_eq_some_iff.mp f
  cases b with
  | own _ => cases f
  | dct _ => cases f
  | obj _ _ => cases f
  | d b' =>
  have f : (if flatD b' && xs.all flatD then some (IV.d (.int ((xs.countP fun z => eqD z b' : Nat) : Int))) else none) = some res := f
  split at f
  case isFalse => cases f
  case isTrue z =>
    cases f
    obtain ⟨z1, z2⟩ := Bool.and_eq_true_iff.mp z
    obtain ⟨p, ws, ep, hr, r⟩ := asL_ok st.ex o1 e1
    have rb : Rp K mg F w b' := o2.1
    refine ⟨p, ws, w, ep, rfl, hr, flat_v rb z1, flats_v r z2, ?_⟩
    rw [countP_rps rb z1 r z2]
    exact Cont.data st c (.int _)
end
end SD
namespace SD
open PySem L2
structure Rec where
  e : Ctx → Expr → Option Den
  t : Ctx → Expr → Option TDen
def sOkB (s : Str) : Bool := s.cps.toList.all fun c => decide (c < 1114112)
theorem sOkB_ok {s : Str} (h : sOkB s = true) : SOk s := fun c hc => of_decide_eq_true (List.all_eq_true.mp h c hc)
def constD : Const → Option D
  | .none => some .non
  | .bool b => some (.bl b)
  | .int i => some (.int i)
  | .str s => if sOkB s then some (.str s) else none
  | _ => none
def tyNameOf (x : Str) : Option String := if x = "tuple" then some "tuple" else if x = "bool" then some "bool" else if x = "str" then some "str" else if x = "int" then some "int" else if x = "list" then some "list" else if x = "ValueError" then some "ValueError" else none
def cName (C : Ctx) (x : Str) : Option Den :=
  if goodName x then
    if isVis C.sc x then (slotIn C.N x).bind fun i => some (dNm i)
    else if isGl C.sc x then match C.gl.lookup x with
      | some d => some (dC d)
      | none => if C.cs.any fun p => p.1 == x then some (dC (.cls x)) else if C.xs.any fun p => p.1 == x then some (dC (.cls x)) else (tyNameOf x).bind fun n => some (dC (.ty n))
    else none
  else none
def cO (r : Rec) (C : Ctx) (e : Expr) : Option ODen := match e with
  | .Name x _ => if goodName x && isVis C.sc x then (slotIn C.N x).bind fun i => some (oNm i) else (r.e C e).bind fun d => some (oV d)
  | _ => (r.e C e).bind fun d => some (oV d)
def cF (r : Rec) (C : Ctx) (e : Expr) : Option ODen := (r.e C e).bind fun d => some (oV (dFz d))
def cOs (r : Rec) (C : Ctx) : List Expr → Option (List ODen)
  | [] => some []
  | e :: es => (cO r C e).bind fun d => (cOs r C es).bind fun ds => some (d :: ds)
def cFs (r : Rec) (C : Ctx) : List Expr → Option (List ODen)
  | [] => some []
  | e :: es => (cF r C e).bind fun d => (cFs r C es).bind fun ds => some (d :: ds)
def negIV (x : IV) : Option IV := (x.asI).bind fun i => some (.d (.int (-i)))
def binP : Operator → Option Prim
  | .Add => some (p2 addIV)
  | .Sub => some (p2 subIV)
  | .Mult => some (p2 mulQ)
  | .FloorDiv => some (p2 fdivIV)
  | .Mod => some (p2 modIV)
  | .Pow => some (p2 powIV)
  | .LShift => some (p2 shlIV)
  | .RShift => some (p2 shrIV)
  | .BitAnd => some (p2 andIV)
  | _ => none
def cmpP : CmpOp → Option Prim
  | .Eq => some (p2 eqIV)
  | .NotEq => some (p2 neIV)
  | .Lt => some (p2 ltIV)
  | .LtE => some (p2 leIV)
  | .Gt => some (p2 gtIV)
  | .GtE => some (p2 geIV)
  | .In => some (p2 (inIV false))
  | .NotIn => some (p2 (inIV true))
  | .Is => some (p2 (isIV false))
  | .IsNot => some (p2 (isIV true))
def chainF : CmpOp → Option (Int → Int → Bool)
  | .Lt => some fun i j => decide (i < j)
  | .LtE => some fun i j => decide (i ≤ j)
  | _ => none
def cBin (r : Rec) (C : Ctx) (a : Expr) (op : Operator) (b : Expr) : Option Den := (binP op).bind fun p => (cO r C a).bind fun da => (cO r C b).bind fun db => some (dPrim p [da, db])
def cCmp (r : Rec) (C : Ctx) (a : Expr) (ops : List CmpOp) (bs : List Expr) : Option Den := match ops, bs with
  | [op], [b] => if plainE b then (cmpP op).bind fun p => (cO r C a).bind fun da => (cO r C b).bind fun db => some (dPrim p [da, db]) else none
  | [o1, o2], [b, c] => if plainE b && plainE c then (chainF o1).bind fun f => (chainF o2).bind fun g => (r.e C a).bind fun da => (r.e C b).bind fun db => (r.e C c).bind fun dc => some (dChain f g da db dc) else none
  | _, _ => none
def cBool (r : Rec) (C : Ctx) (op : BoolOp) : List Expr → Option Den
  | [] => none
  | [a] => r.e C a
  | a :: b :: rest => (r.e C a).bind fun da => (cBool r C op (b :: rest)).bind fun db => some (match op with
    | .And => dAnd da db
    | .Or => dOr da db)
def cBoolT (r : Rec) (C : Ctx) (op : BoolOp) : List Expr → Option TDen
  | [] => none
  | [a] => r.t C a
  | a :: b :: rest => (r.t C a).bind fun da => (cBoolT r C op (b :: rest)).bind fun db => some (match op with
    | .And => tdAnd da db
    | .Or => tdOr da db)
def cSub (r : Rec) (C : Ctx) (a : Expr) (i : Expr) : Option Den := (cO r C a).bind fun da => match i with
  | .Slice none none none _ => some (dPrim (p1 slNN) [da])
  | .Slice none (some h) none _ => (cO r C h).bind fun dh => some (dPrim (p2 slNH) [da, dh])
  | .Slice (some l) none none _ => (cO r C l).bind fun dl => some (dPrim (p2 slLN) [da, dl])
  | .Slice (some l) (some h) none _ => (r.e C l).bind fun dl => (r.e C h).bind fun dh => some (dPrim (p3 slLH) [da, oV dl, oV dh])
  | .Slice none none (some (.UnaryOp .USub (.Constant (.int 1) _ _) _)) _ => some (dPrim (p1 revIV) [da])
  | i => if plainE i then (cO r C i).bind fun di => some (dPrim (p2 idxIV) [da, di]) else none
def dCall (f : Str) (ds : List ODen) : Den := fun Φ env => dPrim (Φ f) ds Φ env
def bltT : List (Str × Nat × Prim) := [("len", 1, p1 lenIV), ("tuple", 1, p1 tupIV), ("list", 1, p1 lstIV), ("int", 1, p1 intIV), ("min", 1, p1 min1), ("min", 2, p2 min2), ("max", 1, p1 max1), ("max", 2, p2 max2),
  ("sum", 1, p1 sumIV), ("all", 1, p1 allIV), ("any", 1, p1 anyIV), ("sorted", 1, p1 sortIV), ("isinstance", 2, p2 isiIV), ("str", 1, p1 strIV)]
def bltP (f : Str) (n : Nat) : Option Prim := (bltT.find? fun q => q.1 == f && q.2.1 == n).bind fun q => some q.2.2
def isClsE (C : Ctx) : List Expr → Bool
  | [_, .Name x _] => goodName x && !(isVis C.sc x) && isGl C.sc x && (C.gl.lookup x).isNone && C.cs.any fun p => p.1 == x
  | _ => false
def isXcN (C : Ctx) : Expr → Bool
  | .Name x _ => goodName x && !(isVis C.sc x) && isGl C.sc x && (C.gl.lookup x).isNone && xcKnown C.xs x
  | _ => false
def isXcE (C : Ctx) : List Expr → Bool
  | [_, .Name x p] => isXcN C (.Name x p)
  | [_, .Tuple es _ _] => es.all (isXcN C)
  | _ => false
/-- a call where an exception is handled -/
def cHot (r : Rec) (C : Ctx) (f : Str) (es : List Expr) : Option Den :=
  if goodName f && isGl C.sc f && es.all plainE && !es.isEmpty then
    if C.hts.contains f then (cOs r C es).bind fun ds => some (dCall (keyH f) ds)
    else if f == ("isinstance" : Str) && isXcE C es then (cOs r C es).bind fun ds => some (dPrim (p2 (isiX C.xs)) ds) else none
  else none
def cCall (r : Rec) (C : Ctx) (f : Str) (es : List Expr) : Option Den :=
  if C.hot then cHot r C f es else
  if goodName f && isVis C.sc f && es.all plainE && !es.isEmpty then (slotIn C.N f).bind fun i => (cOs r C es).bind fun ds => some (dCallL (oNm i) ds) else
  if goodName f && isGl C.sc f && es.all plainE then
    if f ∈ C.fs then (cOs r C es).bind fun ds => some (dCall f ds)
    else if (C.ks.lookup f).isSome && !es.isEmpty then (C.ks.lookup f).bind fun key => (cOs r C es).bind fun ds => some (dCall key ds)
    else if es.isEmpty && C.cs.any fun p => p.1 == f then some (dNew f)
    else if f == ("isinstance" : Str) && isXcE C es then (cOs r C es).bind fun ds => some (dPrim (p2 (isiX C.xs)) ds)
    else if f == ("isinstance" : Str) && isClsE C es then (cOs r C es).bind fun ds => some (dPrim (p2 (isiC C.cs)) ds)
    else (bltP f es.length).bind fun p => (cOs r C es).bind fun ds => some (dPrim p ds)
  else none
def methT : List ((Str × Nat) × (Bool × (IV → Bool) × Prim)) := [(("append", 1), (true, isListIV, m2 appP)), (("extend", 1), (false, isListIV, m2 extP)), (("insert", 2), (true, isListIV, m3 insP)), (("pop", 0), (false, isListIV, m1 popP)),
  (("pop", 1), (false, isListIV, m2 popAtP)), (("reverse", 0), (false, isListIV, m1 revP)), (("clear", 0), (false, isListIV, m1 clrP)), (("join", 1), (false, isStrIV, p2 joinIV)), (("split", 1), (false, isStrIV, p2 splitIV)), (("remove", 1), (false, isListIV, m2 remP)), (("index", 1), (false, isListIV, p2 indexIV)), (("get", 1), (false, isDctIV, p2 getIV)), (("count", 1), (false, isListIV, p2 countIV))]
/-- methods of a text told by itself -/
def methS : List ((Str × Nat) × (Bool × (IV → Bool) × Prim)) := [(("index", 1), (false, isStrIV, p2 sindexIV))]
def isStrC : Expr → Bool
  | .Constant (.str _) _ _ => true
  | _ => false
def methP (o : Expr) (m : Str) (n : Nat) : Option (Bool × (IV → Bool) × Prim) := ((if isStrC o && m == ("index" : Str) then methS else methT).find? fun q => q.1.1 == m && q.1.2 == n).bind fun q => some q.2
def mtbl (C : Ctx) (m : Str) : List (Str × Str) := (C.ms.filter fun p => p.2.1 == m).map fun p => (p.1, p.2.2)
def cMeth (r : Rec) (C : Ctx) (o : Expr) (m : Str) (es : List Expr) (line : Bool) : Option Den :=
  if notCall0 o && es.all plainE && line && decide (es.length < 30) then match methP o m es.length with
    | some q => (cO r C o).bind fun od => (if q.1 then cFs r C es else cOs r C es).bind fun ds => some (dMeth q.2.1 q.2.2 od ds)
    | none => if (mtbl C m).isEmpty || C.hot then none else (cO r C o).bind fun od => (cOs r C es).bind fun ds => some (dMethI m (mtbl C m) od ds)
  else none
/-- xs.append(e), xs a field's own list -/
def cMethF (r : Rec) (C : Ctx) (o : Expr) (m : Str) (es : List Expr) (line : Bool) : Option Den := match o, es with
  | .Attribute (.Name x _) f _, [e] => if m == ("append" : Str) && goodName x && isVis C.sc x && plainE e && line then (slotIn C.N x).bind fun i => (r.e C e).bind fun d => some (dAppF C.fl i f d) else none
  | _, _ => none
/-- tuple(range(a)), list(range(a)) -/
def dTupRg (d : Den) : Den := fun Φ env => (d Φ env).bind fun r => (r.1.asI).bind fun n => if 0 ≤ n ∧ n ≤ 1000000 then some (.d (.tup (rangeD 0 n.toNat)), r.2) else none
def dLstRg (d : Den) : Den := fun Φ env => (d Φ env).bind fun r => (r.1.asI).bind fun n => if 0 ≤ n ∧ n ≤ 1000000 then some (.own (rangeD 0 n.toNat), r.2) else none
/-- tuple(reversed(a)), a a tuple -/
def dTupRv (d : Den) : Den := fun Φ env => (dFz d Φ env).bind fun r => match r.1 with
  | .d (.tup xs) => some (.d (.tup xs.reverse), r.2)
  | _ => none
/-- len(set(a)), a a list or a tuple of texts -/
def strsOf : List D → Option (List Str)
  | [] => some []
  | .str s :: r => (strsOf r).bind fun l => some (s :: l)
  | _ :: _ => none
def dLenSet (d : Den) : Den := fun Φ env => (dFz d Φ env).bind fun r => match r.1 with
  | .d (.tup xs) => (strsOf xs).bind fun zs => if zs.length ≤ 4000 then some (.d (.int (ddS zs).length), r.2) else none
  | .d (.lst xs) => (strsOf xs).bind fun zs => if zs.length ≤ 4000 then some (.d (.int (ddS zs).length), r.2) else none
  | _ => none
def cRg (r : Rec) (C : Ctx) (f : Str) (es : List Expr) : Option Den := if C.hot then none else match es with
  | [.Call (.Name g _) [a] [] _] => if g == ("range" : Str) && isGl C.sc "range" && plainE a then
      (if f == ("tuple" : Str) && isGl C.sc "tuple" then (r.e C a).bind fun d => some (dTupRg d)
      else if f == ("list" : Str) && isGl C.sc "list" then (r.e C a).bind fun d => some (dLstRg d) else none) else
      (if g == ("reversed" : Str) && isGl C.sc "reversed" && plainE a && (f == ("tuple" : Str) && isGl C.sc "tuple") then (r.e C a).bind fun d => some (dTupRv d) else
      (if g == ("set" : Str) && isGl C.sc "set" && plainE a && (f == ("len" : Str) && isGl C.sc "len") then (r.e C a).bind fun d => some (dLenSet d) else none))
  | _ => none
/-- a target's names -/
def nmsOf (es : List Expr) : Option (List Str) := es.foldr (fun e acc => match e with
    | .Name x _ => acc.bind fun l => some (x :: l)
    | _ => none) (some [])
def tgtNames : Expr → Option (List Str)
  | .Name x _ => some [x]
  | .Tuple [.Name x _, .Tuple es _ _] _ _ => (nmsOf es).bind fun l => some (x :: l)
  | .Tuple es _ _ => es.foldr (fun e acc => match e with
    | .Name x _ => acc.bind fun l => some (x :: l)
    | _ => none) (some [])
  | _ => none
def slotsIn (C : Ctx) : List Str → Option (List Nat)
  | [] => some []
  | x :: xs => if C.loc x && goodName x then (slotIn C.N x).bind fun i => (slotsIn C xs).bind fun l => some (i :: l) else none
def cTgt (C : Ctx) : Expr → Option Tgt
  | .Name x _ => (slotsIn C [x]).bind fun l => match l with
    | [i] => some (.nm i)
    | _ => none
  | .Tuple [.Name x _, .Tuple es _ _] _ _ => if C.hot then none else (slotsIn C [x]).bind fun l => (nmsOf es).bind fun xs => (slotsIn C xs).bind fun m => match l with
    | [i] => some (.t2 i m)
    | _ => none
  | .Tuple es _ _ => if C.hot then none else (nmsOf es).bind fun xs => (slotsIn C xs).bind fun l => some (.tp l)
  | _ => none
def isTup : Expr → Bool
  | .Tuple _ _ _ => true
  | _ => false
def cIt (r : Rec) (C : Ctx) (tg iter : Expr) : Option IDen := match iter with
  | .Call (.Name f _) [a] [] _ =>
    if f = "range" then (if isGl C.sc "range" && plainE a then (r.e C a).bind fun d => some (itR1 d) else none)
    else if f = "enumerate" then (if isGl C.sc "enumerate" && plainE a && isTup tg then (r.e C a).bind fun d => some (itEnum d) else none)
    else if f = "reversed" then (if isGl C.sc "reversed" && plainE a then (r.e C a).bind fun d => some (itRev d) else none)
    else (r.e C iter).bind fun d => some (itSeq d)
  | .Call (.Name f _) [a, b] [] _ =>
    if f = "range" then (if isGl C.sc "range" && plainE a && plainE b then (r.e C a).bind fun d => (r.e C b).bind fun d' => some (itR2 d d') else none)
    else if f = "zip" then (if isGl C.sc "zip" && plainE a && plainE b && isTup tg then (r.e C a).bind fun d => (r.e C b).bind fun d' => some (itZip d d') else none)
    else (r.e C iter).bind fun d => some (itSeq d)
  | iter => (r.e C iter).bind fun d => some (itSeq d)
def locB (scope sc : Scope) (x : Str) : Bool := match (relS scope sc).names.lookup x with
  | some .local => true
  | some .cell => (match scope.names.lookup x with
    | some .cell => true
    | _ => false)
  | _ => false
def inBlk (C : Ctx) (scope : Scope) : Ctx := { C with sc := relS scope C.sc, loc := locB scope C.sc, lam := false }
def ownOf (C : Ctx) (tg : Expr) : Option (List (Str × Nat)) := (tgtNames tg).bind fun xs => xs.foldr (fun x acc => acc.bind fun l => (slotIn C.N x).bind fun i => some ((x, i) :: l)) (some [])
def cTests (r : Rec) (C : Ctx) : List Expr → Option TDen
  | [] => some tdYes
  | [c] => r.t C c
  | _ => none
def isNameE : Expr → Bool
  | .Name _ _ => true
  | _ => false
def nameSlot (C : Ctx) : Expr → Option Nat
  | .Name x _ => if goodName x && isVis C.sc x then slotIn C.N x else none
  | _ => none
def cComp (r : Rec) (C : Ctx) (elt tg iter : Expr) (ifs : List Expr) (scope : Scope) : Option Den :=
  (ownOf C tg).bind fun own => if C.hot then none else if blkC C.N C.sc scope own && plainE iter then
    if C.bor && isNameE iter then (nameSlot C iter).bind fun i => (cTgt (inBlk C scope) tg).bind fun t => (cTests r (inBlk C scope) ifs).bind fun tt => (r.e (inBlk C scope) elt).bind fun el => some (dCompO i t tt el (own.map (·.2)))
    else (cIt r C tg iter).bind fun it => (cTgt (inBlk C scope) tg).bind fun t => (cTests r (inBlk C scope) ifs).bind fun tt => (r.e (inBlk C scope) elt).bind fun el => some (dComp it t tt el (own.map (·.2))) else none
def dDct : Den := fun _ env => some (.dct [], env)
theorem tE_Dct {K : Fg} {mg : MG} {Φ : Fenv} {σ : L2.St} {H : Hp} {Q : VK} (h : tE K mg Φ dDct σ H Q) : tDNewK σ H Q := by
  obtain ⟨F, env, fp, iv, env', st, e, c⟩ := h
  cases e
  intro q hq
  obtain ⟨a, b⟩ := StOk.allocO (o := .dK []) st hq
  exact c _ _ F fp (fun b => b = q) a b ⟨⟨q, [], rfl, upd_same, .nil, fun _ => Iff.rfl⟩, fun b z => by rw [z]; exact ⟨hq, st.Fnone hq⟩⟩
def stepE (r : Rec) (C : Ctx) (e : Expr) : Option Den := match e with
  | .Constant c _ _ => (constD c).bind fun d => some (dC d)
  | .Name x _ => cName C x
  | .BinOp a op b _ => cBin r C a op b
  | .UnaryOp .USub a _ => (cO r C a).bind fun d => some (dPrim (p1 negIV) [d])
  | .UnaryOp .Not a _ => (r.e C a).bind fun d => some (dNot d)
  | .BoolOp op vs _ => cBool r C op vs
  | .Compare a ops bs _ => cCmp r C a ops bs
  | .IfExp t a b _ => (r.t C t).bind fun dt => (r.e C a).bind fun da => (r.e C b).bind fun db => some (dIf dt da db)
  | .Subscript a i _ => cSub r C a i
  | .Tuple es _ _ => if es.all plainE then (cFs r C es).bind fun ds => some (dPrim pTup ds) else none
  | .List es _ => if es.all plainE then (cFs r C es).bind fun ds => some (dPrim pLst ds) else none
  | .Call (.Name f _) es [] _ => (cCall r C f es).orElse fun _ => cRg r C f es
  | .Call (.Attribute o m ap) es [] pos => (cMethF r C o m es (ap.endLine == pos.line)).orElse fun _ => cMeth r C o m es (ap.endLine == pos.line)
  | .ListComp elt [⟨tg, iter, ifs, 0⟩] scope _ => cComp r C elt tg iter ifs scope
  | .Call (.Name f _) [a] [⟨some kw, .Constant (.bool true) _ _, _⟩] _ => if f == ("sorted" : Str) && kw == ("reverse" : Str) && isGl C.sc f && plainE a then (cO r C a).bind fun d => some (dPrim (p1 sortRIV) [d]) else none
  | .Lambda ps b sc _ => if C.lam && lamDf ps && noFree sc then some (dLam lamQ ps b sc) else none
  | .Attribute o f _ => if notCall0 o then (cO r C o).bind fun d => if C.xf.any fun p => p.2 == f then some (dPrim (pXn C.xf f) [d]) else some (dPrim (pFld C.fl f) [d]) else none
  | .Dict [] [] _ => some dDct
  | _ => none
def stepT (r : Rec) (C : Ctx) (e : Expr) : Option TDen := match e with
  | .BoolOp op vs _ => cBoolT r C op vs
  | .UnaryOp .Not a _ => (r.t C a).bind fun d => some (tdNot d)
  | .Compare a ops bs _ => (cCmp r C a ops bs).bind fun d => some (tdV d)
  | .Constant _ _ _ => (r.e C e).bind fun d => some (tdV d)
  | .Name _ _ => (r.e C e).bind fun d => some (tdV d)
  | .Call (.Name _ _) _ [] _ => (r.e C e).bind fun d => some (tdV d)
  | .Call (.Attribute _ _ _) _ [] _ => (r.e C e).bind fun d => some (tdV d)
  | .Subscript _ _ _ => (r.e C e).bind fun d => some (tdV d)
  | _ => none
def recN : Nat → Rec
  | 0 => ⟨fun _ _ => none, fun _ _ => none⟩
  | n + 1 => ⟨stepE (recN n), stepT (recN n)⟩
def RecOk (Φ : Fenv) (k : Nat) (r : Rec) : Prop := ∀ X C, XOk X C Φ k → (∀ e d, r.e C e = some d → XE X Φ e d) ∧ (∀ e d, r.t C e = some d → XT X Φ e d)
section
variable {X : Cx} {C : Ctx} {Φ : Fenv} {k : Nat} {r : Rec}
theorem cName_ok (ok : XOk X C Φ k) {x : Str} {d : Den} {pos : Pos} (h : cName C x = some d) : XE X Φ (.Name x pos) d := by
  unfold cName at h
  split at h
  case isFalse => cases h
  case isTrue hn =>
    obtain ⟨n1, n2, n3⟩ := good_ok hn
    split at h
    case isTrue hv =>
      obtain ⟨i, e, h⟩ := Option.bind_eq_some_iff.mp h
      cases h
      exact PE.imp (pe_var (i := i) (by rw [ok.hN]; exact slotIn_ok e) (by rw [ok.sc]; exact vis_ok hv) n1 n2) fun _ _ _ => tE_Nm
    case isFalse =>
      split at h
      case isFalse => cases h
      case isTrue hg =>
        have hg' : Gl X x := gl_ok (by rw [ok.sc]; exact hg)
        split at h
        case h_1 z e =>
          cases h
          obtain ⟨u, v, m, rv, rp⟩ := ok.gl (x, z) (lookup_mem e)
          exact PE.imp (pe_glob hg' m rv n1) fun _ _ _ => tE_C rp
        case h_2 =>
          split at h
          case isTrue hq =>
            cases h
            obtain ⟨p, hp, q⟩ := List.any_eq_true.mp hq
            have q : p.1 = x := eq_of_beq q
            subst q
            obtain ⟨Ca, m, _⟩ := ok.cls p hp
            exact PE.imp (pe_glob (v := .ref Ca) hg' m rfl n1) fun _ _ _ => tE_C fun _ => .cls m
          case isFalse =>
          split at h
          case isTrue hq =>
            cases h
            obtain ⟨p, hp, q⟩ := List.any_eq_true.mp hq
            have q : p.1 = x := eq_of_beq q
            subst q
            obtain ⟨Ca, m, _⟩ := ok.xcs p hp
            exact PE.imp (pe_glob (v := .ref Ca) hg' m rfl n1) fun _ _ _ => tE_C fun _ => .cls m
          case isFalse =>
          obtain ⟨n, e, h⟩ := Option.bind_eq_some_iff.mp h
          cases h
          have key : x ∈ bltNames ∧ bootBuiltins x = some (.type n) := by
            unfold tyNameOf at e
            split at e
            case isTrue q => cases e; rw [q]; exact ⟨by decide +kernel, PyProof.Rows.boot_tuple⟩
            case isFalse =>
            split at e
            case isTrue q => cases e; rw [q]; exact ⟨by decide +kernel, PyProof.Rows.boot_bool⟩
            case isFalse =>
            split at e
            case isTrue q => cases e; rw [q]; exact ⟨by decide +kernel, PyProof.Rows.boot_str⟩
            case isFalse =>
            split at e
            case isTrue q => cases e; rw [q]; exact ⟨by decide +kernel, PyProof.Rows.boot_int⟩
            case isFalse =>
            split at e
            case isTrue q => cases e; rw [q]; exact ⟨by decide +kernel, PyProof.Rows.boot_list⟩
            case isFalse =>
            split at e
            case isTrue q => cases e; rw [q]; exact ⟨by decide +kernel, by decide +kernel⟩
            case isFalse => cases e
          exact PE.imp (pe_bltn (v := .ty n) hg' (ok.blt x key.1) key.2 rfl n3 n1) fun _ _ _ => tE_C fun _ => .ty n
theorem cO_ok (ok : XOk X C Φ k) (hr : ∀ e d, r.e C e = some d → XE X Φ e d) {e : Expr} {d : ODen} (h : cO r C e = some d) : XO X Φ e d := by
  have gen : ∀ e d, ((r.e C e).bind fun d => some (oV d)) = some d → XO X Φ e d := fun e d h => by
    obtain ⟨d', e1, h⟩ := Option.bind_eq_some_iff.mp h
    cases h
    exact (hr e d' e1).opd
  unfold cO at h
  split at h
  case h_1 x pos =>
    split at h
    case isTrue q =>
      obtain ⟨q1, q2⟩ := Bool.and_eq_true_iff.mp q
      obtain ⟨i, e, h⟩ := Option.bind_eq_some_iff.mp h
      cases h
      obtain ⟨n1, n2, n3⟩ := good_ok q1
      exact PE.imp (pe_var (i := i) (by rw [ok.hN]; exact slotIn_ok e) (by rw [ok.sc]; exact vis_ok q2) n1 n2) fun _ _ _ => tO_Nm
    case isFalse => exact gen _ _ h
  case h_2 => exact gen _ _ h
theorem cF_ok (hr : ∀ e d, r.e C e = some d → XE X Φ e d) {e : Expr} {d : ODen} (h : cF r C e = some d) : XO X Φ e d := by
  obtain ⟨d', e1, h⟩ := Option.bind_eq_some_iff.mp h
  cases h
  exact (hr e d' e1).fz.opd
theorem cOs_ok (ok : XOk X C Φ k) (hr : ∀ e d, r.e C e = some d → XE X Φ e d) : ∀ {es : List Expr} {ds : List ODen}, cOs r C es = some ds → XOs X Φ es ds
  | [], _, h => by cases h; exact .nil
  | e :: es, _, h => by
    unfold cOs at h
    obtain ⟨d, e1, h⟩ := Option.bind_eq_some_iff.mp h
    obtain ⟨ds, e2, h⟩ := Option.bind_eq_some_iff.mp h
    cases h
    exact .cons (cO_ok ok hr e1) (cOs_ok ok hr e2)
theorem cFs_ok (hr : ∀ e d, r.e C e = some d → XE X Φ e d) : ∀ {es : List Expr} {ds : List ODen}, cFs r C es = some ds → XOs X Φ es ds
  | [], _, h => by cases h; exact .nil
  | e :: es, _, h => by
    unfold cFs at h
    obtain ⟨d, e1, h⟩ := Option.bind_eq_some_iff.mp h
    obtain ⟨ds, e2, h⟩ := Option.bind_eq_some_iff.mp h
    cases h
    exact .cons (cF_ok hr e1) (cFs_ok hr e2)
theorem XOk.u65 (ok : XOk X C Φ k) : X.A.units + 65 < cLine := ok.u64
theorem cBin_ok (ok : XOk X C Φ k) (hr : ∀ e d, r.e C e = some d → XE X Φ e d) {a b : Expr} {op : Operator} {d : Den} {pos : Pos} (h : cBin r C a op b = some d) : XE X Φ (.BinOp a op b pos) d := by
  unfold cBin at h
  obtain ⟨p, e0, h⟩ := Option.bind_eq_some_iff.mp h
  obtain ⟨da, e1, h⟩ := Option.bind_eq_some_iff.mp h
  obtain ⟨db, e2, h⟩ := Option.bind_eq_some_iff.mp h
  cases h
  have ha := cO_ok ok hr e1
  have hb := cO_ok ok hr e2
  cases op <;> first | (cases e0; done) | skip
  all_goals cases e0
  · exact xe_bin op_addA (fun _ _ _ _ z => ok_add z) ha hb
  · exact xe_bin op_sub (fun _ _ _ _ z => ok_sub z) ha hb
  · exact xe_bin op_mulQ (fun _ _ _ _ z => ok_mulQ z) ha hb
  · exact xe_bin op_mod (fun _ _ _ _ z => ok_mod z) ha hb
  · exact xe_bin op_pow (fun _ _ _ _ z => ok_pow z) ha hb
  · exact xe_bin op_shl (fun _ _ _ _ z => ok_shl z) ha hb
  · exact xe_bin op_shr (fun _ _ _ _ z => ok_shr z) ha hb
  · exact xe_bin op_odd (fun _ _ _ _ z => ok_and z) ha hb
  · exact xe_bin op_fdivW (fun _ _ _ _ z => ok_fdiv z) ha hb
end
end SD
namespace SD
open PySem L2
section
variable {X : Cx} {C : Ctx} {Φ : Fenv} {k : Nat} {r : Rec}
theorem marks2 {o1 o2 : CmpOp} {b c : Expr} (h : plainE c = true) : lastMarks [o1, o2] [b, c] = false := by
  show behindInMarks o2 c = false
  exact marks_plain h
theorem chain_op {op : CmpOp} {f : Int → Int → Bool} (h : chainF op = some f) : OpR X (compareOp op) (rI0 fun i j => .bl (f i j)) := by
  cases op <;> first | (cases h; done) | skip
  all_goals cases h
  · exact op_lt
  · exact op_le
theorem cmp_op (ok : XOk X C Φ k) {op : CmpOp} {p : Prim} (h : cmpP op = some p) : ∃ rr : R2, OpR X (compareOp op) rr ∧ ∀ x y H Q, tPrim X.K X.mg p [x, y] H Q → rr x y H Q := by
  have hu : X.A.units + 64 < cLine := by have := ok.u64; omega
  cases op <;> cases h
  · exact ⟨_, op_eqD hu, fun _ _ _ _ z => ok_eq z⟩
  · exact ⟨_, op_neD hu, fun _ _ _ _ z => ok_ne z⟩
  · exact ⟨_, op_ltA (by omega), fun _ _ _ _ z => ok_lt z⟩
  · exact ⟨_, op_le.or (op_leT (by omega)), fun _ _ _ _ z => ok_le z⟩
  · exact ⟨_, op_gt, fun _ _ _ _ z => ok_gt z⟩
  · exact ⟨_, op_ge, fun _ _ _ _ z => ok_ge z⟩
  · exact ⟨_, op_isA, fun _ _ _ _ z => ok_is z⟩
  · exact ⟨_, op_notIsA, fun _ _ _ _ z => ok_is z⟩
  · exact ⟨_, op_inA ok.u65, fun _ _ _ _ z => ok_in z⟩
  · exact ⟨_, op_notInA ok.u65, fun _ _ _ _ z => ok_in z⟩
theorem cCmp_ok (ok : XOk X C Φ k) (hr : ∀ e d, r.e C e = some d → XE X Φ e d) {a : Expr} {ops : List CmpOp} {bs : List Expr} {d : Den} {pos : Pos} (h : cCmp r C a ops bs = some d) : XE X Φ (.Compare a ops bs pos) d ∧ XT X Φ (.Compare a ops bs pos) (tdV d) := by
  unfold cCmp at h
  split at h
  case h_1 op b =>
    split at h
    case isFalse => cases h
    case isTrue pb =>
      obtain ⟨p, e0, h⟩ := Option.bind_eq_some_iff.mp h
      obtain ⟨da, e1, h⟩ := Option.bind_eq_some_iff.mp h
      obtain ⟨db, e2, h⟩ := Option.bind_eq_some_iff.mp h
      cases h
      have ha := cO_ok ok hr e1
      have hb := cO_ok ok hr e2
      obtain ⟨rr, ho, hp⟩ := cmp_op ok e0
      exact ⟨xe_cmp ho hp ha hb pb, xt_cmp ho hp ha hb pb⟩
  case h_2 o1 o2 b c =>
    split at h
    case isFalse => cases h
    case isTrue pb =>
      obtain ⟨pb, pc⟩ := Bool.and_eq_true_iff.mp pb
      obtain ⟨f, e0, h⟩ := Option.bind_eq_some_iff.mp h
      obtain ⟨g, e1, h⟩ := Option.bind_eq_some_iff.mp h
      obtain ⟨da, e2, h⟩ := Option.bind_eq_some_iff.mp h
      obtain ⟨db, e3, h⟩ := Option.bind_eq_some_iff.mp h
      obtain ⟨dc, e4, h⟩ := Option.bind_eq_some_iff.mp h
      cases h
      refine ⟨PE.imp (pe_chain (chain_op e0) (chain_op e1) (hr _ _ e2) (hr _ _ e3) (hr _ _ e4) (marks2 pc)) fun σ H Q w => tE_Chain w, PT.imp (pt_chain (chain_op e0) (chain_op e1) (hr _ _ e2) (hr _ _ e3) (hr _ _ e4) (marks2 pc)) fun σ H Q w => tE_Chain (tT_V w)⟩
  case h_3 => cases h
theorem cBool_ok (hr : ∀ e d, r.e C e = some d → XE X Φ e d) {op : BoolOp} {pos : Pos} : ∀ {vs : List Expr} {d : Den}, cBool r C op vs = some d → XE X Φ (.BoolOp op vs pos) d
  | [], _, h => by cases h
  | [a], d, h => pe_one (hr a d h)
  | a :: b :: rest, d, h => by
    unfold cBool at h
    obtain ⟨da, e1, h⟩ := Option.bind_eq_some_iff.mp h
    obtain ⟨db, e2, h⟩ := Option.bind_eq_some_iff.mp h
    cases h
    have ih := cBool_ok (pos := pos) hr (vs := b :: rest) e2
    cases op with
    | And => exact PE.imp (pe_and (hr a da e1) ih) fun σ H Q w => tE_And w
    | Or => exact PE.imp (pe_or (hr a da e1) ih) fun σ H Q w => tE_Or w
theorem cBoolT_ok (ht : ∀ e d, r.t C e = some d → XT X Φ e d) {op : BoolOp} {pos : Pos} : ∀ {vs : List Expr} {d : TDen}, cBoolT r C op vs = some d → PW X (.BoolOp op vs pos) (tT X.K X.mg Φ d)
  | [], _, h => by cases h
  | [a], d, h => by
    cases op with
    | And => exact pw_and1 (ht a d h)
    | Or => exact pw_or1 (ht a d h)
  | a :: b :: rest, d, h => by
    unfold cBoolT at h
    obtain ⟨da, e1, h⟩ := Option.bind_eq_some_iff.mp h
    obtain ⟨db, e2, h⟩ := Option.bind_eq_some_iff.mp h
    cases h
    have ih := cBoolT_ok (pos := pos) ht (vs := b :: rest) e2
    cases op with
    | And =>
      have q := pw_and (pos := pos) (ht a da e1) ih
      exact ⟨fun wh pins s σ H Q I w => q.run wh pins s σ H Q I (tT_And w)⟩
    | Or =>
      have q := pw_or (pos := pos) (ht a da e1) ih
      exact ⟨fun wh pins s σ H Q I w => q.run wh pins s σ H Q I (tT_Or w)⟩
theorem OpdsOk.nil {K : Fg} {mg : MG} {F H : Hp} {σ : L2.St} : OpdsOk K mg H F H σ [] [] (fun _ _ => False) :=
  ⟨rfl, fun k i z => by simp at z, fun k i z => by simp at z, fun k b z => z.elim, fun k b z => z.elim, fun k l b z => z.elim⟩
theorem tE_sl3 {da : ODen} {dl dh : Den} {σ : L2.St} {H : Hp} {Q : VK} (h : tE X.K X.mg Φ (dPrim (p3 slLH) [da, oV dl, oV dh]) σ H Q) :
    tSl (rSl X.K) (tO X.K X.mg Φ da) (tPart (tE X.K X.mg Φ dl)) (tPart (tE X.K X.mg Φ dh)) σ H Q := by
  obtain ⟨F, env, fp, iv, env', st, e, c⟩ := h
  obtain ⟨os, envz, e1, g⟩ := prim_at st e c
  unfold dPrim at e
  rw [e1] at e
  have e : (if (places os).Nodup then (derefs envz os).bind fun ivs => (p3 slLH ivs).bind fun q => some (q.1, wb envz os q.2) else none) = some (iv, env') := e
  split at e
  case isFalse => cases e
  case isTrue =>
  obtain ⟨ivs, e2, e⟩ := Option.bind_eq_some_iff.mp e
  obtain ⟨q, e3, e⟩ := Option.bind_eq_some_iff.mp e
  simp only [evL] at e1
  obtain ⟨⟨o0, env0⟩, g0, e1⟩ := Option.bind_eq_some_iff.mp e1
  obtain ⟨⟨os1, envy⟩, g1, e1⟩ := Option.bind_eq_some_iff.mp e1
  cases e1
  obtain ⟨⟨o1, env1⟩, g2, g1⟩ := Option.bind_eq_some_iff.mp g1
  obtain ⟨⟨os2, envx⟩, g3, g1⟩ := Option.bind_eq_some_iff.mp g1
  cases g1
  obtain ⟨⟨o2, env2⟩, g4, g3⟩ := Option.bind_eq_some_iff.mp g3
  obtain ⟨⟨os3, envw⟩, g5, g3⟩ := Option.bind_eq_some_iff.mp g3
  cases g3
  cases g5
  obtain ⟨⟨iv1, env1'⟩, k1, g2⟩ := Option.bind_eq_some_iff.mp g2
  cases g2
  obtain ⟨⟨iv2, env2'⟩, k2, g4⟩ := Option.bind_eq_some_iff.mp g4
  cases g4
  simp only [derefs] at e2
  obtain ⟨x0, d0, e2⟩ := Option.bind_eq_some_iff.mp e2
  obtain ⟨r1, d1, e2⟩ := Option.bind_eq_some_iff.mp e2
  cases e2
  obtain ⟨y1, d2, d1⟩ := Option.bind_eq_some_iff.mp d1
  cases d2
  obtain ⟨r2, d3, d1⟩ := Option.bind_eq_some_iff.mp d1
  cases d1
  obtain ⟨y2, d4, d3⟩ := Option.bind_eq_some_iff.mp d3
  cases d4
  cases d3
  have e3 : ((slLH x0 iv1 iv2).bind fun r => some (r, [x0, iv1, iv2])) = some q := e3
  obtain ⟨res, f1, _⟩ := Option.bind_eq_some_iff.mp e3
  obtain ⟨i, i1, f1⟩ := Option.bind_eq_some_iff.mp f1
  obtain ⟨j, j1, f1⟩ := Option.bind_eq_some_iff.mp f1
  refine ⟨F, env, fp, o0, env0, st, g0, fun v H1 F1 fp1 S st1 p1 ok1 => ?_⟩
  refine ⟨F1, env0, fp1, iv1, _, st1, k1, fun y H2 F2 fp2 S2 st2 p2 t2 => ⟨i, int_of t2 i1, ?_⟩⟩
  refine ⟨F2, _, fp2, iv2, _, st2, k2, fun u H3 F3 fp3 S3 st3 p3 t3 => ⟨j, int_of t3 j1, ?_⟩⟩
  have w := g [v, y, u] H3 F3 fp3 _ st3 ((p1.trans p2).trans p3) (OpdsOk.cons st p1 (p2.trans p3) ok1 (OpdsOk.cons (o := .val iv1) st1 p2 p3 t2 (OpdsOk.cons (o := .val iv2) st2 p3 (.refl ..) t3 OpdsOk.nil)))
  obtain ⟨i', j', ei, ej, w⟩ := ok_slLH w
  rw [int_of t2 i1] at ei
  rw [int_of t3 j1] at ej
  cases ei
  cases ej
  exact w
/-- x[::-1], of a list or a tuple -/
def tBack (K : Fg) (te : TE) : TE := fun σ H Q => te σ H fun x H1 => (∃ a xs, x = .ref a ∧ SqL K H1 a xs ∧ ∀ p, H1 p = none → Q (.ref p) (upd H1 p (.lst xs.reverse))) ∨ ∃ a xs, x = .ref a ∧ SqT K H1 a xs ∧ ∀ p, H1 p = none → Q (.ref p) (upd H1 p (.tup xs.reverse))
open PySem.Spec PyProof.Rows HT in
theorem pe_back {X : Cx} {e : Expr} {te : TE} {kd : Nat} {q1 q2 q3 pos : Pos} (he : PE X e te) : PE X (.Subscript e (.Slice none none (some (.UnaryOp .USub (.Constant (.int 1) kd q1) q2)) q3) pos) (tBack X.K te) := by
  refine ⟨fun pins s σ H Q I h => ?_⟩
  refine Subscript_ (thn (he.run pins s σ H _ I h) fun v s1 ⟨x, H1, I1, r1, w⟩ => ?_)
  have stp : PO X (some (.UnaryOp .USub (.Constant (.int 1) kd q1) q2)) (tPart (tUn (rU fun i => .int (-i)) (tC (.int 1)))) := po_some (pe_un un_neg pe_int)
  refine wpAny_Slice (thn (po_none.run pins s1 σ H1 (fun o G => o = none ∧ G = H1) I1 ⟨rfl, rfl⟩) fun vl s2 ⟨l, G2, I2, pl, el, eg2⟩ => ?_)
  subst el eg2
  refine thn (po_none.run pins s2 σ G2 (fun o G => o = none ∧ G = G2) I2 ⟨rfl, rfl⟩) fun vu s3 ⟨u, G3, I3, pu, eu, eg3⟩ => ?_
  subst eu eg3
  refine thn (stp.run pins s3 σ G3 (fun o G => o = some (-1) ∧ G = G3) I3 ⟨1, rfl, -1, rfl, rfl, rfl⟩) fun vs s4 ⟨o, G4, I4, ps, eo, eg4⟩ => ?_
  subst eo eg4
  have J : Inv X pins σ G4 { s4 with heap := s4.heap.push { cls := .type "slice", data := .fields #[vl, vu, vs] } } := I4.kept (t' := s4.toks) fun b ob q => Heap.get?_push_of_some _ q
  rcases w with ⟨a, xs, rfl, hx, q⟩ | ⟨a, xs, rfl, hx, q⟩
  · cases r1
    obtain ⟨its, rr, ht, hz⟩ := J.list hx
    have hlen := rr.length
    show wpAny (model X.prog X.w) X.A (subscriptTail e (.Slice none none (some (.UnaryOp .USub (.Constant (.int 1) kd q1) q2)) q3) (.ref a) (.ref s4.heap.objs.size)) (EP X pins σ Q) X.xe { s4 with heap := s4.heap.push { cls := .type "slice", data := .fields #[vl, vu, vs] } }
    refine tail_any (ops := [.ref a, .ref s4.heap.objs.size]) ht.isList.typeIs PySem.slot_list_getitem.lookup (wpAny_getItem_list_slice ht.isList (Heap.IsSliceOf.new _ vl vu vs) pl pu ps (by decide) ?_ (by rw [List.size_toArray]; omega)) (by with_unfolding_all rfl)
    rw [PySem.W.krv_pick]
    exact ⟨.ref _, _, J.laid (t' := s4.toks) (o := .lst xs.reverse) (fun b ob q => Heap.get?_push_of_some _ q) (Nat.le_refl _) ⟨by rw [List.length_reverse]; exact hz, _, 0, rr.reverse, Heap.get?_push_size _ rfl⟩, rfl, q _ (J.hok.fresh (Nat.le_refl _))⟩
  · cases r1
    obtain ⟨its, rr, ht, hz⟩ := J.tuple hx
    have hlen := rr.length
    show wpAny (model X.prog X.w) X.A (subscriptTail e (.Slice none none (some (.UnaryOp .USub (.Constant (.int 1) kd q1) q2)) q3) (.ref a) (.ref s4.heap.objs.size)) (EP X pins σ Q) X.xe { s4 with heap := s4.heap.push { cls := .type "slice", data := .fields #[vl, vu, vs] } }
    refine tail_any (ops := [.ref a, .ref s4.heap.objs.size]) ht.typeIs PyProof.Rows.slot_tuple_getitem.lookup (item_back ht (Heap.IsSliceOf.new _ vl vu vs) pl pu ps ?_ (by rw [List.size_toArray]; omega)) (by with_unfolding_all rfl)
    exact ⟨.ref _, _, J.laid (t' := s4.toks) (o := .tup xs.reverse) (fun b ob q => Heap.get?_push_of_some _ q) (Nat.le_refl _) ⟨by rw [List.length_reverse]; exact hz, _, rr.reverse, IsTup.new _ _⟩, rfl, q _ (J.hok.fresh (Nat.le_refl _))⟩
theorem ok_back {K : Fg} {mg : MG} {x : V} {H : Hp} {Q : VK} (h : tPrim K mg (p1 revIV) [x] H Q) : (∃ a xs, x = .ref a ∧ SqL K H a xs ∧ ∀ p, H p = none → Q (.ref p) (upd H p (.lst xs.reverse))) ∨ ∃ a xs, x = .ref a ∧ SqT K H a xs ∧ ∀ p, H p = none → Q (.ref p) (upd H p (.tup xs.reverse)) := by
  obtain ⟨F, a, fp, res, v, e, st, o1, f, c⟩ := prim1 h
  cases e
  unfold revIV at f
  split at f
  case h_1 xs g =>
    cases f
    obtain ⟨p, ws, ep, hr, r⟩ := asL_ok st.ex o1 g
    exact .inl ⟨p, ws, ep, hr, Cont.lstN st c r.rev⟩
  case h_2 xs g g2 =>
    cases f
    obtain ⟨p, ws, ep, hr, _, r, _⟩ := asT_ok st.ex o1 g2
    exact .inr ⟨p, ws, ep, hr, Cont.tupN st c r.rev⟩
  case h_3 => cases f
theorem cSub_ok (ok : XOk X C Φ k) (hr : ∀ e d, r.e C e = some d → XE X Φ e d) {a i : Expr} {d : Den} {pos : Pos} (h : cSub r C a i = some d) : XE X Φ (.Subscript a i pos) d := by
  unfold cSub at h
  obtain ⟨da, e1, h⟩ := Option.bind_eq_some_iff.mp h
  have ha := cO_ok ok hr e1
  split at h
  case h_1 p =>
    cases h
    refine PE.imp (pe_slice sl_any ha po_none po_none) fun σ H Q w => ?_
    have z : tArgs [tO X.K X.mg Φ da] σ H fun vs H1 => tPrim X.K X.mg (p1 slNN) vs H1 Q := prim_args w
    exact tO.imp (Φ := Φ) z fun x H1 z1 => ok_slNN z1
  case h_2 hh p =>
    obtain ⟨dh, e2, h⟩ := Option.bind_eq_some_iff.mp h
    cases h
    refine PE.imp (pe_slice sl_any ha po_none (po_some (cO_ok ok hr e2))) fun σ H Q w => ?_
    have z : tArgs [tO X.K X.mg Φ da, tO X.K X.mg Φ dh] σ H fun vs H1 => tPrim X.K X.mg (p2 slNH) vs H1 Q := prim_args w
    exact tO.imp (Φ := Φ) z fun x H1 z1 => tO.imp (Φ := Φ) z1 fun y H2 z2 => ok_slNH z2
  case h_3 ll p =>
    obtain ⟨dl, e2, h⟩ := Option.bind_eq_some_iff.mp h
    cases h
    refine PE.imp (pe_slice sl_any ha (po_some (cO_ok ok hr e2)) po_none) fun σ H Q w => ?_
    have z : tArgs [tO X.K X.mg Φ da, tO X.K X.mg Φ dl] σ H fun vs H1 => tPrim X.K X.mg (p2 slLN) vs H1 Q := prim_args w
    exact tO.imp (Φ := Φ) z fun x H1 z1 => tO.imp (Φ := Φ) z1 fun y H2 z2 => ok_slLN z2
  case h_4 ll hh p =>
    obtain ⟨dl, e2, h⟩ := Option.bind_eq_some_iff.mp h
    obtain ⟨dh, e3, h⟩ := Option.bind_eq_some_iff.mp h
    cases h
    exact PE.imp (pe_slice sl_any ha (po_some (hr _ _ e2)) (po_some (hr _ _ e3))) fun σ H Q w => tE_sl3 w
  case h_5 =>
    cases h
    refine PE.imp (pe_back ha) fun σ H Q w => ?_
    have z : tArgs [tO X.K X.mg Φ da] σ H fun vs H1 => tPrim X.K X.mg (p1 revIV) vs H1 Q := prim_args w
    exact tO.imp (Φ := Φ) z fun x H1 z1 => ok_back z1
  case h_6 =>
    split at h
    case isFalse => cases h
    case isTrue pi =>
      obtain ⟨di, e2, h⟩ := Option.bind_eq_some_iff.mp h
      cases h
      exact xe_ix (ix_seq.or (ix_dct (by have := ok.u64; omega))) (fun _ _ _ _ z => ok_idx z) ha (cO_ok ok hr e2) pi
def BltOk (X : Cx) (f : Str) (p : Prim) : Prop := f ∈ bltNames ∧ ∃ rr : List V → Hp → VK → Prop, ((∃ id, CallR X (.builtin id) rr ∧ bootBuiltins f = some (.builtin id)) ∨ (∃ T, CallR X (.type T) rr ∧ bootBuiltins f = some (.type T))) ∧ ∀ vs H Q, tPrim X.K X.mg p vs H Q → rr vs H Q
theorem bltT_ok (ok : XOk X C Φ k) (hh : C.hot = false) : ∀ q ∈ bltT, BltOk X q.1 q.2.2 := by
  have hc := ok.calm hh
  intro q hq
  simp only [bltT, List.mem_cons, List.not_mem_nil, or_false] at hq
  rcases hq with rfl | rfl | rfl | rfl | rfl | rfl | rfl | rfl | rfl | rfl | rfl | rfl | rfl | rfl
  · exact ⟨by decide +kernel, _, .inl ⟨_, call_lenA, PySem.boot_len⟩, fun _ _ _ z => ok_len z⟩
  · exact ⟨by decide +kernel, _, .inr ⟨_, call_tuple_of, PyProof.Rows.boot_tuple⟩, fun _ _ _ z => ok_tup z⟩
  · exact ⟨by decide +kernel, _, .inr ⟨_, call_list_of, PyProof.Rows.boot_list⟩, fun _ _ _ z => ok_lst z⟩
  · exact ⟨by decide +kernel, _, .inr ⟨_, call_intA, PyProof.Rows.boot_int⟩, fun _ _ _ z => ok_int z⟩
  · exact ⟨by decide +kernel, _, .inl ⟨_, cr_min hc, by decide +kernel⟩, fun _ _ _ z => ok_min1 z⟩
  · exact ⟨by decide +kernel, _, .inl ⟨_, call_min2 hc, by decide +kernel⟩, fun _ _ _ z => ok_min2 z⟩
  · exact ⟨by decide +kernel, _, .inl ⟨_, cr_max hc, by decide +kernel⟩, fun _ _ _ z => ok_max1 z⟩
  · exact ⟨by decide +kernel, _, .inl ⟨_, call_max2 hc, by decide +kernel⟩, fun _ _ _ z => ok_max2 z⟩
  · exact ⟨by decide +kernel, _, .inl ⟨_, cr_sum hc, by decide +kernel⟩, fun _ _ _ z => ok_sum z⟩
  · exact ⟨by decide +kernel, _, .inl ⟨_, cr_all hc, by decide +kernel⟩, fun _ _ _ z => ok_all z⟩
  · exact ⟨by decide +kernel, _, .inl ⟨_, cr_any hc, by decide +kernel⟩, fun _ _ _ z => ok_any z⟩
  · exact ⟨by decide +kernel, _, .inl ⟨_, CallR.or cr_sortedI (CallR.or cr_sortedS cr_sortedTS), by decide +kernel⟩, fun _ _ _ z => ok_sort z⟩
  · exact ⟨by decide +kernel, _, .inl ⟨_, call_isi, by decide +kernel⟩, fun _ _ _ z => ok_isi z⟩
  · exact ⟨by decide +kernel, _, .inr ⟨_, CallR.or call_str_int SkE.call_str_str, by decide +kernel⟩, fun _ _ _ z => ok_str z⟩
theorem bltP_ok (ok : XOk X C Φ k) (hh : C.hot = false) {f : Str} {es : List Expr} {p : Prim} {ds : List ODen} {fp pos : Pos} (hg : isGl C.sc f = true) (hn : goodName f = true) (a : es.all plainE = true) (h : bltP f es.length = some p) (hs : XOs X Φ es ds) :
    XE X Φ (.Call (.Name f fp) es [] pos) (dPrim p ds) := by
  obtain ⟨q, e, h⟩ := Option.bind_eq_some_iff.mp h
  cases h
  have hq := List.mem_of_find?_eq_some e
  have hp := List.find?_some e
  obtain ⟨h1, h2⟩ := Bool.and_eq_true_iff.mp hp
  have h1 := eq_of_beq h1
  have h2 := eq_of_beq h2
  subst h1
  obtain ⟨hb, rr, hc, hi⟩ := bltT_ok ok hh q hq
  match es, hs with
  | [], hs =>
    exfalso
    have : bltT.all (fun q => q.2.1 != 0) = true := rfl
    have := List.all_eq_true.mp this q hq
    rw [h2] at this
    cases this
  | e :: es, hs =>
    rcases hc with ⟨id, c1, c2⟩ | ⟨T, c1, c2⟩
    · exact xe_blt ok c1 c2 hb hg hn hs a hi
    · exact xe_ty ok c1 c2 hb hg hn hs a hi
theorem cCall_ok (ok : XOk X C Φ k) (hr : ∀ e d, r.e C e = some d → XE X Φ e d) {f : Str} {es : List Expr} {d : Den} {fp pos : Pos} (h : cCall r C f es = some d) : XE X Φ (.Call (.Name f fp) es [] pos) d := by
  unfold cCall at h
  split at h
  case isTrue =>
    unfold cHot at h
    split at h
    case isFalse => cases h
    case isTrue q =>
      obtain ⟨q, q4⟩ := Bool.and_eq_true_iff.mp q
      obtain ⟨q, q3⟩ := Bool.and_eq_true_iff.mp q
      obtain ⟨q1, q2⟩ := Bool.and_eq_true_iff.mp q
      cases es with
      | nil => cases q4
      | cons e es =>
        split at h
        case isTrue hf =>
          obtain ⟨ds, e1, h⟩ := Option.bind_eq_some_iff.mp h
          cases h
          exact xe_hot ok (by simpa using hf) q2 q1 (cOs_ok ok hr e1) q3
        case isFalse =>
          split at h
          case isFalse => cases h
          case isTrue w =>
            obtain ⟨w1, _⟩ := Bool.and_eq_true_iff.mp w
            have w1 : f = "isinstance" := eq_of_beq w1
            subst w1
            obtain ⟨ds, e1, h⟩ := Option.bind_eq_some_iff.mp h
            cases h
            exact xe_blt ok call_isX (by decide +kernel) (by decide +kernel) q2 q1 (cOs_ok ok hr e1) q3 (fun _ _ _ z => ok_isiX ok z)
  case isFalse hh =>
  have hh : C.hot = false := by simpa using hh
  split at h
  case isTrue q =>
    obtain ⟨q, q4⟩ := Bool.and_eq_true_iff.mp q
    obtain ⟨q, q3⟩ := Bool.and_eq_true_iff.mp q
    obtain ⟨q1, q2⟩ := Bool.and_eq_true_iff.mp q
    obtain ⟨i, e0, h⟩ := Option.bind_eq_some_iff.mp h
    obtain ⟨ds, e1, h⟩ := Option.bind_eq_some_iff.mp h
    cases h
    cases es with
    | nil => cases q4
    | cons e es =>
      have ho : XO X Φ (.Name f fp) (oNm i) := cO_ok (e := .Name f fp) ok hr (by
        show (if goodName f && isVis C.sc f then (slotIn C.N f).bind fun i => some (oNm i) else _) = _
        rw [q1, q2, e0]; rfl)
      exact xe_callL ok hh ho (cOs_ok ok hr e1) q3
  case isFalse =>
  split at h
  case isFalse => cases h
  case isTrue q =>
    obtain ⟨q, q3⟩ := Bool.and_eq_true_iff.mp q
    obtain ⟨q1, q2⟩ := Bool.and_eq_true_iff.mp q
    split at h
    case isTrue hf =>
      obtain ⟨ds, e1, h⟩ := Option.bind_eq_some_iff.mp h
      cases h
      exact xe_call ok hh hf q2 q1 (cOs_ok ok hr e1) q3
    case isFalse =>
      split at h
      case isTrue w =>
        obtain ⟨key, e0, h⟩ := Option.bind_eq_some_iff.mp h
        obtain ⟨ds, e1, h⟩ := Option.bind_eq_some_iff.mp h
        cases h
        obtain ⟨_, w2⟩ := Bool.and_eq_true_iff.mp w
        have hs := cOs_ok ok hr e1
        match es, hs, w2 with
        | e :: es, hs, _ => exact xe_make ok hh (p := (f, key)) (lookup_mem e0) q2 q1 hs q3
        | [], _, w2 => cases w2
      case isFalse =>
      split at h
      case isTrue w =>
        cases h
        obtain ⟨w1, w2⟩ := Bool.and_eq_true_iff.mp w
        have w1 := List.isEmpty_iff.mp w1
        subst w1
        obtain ⟨p, hp, q⟩ := List.any_eq_true.mp w2
        have q : p.1 = f := eq_of_beq q
        subst q
        exact xe_new ok hp q2 q1
      case isFalse =>
      split at h
      case isTrue w =>
        obtain ⟨w1, w2⟩ := Bool.and_eq_true_iff.mp w
        have w1 : f = "isinstance" := eq_of_beq w1
        subst w1
        obtain ⟨ds, e2, h⟩ := Option.bind_eq_some_iff.mp h
        cases h
        have hs := cOs_ok ok hr e2
        match es, hs, w2 with
        | e :: es, hs, _ => exact xe_blt ok call_isX (by decide +kernel) (by decide +kernel) q2 q1 hs q3 (fun _ _ _ z => ok_isiX ok z)
        | [], _, w2 => cases w2
      case isFalse =>
      split at h
      case isTrue w =>
        obtain ⟨w1, w2⟩ := Bool.and_eq_true_iff.mp w
        have w1 : f = "isinstance" := eq_of_beq w1
        subst w1
        obtain ⟨ds, e2, h⟩ := Option.bind_eq_some_iff.mp h
        cases h
        have hs := cOs_ok ok hr e2
        match es, hs, w2 with
        | e :: es, hs, _ => exact xe_blt ok call_isi (by decide +kernel) (by decide +kernel) q2 q1 hs q3 (fun _ _ _ z => ok_isiC ok z)
      case isFalse =>
      obtain ⟨p, e1, h⟩ := Option.bind_eq_some_iff.mp h
      obtain ⟨ds, e2, h⟩ := Option.bind_eq_some_iff.mp h
      cases h
      exact bltP_ok ok hh q2 q1 q3 e1 (cOs_ok ok hr e2)
end
end SD
namespace SD
open PySem PySem.Spec PyProof.Rows L2 RT
theorem rt_nolen : typeLookup (.type "reversed") "__len__" = pure none := by rw [typeLookup_type, builtinLookup_eq_fast]; kernel_rfl
theorem rt_hint : Slot "reversed" "__length_hint__" "reversed.__length_hint__" :=
  .of (owner := "reversed") (n := "__length_hint__") (by rw [typeLookup_type, builtinLookup_eq_fast]; kernel_rfl) (by decide +kernel) (by decide +kernel) (by decide +kernel)
    (by first | exact .inl (by decide +kernel) | exact .inr (by decide +kernel)) (by rw [isSubtype_type]; kernel_rfl)
theorem rt_hint_entry : entryFor table "reversed.__length_hint__" = some Builtin.«reversed.__length_hint__» := entryFor_of_tree (by kernel_rfl)
theorem rt_hint_args (a : Value) : argsOk "reversed.__length_hint__" ⟨[a], []⟩ := by
  unfold argsOk; rw [signature?_of (id := "reversed.__length_hint__") (n := ['_', '_', 't', 'n', 'i', 'h', '_', 'h', 't', 'g', 'n', 'e', 'l', '_', '_']) (o := ['d', 'e', 's', 'r', 'e', 'v', 'e', 'r']) (by kernel_rfl) owner_rt]; kernel_rfl
section
variable {prog : Program} {w : World}
theorem rt_walks {A : Around} (hh : A.handled = none) (I t : Addr) (hne : t ≠ I) (items : Array Value) (hsz : items.size ≤ sizeLine) :
    Walks prog w A I [I, t] [I] items.size (fun i v => items[items.size - 1 - i]? = some v) (fun i h => i ≤ items.size ∧ IsRt h I t ((items.size : Int) - 1 - (i : Int)) ∧ IsTup h t items) where
  sub := fun b hb => by rw [List.mem_singleton] at hb; rw [hb]; exact List.mem_cons_self ..
  frame := fun _ _ _ x k => ⟨x.1, x.2.1.at fun o e => k I (List.mem_cons_self ..) o e, by obtain ⟨o, h1, h2⟩ := x.2.2; exact ⟨o, k t (List.mem_cons_of_mem _ (List.mem_cons_self ..)) o h1, h2⟩⟩
  item := fun i s Q E hi x hQ => by
    have e1 : (items.size : Int) - 1 - (i : Int) = ((items.size - 1 - i : Nat) : Int) := by omega
    have hit := x.2.1
    rw [e1] at hit
    have hx : items[items.size - 1 - i]? = some (items[items.size - 1 - i]'(by omega)) := Array.getElem?_eq_getElem (by omega)
    refine next_rt_item hit x.2.2 hx hsz fun g hit' sb => ?_
    have e2 : ((items.size - 1 - i : Nat) : Int) - 1 = (items.size : Int) - 1 - ((i + 1 : Nat) : Int) := by omega
    rw [e2] at hit'
    obtain ⟨o, o1, o2⟩ := x.2.2
    exact hQ _ g (s.toks + 1) hx ⟨hi, hit', ⟨o, (sb.2 t hne).trans o1, o2⟩⟩ fun b o hb eo => sb.extBut b o (fun z => hb (List.mem_singleton.mpr z)) eo
  done := fun s Q E x hQ => by
    have e1 : (items.size : Int) - 1 - (items.size : Int) = -1 := by omega
    have hit := x.2.1
    rw [e1] at hit
    exact next_rt_end hh hit fun g ge => hQ g s.toks fun b o hb eo => ge b o (fun z => hb (List.mem_singleton.mpr z)) eo
  self := fun _ _ _ _ x hQ => iter_rt x.2.1 hQ
variable {A : Around} {E : Value → Shared → Prop} {s : Shared}
theorem rt_hint_run {it t : Addr} {items : Array Value} {Q : Value → Shared → Prop} (hit : IsRt s.heap it t ((items.size : Int) - 1)) (ht : IsTup s.heap t items) (hs : (items.size : Int) < 2 ^ 63)
    (h : ∀ tk k, Q (.int items.size k) { s with toks := tk }) : wpAny (model prog w) A (call (.builtin "reversed.__length_hint__") [.ref it]) Q E s := by
  obtain ⟨o, ho, hc, hd⟩ := id hit
  refine wpAny_call_entry rt_hint hit.typeIs rt_hint_entry ?_ (rt_hint_args _)
  unfold Builtin.«reversed.__length_hint__»
  refine wpAny_bind (wpAny_of_eq (a := Value.ref it) rfl ?_)
  refine wpAny_bind (wpAny_field ho hd (x := .ref t) rfl ?_)
  show wpAny _ _ (call (.builtin "len") [.ref t] >>= _) _ _ _
  refine wpAny_bind (len_tuple ht hs ?_)
  refine wpAny_bind (wpAny_of_eq (a := some ((items.size : Nat) : Int)) rfl ?_)
  refine wpAny_bind (wpAny_field (s := { s with toks := s.toks + 1 + 1 }) ho hd (x := rawInt ((items.size : Int) - 1)) rfl ?_)
  show wpAny _ _ (if ((items.size : Nat) : Int) < (items.size : Int) - 1 + 1 then _ else _) _ _ _
  rw [if_neg (by omega)]
  show wpAny _ _ (mkInt ((items.size : Int) - 1 + 1) >>= _) _ _ _
  refine wpAny_bind (wpAny_mkInt (wpAny_pure ⟨_, rfl, ?_⟩))
  rw [show ((items.size : Int) - 1 + 1) = (items.size : Int) by omega]
  exact h _ _
theorem rt_collect {it t : Addr} {items : Array Value} {Q : List Value → Shared → Prop} (hh : A.handled = none) (hit : IsRt s.heap it t ((items.size : Int) - 1)) (ht : IsTup s.heap t items) (hne : t ≠ it) (hn : items.size ≤ sizeLine)
    (hQ : ∀ (g : Heap) (tk : Nat) (acc : Array Value), (∀ b o, b ≠ it → s.heap.get? b = some o → g.get? b = some o) → ItemsOf (fun i v => items[items.size - 1 - i]? = some v) acc items.size → Q acc.toList { s with heap := g, toks := tk }) :
    wpAny (model prog w) A (collect (.ref it)) Q E s := by
  have W := (rt_walks (prog := prog) (w := w) (A := A.in1) hh it t hne items hn).toS
  obtain ⟨oi, hoi, _⟩ := id hit
  obtain ⟨ol, hol, _⟩ := id ht
  have ni : s.heap.objs.size ≠ it := Nat.ne_of_gt (Heap.lt_size hoi)
  have nl : s.heap.objs.size ≠ t := Nat.ne_of_gt (Heap.lt_size hol)
  have nf : s.heap.objs.size ∉ [it, t] := by rw [List.mem_cons, List.mem_singleton]; exact fun z => z.elim ni nl
  have h63 : (items.size : Int) < 2 ^ 63 := by have := hn; rw [sizeLine_eq] at this; omega
  unfold collect
  refine wpAny_bind (wpAny_runValue (codeAny_builtin F.entry_proto_collect ?_)); rw [Around.under_plainId F.plain_proto_collect _]
  show wpAny _ A.in1 (newList [] >>= fun r => again (.builtin "list.__iadd__" ⟨[r, .ref it], []⟩)) _ _ s
  refine wpAny_bind (wpAny_newObj_type ?_)
  refine wpAny_pure ⟨plainId_quiet F.plain_list_iadd _, codeAny_builtin F.entry_list_iadd ?_⟩; rw [Around.under_plainId F.plain_list_iadd _]
  generalize hH : s.heap.push { cls := .type "list", data := .seq ([] : List Value).toArray } = H1
  have up : ∀ b o, s.heap.get? b = some o → H1.get? b = some o := fun b o e => by rw [← hH]; exact Heap.get?_push_of_some _ e
  have gS : H1.get? s.heap.objs.size = some { cls := .type "list", data := .seq ([] : List Value).toArray } := by rw [← hH]; exact Heap.get?_push_size _ rfl
  have hit1 : IsRt H1 it t ((items.size : Int) - 1) := hit.at fun o e => up _ o e
  have ht1 : IsTup H1 t items := by obtain ⟨o, o1, o2⟩ := ht; exact ⟨o, up _ o o1, o2⟩
  have hT : ({ s with heap := H1 } : Shared).TypeIs (.ref it) "reversed" := IsRt.typeIs (s := { s with heap := H1 }) hit1
  have h1 : Builtin.List.listSameRef (.ref s.heap.objs.size) (.ref it) = false := by simp [Builtin.List.listSameRef, ni]
  show wpAny _ A.in1 (Builtin.List.listExtendWith (.ref s.heap.objs.size) (.ref it) (.ref s.heap.objs.size)) _ _ _
  unfold Builtin.List.listExtendWith
  refine wpAny_bind (wpAny_typeOf hT ?_); rw [if_neg (by rw [h1]; decide)]
  refine wpAny_bind (iter_rt (s := { s with heap := H1 }) hit1 ?_)
  refine wpAny_bind (wpAny_holding ?_)
  unfold Builtin.List.listLengthHint
  refine wpAny_bind (wpAny_specialOf hT rt_nolen ?_)
  show wpAny _ A.in1 (specialOf (Value.ref it) (Str.ofString "__length_hint__") >>= _) _ _ _
  refine wpAny_bind (wpAny_specialOf hT rt_hint.lookup ?_)
  generalize hid : ("reversed.__length_hint__" : String) = id0
  wp_delta
  rw [show splitId id0 = some ("reversed", "__length_hint__") from by subst hid; decide +kernel]
  subst hid
  refine wpAny_bind (wpAny_isInstance (b := true) hT (by rw [isSubtype_type]; kernel_rfl) ?_)
  refine wpAny_bind (wpAny_rule ?_)
  refine wpAny_bind (wpAny_of_eq (rt_hint.bind _) ?_)
  refine wpAny_bind (wpAny_attempt (rt_hint_run (s := { s with heap := H1 }) hit1 ht1 h63 fun tk k => ?_))
  show wpAny _ _ (asInt? (Value.int ((items.size : Nat) : Int) k) >>= _) _ _ _
  have ea : asInt? (Value.int ((items.size : Nat) : Int) k) = pure (some ((items.size : Nat) : Int)) := rfl
  rw [ea]
  clear ea
  refine wpAny_bind ?_
  refine wpAny_pure (a := some ((items.size : Nat) : Int)) ?_
  have f1 : Builtin.List.listFitsIndex ((items.size : Nat) : Int) = true := by
    unfold Builtin.List.listFitsIndex
    rw [Bool.and_eq_true, decide_eq_true_eq, decide_eq_true_eq]
    exact ⟨by omega, h63⟩
  have f2 : Builtin.List.listTooLong ((items.size : Nat) : Int).toNat = false := by
    unfold Builtin.List.listTooLong
    rw [Int.toNat_natCast]
    exact decide_eq_false (by omega)
  show wpAny _ _ (if (!Builtin.List.listFitsIndex ((items.size : Nat) : Int)) = true then _ else _) _ _ _
  rw [if_neg (by rw [f1]; decide)]
  show wpAny _ _ (if ((items.size : Nat) : Int) < 0 then _ else _) _ _ _
  rw [if_neg (by omega)]
  show wpAny _ _ (if Builtin.List.listTooLong ((items.size : Nat) : Int).toNat = true then _ else _) _ _ _
  rw [if_neg (by rw [f2]; decide)]
  refine wpAny_pure ?_
  have last : ∀ (s' : Shared) (acc' : Array Value) (c' : Nat), Moved [s.heap.objs.size, it] (fun a b => b = a) { s with heap := H1, toks := tk } s' → s'.heap.get? s.heap.objs.size = some { cls := .type "list", dict := none, data := .seq acc' c', slots := #[] } → ItemsOf (fun i v => items[items.size - 1 - i]? = some v) acc' items.size →
      Q acc'.toList s' := fun s' acc' c' hm hS' hacc => by
    rw [Moved.eq_with hm]
    refine hQ s'.heap s'.toks acc' (fun b o hb e => hm.heap b o (fun hmem => ?_) (up b o e)) hacc
    rcases List.mem_cons.mp hmem with e' | hmem
    · exact absurd (Heap.lt_size e) (by rw [e']; exact Nat.lt_irrefl _)
    · exact hb (List.mem_singleton.mp hmem)
  by_cases z : items.size = 0
  · have n0 : ((((items.size : Nat) : Int) != 0) || false) = false := by rw [z]; rfl
    rw [if_neg (by show ¬ (((((items.size : Nat) : Int) != 0) || false) = true); rw [n0]; decide)]
    refine wpAny_pure ⟨plainId_quiet F.plain_extend_loop _, codeAny_extend_loopS W hn _ nf _ items.size 0 _ _ _ rfl (Nat.zero_le _) ⟨Nat.zero_le _, by rw [show ((items.size : Nat) : Int) - 1 - ((0 : Nat) : Int) = (items.size : Int) - 1 by omega]; exact hit1, ht1⟩ gS (ItemsOf.nil _) fun s' acc' c' hm hS' hacc => ?_⟩
    show wpAny _ A (load s.heap.objs.size >>= _) _ _ s'
    exact wpAny_bind (wpAny_load hS' (wpAny_pure (last s' acc' c' hm hS' hacc)))
  · have n0 : ((((items.size : Nat) : Int) != 0) || false) = true := by rw [Bool.or_false, bne_iff_ne]; omega
    rw [if_pos (by show (((((items.size : Nat) : Int) != 0) || false) = true); exact n0)]
    clear h63 f1 f2 n0
    refine wpAny_bind (wpAny_rule ?_)
    refine wpAny_bind ?_
    show wpAny _ A.in1 (updateSeq s.heap.objs.size (·.push .none) >>= fun _ => updateSeq s.heap.objs.size (·.pop)) _ _ _
    refine wpAny_bind (wpAny_updateSeq gS rfl ?_)
    have g2 := Heap.get?_update_self (Obj.mapSeq (·.push Value.none)) gS rfl
    refine wpAny_updateSeq g2 rfl ?_
    have g3 := Heap.get?_update_self (Obj.mapSeq (·.pop)) g2 rfl
    have oth : ∀ b o, b ≠ s.heap.objs.size → H1.get? b = some o → ((H1.update s.heap.objs.size (Obj.mapSeq (·.push Value.none))).update s.heap.objs.size (Obj.mapSeq (·.pop))).get? b = some o :=
      fun b o hb e => (Heap.get?_update_other _ _ (Ne.symm hb)).trans ((Heap.get?_update_other _ _ (Ne.symm hb)).trans e)
    have hit2 := hit1.at fun o e => oth it o (Ne.symm ni) e
    have ht2 : IsTup ((H1.update s.heap.objs.size (Obj.mapSeq (·.push Value.none))).update s.heap.objs.size (Obj.mapSeq (·.pop))) t items := by obtain ⟨o, o1, o2⟩ := ht1; exact ⟨o, oth t o (Ne.symm nl) o1, o2⟩
    refine wpAny_pure ⟨plainId_quiet F.plain_extend_loop _, codeAny_extend_loopS W hn _ nf _ items.size 0 _ _ _ rfl (Nat.zero_le _) ⟨Nat.zero_le _, by rw [show ((items.size : Nat) : Int) - 1 - ((0 : Nat) : Int) = (items.size : Int) - 1 by omega]; exact hit2, ht2⟩ g3 (ItemsOf.nil _) fun s' acc' c' hm hS' hacc => ?_⟩
    show wpAny _ A (load s.heap.objs.size >>= _) _ _ s'
    refine wpAny_bind (wpAny_load hS' (wpAny_pure (last s' acc' c' ?_ hS' hacc)))
    exact Moved.trans (wr := [s.heap.objs.size, it]) W.gtrans ((Moved.refl W.grefl : Moved [s.heap.objs.size, it] (fun a b => b = a) { s with heap := H1, toks := tk } { s with heap := H1, toks := tk }).then_heap (Nat.le_refl _) fun b o hb e => oth b o (fun z => hb (by rw [z]; exact List.mem_cons_self (l := [it]))) e) hm
theorem rt_tuple_code {it t : Addr} {items : Array Value} {Q₁ : Value → Shared → Prop} (hh : A.handled = none) (hit : IsRt s.heap it t ((items.size : Int) - 1)) (ht : IsTup s.heap t items) (hne : t ≠ it) (hn : items.size ≤ sizeLine)
    (hQ : ∀ (g : Heap) (tk : Nat) (acc : Array Value), (∀ b o, b ≠ it → s.heap.get? b = some o → g.get? b = some o) → ItemsOf (fun i v => items[items.size - 1 - i]? = some v) acc items.size →
      Q₁ (.ref g.objs.size) { s with heap := g.push { cls := .type "tuple", data := .seq acc }, toks := tk }) : codeAny (model prog w) A (.call (.builtin "tuple.__new__") ⟨[.type "tuple", .ref it], []⟩) (wants Q₁ E) s := by
  refine codeAny_of_tree ?_
  show wpAny _ A.in1 (do checkBuiltinCall "tuple.__new__" ⟨[.type "tuple", .ref it], []⟩; again (.builtin "tuple.__new__" ⟨[.type "tuple", .ref it], []⟩)) _ _ s
  refine wpAny_bind (wpAny_of_eq (F.newCall_tuple_1 _) (wpAny_pure ⟨plainId_quiet F.plain_tuple_new _, codeAny_builtin F.entry_tuple_new ?_⟩)); rw [Around.under_plainId F.plain_tuple_new _]
  have hsub := sub_tuple_self
  have hinit := init_tuple_lookup
  have hmh := madeHere_tuple
  have hTI : s.TypeIs (.ref it) "reversed" := hit.typeIs
  have hh1 : A.in1.handled = none := hh
  wp_walk using wpAny_typeOf hTI, rt_collect (A := A.in1) hh1 hit ht hne hn
  intro g tk acc hk hacc
  show wpAny _ _ (Builtin.Tuple.tupleExact acc.toList.toArray >>= fun v => ret v) _ _ _
  unfold Builtin.Tuple.tupleExact
  refine wpAny_bind (wpAny_newObj_type ?_ (by show acc.toList.toArray.size ≤ sizeLine; simp only [Array.toArray_toList]; rw [hacc.1]; exact hn))
  refine wpAny_pure ?_
  have e : acc.toList.toArray = acc := by simp
  rw [e]
  exact hQ g tk acc hk hacc
theorem rt_tuple {it t : Addr} {items : Array Value} {Q : Value → Shared → Prop} (hh : A.handled = none) (hit : IsRt s.heap it t ((items.size : Int) - 1)) (ht : IsTup s.heap t items) (hne : t ≠ it) (hn : items.size ≤ sizeLine)
    (hQ : ∀ (g : Heap) (tk : Nat) (acc : Array Value), (∀ b o, b ≠ it → s.heap.get? b = some o → g.get? b = some o) → ItemsOf (fun i v => items[items.size - 1 - i]? = some v) acc items.size →
      Q (.ref g.objs.size) { s with heap := g.push { cls := .type "tuple", data := .seq acc }, toks := tk }) : wpAny (model prog w) A (call (.type "tuple") [.ref it]) Q E s :=
  callType_codes (Q₁ := fun obj s₁ => s₁.TypeIs obj "tuple" ∧ Q obj s₁) F.called_tuple (F.typeCall_tuple_1 _) F.entry_object_init (rt_tuple_code (A := A.in1) hh hit ht hne hn fun g tk acc hk hacc => ⟨⟨_, Heap.get?_push_size _ rfl, rfl⟩, hQ g tk acc hk hacc⟩)
    fun obj s₁ h₁ => ⟨h₁.1, F.args_object_init_2 obj _, object_init_meets F.called_tuple.init.lookup F.called_tuple.made (by decide) prog w A.in1 _ s₁ ⟨h₁.1, rfl, h₁.2⟩⟩
end
def tTupRevT (K : PySem.W.Frag) (te : TE) : TE := fun σ H Q => te σ H fun v H1 => ∃ (a : Addr) (xs : List V), v = .ref a ∧ SqT K H1 a xs ∧ ∀ q, H1 q = none → Q (.ref q) (upd H1 q (.tup xs.reverse))
theorem pe_tupRevT {X : Cx} {e : Expr} {te : TE} {p p2 pos pos2 : Pos} (hc : X.calm = true) (hg : Gl X "tuple") (hm : X.mg "tuple" = none) (hg2 : Gl X "reversed") (hm2 : X.mg "reversed" = none) (he : PE X e te)
    (hs : starEach [e] X.env = (false, eval e X.env) :: starEach [] X.env := by rfl)
    (hs2 : starEach [.Call (.Name "reversed" p2) [e] [] pos2] X.env = (false, eval (.Call (.Name "reversed" p2) [e] [] pos2) X.env) :: starEach [] X.env := by rfl) :
    PE X (.Call (.Name "tuple" p) [.Call (.Name "reversed" p2) [e] [] pos2] [] pos) (tTupRevT X.K te) := by
  refine ⟨fun pins s σ H Q I h => Call_ (ld_blt I hg hm boot_tuple (PyProof.Rows.callWith_type1 (args_cons (Call_ (ld_blt I hg2 hm2 PyProof.Rows.boot_reversed (PyProof.Rows.callWith_type1 (args_cons (thn (he.run pins s σ H _ I h) fun u s1 ⟨v, H1, I1, r1, q1⟩ => args_nil ?_) hs) hs rfl))) hs2) hs2 rfl))⟩
  obtain ⟨a, xs, ev, hq, q⟩ := q1
  subst ev
  obtain rfl : u = Value.ref a := r1
  obtain ⟨its, rv, p', hz⟩ := I1.tuple hq
  have hn : its.toArray.size ≤ sizeLine := by rw [List.size_toArray, ← rv.length]; exact hz
  have h63 : (its.toArray.size : Int) < 2 ^ 63 := by have := hn; rw [sizeLine_eq] at this; omega
  have pt : IsTup s1.heap a its.toArray := p'
  refine call_reversed_tup pt (fun A E Q k => len_tuple pt h63 k) (args_nil ?_)
  generalize hG : s1.heap.push (rtObj a ((its.toArray.size : Int) - 1)) = G
  have up : ∀ b o, s1.heap.get? b = some o → G.get? b = some o := fun b o e => by rw [← hG]; exact Heap.get?_push_of_some _ e
  have I2 : Inv X pins σ H1 { s1 with heap := G, toks := s1.toks + 1 + 1 } := I1.kept (t' := s1.toks + 1 + 1) up
  obtain ⟨f0, f1, f2, f3, f4, f5⟩ := I1.fpOk (H' := H1) (b := s1.heap.objs.size) (Nat.le_refl _) (I1.hok.fresh (Nat.le_refl _))
  obtain ⟨ol, hol, or_⟩ := id pt
  have hne : a ≠ s1.heap.objs.size := Nat.ne_of_lt (Heap.lt_size hol)
  refine rt_tuple (s := { s1 with heap := G, toks := s1.toks + 1 + 1 }) (I1.ok.hd hc) ⟨_, by show G.get? s1.heap.objs.size = _; rw [← hG]; exact Heap.get?_push_size _ rfl, rfl, rfl⟩ ⟨ol, up _ _ hol, or_⟩ hne hn fun h' tk acc hk hi => ?_
  have I3 : Inv X pins σ H1 { s1 with heap := h', toks := tk } := I2.turned (t' := tk) (fun b o hb e => hk b o hb e) f0 f1 f3 f4 f5
  refine ⟨.ref h'.objs.size, upd H1 h'.objs.size (.tup xs.reverse), I3.laid (t' := tk) (fun c o e => Heap.get?_push_of_some _ e) (Nat.le_refl _) (show ObjOk X.prog X.w _ _ _ (.tup xs.reverse) from ⟨by rw [List.length_reverse]; exact hz, acc.toList, vals_rev rv hi, ?_⟩), rfl, q _ (I3.hok.fresh (Nat.le_refl _))⟩
  rw [Array.toArray_toList]
  exact IsTup.new _ _
end SD
namespace SD
open PySem L2
section
variable {X : Cx} {C : Ctx} {Φ : Fenv} {k : Nat} {r : Rec}
def MethOk (X : Cx) (m : Str) (okv : IV → Bool) (p : Prim) : Prop := ∃ T id, ∃ rr : V → List V → Hp → VK → Prop, PlainAttrs T ∧ Slot T m id ∧ typeOf (.builtin id) = pure (.type "method_descriptor") ∧ MtR X id rr ∧ TyOk X.K X.mg T okv ∧ ∀ x vs H Q, tPrim X.K X.mg p (x :: vs) H Q → rr x vs H Q
theorem methT_ok : ∀ q ∈ methT, MethOk X q.1.1 q.2.2.1 q.2.2.2 := by
  intro q hq
  simp only [methT, List.mem_cons, List.not_mem_nil, or_false] at hq
  rcases hq with rfl | rfl | rfl | rfl | rfl | rfl | rfl | rfl | rfl | rfl | rfl | rfl | rfl
  · exact ⟨_, _, _, PySem.F.plainAttrs_list, PySem.F.slot_list_append, PySem.F.type_list_append, mt_append, ty_list, fun _ _ _ _ z => ok_app z⟩
  · exact ⟨_, _, _, PySem.F.plainAttrs_list, PySem.F.slot_list_extend, PySem.F.type_list_extend, MtR.or mt_extend mt_extT, ty_list, fun _ _ _ _ z => ok_ext z⟩
  · exact ⟨_, _, _, PySem.F.plainAttrs_list, PySem.F.slot_list_insert, PySem.F.type_list_insert, mt_insert, ty_list, fun _ _ _ _ z => ok_ins z⟩
  · exact ⟨_, _, _, PySem.F.plainAttrs_list, PySem.F.slot_list_pop, PySem.F.type_list_pop, mt_pop, ty_list, fun _ _ _ _ z => ok_pop z⟩
  · exact ⟨_, _, _, PySem.F.plainAttrs_list, PySem.F.slot_list_pop, PySem.F.type_list_pop, mt_popAt, ty_list, fun _ _ _ _ z => ok_popAt z⟩
  · exact ⟨_, _, _, PySem.F.plainAttrs_list, PySem.F.slot_list_reverse, PySem.F.type_list_reverse, mt_reverse, ty_list, fun _ _ _ _ z => ok_rev z⟩
  · exact ⟨_, _, _, PySem.F.plainAttrs_list, PySem.F.slot_list_clear, PySem.F.type_list_clear, mt_clear, ty_list, fun _ _ _ _ z => ok_clr z⟩
  · exact ⟨_, _, _, PySem.F.plainAttrs_str, PySem.F.slot_str_join, PySem.F.type_str_join, mt_join, ty_str, fun _ _ _ _ z => ok_join z⟩
  · exact ⟨_, _, _, PySem.F.plainAttrs_str, PySem.F.slot_str_split, PySem.F.type_str_split, mt_split, ty_str, fun _ _ _ _ z => ok_split z⟩
  · exact ⟨_, _, _, PySem.F.plainAttrs_list, PySem.F.slot_list_remove, PySem.F.type_list_remove, mt_remove, ty_list, fun _ _ _ _ z => ok_rem z⟩
  · exact ⟨_, _, _, PySem.F.plainAttrs_list, PySem.F.slot_list_index, PySem.F.type_list_index, mt_index, ty_list, fun _ _ _ _ z => ok_index z⟩
  · exact ⟨_, _, _, PySem.F.plainAttrs_dict, PySem.F.slot_dict_get, PySem.F.type_dict_get, mt_get, ty_dct, fun _ _ _ _ z => ok_get z⟩
  · exact ⟨_, _, _, PySem.F.plainAttrs_list, PySem.F.slot_list_count, PySem.F.type_list_count, mt_countF, ty_list, fun _ _ _ _ z => ok_count z⟩
theorem methS_ok : ∀ q ∈ methS, MethOk X q.1.1 q.2.2.1 q.2.2.2 := by
  intro q hq
  simp only [methS, List.mem_cons, List.not_mem_nil, or_false] at hq
  subst hq
  exact ⟨_, _, _, PySem.F.plainAttrs_str, PySem.F.slot_str_index, PySem.F.type_str_index, mt_sindex, ty_str, fun _ _ _ _ z => ok_sindex z⟩
theorem methA_ok {b : Bool} : ∀ q ∈ (if b then methS else methT), MethOk X q.1.1 q.2.2.1 q.2.2.2 := by
  cases b
  · exact methT_ok
  · exact methS_ok
theorem cMeth_ok (ok : XOk X C Φ k) (hr : ∀ e d, r.e C e = some d → XE X Φ e d) {o : Expr} {m : Str} {es : List Expr} {d : Den} {ap pos : Pos} (h : cMeth r C o m es (ap.endLine == pos.line) = some d) : XE X Φ (.Call (.Attribute o m ap) es [] pos) d := by
  unfold cMeth at h
  split at h
  case isFalse => cases h
  case isTrue q =>
    obtain ⟨q, q4⟩ := Bool.and_eq_true_iff.mp q
    obtain ⟨q, q3⟩ := Bool.and_eq_true_iff.mp q
    obtain ⟨q1, q2⟩ := Bool.and_eq_true_iff.mp q
    split at h
    case h_2 =>
      split at h
      case isTrue => cases h
      case isFalse hh =>
        have hh : C.hot = false := by
          cases z : C.hot with
          | false => rfl
          | true => rw [z, Bool.or_true] at hh; exact absurd rfl hh
        obtain ⟨od, e1, h⟩ := Option.bind_eq_some_iff.mp h
        obtain ⟨ds, e2, h⟩ := Option.bind_eq_some_iff.mp h
        cases h
        refine xe_methI ok hh (fun w hw => ?_) (cO_ok ok hr e1) q1 q3 (cOs_ok ok hr e2) q2 (of_decide_eq_true q4)
        obtain ⟨p, hp, rfl⟩ := List.mem_map.mp hw
        obtain ⟨hp1, hp2⟩ := List.mem_filter.mp hp
        have hp2 : p.2.1 = m := eq_of_beq hp2
        subst hp2
        exact hp1
    case h_1 t e =>
    obtain ⟨od, e1, h⟩ := Option.bind_eq_some_iff.mp h
    obtain ⟨ds, e2, h⟩ := Option.bind_eq_some_iff.mp h
    cases h
    have ho := cO_ok ok hr e1
    have hs : XOs X Φ es ds := by
      split at e2
      · exact cFs_ok hr e2
      · exact cOs_ok ok hr e2
    unfold methP at e
    obtain ⟨w, e3, e⟩ := Option.bind_eq_some_iff.mp e
    cases e
    have hq := List.mem_of_find?_eq_some e3
    have hp := List.find?_some e3
    obtain ⟨h1, h2⟩ := Bool.and_eq_true_iff.mp hp
    have h1 := eq_of_beq h1
    subst h1
    obtain ⟨T, id, rr, m1, m2, m3, m4, m5, m6⟩ := methA_ok (X := X) w hq
    match es, hs with
    | [], hs => cases hs; exact xe_meth0 m1 m2 m3 m4 m5 m6 ho q1 q3
    | e :: es, hs => exact xe_meth m1 m2 m3 m4 m5 m6 ho q1 q3 hs q2 (of_decide_eq_true q4)
theorem slotsIn_names (ok : XOk X C Φ k) : ∀ {xs : List Str} {l : List Nat} {es : List Expr}, slotsIn C xs = some l → (List.length xs = es.length) → (∀ i (h : i < es.length), ∃ x p, xs[i]? = some x ∧ es[i] = .Name x p) → PGs X es (gNames l) ∧ l.length = es.length ∧ (assignEach es X.env).length = es.length ∧ (assignEach es X.env).findIdx? (·.1) = none
  | [], l, es, h, hl, _ => by
    cases h
    match es, hl with
    | [], _ => exact ⟨pgs_nil, rfl, rfl, rfl⟩
  | x :: xs, l, es, h, hl, hn => by
    unfold slotsIn at h
    split at h
    case isFalse => cases h
    case isTrue q =>
      obtain ⟨q1, q2⟩ := Bool.and_eq_true_iff.mp q
      obtain ⟨i, e1, h⟩ := Option.bind_eq_some_iff.mp h
      obtain ⟨l', e2, h⟩ := Option.bind_eq_some_iff.mp h
      cases h
      match es, hl with
      | e :: es, hl =>
        obtain ⟨x', p, z1, z2⟩ := hn 0 (by simp)
        cases z1
        have z2 : e = .Name x p := z2
        subst z2
        obtain ⟨a1, a2, a3, a4⟩ := slotsIn_names ok (es := es) e2 (by simpa using hl) fun j hj => by
          obtain ⟨x', p, z1, z2⟩ := hn (j + 1) (by simpa using hj)
          exact ⟨x', p, by simpa using z1, by simpa using z2⟩
        obtain ⟨g1, g2⟩ := ok.loc x q1
        refine ⟨pgs_cons (pg_name (by rw [ok.hN]; exact ok.nd) (by rw [ok.hN]; exact slotIn_ok e1) g1 g2) a1, by simp [a2], ?_, ?_⟩
        · show (assignEach es X.env).length + 1 = _
          rw [a3]; rfl
        · show List.findIdx? (·.1) ((false, _) :: assignEach es X.env) = none
          rw [List.findIdx?_cons]
          simp only [Bool.false_eq_true, if_false, a4, Option.map_none]
theorem tgtNames_tup : ∀ {es : List Expr} {xs : List Str}, es.foldr (fun e acc => match e with
    | .Name x _ => acc.bind fun l => some (x :: l)
    | _ => none) (some []) = some xs → xs.length = es.length ∧ ∀ i (h : i < es.length), ∃ x p, xs[i]? = some x ∧ es[i] = .Name x p
  | [], xs, h => by cases h; exact ⟨rfl, fun i h => by cases h⟩
  | e :: es, xs, h => by
    rw [List.foldr_cons] at h
    split at h
    case h_2 => cases h
    case h_1 x p =>
      obtain ⟨l, e1, h⟩ := Option.bind_eq_some_iff.mp h
      cases h
      obtain ⟨a, b⟩ := tgtNames_tup e1
      refine ⟨by simp [a], fun i hi => ?_⟩
      cases i with
      | zero => exact ⟨x, p, rfl, rfl⟩
      | succ i =>
        obtain ⟨x', p', z1, z2⟩ := b i (by simpa using hi)
        exact ⟨x', p', by simpa using z1, by simpa using z2⟩
theorem cTgt_ok (ok : XOk X C Φ k) {tg : Expr} {t : Tgt} (h : cTgt C tg = some t) : PG X tg (tgG X.K t) := by
  unfold cTgt at h
  split at h
  case h_1 x p =>
    obtain ⟨l, e1, h⟩ := Option.bind_eq_some_iff.mp h
    unfold slotsIn at e1
    split at e1
    case isFalse => cases e1
    case isTrue q =>
      obtain ⟨q1, q2⟩ := Bool.and_eq_true_iff.mp q
      obtain ⟨i, e2, e1⟩ := Option.bind_eq_some_iff.mp e1
      obtain ⟨l', e3, e1⟩ := Option.bind_eq_some_iff.mp e1
      cases e3
      cases e1
      cases h
      obtain ⟨g1, g2⟩ := ok.loc x q1
      exact pg_name (by rw [ok.hN]; exact ok.nd) (by rw [ok.hN]; exact slotIn_ok e2) g1 g2
  case h_2 x xp es n1 p1 n p =>
    split at h
    case isTrue => cases h
    case isFalse hh =>
    have hh : C.hot = false := by simpa using hh
    obtain ⟨l, e1, h⟩ := Option.bind_eq_some_iff.mp h
    obtain ⟨xs, e2, h⟩ := Option.bind_eq_some_iff.mp h
    obtain ⟨m, e3, h⟩ := Option.bind_eq_some_iff.mp h
    split at h
    case h_2 => cases h
    case h_1 i =>
      cases h
      unfold slotsIn at e1
      split at e1
      case isFalse => cases e1
      case isTrue q =>
        obtain ⟨q1, q2⟩ := Bool.and_eq_true_iff.mp q
        obtain ⟨i', e4, e1⟩ := Option.bind_eq_some_iff.mp e1
        obtain ⟨l', e5, e1⟩ := Option.bind_eq_some_iff.mp e1
        cases e5
        cases e1
        obtain ⟨g1, g2⟩ := ok.loc x q1
        obtain ⟨a, b⟩ := tgtNames_tup e2
        obtain ⟨c1, c2, c3, c4⟩ := slotsIn_names ok e3 a b
        have t2 : PG X (.Tuple es n1 p1) (gTup X.K m.length (gNames m)) := pg_tup (ok.calm hh) c1 (by rw [c3, c2]) c4
        have t1 := pg_name (X := X) (pos := xp) (by rw [ok.hN]; exact ok.nd) (by rw [ok.hN]; exact slotIn_ok e4) g1 g2
        exact pg_tup (ok.calm hh) (pgs_cons t1 (pgs_cons t2 pgs_nil))
  case h_3 es n p hne =>
    split at h
    case isTrue => cases h
    case isFalse hh =>
    have hh : C.hot = false := by simpa using hh
    obtain ⟨xs, e1, h⟩ := Option.bind_eq_some_iff.mp h
    obtain ⟨l, e2, h⟩ := Option.bind_eq_some_iff.mp h
    cases h
    obtain ⟨a, b⟩ := tgtNames_tup e1
    obtain ⟨c1, c2, c3, c4⟩ := slotsIn_names ok e2 a b
    exact pg_tup (ok.calm hh) c1 (by rw [c3, c2]) c4
  case h_4 => cases h
theorem PI.imp {tg it : Expr} {w w' : TI} (h : PI X tg it w) (hw : ∀ σ H R, w' σ H R → w σ H R) : PI X tg it w' := ⟨fun pins s σ H R I z => h.run pins s σ H R I (hw σ H R z)⟩
theorem pi_seq {tg it : Expr} {d : Den} (h : XE X Φ it d) : PI X tg it (tIt X.K X.mg Φ (itSeq d)) :=
  ⟨fun pins s σ H R I z => (tIt_Seq z).elim (fun z => (pi_list h).run pins s σ H R I z) fun z => z.elim (fun z => (pi_tup h).run pins s σ H R I z) fun z => (pi_str h).run pins s σ H R I z⟩
theorem blt_none (ok : XOk X C Φ k) {x : Str} (h : x ∈ bltNames) : X.mg x = none := ok.blt x h
theorem cIt_ok (ok : XOk X C Φ k) (hr : ∀ e d, r.e C e = some d → XE X Φ e d) {tg it : Expr} {d : IDen} (h : cIt r C tg it = some d) : PI X tg it (tIt X.K X.mg Φ d) := by
  have gen : ∀ it d, ((r.e C it).bind fun d => some (itSeq d)) = some d → PI X tg it (tIt X.K X.mg Φ d) := fun it d h => by
    obtain ⟨d', e1, h⟩ := Option.bind_eq_some_iff.mp h
    cases h
    exact pi_seq (hr it d' e1)
  have tp : isTup tg = true → ∃ es n p, tg = .Tuple es n p := fun h => by
    cases tg <;> first | exact ⟨_, _, _, rfl⟩ | cases h
  unfold cIt at h
  split at h
  case h_1 f fp a pos =>
    split at h
    case isTrue q =>
      subst q
      split at h
      case isFalse => cases h
      case isTrue q =>
        obtain ⟨q1, q2⟩ := Bool.and_eq_true_iff.mp q
        obtain ⟨d', e1, h⟩ := Option.bind_eq_some_iff.mp h
        cases h
        exact PI.imp (pi_range1 (gl_ok (by rw [ok.sc]; exact q1)) (blt_none ok (by decide +kernel)) (pa_cons (hr a d' e1) pa_nil (star_plain q2)) (star_plain q2)) fun _ _ _ => tIt_R1
    case isFalse =>
      split at h
      case isTrue q =>
        subst q
        split at h
        case isFalse => cases h
        case isTrue q =>
          obtain ⟨q, q3⟩ := Bool.and_eq_true_iff.mp q
          obtain ⟨q1, q2⟩ := Bool.and_eq_true_iff.mp q
          obtain ⟨d', e1, h⟩ := Option.bind_eq_some_iff.mp h
          cases h
          obtain ⟨es, n, p, rfl⟩ := tp q3
          exact PI.imp (pi_enumA (gl_ok (by rw [ok.sc]; exact q1)) (blt_none ok (by decide +kernel)) (pa_cons (hr a d' e1) pa_nil (star_plain q2)) (star_plain q2)) fun _ _ _ => tIt_Enum
      case isFalse =>
        split at h
        case isTrue q =>
          subst q
          split at h
          case isFalse => cases h
          case isTrue q =>
            obtain ⟨q1, q2⟩ := Bool.and_eq_true_iff.mp q
            obtain ⟨d', e1, h⟩ := Option.bind_eq_some_iff.mp h
            cases h
            exact PI.imp (RT.pi_revA (gl_ok (by rw [ok.sc]; exact q1)) (blt_none ok (by decide +kernel)) (hr a d' e1) (star_plain q2)) fun _ _ _ => tIt_Rev
        case isFalse => exact gen _ _ h
  case h_2 f fp a b pos =>
    split at h
    case isTrue q =>
      subst q
      split at h
      case isFalse => cases h
      case isTrue q =>
        obtain ⟨q, q3⟩ := Bool.and_eq_true_iff.mp q
        obtain ⟨q1, q2⟩ := Bool.and_eq_true_iff.mp q
        obtain ⟨d', e1, h⟩ := Option.bind_eq_some_iff.mp h
        obtain ⟨d2, e2, h⟩ := Option.bind_eq_some_iff.mp h
        cases h
        exact PI.imp (pi_range2 (gl_ok (by rw [ok.sc]; exact q1)) (blt_none ok (by decide +kernel)) (pa_cons (hr a d' e1) (pa_cons (hr b d2 e2) pa_nil (star_plain q3)) (star_plain q2)) (by rw [star_plain q2, star_plain q3]; rfl) (star_plain q3)) fun _ _ _ => tIt_R2
    case isFalse =>
      split at h
      case isTrue q =>
        subst q
        split at h
        case isFalse => cases h
        case isTrue q =>
          obtain ⟨q, q4⟩ := Bool.and_eq_true_iff.mp q
          obtain ⟨q, q3⟩ := Bool.and_eq_true_iff.mp q
          obtain ⟨q1, q2⟩ := Bool.and_eq_true_iff.mp q
          obtain ⟨d', e1, h⟩ := Option.bind_eq_some_iff.mp h
          obtain ⟨d2, e2, h⟩ := Option.bind_eq_some_iff.mp h
          cases h
          obtain ⟨es, n, p, rfl⟩ := tp q4
          exact PI.imp (pi_zipM (gl_ok (by rw [ok.sc]; exact q1)) (blt_none ok (by decide +kernel)) (pa_cons (hr a d' e1) (pa_cons (hr b d2 e2) pa_nil (star_plain q3)) (star_plain q2)) (star_plain q2) (star_any (es := [b]) (by simp [q3]))) fun _ _ _ => tIt_Zip
      case isFalse => exact gen _ _ h
  case h_3 => exact gen _ _ h
theorem blk_ok (ok : XOk X C Φ k) {scope : Scope} {s : Shared} {H : Hp} {cl : List (Str × Addr)} {A : Addr} {fp : List Addr} : XOk (X.blk s H scope (compEnvC scope cl A X.env) fp) (inBlk C scope) Φ k := by
  refine ⟨ok.hN, ok.nd, ?_, ok.calm, ok.room, ok.hd, ok.k2, ok.blt, ok.gl, ok.fns, ok.hts, ok.cls, ok.isi, ok.mts, fun x h => ?_, ok.lm, ok.fld, ok.mks, (fun z => nomatch z), ok.xcs, ok.xis, ok.xfs, ok.xps⟩
  · show relS scope X.env.scope = relS scope C.sc
    rw [ok.sc]
  · show Loc (relS scope X.env.scope) x ∧ ((scope.names.lookup x == some .cell) = true ∨ (relS scope X.env.scope).names.lookup x = some .local)
    rw [ok.sc]
    have h : locB scope C.sc x = true := h
    unfold locB at h
    split at h
    case h_1 e => exact ⟨.inl e, .inr e⟩
    case h_2 e =>
      refine ⟨.inr e, .inl ?_⟩
      split at h
      case h_1 e2 => rw [e2]; rfl
      case h_2 => cases h
    case h_3 => cases h
structure CompOk (X : Cx) (Φ : Fenv) (elt tg iter : Expr) (ifs : List Expr) (scope : Scope) (own : List (Str × Nat)) (I : TI) (t : Tgt) (tt : TDen) (el : Den) (d : Den) : Prop where
  hi : PI X tg iter I
  ok : BlkOk X.N X.env.scope scope own
  hg : ∀ (s : Shared) (H : Hp) (A : Addr) (cl : List (Str × Addr)) (fp : List Addr), PG (X.blk s H scope (compEnvC scope cl A X.env) fp) tg (tgG X.K t)
  ht : ∀ (s : Shared) (H : Hp) (A : Addr) (cl : List (Str × Addr)) (fp : List Addr), PTs (X.blk s H scope (compEnvC scope cl A X.env) fp) ifs (tT X.K X.mg Φ tt)
  he : ∀ (s : Shared) (H : Hp) (A : Addr) (cl : List (Str × Addr)) (fp : List Addr), PE (X.blk s H scope (compEnvC scope cl A X.env) fp) elt (tE X.K X.mg Φ el)
  pl : plainE iter = true
  imp : ∀ {σ : L2.St} {H : Hp} {Q : VK}, tE X.K X.mg Φ d σ H Q → tLc I (tgG X.K t) (tT X.K X.mg Φ tt) (tE X.K X.mg Φ el) (own.map (·.2)) σ H Q
theorem cTests_ok (ht : ∀ e d, r.t C e = some d → XT X Φ e d) {ifs : List Expr} {d : TDen} (h : cTests r C ifs = some d) : PTs X ifs (tT X.K X.mg Φ d) := by
  unfold cTests at h
  split at h
  case h_1 => cases h; exact ⟨fun pins s σ H Q I z => pts_nil.run pins s σ H Q I (tT_Yes z)⟩
  case h_2 c => exact pts_one (ht c d h)
  case h_3 => cases h
theorem nameSlot_ok {C : Ctx} {e : Expr} {i : Nat} (h : nameSlot C e = some i) : ∃ x p, e = .Name x p ∧ (goodName x && isVis C.sc x) = true ∧ slotIn C.N x = some i := by
  unfold nameSlot at h
  split at h
  · split at h
    · rename_i x p q
      exact ⟨x, p, rfl, q, h⟩
    · cases h
  · cases h
theorem cComp_parts (ok : XOk X C Φ k) (R : RecOk Φ k r) {elt tg iter : Expr} {ifs : List Expr} {scope : Scope} {d : Den} (h : cComp r C elt tg iter ifs scope = some d) :
    C.hot = false ∧ ∃ own I t tt el, CompOk X Φ elt tg iter ifs scope own I t tt el d := by
  unfold cComp at h
  obtain ⟨own, e1, h⟩ := Option.bind_eq_some_iff.mp h
  split at h
  case isTrue => cases h
  case isFalse hh =>
  have hh : C.hot = false := by simpa using hh
  split at h
  case isFalse => cases h
  case isTrue q =>
    obtain ⟨q1, q2⟩ := Bool.and_eq_true_iff.mp q
    split at h
    case isTrue qb =>
      obtain ⟨i, e2, h⟩ := Option.bind_eq_some_iff.mp h
      obtain ⟨t, e3, h⟩ := Option.bind_eq_some_iff.mp h
      obtain ⟨tt, e4, h⟩ := Option.bind_eq_some_iff.mp h
      obtain ⟨el, e5, h⟩ := Option.bind_eq_some_iff.mp h
      cases h
      obtain ⟨x, p, rfl, q3, e2⟩ := nameSlot_ok e2
      obtain ⟨q4, q5⟩ := Bool.and_eq_true_iff.mp q3
      obtain ⟨n1, n2, n3⟩ := good_ok q4
      have hv := pe_var (X := X) (i := i) (pos := p) (by rw [ok.hN]; exact slotIn_ok e2) (by rw [ok.sc]; exact vis_ok q5) n1 n2
      refine ⟨hh, own, _, t, tt, el, pi_list hv, ?_, fun s H A cl fp => ?_, fun s H A cl fp => ?_, fun s H A cl fp => ?_, q2, tE_CompO⟩
      · rw [ok.hN, ok.sc]; exact blkOk_by q1
      · exact cTgt_ok (blk_ok ok) e3
      · exact cTests_ok (R _ _ (blk_ok ok)).2 e4
      · exact (R _ _ (blk_ok ok)).1 _ _ e5
    case isFalse =>
    obtain ⟨it, e2, h⟩ := Option.bind_eq_some_iff.mp h
    obtain ⟨t, e3, h⟩ := Option.bind_eq_some_iff.mp h
    obtain ⟨tt, e4, h⟩ := Option.bind_eq_some_iff.mp h
    obtain ⟨el, e5, h⟩ := Option.bind_eq_some_iff.mp h
    cases h
    refine ⟨hh, own, _, t, tt, el, cIt_ok ok (R X C ok).1 e2, ?_, fun s H A cl fp => ?_, fun s H A cl fp => ?_, fun s H A cl fp => ?_, q2, tE_Comp⟩
    · rw [ok.hN, ok.sc]; exact blkOk_by q1
    · exact cTgt_ok (blk_ok ok) e3
    · exact cTests_ok (R _ _ (blk_ok ok)).2 e4
    · exact (R _ _ (blk_ok ok)).1 _ _ e5
theorem cComp_ok (ok : XOk X C Φ k) (R : RecOk Φ k r) {elt tg iter : Expr} {ifs : List Expr} {scope : Scope} {d : Den} {pos : Pos} (h : cComp r C elt tg iter ifs scope = some d) : XE X Φ (.ListComp elt [⟨tg, iter, ifs, 0⟩] scope pos) d := by
  obtain ⟨hh, own, it, t, tt, el, c⟩ := cComp_parts ok R h
  exact PE.imp (pe_lc (ok.calm hh) (by rw [ok.hN]; exact ok.nd) c.hi c.ok c.hg c.ht c.he (folded_plain c.pl)) fun _ _ _ => c.imp
theorem ok_neg {K : Fg} {mg : MG} {x : V} {H : Hp} {Q : VK} (h : tPrim K mg (p1 negIV) [x] H Q) : rU (fun i => .int (-i)) x H Q := by
  obtain ⟨F, a, fp, res, v, e, st, o1, f, c⟩ := prim1 h
  cases e
  obtain ⟨i, g, f⟩ := Option.bind_eq_some_iff.mp f
  cases f
  exact ⟨i, asI_ok o1 g, Cont.data st c (.int _)⟩
theorem cMethF_ok (ok : XOk X C Φ k) (hr : ∀ e d, r.e C e = some d → XE X Φ e d) {o : Expr} {m : Str} {es : List Expr} {d : Den} {ap pos : Pos} (h : cMethF r C o m es (ap.endLine == pos.line) = some d) : XE X Φ (.Call (.Attribute o m ap) es [] pos) d := by
  unfold cMethF at h
  split at h
  case h_1 x p f fp e =>
    split at h
    case isFalse => cases h
    case isTrue q =>
      obtain ⟨q, q5⟩ := Bool.and_eq_true_iff.mp q
      obtain ⟨q, q4⟩ := Bool.and_eq_true_iff.mp q
      obtain ⟨q, q3⟩ := Bool.and_eq_true_iff.mp q
      obtain ⟨q1, q2⟩ := Bool.and_eq_true_iff.mp q
      have q1 : m = "append" := eq_of_beq q1
      subst q1
      obtain ⟨i, e1, h⟩ := Option.bind_eq_some_iff.mp h
      obtain ⟨d', e2, h⟩ := Option.bind_eq_some_iff.mp h
      cases h
      obtain ⟨n1, n2, n3⟩ := good_ok q2
      exact xe_appF ok (pe_var (i := i) (by rw [ok.hN]; exact slotIn_ok e1) (by rw [ok.sc]; exact vis_ok q3) n1 n2) rfl (hr e d' e2) q4 q5
  case h_2 => cases h
theorem rg_eq {n : Int} (h : 0 ≤ n) {K : Fg} {mg : MG} {F : Hp} : Rps K mg F (rgV 0 n) (rangeD 0 n.toNat) := by
  have key : ∀ l : List Nat, Rps K mg F (l.map fun i => V.int (0 + (i : Nat))) (l.map fun (k : Nat) => D.int (0 + k)) := fun l => by
    induction l with
    | nil => exact .nil
    | cons a l ih => exact .cons (.int _) ih
  unfold rgV rangeD
  rw [Int.sub_zero]
  exact key _
theorem strs_rp {K : Fg} {mg : MG} {F : Hp} : ∀ {xs : List D} {vs : List V} {zs : List Str}, Rps K mg F vs xs → strsOf xs = some zs → vs = zs.map V.str
  | [], _, _, .nil, h => by cases h; rfl
  | .str s :: xs, _, _, .cons r rs, h => by
    obtain ⟨l, e1, e⟩ := Option.bind_eq_some_iff.mp h
    cases e
    rw [strs_rp rs e1]
    cases r
    rfl
theorem cRg_ok (ok : XOk X C Φ k) (hr : ∀ e d, r.e C e = some d → XE X Φ e d) {f : Str} {es : List Expr} {d : Den} {fp pos : Pos} (h : cRg r C f es = some d) : XE X Φ (.Call (.Name f fp) es [] pos) d := by
  unfold cRg at h
  split at h
  case isTrue => cases h
  case isFalse hh =>
  have hh : C.hot = false := by simpa using hh
  split at h
  case h_2 => cases h
  case h_1 g gp a cp =>
    split at h
    case isFalse =>
      split at h
      case isFalse =>
        split at h
        case isFalse => cases h
        case isTrue q =>
          obtain ⟨q, w⟩ := Bool.and_eq_true_iff.mp q
          obtain ⟨q, q3⟩ := Bool.and_eq_true_iff.mp q
          obtain ⟨q1, q2⟩ := Bool.and_eq_true_iff.mp q
          obtain ⟨w1, w2⟩ := Bool.and_eq_true_iff.mp w
          have q1 : g = "set" := eq_of_beq q1
          have w1 : f = "len" := eq_of_beq w1
          subst q1 w1
          obtain ⟨d', e1, h⟩ := Option.bind_eq_some_iff.mp h
          cases h
          refine PE.imp (pe_lenSets (ok.calm hh) (gl_ok (by rw [ok.sc]; exact w2)) (blt_none ok (by decide +kernel)) (gl_ok (by rw [ok.sc]; exact q2)) (blt_none ok (by decide +kernel)) (hr a d' e1) (star_plain q3)) fun σ H Q w => ?_
          obtain ⟨F, env, fp, iv, env', st, e, c⟩ := w
          unfold dLenSet at e
          obtain ⟨⟨iv1, env1⟩, e2, e⟩ := Option.bind_eq_some_iff.mp e
          simp only at e
          split at e
          case h_3 => cases e
          case h_1 xs =>
            obtain ⟨zs, e3, e⟩ := Option.bind_eq_some_iff.mp e
            split at e
            case isFalse => cases e
            case isTrue hn =>
              cases e
              refine fz_then st e2 fun v H1 F1 fp1 st1 p1 t => ?_
              cases t with
              | tup h1 h2 =>
                have h3 := strs_rp h2 e3
                subst h3
                exact ⟨_, zs, rfl, .inr (Same.sqt st1.ex h1), hn, c _ _ _ _ _ st1 p1 (.ofD (.int _))⟩
          case h_2 xs =>
            obtain ⟨zs, e3, e⟩ := Option.bind_eq_some_iff.mp e
            split at e
            case isFalse => cases e
            case isTrue hn =>
              cases e
              refine fz_then st e2 fun v H1 F1 fp1 st1 p1 t => ?_
              cases t with
              | lst h1 h2 =>
                have h3 := strs_rp h2 e3
                subst h3
                exact ⟨_, zs, rfl, .inl (Same.sql st1.ex h1), hn, c _ _ _ _ _ st1 p1 (.ofD (.int _))⟩
      case isTrue q =>
        obtain ⟨q, w⟩ := Bool.and_eq_true_iff.mp q
        obtain ⟨q, q3⟩ := Bool.and_eq_true_iff.mp q
        obtain ⟨q1, q2⟩ := Bool.and_eq_true_iff.mp q
        obtain ⟨w1, w2⟩ := Bool.and_eq_true_iff.mp w
        have q1 : g = "reversed" := eq_of_beq q1
        have w1 : f = "tuple" := eq_of_beq w1
        subst q1 w1
        obtain ⟨d', e1, h⟩ := Option.bind_eq_some_iff.mp h
        cases h
        refine PE.imp (pe_tupRevT (ok.calm hh) (gl_ok (by rw [ok.sc]; exact w2)) (blt_none ok (by decide +kernel)) (gl_ok (by rw [ok.sc]; exact q2)) (blt_none ok (by decide +kernel)) (hr a d' e1) (star_plain q3) (star_plain rfl)) fun σ H Q w => ?_
        obtain ⟨F, env, fp, iv, env', st, e, c⟩ := w
        unfold dTupRv at e
        obtain ⟨⟨iv1, env1⟩, e2, e⟩ := Option.bind_eq_some_iff.mp e
        simp only at e
        split at e
        case h_2 => cases e
        case h_1 xs =>
          cases e
          refine fz_then st e2 fun v H1 F1 fp1 st1 p1 t => ?_
          cases t with
          | tup h1 h2 =>
            refine ⟨_, _, rfl, Same.sqt st1.ex h1, fun q hq => ?_⟩
            obtain ⟨st2, p2⟩ := StOk.alloc (o := .tup _) st1 hq
            exact c _ _ _ _ _ st2 (p1.trans p2) (.ofD (.tup (.inl (.inl upd_same)) (Rps.rev (Rps.mono p2.p.fF _ _ h2))))
    case isTrue q =>
      obtain ⟨q, q3⟩ := Bool.and_eq_true_iff.mp q
      obtain ⟨q1, q2⟩ := Bool.and_eq_true_iff.mp q
      have q1 : g = "range" := eq_of_beq q1
      subst q1
      split at h
      case isTrue w =>
        obtain ⟨w1, w2⟩ := Bool.and_eq_true_iff.mp w
        have w1 : f = "tuple" := eq_of_beq w1
        subst w1
        obtain ⟨d', e1, h⟩ := Option.bind_eq_some_iff.mp h
        cases h
        refine PE.imp (pe_tupRg (ok.calm hh) (gl_ok (by rw [ok.sc]; exact w2)) (blt_none ok (by decide +kernel)) (prg_1 (gl_ok (by rw [ok.sc]; exact q2)) (blt_none ok (by decide +kernel)) (hr a d' e1) (star_plain q3)) (star_plain rfl)) fun σ H Q w => ?_
        obtain ⟨F, env, fp, iv, env', st, e, c⟩ := w
        unfold dTupRg at e
        obtain ⟨⟨iv1, env1⟩, e2, e⟩ := Option.bind_eq_some_iff.mp e
        obtain ⟨n, e3, e⟩ := Option.bind_eq_some_iff.mp e
        split at e
        case isFalse => cases e
        case isTrue hn =>
          cases e
          refine ⟨F, env, fp, iv1, _, st, e2, fun v H1 F1 fp1 S st1 p1 t => ⟨n, int_of t e3, RgOk.of_le (by omega) (by omega) (by omega) hn.1, fun q hq => ?_⟩⟩
          obtain ⟨st2, p2⟩ := StOk.alloc (o := .tup (rgV 0 n)) st1 hq
          exact c _ _ _ _ _ st2 (p1.trans p2) (.ofD (.tup (.inl (.inl upd_same)) (rg_eq hn.1)))
      case isFalse =>
        split at h
        case isFalse => cases h
        case isTrue w =>
          obtain ⟨w1, w2⟩ := Bool.and_eq_true_iff.mp w
          have w1 : f = "list" := eq_of_beq w1
          subst w1
          obtain ⟨d', e1, h⟩ := Option.bind_eq_some_iff.mp h
          cases h
          refine PE.imp (pe_listRg (ok.calm hh) (gl_ok (by rw [ok.sc]; exact w2)) (blt_none ok (by decide +kernel)) (prg_1 (gl_ok (by rw [ok.sc]; exact q2)) (blt_none ok (by decide +kernel)) (hr a d' e1) (star_plain q3)) (star_plain rfl)) fun σ H Q w => ?_
          obtain ⟨F, env, fp, iv, env', st, e, c⟩ := w
          unfold dLstRg at e
          obtain ⟨⟨iv1, env1⟩, e2, e⟩ := Option.bind_eq_some_iff.mp e
          obtain ⟨n, e3, e⟩ := Option.bind_eq_some_iff.mp e
          split at e
          case isFalse => cases e
          case isTrue hn =>
            cases e
            refine ⟨F, env, fp, iv1, _, st, e2, fun v H1 F1 fp1 S st1 p1 t => ⟨n, int_of t e3, RgOk.of_le (by omega) (by omega) (by omega) hn.1, fun q hq => ?_⟩⟩
            obtain ⟨st2, p2⟩ := StOk.allocO (o := .lst (rgV 0 n)) st1 hq
            exact c _ _ _ _ (fun b => b = q) st2 (p1.trans p2) ⟨⟨q, _, rfl, upd_same, rg_eq hn.1, fun b => Iff.rfl⟩, fun b hb => by
              subst hb
              exact ⟨p1.p.fresh _ hq, st1.ex.free hq⟩⟩
theorem stepE_ok (ok : XOk X C Φ k) (R : RecOk Φ k r) {e : Expr} {d : Den} (h : stepE r C e = some d) : XE X Φ e d := by
  obtain ⟨hr, ht⟩ := R X C ok
  unfold stepE at h
  split at h
  case h_1 c kd pos =>
    obtain ⟨x, e1, h⟩ := Option.bind_eq_some_iff.mp h
    cases h
    cases c with
    | none => cases e1; exact PE.imp pe_non fun _ _ _ => tE_C fun _ => .non
    | bool b => cases e1; exact PE.imp pe_bl fun _ _ _ => tE_C fun _ => .bl _
    | int i => cases e1; exact PE.imp pe_int fun _ _ _ => tE_C fun _ => .int _
    | str s =>
      have e1 : (if sOkB s then some (SD.D.str s) else none) = some x := e1
      split at e1
      case isFalse => cases e1
      case isTrue q => cases e1; exact PE.imp pe_str fun _ _ _ => tE_C fun _ => .str _ (sOkB_ok q)
    | _ => cases e1
  case h_2 x pos => exact cName_ok ok h
  case h_3 a op b pos => exact cBin_ok ok hr h
  case h_4 a pos =>
    obtain ⟨d', e1, h⟩ := Option.bind_eq_some_iff.mp h
    cases h
    exact PE.imp (pe_un un_neg (cO_ok ok hr e1)) fun σ H Q w => one_arg (fun x H Q z => ok_neg z) w
  case h_5 a pos =>
    obtain ⟨d', e1, h⟩ := Option.bind_eq_some_iff.mp h
    cases h
    exact PE.imp (pe_not (hr a d' e1)) fun _ _ _ => tE_Not
  case h_6 op vs pos => exact cBool_ok hr h
  case h_7 a ops bs pos => exact (cCmp_ok ok hr h).1
  case h_8 t a b pos =>
    obtain ⟨dt, e1, h⟩ := Option.bind_eq_some_iff.mp h
    obtain ⟨da, e2, h⟩ := Option.bind_eq_some_iff.mp h
    obtain ⟨db, e3, h⟩ := Option.bind_eq_some_iff.mp h
    cases h
    exact PE.imp (pe_ifExp (ht t dt e1) (hr a da e2) (hr b db e3)) fun _ _ _ => tE_If
  case h_9 a i pos => exact cSub_ok ok hr h
  case h_10 es n pos =>
    split at h
    case isFalse => cases h
    case isTrue q =>
      obtain ⟨ds, e1, h⟩ := Option.bind_eq_some_iff.mp h
      cases h
      exact xe_tup (cFs_ok hr e1) q
  case h_11 es pos =>
    split at h
    case isFalse => cases h
    case isTrue q =>
      obtain ⟨ds, e1, h⟩ := Option.bind_eq_some_iff.mp h
      cases h
      exact xe_lst (cFs_ok hr e1) q
  case h_12 f fp es pos =>
    cases e : cCall r C f es with
    | some z => rw [e] at h; cases h; exact cCall_ok ok hr e
    | none => rw [e] at h; exact cRg_ok ok hr h
  case h_13 o m ap es pos =>
    cases e : cMethF r C o m es (ap.endLine == pos.line) with
    | some z => rw [e] at h; cases h; exact cMethF_ok ok hr e
    | none => rw [e] at h; exact cMeth_ok ok hr h
  case h_14 elt tg iter ifs scope pos => exact cComp_ok ok R h
  case h_15 f fp a kw kd kp kp2 pos =>
    split at h
    case isFalse => cases h
    case isTrue q =>
      obtain ⟨d', e1, h⟩ := Option.bind_eq_some_iff.mp h
      cases h
      obtain ⟨q, q4⟩ := Bool.and_eq_true_iff.mp q
      obtain ⟨q, q3⟩ := Bool.and_eq_true_iff.mp q
      obtain ⟨q1, q2⟩ := Bool.and_eq_true_iff.mp q
      have q1 : f = "sorted" := eq_of_beq q1
      have q2 : kw = "reverse" := eq_of_beq q2
      subst q1 q2
      have pa : PA X [a] (tArgs [tO X.K X.mg Φ d']) := pa_cons (cO_ok ok hr e1) pa_nil (star_plain q4)
      refine PE.imp (pe_callBK (cr_sortedRev (b := true)) (gl_ok (by rw [ok.sc]; exact q3)) (ok.blt _ (by decide +kernel)) (by decide +kernel) pa (pk_cons pe_bl pk_nil) (by decide) (by decide) (by rw [star_plain q4]; rfl) (star_any (es := [a]) (by simp [q4]))) fun σ H Q w => ?_
      have z : tArgs [tO X.K X.mg Φ d'] σ H fun vs H1 => tPrim X.K X.mg (p1 sortRIV) vs H1 Q := prim_args w
      exact tO.imp (Φ := Φ) z fun x H1 z1 => ok_sortR z1
  case h_16 ps b sc pos =>
    split at h
    case isFalse => cases h
    case isTrue q =>
      cases h
      obtain ⟨q, q3⟩ := Bool.and_eq_true_iff.mp q
      obtain ⟨q1, q2⟩ := Bool.and_eq_true_iff.mp q
      exact xe_lam ok q1 q2 q3
  case h_17 o f pos =>
    split at h
    case isFalse => cases h
    case isTrue q =>
      obtain ⟨d', e1, h⟩ := Option.bind_eq_some_iff.mp h
      split at h
      case isTrue =>
        cases h
        exact xe_xn ok (cO_ok ok hr e1) q
      case isFalse =>
        cases h
        exact xe_fld ok (cO_ok ok hr e1) q
  case h_18 => cases h; exact PE.imp pe_dnewK fun _ _ _ => tE_Dct
  case h_19 => cases h
theorem tV_ok {e : Expr} {d : Den} (h : XE X Φ e d) (he : ∀ whole, isTrue e X.env whole = (do let v ← whole; standAt e.pos; holding [v] (truthy v))) : XT X Φ e (tdV d) :=
  PT.imp (pt_val h he) fun _ _ _ => tT_V
theorem stepT_ok (ok : XOk X C Φ k) (R : RecOk Φ k r) {e : Expr} {d : TDen} (h : stepT r C e = some d) : XT X Φ e d := by
  obtain ⟨hr, ht⟩ := R X C ok
  unfold stepT at h
  split at h
  case h_1 op vs pos => exact (cBoolT_ok ht h).pt
  case h_2 a pos =>
    obtain ⟨d', e1, h⟩ := Option.bind_eq_some_iff.mp h
    cases h
    exact PT.imp (pt_not (ht a d' e1)) fun _ _ _ => tT_Not
  case h_3 a ops bs pos =>
    obtain ⟨d', e1, h⟩ := Option.bind_eq_some_iff.mp h
    cases h
    exact (cCmp_ok ok hr e1).2
  case h_9 => cases h
  all_goals
    obtain ⟨d', e1, h⟩ := Option.bind_eq_some_iff.mp h
    cases h
    exact tV_ok (hr _ d' e1) (by intro _; rfl)
theorem recN_ok : ∀ n, RecOk Φ k (recN n)
  | 0 => fun X C ok => ⟨(fun e d h => nomatch h), (fun e d h => nomatch h)⟩
  | n + 1 => fun X C ok => ⟨fun e d h => stepE_ok ok (recN_ok n) h, fun e d h => stepT_ok ok (recN_ok n) h⟩
end
end SD
namespace SD
open PySem L2
/-- a statement that is not read: nothing is told of it -/
def sNone : SDen := fun _ _ _ => none
def cSs (f : Stmt → Option SDen) : List Stmt → Option SDen
  | [] => some sSkip
  | s :: ss => (cSs f ss).bind fun b => some (sSeq ((f s).getD sNone) b)
def isTupE : Expr → Bool
  | .Tuple _ _ _ => true
  | _ => false
def cRet (r : Rec) (C : Ctx) (e : Expr) : Option SDen := match e with
  | .Name x _ => if goodName x && isVis C.sc x then (slotIn C.N x).bind fun i => some (sRetNm i) else (r.e C e).bind fun d => some (sRet d)
  | _ => (r.e C e).bind fun d => some (sRet d)
def cAsg (r : Rec) (C : Ctx) (tg e : Expr) : Option SDen := match tg with
  | .Name x _ => if C.loc x && goodName x then (slotIn C.N x).bind fun i => (r.e C e).bind fun d => some (sSet i d) else none
  | .Tuple _ _ _ => if notComp e && !isTupE e then (cTgt C tg).bind fun t => (r.e C e).bind fun d => match t with
    | .tp is => some (sSetT is d)
    | _ => none else none
  | .Subscript o i _ => if notComp e && plainE i then (r.e C e).bind fun d => (cO r C o).bind fun od => (cO r C i).bind fun ix => some (sEx (dPrim setP [oV (dFz d), od, ix])) else none
  | .Attribute o f _ => if notComp e && notCall0 o then (r.e C e).bind fun d => (cO r C o).bind fun od => some (sEx (dPrim (pSetF C.fl f) [oV (dFz d), od])) else none
  | _ => none
def stepS (r : Rec) (f : Stmt → Option SDen) (C : Ctx) : Stmt → Option SDen
  | .Pass _ => some sSkip
  | .Break _ => some sBk
  | .Continue _ => some sCt
  | .Expr e _ => if notComp e then (r.e C e).bind fun d => some (sEx d) else none
  | .Return none _ => some sRetN
  | .Return (some e) _ => cRet r C e
  | .Assign [tg] e _ => cAsg r C tg e
  | .If t a b _ => (r.t C t).bind fun dt => (cSs f a).bind fun da => (cSs f b).bind fun db => some (sIf dt da db)
  | .For tg it body [] _ => if C.hot then none else if C.bor && isNameE it then (nameSlot C it).bind fun i => (cTgt C tg).bind fun t => (cSs f body).bind fun db => some (sForO i t db) else if plainE it then (cIt r C tg it).bind fun di => (cTgt C tg).bind fun t => (cSs f body).bind fun db => some (sFor di t db) else none
  | .While t body [] _ => if C.hot then none else (r.t C t).bind fun dt => (cSs f body).bind fun db => some (sWhile dt db)
  | _ => none
def sOrX (x : XDen) (s : SDen) : SDen := fun Φ lk env => match x Φ env with
  | some ((c, g, y), env') => some (.ex c g y, env')
  | none => s Φ lk env
/-- what is called first, where it raises -/
def cX (r : Rec) (C : Ctx) : Nat → Expr → Option XDen
  | 0, _ => none
  | n + 1, e => match e with
    | .Call (.Name f _) es [] _ => if C.fs.contains f && C.rz.contains f && goodName f && isGl C.sc f && es.all plainE && !es.isEmpty then (cOs r C es).bind fun ds => some (fun Φ env => xRz (Φ (keyX f)) ds Φ env) else none
    | .Subscript a i _ => if plainE i then (cO r C i).bind fun _ => cX r C n a else none
    | .Compare a [op] [b] _ => if plainE b then (cmpP op).bind fun _ => (cO r C b).bind fun _ => cX r C n a else none
    | _ => none
def cXS (r : Rec) (C : Ctx) : Stmt → Option XDen
  | .Expr e _ => if notComp e then cX r C 9 e else none
  | .Assign [.Name x _] e _ => if C.loc x && goodName x && notComp e then (slotIn C.N x).bind fun _ => cX r C 9 e else none
  | .Return (some e) _ => cX r C 9 e
  | .If (.Compare a [op] [b] _) _ _ _ => if plainE b then (cmpP op).bind fun _ => (cO r C b).bind fun _ => cX r C 9 a else none
  | _ => none
def sRaiseP (c : Str) (d : Den) : SDen := fun Φ _ env => (d Φ env).bind fun r => some (.ex c Str.empty .non, r.2)
def sRaiseF (c g : Str) (d : Den) : SDen := fun Φ _ env => (d Φ env).bind fun r => match r.1 with
  | .d x => some (.ex c g x, r.2)
  | _ => none
def cRaise (r : Rec) (C : Ctx) (c : Str) (e : Expr) : Option SDen := if goodName c && isGl C.sc c && plainE e then (r.e C e).bind fun d =>
    if C.xp.contains c then some (sRaiseP c d) else (C.xf.lookup c).bind fun g => some (sRaiseF c g (dFz d)) else none
def noEx : Fl × Env → Option (Fl × Env)
  | (.ex _ _ _, _) => none
  | q => some q
def sTry (xs : List (Str × List Str)) (x : Str) (i : Option Nat) (b s : SDen) : SDen := fun Φ lk env => (b Φ lk env).bind fun r => match r.1 with
  | .ex c g y => (xs.lookup c).bind fun sup => if sup.contains x then (match i with
      | some i => if lk i then none else (s Φ lk (r.2.set i (some (.d (.exc c g y))))).bind fun q => noEx (q.1, q.2.set i none)
      | none => (s Φ lk r.2).bind noEx) else some (.ex c g y, r.2)
  | f => some (f, r.2)
def isLocal : Option NameKind → Bool
  | some .local => true
  | _ => false
def cTry (f fh : Stmt → Option SDen) (C : Ctx) (x : Str) (nm : Option Str) (body suite : List Stmt) : Option SDen :=
  if goodName x && isGl C.sc x && C.xs.any fun p => p.1 == x then (cSs f body).bind fun b => (cSs fh suite).bind fun s => match nm with
    | some n => if goodName n && isLocal (C.sc.names.lookup n) then (slotIn C.N n).bind fun i => some (sTry C.xs x (some i) b s) else none
    | none => some (sTry C.xs x none b s)
  else none
def stepR (r : Rec) (f fh : Stmt → Option SDen) (C : Ctx) (st : Stmt) : Option SDen :=
  if C.rzOn && !C.hot then match st with
    | .Raise (some (.Call (.Name c _) [e] [] _)) none _ => cRaise r C c e
    | .Try body [.ExceptHandler (some (.Name x _)) nm (b0 :: suite) _] [] [] _ => cTry f fh C x nm body (b0 :: suite)
    | st => match cXS r C st with
      | some x => some (sOrX x ((stepS r f C st).getD sNone))
      | none => stepS r f C st
  else stepS r f C st
/-- where an exception is handled -/
def hotC (C : Ctx) : Ctx := { C with hot := true, fs := [], cs := [], ms := [], ks := [], lam := false }
def stH (r : Rec) (C : Ctx) : Nat → Stmt → Option SDen
  | 0 => fun _ => none
  | n + 1 => stepS r (stH r C n) (hotC C)
def stN (r : Rec) (C : Ctx) : Nat → Stmt → Option SDen
  | 0 => fun _ => none
  | n + 1 => stepR r (stN r C n) (stH r C n) C
theorem PS.imp' {X : Cx} {st : Stmt} {t t' : TS} (h : PS X st t) (hw : ∀ D σ H, t' D σ H → t D σ H) : PS X st t' := ⟨fun pins s σ H D I z => h.run pins s σ H D I (hw D σ H z)⟩
section
variable {X : Cx} {C : Ctx} {Φ : Fenv} {k : Nat} {r : Rec} {lk : LK} {W : WX}
abbrev XS (X : Cx) (Φ : Fenv) (lk : LK) (W : WX) (st : Stmt) (d : SDen) : Prop := PS X st (tS X.K X.mg Φ lk W d)
/-- the context of a statement -/
structure StX (X : Cx) (W : WX) : Prop where
  hp : PassesOwn (model X.prog X.w) X.A X.env X.xe
  tk : L2.Takes X W
  stk : X.stack = X.env :: X.outer
  frm : X.env.frame = some X.env.locals
  ex0 : X.ex = []
theorem cSs_ok {f : Stmt → Option SDen} (hf : ∀ st d, f st = some d → XS X Φ lk W st d) : ∀ {sts : List Stmt} {d : SDen}, cSs f sts = some d → PSs X sts (tS X.K X.mg Φ lk W d)
  | [], d, h => by
    cases h
    exact ⟨fun pins s σ H D I z => pss_nil.run pins s σ H D I (tS_Skip z)⟩
  | st :: sts, d, h => by
    unfold cSs at h
    obtain ⟨b, e2, h⟩ := Option.bind_eq_some_iff.mp h
    cases h
    have h1 : XS X Φ lk W st ((f st).getD sNone) := by
      cases e1 : f st with
      | none => exact ⟨fun pins s σ H D I ⟨_, _, _, _, _, _, e, _⟩ => nomatch (show (none : Option (Fl × Env)) = some _ from e)⟩
      | some a => exact hf st a e1
    exact ⟨fun pins s σ H D I z => (pss_cons h1 (cSs_ok hf e2)).run pins s σ H D I (tS_Seq z)⟩
theorem cRet_ok (ok : XOk X C Φ k) (hr : ∀ e d, r.e C e = some d → XE X Φ e d) {e : Expr} {d : SDen} {pos : Pos} (h : cRet r C e = some d) : XS X Φ lk W (.Return (some e) pos) d := by
  have gen : ∀ e d, ((r.e C e).bind fun d => some (sRet d)) = some d → XS X Φ lk W (.Return (some e) pos) d := fun e d h => by
    obtain ⟨d', e1, h⟩ := Option.bind_eq_some_iff.mp h
    cases h
    exact PS.imp' (ps_ret (hr e d' e1)) fun _ _ _ => tS_Ret
  unfold cRet at h
  split at h
  case h_1 x p =>
    split at h
    case isTrue q =>
      obtain ⟨q1, q2⟩ := Bool.and_eq_true_iff.mp q
      obtain ⟨i, e, h⟩ := Option.bind_eq_some_iff.mp h
      cases h
      obtain ⟨n1, n2, n3⟩ := good_ok q1
      exact PS.imp' (ps_ret (pe_var (i := i) (by rw [ok.hN]; exact slotIn_ok e) (by rw [ok.sc]; exact vis_ok q2) n1 n2)) fun _ _ _ => tS_RetNm
    case isFalse => exact gen _ _ h
  case h_2 => exact gen _ _ h
theorem set_any (hu : X.A.units + 1 < cLine) : PSet X fun o i v H Q => rSetL o i v H Q ∨ rSetD o i v H Q := by
  intro pins s σ H o i v ov iv u Q I ro ri rv h
  rcases h with h | h
  · exact set_list pins s σ H o i v ov iv u Q I ro ri rv h
  · exact set_dict hu pins s σ H o i v ov iv u Q I ro ri rv h
theorem sub_assign {o i : Expr} {p : Pos} {env : PySem.Env} (h : plainE i = true) : ∀ v, assign (.Subscript o i p) env v = (do
      let ov ← holding [v] (eval o env)
      let iv ← holding [v, ov] (eval i env)
      standAt p
      holding [v, ov, iv] (setItem ov iv v)
      release [v, ov, iv] []) := by
  intro v
  cases i <;> first | rfl | cases h
theorem swaps_sole {tg e : Expr} {l : Nat} {env : PySem.Env} (h : notComp e = true) : swapsWithSole [tg] e l env = pure false := by
  show swapsWith e (some tg) l env = pure false
  exact swaps_plain h
theorem swapped_none {tg e : Expr} {env : PySem.Env} (h : isTupE e = false) : swappedStores [tg] e env = pure none := by
  cases tg <;> first | rfl | (cases e <;> first | rfl | cases h)
theorem swapped_sub {o i e : Expr} {p : Pos} {env : PySem.Env} : swappedStores [.Subscript o i p] e env = pure none := rfl
theorem cAsg_ok (ok : XOk X C Φ k) (R : ∀ e d, r.e C e = some d → XE X Φ e d) (RC : ∀ elt tg iter ifs scope pos d, r.e C (.ListComp elt [⟨tg, iter, ifs, 0⟩] scope pos) = some d → C.hot = false ∧ ∃ own I t tt el, CompOk X Φ elt tg iter ifs scope own I t tt el d)
    (RN : ∀ e d, r.e C e = some d → notComp e = true ∨ ∃ elt tg iter ifs scope pos, e = .ListComp elt [⟨tg, iter, ifs, 0⟩] scope pos) {tg e : Expr} {d : SDen} {pos : Pos} (h : cAsg r C tg e = some d) : XS X Φ lk W (.Assign [tg] e pos) d := by
  unfold cAsg at h
  split at h
  case h_1 x p =>
    split at h
    case isFalse => cases h
    case isTrue q =>
      obtain ⟨q1, q2⟩ := Bool.and_eq_true_iff.mp q
      obtain ⟨i, e1, h⟩ := Option.bind_eq_some_iff.mp h
      obtain ⟨dv, e2, h⟩ := Option.bind_eq_some_iff.mp h
      cases h
      obtain ⟨g1, g2⟩ := ok.loc x q1
      have hN : X.N.Nodup := by rw [ok.hN]; exact ok.nd
      have hi : X.N[i]? = some x := by rw [ok.hN]; exact slotIn_ok e1
      rcases RN e dv e2 with hc | ⟨elt, tg, iter, ifs, scope, lp, rfl⟩
      · exact PS.imp' (ps_set hN hi g1 (R e dv e2) (swaps_plain hc) g2) fun _ _ _ => tS_Set
      · have sw : ∃ b : Bool, swapsWith (.ListComp elt [⟨tg, iter, ifs, 0⟩] scope lp) (some (.Name x p)) pos.line X.env = pure b ∧ (b = true → X.env.scope.names.lookup x = some .local) := by
          refine ⟨_, rfl, fun hb => ?_⟩
          simp only [Bool.and_eq_true] at hb
          have h2 := hb.1.1.2
          exact eq_of_beq h2
        obtain ⟨b, sw, hb⟩ := sw
        cases b with
        | false => exact PS.imp' (ps_set hN hi g1 (R _ dv e2) sw g2) fun _ _ _ => tS_Set
        | true =>
          obtain ⟨hh, own, it, t, tt, el, c⟩ := RC _ _ _ _ _ _ _ e2
          refine PS.imp' (ps_setLc (ok.calm hh) hN hi (hb rfl) sw c.hi c.ok c.hg c.ht c.he (folded_plain c.pl)) fun D σ H w => ?_
          have w := tS_Set w
          exact c.imp w
  case h_2 es n p =>
    split at h
    case isFalse => cases h
    case isTrue q =>
      obtain ⟨q1, q2⟩ := Bool.and_eq_true_iff.mp q
      obtain ⟨t, e1, h⟩ := Option.bind_eq_some_iff.mp h
      obtain ⟨dv, e2, h⟩ := Option.bind_eq_some_iff.mp h
      split at h
      case h_2 => cases h
      case h_1 is =>
        cases h
        have g := cTgt_ok ok e1
        exact PS.imp' (ps_asg (R e dv e2) g (swaps_sole q1) (swapped_none (by simpa using q2)) rfl) fun _ _ _ => tS_SetT
  case h_3 o i p =>
    split at h
    case isFalse => cases h
    case isTrue q =>
      obtain ⟨q1, q2⟩ := Bool.and_eq_true_iff.mp q
      obtain ⟨dv, e1, h⟩ := Option.bind_eq_some_iff.mp h
      obtain ⟨od, e2, h⟩ := Option.bind_eq_some_iff.mp h
      obtain ⟨ix, e3, h⟩ := Option.bind_eq_some_iff.mp h
      cases h
      refine PS.imp' (ps_asg (R e dv e1).fz.opd (pg_sub (cO_ok ok R e2) (cO_ok ok R e3) (set_any (by have := ok.u64; omega)) (sub_assign q2)) (swaps_sole q1) swapped_sub rfl) fun D σ H w => ?_
      have w := tS_Ex w
      have z : tArgs [tO X.K X.mg Φ (oV (dFz dv)), tO X.K X.mg Φ od, tO X.K X.mg Φ ix] σ H fun vs H1 => tPrim X.K X.mg setP vs H1 (fun _ H1 => D.nx σ H1) := prim_args w
      exact tO.imp (Φ := Φ) z fun x H1 z1 => tO.imp (Φ := Φ) z1 fun y H2 z2 => tO.imp (Φ := Φ) z2 fun u H3 z3 => ok_set z3
  case h_4 o f p =>
    split at h
    case isFalse => cases h
    case isTrue q =>
      obtain ⟨q1, q2⟩ := Bool.and_eq_true_iff.mp q
      obtain ⟨dv, e1, h⟩ := Option.bind_eq_some_iff.mp h
      obtain ⟨od, e2, h⟩ := Option.bind_eq_some_iff.mp h
      cases h
      exact PS.imp' (ps_fld (cO_ok ok R e2) (R e dv e1).fz.opd (swaps_plain q1)) fun D σ H w => xs_fld ok (v := e) (pos := pos) (pos' := p) (cO_ok ok R e2) (R e dv e1) q1 (tS_Ex w)
  case h_5 => cases h
theorem stepE_comp {r : Rec} {e : Expr} {d : Den} (h : stepE r C e = some d) : notComp e = true ∨ ∃ elt tg iter ifs scope pos, e = .ListComp elt [⟨tg, iter, ifs, 0⟩] scope pos := by
  unfold stepE at h
  split at h
  case h_14 elt tg iter ifs scope pos => exact .inr ⟨_, _, _, _, _, _, rfl⟩
  case h_19 => cases h
  all_goals exact .inl rfl
theorem stepS_ok (ok : XOk X C Φ k) (hp : PassesOwn (model X.prog X.w) X.A X.env X.xe) {n : Nat} {f : Stmt → Option SDen} (hf : ∀ st d, f st = some d → XS X Φ lk W st d) {st : Stmt} {d : SDen} (h : stepS (recN (n + 1)) f C st = some d) : XS X Φ lk W st d := by
  have R := recN_ok (Φ := Φ) (k := k) (n + 1)
  obtain ⟨hr, ht⟩ := R X C ok
  unfold stepS at h
  split at h
  case h_1 => cases h; exact PS.imp' ps_pass fun _ _ _ => tS_Skip
  case h_2 => cases h; exact PS.imp' ps_break fun _ _ _ => tS_Bk
  case h_3 => cases h; exact PS.imp' ps_continue fun _ _ _ => tS_Ct
  case h_4 e pos =>
    split at h
    case isFalse => cases h
    case isTrue q =>
      obtain ⟨d', e1, h⟩ := Option.bind_eq_some_iff.mp h
      cases h
      exact PS.imp' (ps_expr (hr e d' e1) (swaps_plain q)) fun _ _ _ => tS_Ex
  case h_5 => cases h; exact PS.imp' ps_retN fun _ _ _ => tS_RetN
  case h_6 e pos => exact cRet_ok ok hr h
  case h_7 tg e pos => exact cAsg_ok ok hr (fun elt tg iter ifs scope pos d e => cComp_parts ok (recN_ok n) e) (fun e d h => stepE_comp h) h
  case h_8 t a b pos =>
    obtain ⟨dt, e1, h⟩ := Option.bind_eq_some_iff.mp h
    obtain ⟨da, e2, h⟩ := Option.bind_eq_some_iff.mp h
    obtain ⟨db, e3, h⟩ := Option.bind_eq_some_iff.mp h
    cases h
    exact PS.imp' (ps_if (ht t dt e1) (cSs_ok hf e2) (cSs_ok hf e3)) fun _ _ _ => tS_If
  case h_9 tg it body pos =>
    split at h
    case isTrue => cases h
    case isFalse hh =>
    have hh : C.hot = false := by simpa using hh
    split at h
    case isTrue q =>
      obtain ⟨i, e1, h⟩ := Option.bind_eq_some_iff.mp h
      obtain ⟨t, e2, h⟩ := Option.bind_eq_some_iff.mp h
      obtain ⟨db, e3, h⟩ := Option.bind_eq_some_iff.mp h
      cases h
      unfold nameSlot at e1
      split at e1
      case h_2 => cases e1
      case h_1 x p =>
      split at e1
      case isFalse => cases e1
      case isTrue q2 =>
      obtain ⟨q1, q2⟩ := Bool.and_eq_true_iff.mp q2
      obtain ⟨n1, n2, n3⟩ := good_ok q1
      have hv := pe_var (X := X) (i := i) (pos := p) (by rw [ok.hN]; exact slotIn_ok e1) (by rw [ok.sc]; exact vis_ok q2) n1 n2
      exact PS.imp' (ps_for hp (ok.calm hh) (pi_list hv) (cTgt_ok ok e2) (cSs_ok hf e3) (folded_plain rfl)) fun _ _ _ => tS_ForO
    case isFalse =>
    split at h
    case isFalse => cases h
    case isTrue q =>
      obtain ⟨di, e1, h⟩ := Option.bind_eq_some_iff.mp h
      obtain ⟨t, e2, h⟩ := Option.bind_eq_some_iff.mp h
      obtain ⟨db, e3, h⟩ := Option.bind_eq_some_iff.mp h
      cases h
      exact PS.imp' (ps_for hp (ok.calm hh) (cIt_ok ok hr e1) (cTgt_ok ok e2) (cSs_ok hf e3) (folded_plain q)) fun _ _ _ => tS_For
  case h_10 t body pos =>
    split at h
    case isTrue => cases h
    case isFalse hh =>
    obtain ⟨dt, e1, h⟩ := Option.bind_eq_some_iff.mp h
    obtain ⟨db, e2, h⟩ := Option.bind_eq_some_iff.mp h
    cases h
    exact PS.imp' (ps_while hp (ht t dt e1) (cSs_ok hf e2)) fun _ _ _ => tS_While
  case h_11 => cases h
theorem stH_ok (ok : XOk X (hotC C) Φ k) (hp : PassesOwn (model X.prog X.w) X.A X.env X.xe) {n : Nat} : ∀ (m : Nat) {st : Stmt} {d : SDen}, stH (recN (n + 1)) C m st = some d → XS X Φ lk W st d
  | 0, _, _, h => nomatch h
  | m + 1, _, _, h => stepS_ok ok hp (fun st d e => stH_ok ok hp m e) h
theorem tS_OrX {x : XDen} {s : SDen} {D : Ends} {σ : L2.St} {H : Hp} (h : tS X.K X.mg Φ lk W (sOrX x s) D σ H) : tX X.K X.mg Φ W x σ H ∨ tS X.K X.mg Φ lk W s D σ H := by
  obtain ⟨F, env, fp, fl, env', st, e, c⟩ := h
  unfold sOrX at e
  split at e
  case h_1 cn g y env2 e2 =>
    cases e
    exact .inl ⟨F, env, fp, cn, g, y, _, st, e2, fun cls od H' F' fp' a p z => c cls od σ H' F' fp' a p.stp z⟩
  case h_2 => exact .inr ⟨F, env, fp, fl, env', st, e, c⟩
theorem PS.or {st : Stmt} {t u : TS} (h1 : PS X st t) (h2 : PS X st u) : PS X st (fun D σ H => t D σ H ∨ u D σ H) :=
  ⟨fun pins s σ H D I z => z.elim (h1.run pins s σ H D I) (h2.run pins s σ H D I)⟩
theorem cX_ok (ok : XOk X C Φ k) (hh : C.hot = false) (tk : L2.Takes X W) (hr : ∀ e d, r.e C e = some d → XE X Φ e d) : ∀ (n : Nat) {e : Expr} {x : XDen}, cX r C n e = some x → XX X Φ W e x
  | 0, _, _, h => nomatch h
  | n + 1, e, x, h => by
    unfold cX at h
    split at h
    case h_4 => cases h
    case h_1 f fp es pos =>
      split at h
      case isFalse => cases h
      case isTrue q =>
        obtain ⟨q, q6⟩ := Bool.and_eq_true_iff.mp q
        obtain ⟨q, q5⟩ := Bool.and_eq_true_iff.mp q
        obtain ⟨q, q4⟩ := Bool.and_eq_true_iff.mp q
        obtain ⟨q, q3⟩ := Bool.and_eq_true_iff.mp q
        obtain ⟨q1, q2⟩ := Bool.and_eq_true_iff.mp q
        obtain ⟨ds, e1, h⟩ := Option.bind_eq_some_iff.mp h
        cases h
        cases es with
        | nil => cases q6
        | cons e es => exact xx_call ok hh tk (by simpa using q1) q4 q3 (cOs_ok ok hr e1) q5
    case h_2 a i pos =>
      split at h
      case isFalse => cases h
      case isTrue pi =>
        obtain ⟨di, e2, h⟩ := Option.bind_eq_some_iff.mp h
        exact PE.imp (pe_ix ix_seq (cX_ok ok hh tk hr n h) (cO_ok ok hr e2) (ix_plain pi)) fun _ _ _ w => w
    case h_3 a op b pos =>
      split at h
      case isFalse => cases h
      case isTrue pb =>
        obtain ⟨p, e0, h⟩ := Option.bind_eq_some_iff.mp h
        obtain ⟨db, e2, h⟩ := Option.bind_eq_some_iff.mp h
        obtain ⟨rr, ho, _⟩ := cmp_op ok e0
        exact PE.imp (pe_cmpR ho (cX_ok ok hh tk hr n h) (cO_ok ok hr e2) (marks_plain pb)) fun _ _ _ w => w
theorem cXS_ok (ok : XOk X C Φ k) (hh : C.hot = false) (tk : L2.Takes X W) (hr : ∀ e d, r.e C e = some d → XE X Φ e d) {st : Stmt} {x : XDen} (h : cXS r C st = some x) : PS X st (fun _ σ H => tX X.K X.mg Φ W x σ H) := by
  unfold cXS at h
  split at h
  case h_5 => cases h
  case h_1 e pos =>
    split at h
    case isFalse => cases h
    case isTrue q => exact PS.imp' (ps_expr (cX_ok ok hh tk hr 9 h) (swaps_plain q)) fun _ _ _ w => w
  case h_2 x p e pos =>
    split at h
    case isFalse => cases h
    case isTrue q =>
      obtain ⟨q, q3⟩ := Bool.and_eq_true_iff.mp q
      obtain ⟨q1, q2⟩ := Bool.and_eq_true_iff.mp q
      obtain ⟨i, e1, h⟩ := Option.bind_eq_some_iff.mp h
      obtain ⟨g1, g2⟩ := ok.loc x q1
      exact PS.imp' (ps_set (by rw [ok.hN]; exact ok.nd) (i := i) (by rw [ok.hN]; exact slotIn_ok e1) g1 (cX_ok ok hh tk hr 9 h) (swaps_plain q3) g2) fun _ _ _ w => w
  case h_3 e pos => exact PS.imp' (ps_ret (cX_ok ok hh tk hr 9 h)) fun _ _ _ w => w
  case h_4 a op b p s1 s2 pos =>
    split at h
    case isFalse => cases h
    case isTrue pb =>
      obtain ⟨pp, e0, h⟩ := Option.bind_eq_some_iff.mp h
      obtain ⟨db, e2, h⟩ := Option.bind_eq_some_iff.mp h
      obtain ⟨rr, ho, _⟩ := cmp_op ok e0
      have no : ∀ sts, PSs X sts (fun _ _ _ => False) := fun sts => ⟨fun _ _ _ _ _ _ z => z.elim⟩
      exact PS.imp' (ps_if (pt_cmpR ho (cX_ok ok hh tk hr 9 h) (cO_ok ok hr e2) (marks_plain pb)) (no s1) (no s2)) fun _ _ _ w => w
theorem cRaise_ok (ok : XOk X C Φ k) (hh : C.hot = false) (sx : StX X W) (hr : ∀ e d, r.e C e = some d → XE X Φ e d) {c : Str} {e : Expr} {d : SDen} {p pos pos' : Pos} (h : cRaise r C c e = some d) : XS X Φ lk W (.Raise (some (.Call (.Name c p) [e] [] pos)) none pos') d := by
  unfold cRaise at h
  split at h
  case isFalse => cases h
  case isTrue q =>
    obtain ⟨q, q3⟩ := Bool.and_eq_true_iff.mp q
    obtain ⟨q1, q2⟩ := Bool.and_eq_true_iff.mp q
    obtain ⟨d', e1, h⟩ := Option.bind_eq_some_iff.mp h
    have hg : Gl X c := gl_ok (by rw [ok.sc]; exact q2)
    split at h
    case isTrue hc =>
      cases h
      obtain ⟨Ca, hm, T⟩ := ok.xps c (by simpa using hc)
      refine PS.imp' (ps_raiseP (ok.calm hh) sx.tk T hm hg (good_ok q1).1 (hr e d' e1) (star_plain q3)) fun D σ H w => ?_
      obtain ⟨F, env, fp, fl, env', st, e2, cc⟩ := w
      unfold sRaiseP at e2
      obtain ⟨⟨iv, env1⟩, e3, e2⟩ := Option.bind_eq_some_iff.mp e2
      cases e2
      exact ⟨F, env, fp, iv, _, st, e3, fun v H1 F1 fp1 S st1 p1 t => cc _ _ σ H1 F1 fp1 st1 p1.stp ⟨Ca, .non, rfl, hm, .inl ⟨rfl, rfl, rfl⟩, .non⟩⟩
    case isFalse =>
      obtain ⟨g, e0, h⟩ := Option.bind_eq_some_iff.mp h
      cases h
      obtain ⟨Ca, hm, T⟩ := ok.xfs (c, g) (lookup_mem e0)
      obtain ⟨k', hk⟩ : ∃ k', k = k' + 2 := ⟨k - 2, by have := ok.k2; omega⟩
      refine PS.imp' (ps_raiseF (k := k') (ok.calm hh) sx.tk T (by rw [← hk]; exact ok.roomC hh) hm hg (good_ok q1).1 (hr e d' e1).fz (star_plain q3)) fun D σ H w => ?_
      obtain ⟨F, env, fp, fl, env', st, e2, cc⟩ := w
      unfold sRaiseF at e2
      obtain ⟨⟨iv, env1⟩, e3, e2⟩ := Option.bind_eq_some_iff.mp e2
      simp only at e2
      split at e2
      case h_2 => cases e2
      case h_1 x =>
        cases e2
        refine ⟨F, env, fp, _, _, st, e3, fun v H1 F1 fp1 S st1 p1 t => RzF.of T.o T.fr fun dx nd => ?_⟩
        obtain ⟨st2, p2⟩ := StOk.alloc (o := .xd [(g, v)]) st1 nd
        refine cc _ _ σ _ _ _ st2 (EStp.stp (p1.trans p2)) ⟨Ca, v, rfl, hm, .inr ⟨dx, _, rfl, upd_same, ?_⟩, Rp.mono p2.p.fF _ _ t.1.1⟩
        simp [List.lookup]
theorem StOk.unset2 {K : Fg} {mg : MG} {F H : Hp} {σ : L2.St} {env : Env} {fp : FP} (st : StOk K mg F H σ env fp) (i : Nat) : StOk K mg F H (σ.set i none) (env.set i none) (fpOff fp i) := by
  have z := st.unset i
  refine ⟨z.ex, by simpa using z.len, fun j iv e => ?_, z.emp, z.disj, z.fr, z.tb⟩
  by_cases hj : i = j
  · subst hj
    by_cases hl : i < env.length
    · rw [List.getElem?_set_self hl] at e; cases e
    · rw [List.getElem?_eq_none (by simpa using hl)] at e; cases e
  · obtain ⟨v, h1, h2⟩ := z.slot j iv e
    exact ⟨v, by rw [List.getElem?_set_ne hj]; exact h1, h2⟩
theorem Stp.unset2 {lk : LK} {F H F' H' : Hp} {σ σ' : L2.St} {fp fp' : FP} (p : Stp (lkP lk) F H σ fp F' H' σ' fp') {i : Nat} (hl : lk i = false) : Stp (lkP lk) F H σ fp F' H' (σ'.set i none) (fpOff fp' i) := by
  refine ⟨p.p, fun j b z => p.own j b z.2, fun j hj => ?_⟩
  have ne : i ≠ j := fun e => by
    subst e
    have hj' : lk i = true := hj
    rw [hl] at hj'
    cases hj'
  obtain ⟨h1, h2⟩ := p.par j hj
  exact ⟨by rw [List.getElem?_set_ne ne]; exact h1, fun b z => h2 b z.2⟩
theorem EndOk.unset {K : Fg} {mg : MG} {W W' : WX} {F H : Hp} {σ : L2.St} {fp : FP} {env' : Env} {D : Ends} {i : Nat} (hl : lk i = false) : ∀ {fl : Fl}, noEx (fl, env'.set i none) = some (fl, env'.set i none) → EndOk K mg lk W F H σ fp (env'.set i none) D fl →
    EndOk K mg lk W' F H σ fp env' ⟨fun σ' H' => D.nx (σ'.set i none) H', D.rt, fun σ' H' => D.bk (σ'.set i none) H', fun σ' H' => D.ct (σ'.set i none) H'⟩ fl
  | .nx, _, c => fun σ' H' F' fp' a q => c _ H' F' _ (a.unset2 i) (q.unset2 hl)
  | .bk, _, c => fun σ' H' F' fp' a q => c _ H' F' _ (a.unset2 i) (q.unset2 hl)
  | .ct, _, c => fun σ' H' F' fp' a q => c _ H' F' _ (a.unset2 i) (q.unset2 hl)
  | .ret iv, _, c => fun v σ' H' F' fp' S a q t => c v _ H' F' _ S (a.unset2 i) (q.unset2 hl) ⟨t.1, fun b hb => by
      obtain ⟨t1, t2, t3⟩ := t.2 b hb
      exact ⟨t1, t2, fun ⟨j, z⟩ => t3 ⟨j, z.2⟩⟩⟩
  | .ex _ _ _, h, _ => nomatch h
theorem EndOk.noX {K : Fg} {mg : MG} {W W' : WX} {F H : Hp} {σ : L2.St} {fp : FP} {env' : Env} {D : Ends} : ∀ {fl : Fl}, noEx (fl, env') = some (fl, env') → EndOk K mg lk W F H σ fp env' D fl → EndOk K mg lk W' F H σ fp env' D fl
  | .nx, _, c => c
  | .bk, _, c => c
  | .ct, _, c => c
  | .ret _, _, c => c
  | .ex _ _ _, h, _ => nomatch h
theorem noEx_eq {q q' : Fl × Env} (h : noEx q = some q') : q' = q ∧ noEx q = some q := by
  obtain ⟨fl, e⟩ := q
  cases fl <;> first | (cases h; exact ⟨rfl, rfl⟩) | cases h
theorem hot_ok (ok : XOk X C Φ k) (a : Addr) (pn : List (Addr × Obj)) : XOk (X.suite a pn) (hotC C) Φ k := by
  refine ⟨ok.hN, ok.nd, ok.sc, (fun z => nomatch z), ⟨?_, ?_⟩, (fun z => nomatch z), ok.k2, ok.blt, ok.gl, (fun f hf => nomatch hf), ok.hts, (fun p hp => nomatch hp), (fun p hp => nomatch hp), (fun p hp => nomatch hp), ok.loc, ok.lm, ok.fld, (fun p hp => nomatch hp), (fun z => nomatch z), ok.xcs, ok.xis, ok.xfs, ok.xps⟩
  · exact ok.room.dp
  · exact ok.room.un
theorem tr_ok (ok : XOk X C Φ k) (pn : List (Addr × Obj)) (xe : Value → Shared → Prop) : XOk (X.tr pn xe) C Φ k :=
  ⟨ok.hN, ok.nd, ok.sc, ok.calm, ok.room, ok.hd, ok.k2, ok.blt, ok.gl, ok.fns, ok.hts, ok.cls, ok.isi, ok.mts, ok.loc, ok.lm, ok.fld, ok.mks, ok.lam, ok.xcs, ok.xis, ok.xfs, ok.xps⟩
theorem cTry_ok (ok : XOk X C Φ k) (sx : StX X W) {f fh : Stmt → Option SDen} (hf : ∀ (X : Cx) (W : WX), XOk X C Φ k → StX X W → ∀ st d, f st = some d → XS X Φ lk W st d)
    (hfh : ∀ (X : Cx) (W : WX), XOk X (hotC C) Φ k → PassesOwn (model X.prog X.w) X.A X.env X.xe → ∀ st d, fh st = some d → XS X Φ lk W st d) {x : Str} {nm : Option Str} {body suite : List Stmt} {b0 : Stmt} {d : SDen} {p p1 p2 : Pos}
    (h : cTry f fh C x nm body (b0 :: suite) = some d) : XS X Φ lk W (.Try body [.ExceptHandler (some (.Name x p)) nm (b0 :: suite) p1] [] [] p2) d := by
  unfold cTry at h
  split at h
  case isFalse => cases h
  case isTrue q =>
    obtain ⟨q, q3⟩ := Bool.and_eq_true_iff.mp q
    obtain ⟨q1, q2⟩ := Bool.and_eq_true_iff.mp q
    obtain ⟨b, e1, h⟩ := Option.bind_eq_some_iff.mp h
    obtain ⟨s, e2, h⟩ := Option.bind_eq_some_iff.mp h
    obtain ⟨px, hpx, ex⟩ := List.any_eq_true.mp q3
    have ex : px.1 = x := eq_of_beq ex
    subst ex
    obtain ⟨Cx', hmx, Tx⟩ := ok.xcs px hpx
    have hg : Gl X px.1 := gl_ok (by rw [ok.sc]; exact q2)
    have nms : Names X px.1 (.ref Cx') := ⟨hg, (good_ok q1).1, .inl hmx⟩
    have hb : ∀ (W' : WX) (pn : List (Addr × Obj)) (xe : Value → Shared → Prop), L2.Takes (X.tr pn xe) W' → PassesOwn (model X.prog X.w) X.A X.env xe → PSs (X.tr pn xe) body (tS X.K X.mg Φ lk W' b) := fun W' pn xe tk hp =>
      cSs_ok (X := X.tr pn xe) (hf (X.tr pn xe) W' (tr_ok ok pn xe) ⟨hp, tk, sx.stk, sx.frm, sx.ex0⟩) e1
    have hsu : ∀ (a : Addr) (pn : List (Addr × Obj)), PSs (X.suite a pn) (b0 :: suite) (tS X.K X.mg Φ lk (fun _ _ _ _ => False) s) := fun a pn =>
      cSs_ok (X := X.suite a pn) (hfh (X.suite a pn) _ (hot_ok ok a pn) PassesOwn.never) e2
    -- which way it goes
    have way : ∀ {cn : Str} {sup : List Str} {C' : Addr}, C.xs.lookup cn = some sup → X.mg cn = some (.ref C') → PySem.W.exmOne X.K (.ref C') (.ref Cx') = some (sup.contains px.1) := fun l m =>
      ((ok.xis _ (lookup_mem l) _ m).1 px hpx Cx' hmx).2
    cases nm with
    | some n =>
      have h : (if goodName n && isLocal (C.sc.names.lookup n) then (slotIn C.N n).bind fun i => some (sTry C.xs px.1 (some i) b s) else none) = some d := h
      split at h
      case isFalse => cases h
      case isTrue qn =>
        obtain ⟨n1, n2⟩ := Bool.and_eq_true_iff.mp qn
        obtain ⟨i, e3, h⟩ := Option.bind_eq_some_iff.mp h
        cases h
        have hln : X.env.kindOf n = some .local := by
          show X.env.scope.names.lookup n = some .local
          rw [ok.sc]
          unfold isLocal at n2
          split at n2
          · assumption
          · cases n2
        refine PS.imp' (ps_tryT sx.ex0 sx.stk sx.frm (by rw [ok.hN]; exact ok.nd) (by rw [ok.hN]; exact slotIn_ok e3) hln nms sx.tk hb hsu) fun D σ H w => ?_
        obtain ⟨F, env, fp, fl, env', st, e, cc⟩ := w
        unfold sTry at e
        obtain ⟨⟨f1, env1⟩, g1, e⟩ := Option.bind_eq_some_iff.mp e
        refine ⟨F, env, fp, f1, env1, st, g1, ?_⟩
        cases f1 with
        | nx => cases e; exact cc
        | bk => cases e; exact cc
        | ct => cases e; exact cc
        | ret iv => cases e; exact cc
        | ex cn g y =>
          obtain ⟨sup, l, e⟩ := Option.bind_eq_some_iff.mp e
          intro cls od σ' H' F' fp' st' p' ⟨C', v, ec, hm, hx, hr⟩
          subst ec
          refine ⟨_, way l hm, fun hb0 => ?_, fun hb1 a na => ?_⟩
          · rw [if_neg (by rw [hb0]; exact Bool.false_ne_true)] at e
            cases e
            exact cc _ od σ' H' F' fp' st' p' ⟨C', v, rfl, hm, hx, hr⟩
          · rw [if_pos hb1] at e
            simp only at e
            split at e
            case isTrue => cases e
            case isFalse hl =>
              have hl : lk i = false := by simpa using hl
              obtain ⟨⟨f2, env2⟩, g2, e⟩ := Option.bind_eq_some_iff.mp e
              obtain ⟨e', ne⟩ := noEx_eq e
              cases e'
              obtain ⟨st2, p2⟩ := StOk.alloc (o := ExcO (.ref C') od a) st' na
              have rp : Rp X.K X.mg (upd F' a (ExcO (.ref C') od a)) (.ref a) (.exc cn g y) := .exc upd_same hm (hx.mono p2.p.fF) (Rp.mono p2.p.fF _ _ hr)
              obtain ⟨fp3, st3, p3⟩ := StOk.store (H := H') (lk := lk) (S := fun _ => False) st' st2 p2.stp (fun b z => z.elim) (OwnV.ofD rp) (i := i) hl
              exact ⟨_, _, fp3, f2, env2, st3, g2, EndOk.unset hl ne (cc.later (p'.trans p3))⟩
    | none =>
      have h : some (sTry C.xs px.1 none b s) = some d := h
      cases h
      refine PS.imp' (ps_try_only sx.stk sx.frm nms sx.tk hb (ts := fun _ _ _ => tS X.K X.mg Φ lk (fun _ _ _ _ => False) s) fun a oe cls od pn _ _ => hsu a _) fun D σ H w => ?_
      obtain ⟨F, env, fp, fl, env', st, e, cc⟩ := w
      unfold sTry at e
      obtain ⟨⟨f1, env1⟩, g1, e⟩ := Option.bind_eq_some_iff.mp e
      refine ⟨F, env, fp, f1, env1, st, g1, ?_⟩
      cases f1 with
      | nx => cases e; exact cc
      | bk => cases e; exact cc
      | ct => cases e; exact cc
      | ret iv => cases e; exact cc
      | ex cn g y =>
        obtain ⟨sup, l, e⟩ := Option.bind_eq_some_iff.mp e
        intro cls od σ' H' F' fp' st' p' ⟨C', v, ec, hm, hx, hr⟩
        subst ec
        refine ⟨_, way l hm, fun hb1 a na => ?_, fun hb0 => ?_⟩
        · rw [if_pos hb1] at e
          obtain ⟨q2, g2, e⟩ := Option.bind_eq_some_iff.mp e
          obtain ⟨e', ne⟩ := noEx_eq e
          subst e'
          exact ⟨F', env1, fp', fl, env', st', g2, EndOk.noX ne (cc.later p')⟩
        · rw [if_neg (by rw [hb0]; exact Bool.false_ne_true)] at e
          cases e
          exact cc _ od σ' H' F' fp' st' p' ⟨C', v, rfl, hm, hx, hr⟩
theorem stepR_ok (ok : XOk X C Φ k) (sx : StX X W) {n : Nat} {f fh : Stmt → Option SDen} (hf : ∀ (X : Cx) (W : WX), XOk X C Φ k → StX X W → ∀ st d, f st = some d → XS X Φ lk W st d)
    (hfh : ∀ (X : Cx) (W : WX), XOk X (hotC C) Φ k → PassesOwn (model X.prog X.w) X.A X.env X.xe → ∀ st d, fh st = some d → XS X Φ lk W st d) {st : Stmt} {d : SDen} (h : stepR (recN (n + 1)) f fh C st = some d) : XS X Φ lk W st d := by
  have R := recN_ok (Φ := Φ) (k := k) (n + 1)
  obtain ⟨hr, ht⟩ := R X C ok
  have base : ∀ {st d}, stepS (recN (n + 1)) f C st = some d → XS X Φ lk W st d := fun h => stepS_ok ok sx.hp (hf X W ok sx) h
  have none_ : ∀ {st : Stmt}, XS X Φ lk W st sNone := ⟨fun pins s σ H D I ⟨_, _, _, _, _, _, e, _⟩ => nomatch (show (none : Option (Fl × Env)) = some _ from e)⟩
  unfold stepR at h
  split at h
  case isFalse => exact base h
  case isTrue q =>
    obtain ⟨_, hh⟩ := Bool.and_eq_true_iff.mp q
    have hh : C.hot = false := by simpa using hh
    split at h
    case h_1 => exact cRaise_ok ok hh sx hr h
    case h_2 => exact cTry_ok ok sx hf hfh h
    case h_3 =>
      split at h
      case h_2 => exact base h
      case h_1 x ex =>
        cases h
        refine PS.imp' (PS.or (cXS_ok ok hh sx.tk hr ex) ?_) fun D σ H w => tS_OrX w
        cases e1 : stepS (recN (n + 1)) f C st with
        | none => exact none_
        | some a => exact base e1
theorem stN_ok {n : Nat} : ∀ (m : Nat) {X : Cx} {W : WX}, XOk X C Φ k → StX X W → ∀ {st : Stmt} {d : SDen}, stN (recN (n + 1)) C m st = some d → XS X Φ lk W st d
  | 0, _, _, _, _, _, _, h => nomatch h
  | m + 1, _, _, ok, sx, _, _, h => stepR_ok ok sx (fun X W ok sx st d e => stN_ok m ok sx e) (fun X W ok hp st d e => stH_ok ok hp m e) h
/-- a body -/
def cBody (C : Ctx) (body : List Stmt) : Option SDen := cSs (stN (recN 40) C 40) body
theorem cBody_ok (ok : XOk X C Φ k) (sx : StX X W) {body : List Stmt} {d : SDen} (h : cBody C body = some d) : PSs X body (tS X.K X.mg Φ lk W d) :=
  cSs_ok (fun st d e => stN_ok 40 ok sx e) h
/-- a body where an exception is handled -/
def cBodyH (C : Ctx) (body : List Stmt) : Option SDen := cSs (stH (recN 40) C 40) body
theorem cBodyH_ok (ok : XOk X (hotC C) Φ k) (hp : PassesOwn (model X.prog X.w) X.A X.env X.xe) {body : List Stmt} {d : SDen} (h : cBodyH C body = some d) : PSs X body (tS X.K X.mg Φ lk W d) :=
  cSs_ok (fun st d e => stH_ok ok hp 40 e) h
end
end SD
namespace SD
open PySem L2
def isNil : Expr → Bool
  | .List [] _ => true
  | _ => false
def cIni (C : Ctx) (c : Str) : List Stmt → Option (List (Str × Den))
  | [] => some []
  | .Assign [.Attribute (.Name x _) f _] e _ :: r => if goodName x && isVis C.sc x && notComp e && decide (slotIn C.N x = some 0) && C.fl.contains (c, f) then
      ((recN 40).e C e).bind fun d => (cIni C c r).bind fun l => some ((f, if isNil e then d else dFz d) :: l) else none
  | _ => none
def tIni (K : Fg) (mg : MG) (Φ : Fenv) (c : Str) (ini : List (Str × Den)) : TS := fun D σ H => ∃ F env fp x Ca dx fv fs os fs' env', σ[0]? = some (some (.ref x)) ∧ mg c = some (.ref Ca) ∧ H x = some (.ins Ca dx fv) ∧ FldsOk K mg F H fv fs os ∧ F x = none ∧ (∀ b ∈ os, F b = none) ∧ (∀ i b, fp i b → b ≠ x ∧ b ∉ os) ∧ StOk K mg F H σ env fp ∧ runIni Φ ini env fs = some (fs', env') ∧
  ∀ H' F' fp' fv' os', StOk K mg F' H' σ env' fp' → PStp F H (fun b => fpO fp b ∨ b = x ∨ b ∈ os) F' H' → (∀ i b, fp' i b → fp i b) → H' x = some (.ins Ca dx fv') → FldsOk K mg F' H' fv' fs' os' → F' x = none → (∀ b ∈ os', F' b = none ∧ (b ∈ os ∨ H b = none)) → D.nx σ H'
section
variable {X : Cx} {C : Ctx} {Φ : Fenv} {k : Nat}
theorem ini_nil {K : Fg} {mg : MG} {c : Str} {D : Ends} {σ : L2.St} {H : Hp} (h : tIni K mg Φ c [] D σ H) : tNext D σ H := by
  obtain ⟨F, env, fp, x, Ca, dx, fv, fs, os, fs', env', h1, h2, h3, h4, h5, h6, h7, st, e, k⟩ := h
  cases e
  exact k H F fp fv os st (.refl ..) (fun _ _ z => z) h3 h4 h5 fun b hb => ⟨h6 b hb, .inl hb⟩
theorem ini_cons {K : Fg} {mg : MG} {c f : Str} {d : Den} {r : List (Str × Den)} {D : Ends} {σ : L2.St} {H : Hp} {Cb : Addr} (hm : mg c = some (.ref Cb)) (cl : Cls K Cb) (na : NoAttr K Cb f) (h : tIni K mg Φ c ((f, d) :: r) D σ H) :
    tSeq (sFld K (tVar 0) (tE K mg Φ d) f) (tIni K mg Φ c r) D σ H := by
  obtain ⟨F, env, fp, x, Ca, dx, fv, fs, os, fs', env', h1, h2, h3, h4, h5, h6, h7, st, e, kk⟩ := h
  rw [hm] at h2
  cases h2
  unfold runIni at e
  split at e
  case isFalse => cases e
  case isTrue hq =>
  obtain ⟨q1, q2⟩ := Bool.and_eq_true_iff.mp hq
  have q2 : fs.length < 1000 := of_decide_eq_true q2
  have q1 : fs.lookup f = none := Option.isNone_iff_eq_none.mp q1
  obtain ⟨⟨iv, env1⟩, e1, e⟩ := Option.bind_eq_some_iff.mp e
  refine ⟨F, env, fp, iv, env1, st, e1, fun y H1 F1 fp1 S st1 p1 t => ⟨.ref x, h1, x, Cb, dx, fv, rfl, ?_, cl, na, by rw [h4.len]; exact q2, ?_⟩⟩
  · exact p1.p.keep x _ h3 (fun ⟨i, z⟩ => (h7 i x z).1 rfl) (fun ps z => by cases z)
  have nx : ¬ fpO fp x := fun ⟨i, z⟩ => (h7 i x z).1 rfl
  have no : ∀ b ∈ os, ¬ fpO fp b := fun b hb ⟨i, z⟩ => (h7 i b z).2 hb
  have x1 : H1 x = some (.ins Cb dx fv) := p1.p.keep x _ h3 nx (fun ps z => by cases z)
  have o1 : ∀ b ∈ os, H1 b = H b := fun b hb => by
    obtain ⟨vs, q⟩ := h4.hs b hb
    rw [p1.p.keep b _ q (no b hb) (fun ps z => by cases z), q]
  have f1 : FldsOk K mg F1 H1 fv fs os := h4.mono p1.p.fF o1
  have Fx1 : F1 x = none := p1.p.nofrz (by rw [h3]; simp) nx h5
  have Fo1 : ∀ b ∈ os, F1 b = none := fun b hb => p1.p.nofrz (by
    obtain ⟨vs, q⟩ := h4.hs b hb
    rw [q]; simp) (no b hb) (h6 b hb)
  have par1 : ∀ i b, fp1 i b → fp i b := fun i b z => (p1.par i trivial).2 b z
  have pn : putF f y fv = fv ++ [(f, y)] := putF_new (h4.non0 q1)
  have xo : ∀ b ∈ os, b ≠ x := fun b hb z => by
    obtain ⟨vs, q⟩ := h4.hs b hb
    rw [z, h3] at q; cases q
  have st2 : StOk K mg F1 (upd H1 x (.ins Cb dx (putF f y fv))) σ env1 fp1 := st1.side x1 (fun ps z => by cases z) Fx1 fun i z => (h7 i x (par1 i x z)).1 rfl
  have f2 : FldsOk K mg F1 (upd H1 x (.ins Cb dx (putF f y fv))) fv fs os := f1.mono (Same.refl _) fun b hb => upd_ne (xo b hb)
  have fin : ∀ os2 fs2, FldsOk K mg F1 (upd H1 x (.ins Cb dx (putF f y fv))) (putF f y fv) fs2 os2 → runIni Φ r env1 fs2 = some (fs', env') → (∀ b ∈ os2, F1 b = none ∧ (b ∈ os ∨ H b = none)) → (∀ i b, fp1 i b → b ∉ os2) →
      tIni K mg Φ c r D σ (upd H1 x (.ins Cb dx (putF f y fv))) := fun os2 fs2 g1 g2 g3 g4 => by
    refine ⟨F1, env1, fp1, x, Cb, dx, _, fs2, os2, fs', env', h1, hm, upd_same, g1, Fx1, fun b hb => (g3 b hb).1, fun i b z => ⟨(h7 i b (par1 i b z)).1, g4 i b z⟩, st2, g2, fun H' F' fp' fv' os' st' ps par ex fo Fx nw => ?_⟩
    refine kk H' F' fp' fv' os' st' ⟨p1.p.fF.trans ps.fF, fun b o q n nt => ?_, fun b q => ?_, fun b o q => ?_⟩ (fun i b z => par1 i b (par i b z)) ex fo Fx fun b hb => ⟨(nw b hb).1, ?_⟩
    · have n1 : ¬ fpO fp b := fun z => n (.inl z)
      have n2 : b ≠ x := fun z => n (.inr (.inl z))
      refine ps.keep b o (by rw [upd_ne n2]; exact p1.p.keep b o q n1 nt) (fun z => ?_) nt
      rcases z with ⟨i, z⟩ | z | z
      · exact n1 ⟨i, par1 i b z⟩
      · exact n2 z
      · rcases (g3 b z).2 with w | w
        · exact n (.inr (.inr w))
        · rw [q] at w; cases w
    · have := ps.fresh b q
      by_cases hb : b = x
      · rw [hb, upd_same] at this; cases this
      · rw [upd_ne hb] at this; exact p1.p.fresh b this
    · rcases ps.frz b o q with z | z | z
      · rcases p1.p.frz b o z with w | w | w
        · exact .inl w
        · exact .inr (.inl (.inl w))
        · exact .inr (.inr w)
      · rcases z with ⟨i, z⟩ | z | z
        · exact .inr (.inl (.inl ⟨i, par1 i b z⟩))
        · exact .inr (.inl (.inr (.inl z)))
        · rcases (g3 b z).2 with w | w
          · exact .inr (.inl (.inr (.inr w)))
          · exact .inr (.inr w)
      · by_cases hb : b = x
        · rw [hb, upd_same] at z; cases z
        · rw [upd_ne hb] at z; exact .inr (.inr (p1.p.fresh b z))
    · rcases (nw b hb).2 with z | z
      · exact (g3 b z).2
      · by_cases hb : b = x
        · rw [hb, upd_same] at z; cases z
        · rw [upd_ne hb] at z; exact .inr (p1.p.fresh b z)
  cases iv with
  | d z =>
    refine fin os _ ?_ e (fun b hb => ⟨Fo1 b hb, .inl hb⟩) fun i b z => (h7 i b (par1 i b z)).2
    rw [pn] at f2 ⊢
    exact f2.snocD t.1.1
  | own xs =>
    obtain ⟨⟨b, vs, rfl, hb, rs, s⟩, new⟩ := t
    obtain ⟨nb, Fb⟩ := new b ((s b).mpr rfl)
    have bx : b ≠ x := fun z => by rw [z, h3] at nb; cases nb
    have bo : b ∉ os := fun z => by
      obtain ⟨vs, q⟩ := h4.hs b z
      rw [q] at nb; cases nb
    refine fin (os ++ [b]) _ ?_ e (fun b' hb' => ?_) fun i b' z hz => ?_
    · rw [pn] at f2 ⊢
      exact f2.snocO (by rw [upd_ne bx]; exact hb) rs bo
    · rcases List.mem_append.mp hb' with w | w
      · exact ⟨Fo1 b' w, .inl w⟩
      · rw [List.mem_singleton.mp w]; exact ⟨Fb, .inr nb⟩
    · rcases List.mem_append.mp hz with w | w
      · exact (h7 i b' (par1 i b' z)).2 w
      · rw [List.mem_singleton.mp w] at z
        exact st.hs (par1 i b z) nb
  | _ => cases e
theorem cIni_ok (ok : XOk X C Φ k) {c : Str} : ∀ {body : List Stmt} {ini : List (Str × Den)}, cIni C c body = some ini → PSs X body (tIni X.K X.mg Φ c ini)
  | [], ini, h => by
    cases h
    exact ⟨fun pins s σ H D I z => pss_nil.run pins s σ H D I (ini_nil z)⟩
  | st :: sts, ini, h => by
    unfold cIni at h
    split at h
    case h_1 z => exact nomatch z
    case h_3 => cases h
    case h_2 x xp f fp e pos r heq =>
      cases heq
      split at h
      case isFalse => cases h
      case isTrue q =>
        obtain ⟨q, q5⟩ := Bool.and_eq_true_iff.mp q
        obtain ⟨q, q4⟩ := Bool.and_eq_true_iff.mp q
        obtain ⟨q, q3⟩ := Bool.and_eq_true_iff.mp q
        obtain ⟨q1, q2⟩ := Bool.and_eq_true_iff.mp q
        obtain ⟨d, e1, h⟩ := Option.bind_eq_some_iff.mp h
        obtain ⟨l, e2, h⟩ := Option.bind_eq_some_iff.mp h
        cases h
        obtain ⟨n1, n2, n3⟩ := good_ok q1
        obtain ⟨hr, _⟩ := recN_ok (Φ := Φ) (k := k) 40 X C ok
        have he : XE X Φ e (if isNil e then d else dFz d) := by
          split
          · exact hr e d e1
          · exact (hr e d e1).fz
        have ho : PE X (.Name x xp) (tVar 0) := pe_var (i := 0) (by rw [ok.hN]; exact slotIn_ok (of_decide_eq_true q4)) (by rw [ok.sc]; exact vis_ok q2) n1 n2
        obtain ⟨Cb, g1, g2, g3⟩ := ok.fld (c, f) (List.contains_iff_mem.mp q5)
        exact ⟨fun pins s σ H D I z => (pss_cons (ps_fld ho he (swaps_plain q3)) (cIni_ok ok e2)).run pins s σ H D I (ini_cons g1 g2 g3 z)⟩
end
end SD
namespace SD
open PySem PySem.Spec PyProof.Rows L2
def oexB (K : Fg) (C : Addr) : Bool := match K.lookup C with
  | some ⟨.type "type", _, .cls cd, sl⟩ => (match cd.mro, sl.toList with
    | .ref C' :: bm, [_, _, _, _, some (.builtin n), _] => C' == C && (n == "ValueError.__new__" && (!cd.hasDel && (cd.hasDict && HandSPX.refsVE bm)))
    | _, _ => false)
  | _ => false
theorem oexB_ok {K : Fg} {C : Addr} (h : oexB K C = true) : ∃ nm q N bs bm sn sub ab col dd k0 k1 k2 k3 k5, K.lookup C = some (excClassObj nm q C N bs bm true sn sub ab col dd k0 k1 k2 k3 k5 "ValueError.__new__") ∧ HandSPX.refsVE bm = true := by
  unfold oexB at h
  split at h
  case h_2 => cases h
  case h_1 dd cd sl e =>
    split at h
    case h_2 => cases h
    case h_1 C' bm k0 k1 k2 k3 n k5 e1 e2 =>
      simp only [Bool.and_eq_true, beq_iff_eq, Bool.not_eq_true'] at h
      obtain ⟨rfl, rfl, h3, h4, h5⟩ := h
      obtain ⟨a1, a2, a3, a4, a5, a6, a7, a8, a9, a10, a11⟩ := cd
      obtain ⟨l⟩ := sl
      simp only at e1 e2 h3 h4
      subst e1 e2 h3 h4
      exact ⟨_, _, _, _, bm, _, _, _, _, dd, k0, k1, k2, k3, k5, e, h5⟩
def xcB (K : Fg) (C : Addr) : Bool := (PySem.W.clsIn K C).isSome && (decide (PySem.W.findIn K (.ref C) "__getattribute__" = some (some (.builtin "BaseException.__getattribute__"))) && (decide (PySem.W.findIn K (.ref C) "__getattr__" = some none) &&
  (decide (PySem.W.subIn K (.ref C) (.type "BaseException") = some true) && (decide (PySem.W.typeIn K (.ref C) = some (.type "type")) && (PySem.W.hasDictIn K C && (decide (PySem.W.findIn K (.ref C) "__class__" = some (some (.builtin "object.__class__"))) &&
  (decide (PySem.W.specialIn K (.builtin "object.__class__") "__get__" = some (some (.builtin "getset_descriptor.__get__"))) && (decide (PySem.W.takesIn K (.builtin "object.__class__") = some true) && decide (PySem.W.mroIn K C (.type "object") = some true)))))))))
theorem xcB_ok {K : Fg} {C : Addr} (h : xcB K C = true) : XcC K C := by
  unfold xcB at h
  simp only [Bool.and_eq_true, decide_eq_true_eq] at h
  obtain ⟨h1, h2, h3, h4, h5, h6, h7, h8, h9, h10⟩ := h
  exact ⟨h1, h2, h3, h4, h5, h6, h7, h8, h9, h10⟩
def xpB (K : Fg) (C : Addr) : Bool := xcB K C && (PySem.W.excIn K C He.veBase "ValueError.__new__" && PySem.W.keepIn K (.ref C))
theorem xpB_ok {K : Fg} {C : Addr} (h : xpB K C = true) : XpC K C := by
  unfold xpB at h
  simp only [Bool.and_eq_true] at h
  obtain ⟨h1, h2, h3⟩ := h
  exact ⟨xcB_ok h1, h2, h3⟩
/-- a class whose __init__ at fI sets g alone -/
def xfB (K : Fg) (C fI : Addr) (g : Str) : Bool := xcB K C && (oexB K C && (decide (PySem.W.findIn K (.ref C) "__setattr__" = some (some (.builtin "object.__setattr__"))) && (PySem.W.keepIn K (.ref C) && (decide (PySem.W.findIn K (.ref C) g = some none) &&
  (decide (PySem.W.findIn K (.ref C) "__init__" = some (some (.ref fI))) && decide (PySem.W.typeIn K (.ref fI) = some (.type "function")))))))
theorem xfB_ok {K : Fg} {C fI : Addr} {g : Str} (h : xfB K C fI g = true) : XcC K C ∧ OexC K C ∧ PySem.W.findIn K (.ref C) g = some none ∧ PySem.W.findIn K (.ref C) "__init__" = some (some (.ref fI)) ∧ PySem.W.typeIn K (.ref fI) = some (.type "function") := by
  unfold xfB at h
  simp only [Bool.and_eq_true, decide_eq_true_eq] at h
  obtain ⟨h1, h2, h3, h4, h5, h6, h7⟩ := h
  have x := xcB_ok h1
  exact ⟨x, ⟨oexB_ok h2, h3, x.sb, x.ty, h4⟩, h5, h6, h7⟩
end SD
namespace SD
open PySem L2
theorem zip_look {ps : List Str} : ∀ {us : List Value}, ps.Nodup → us.length = ps.length → ∀ n ∈ ps, ∃ u, (ps.zip us).lookup n = some u := by
  induction ps with
  | nil => intro us _ _ n h; cases h
  | cons p ps ih =>
    intro us nd hl n hn
    match us, hl with
    | u :: us, hl =>
      rw [List.zip_cons_cons, List.lookup_cons]
      cases e : (n == p) with
      | true => exact ⟨u, rfl⟩
      | false =>
        rcases List.mem_cons.mp hn with rfl | h
        · rw [beq_self_eq_true] at e; cases e
        · exact ih (List.nodup_cons.mp nd).2 (by simpa using hl) n h
theorem zip_filt : ∀ {ps : List Str} {us : List Value} {zs : List (Str × Value)}, ps.Nodup → us.length = ps.length → (∀ n ∈ ps, zs.lookup n = (ps.zip us).lookup n) → ps.filterMap (fun n => (zs.lookup n).map fun x => (n, x)) = ps.zip us
  | [], us, _, _, _, _ => by simp
  | p :: ps, us, zs, nd, hl, hz => by
    match us, hl with
    | u :: us, hl =>
      obtain ⟨n1, n2⟩ := List.nodup_cons.mp nd
      have e : zs.lookup p = some u := by rw [hz p (List.mem_cons_self ..)]; simp
      rw [List.filterMap_cons, e]
      simp only [Option.map_some, List.zip_cons_cons]
      congr 1
      refine zip_filt n2 (by simpa using hl) fun n hn => ?_
      rw [hz n (List.mem_cons_of_mem _ hn), List.zip_cons_cons, List.lookup_cons]
      have : (n == p) = false := by
        cases q : (n == p) with
        | false => rfl
        | true => exact absurd (eq_of_beq q ▸ hn) n1
      rw [this]
theorem bind_plain {fd : FuncData} {as : List Arg} {kd : List (Option Expr)} {df : List Expr} (hp : fd.params = ⟨[], as, none, [], kd, none, df⟩) (hd : fd.defaults = .none) (nd : (as.map (·.arg)).Nodup) (us : List Value) (hl : us.length = (as.map (·.arg)).length) :
    bindArgs fd ⟨us, []⟩ = pure ((as.map (·.arg)).zip us) := by
  have l2 : (List.filter (fun n => (List.lookup n ((as.map (·.arg)).zip us)).isNone) (as.map (·.arg))) = [] := by
    rw [List.filter_eq_nil_iff]
    intro n hn
    obtain ⟨u, e⟩ := zip_look nd hl n hn
    rw [e]; simp
  have l1 := zip_filt (zs := (as.map (·.arg)).zip us) nd hl fun _ _ => rfl
  unfold bindArgs
  simp only [hp, hd, List.map_nil, List.nil_append, List.append_nil]
  generalize (as.map (·.arg)) = ps at *
  have hs : seqItems? Value.none = pure none := rfl
  rw [hs]
  simp [hl, l1, l2]
def isLocK : NameKind → Bool
  | .local => true
  | .cell => true
  | _ => false
def eKids : Expr → List Expr
  | .BinOp a _ b _ => [a, b]
  | .UnaryOp _ a _ => [a]
  | .BoolOp _ vs _ => vs
  | .Compare a _ bs _ => a :: bs
  | .IfExp t a b _ => [t, a, b]
  | .Subscript a i _ => [a, i]
  | .Slice a b c _ => a.toList ++ b.toList ++ c.toList
  | .Tuple es _ _ => es
  | .List es _ => es
  | .Call f es _ _ => f :: es
  | .Attribute o _ _ => [o]
  | .ListComp e gs _ _ => e :: gs.flatMap fun g => g.target :: g.iter :: g.ifs
  | _ => []
def eNames : Nat → Expr → List Str
  | 0, _ => []
  | n + 1, e => (match e with
    | .ListComp _ _ sc _ => (sc.names.filter fun y => isLocK y.2 && !(y.1 == (".0" : Str))).map (·.1)
    | _ => []) ++ (eKids e).flatMap (eNames n)
def sNames : Nat → Stmt → List Str
  | 0, _ => []
  | n + 1, s => match s with
    | .Expr e _ => eNames 40 e
    | .Return (some e) _ => eNames 40 e
    | .Assign ts e _ => ts.flatMap (eNames 40) ++ eNames 40 e
    | .If t a b _ => eNames 40 t ++ a.flatMap (sNames n) ++ b.flatMap (sNames n)
    | .For _ it b _ _ => eNames 40 it ++ b.flatMap (sNames n)
    | .While t b _ _ => eNames 40 t ++ b.flatMap (sNames n)
    | _ => []
def parsOf (d : He.DefD) : List Str := d.params.args.map (·.arg)
def namesOf (d : He.DefD) : List Str := (parsOf d ++ (d.scope.names.filter fun y => isLocK y.2).map (·.1) ++ d.body.flatMap (sNames 40)).eraseDups
structure Tab where
  ds : List He.DefD
  gl : List (Str × D)
  cs : List (Str × List Str)
  ms : List (Str × Str × Str)
  fl : List (Str × Str)
  ks : List (Str × Str)
  /-- defs whose exceptions are told; defs that are called where one is handled; classes of exceptions -/
  rz : List Str := []
  hts : List Str := []
  xs : List (Str × List Str) := []
  xf : List (Str × Str) := []
  xp : List Str := []
def Tab.fs (T : Tab) : List Str := (T.ds.filter fun d => d.at_.2.isNone).map (·.name)
/-- the defs that go through lists of their callers and leave them to them -/
def borD (d : He.DefD) : Bool := decide (d.qual = ("_law_kinds" : Str)) || decide (d.qual = ("next_scene" : Str)) || decide (d.qual = ("_law_wide" : Str))
def ctxOf (T : Tab) (d : He.DefD) : Ctx := ⟨namesOf d, d.scope, fun x => match d.scope.names.lookup x with
  | some .local => true
  | some .cell => true
  | _ => false, T.gl, T.fs, T.cs, T.ms, decide (d.at_ = (lamD, none)), T.fl, T.ks, borD d, false, T.hts, T.rz, T.rz.contains d.qual, T.xs, T.xf, T.xp⟩
def isOwn : IV → Bool
  | .d _ => false
  | _ => true
def lkOf (ivs : List IV) : LK := fun i => match ivs[i]? with
  | some iv => isOwn iv
  | none => false
/-- what the caller's arguments have become -/
def finals (env : Env) : Nat → List IV → Option (List IV)
  | _, [] => some []
  | i, iv :: r => (finals env (i + 1) r).bind fun l => if isOwn iv then (match env[i]? with
    | some (some iv') => some (iv' :: l)
    | _ => none) else some (iv :: l)
def runD (Φ : Fenv) (np n : Nat) (body : SDen) : Prim := fun ivs => if ivs.length = np then
    (body Φ (lkOf ivs) (ivs.map some ++ List.replicate (n - np) none)).bind fun r => (finals r.2 0 ivs).bind fun l => match r.1 with
      | .nx => some (.d .non, l)
      | .ret iv => some (iv, l)
      | _ => none
  else none
/-- what it raises -/
def runR (Φ : Fenv) (np n : Nat) (body : SDen) : Prim := fun ivs => if ivs.length = np then
    (body Φ (lkOf ivs) (ivs.map some ++ List.replicate (n - np) none)).bind fun r => (finals r.2 0 ivs).bind fun l => match r.1 with
      | .ex c g x => some (.d (.exc c g x), l)
      | _ => none
  else none
def bodyOf (T : Tab) (d : He.DefD) : Option SDen := cBody (ctxOf T d) d.body
def lamPs (ps : Arguments) : List Str := ps.args.map (·.arg)
def ctxL (T : Tab) (ps : Arguments) (sc : Scope) : Ctx := ⟨lamPs ps, sc, fun x => match sc.names.lookup x with
  | some .local => true
  | some .cell => true
  | _ => false, T.gl, T.fs, T.cs, T.ms, false, T.fl, T.ks, false, false, T.hts, [], false, T.xs, T.xf, T.xp⟩
def kindFn : ScopeKind → Bool
  | .function => true
  | _ => false
def okLam (ps : Arguments) (sc : Scope) : Bool := ps.posonlyargs.isEmpty && ps.vararg.isNone && ps.kwonlyargs.isEmpty && ps.kwarg.isNone && kindFn sc.kind && !sc.isCoroutine && !sc.isGenerator && decide ((lamPs ps).Nodup) && (lamPs ps).all (fun x => match sc.names.lookup x with
    | some .local => true
    | some .cell => true
    | _ => false) && noFree sc
def lamB (T : Tab) (ps : Arguments) (b : Expr) (sc : Scope) : Option Den := if okLam ps sc then (recN 40).e (ctxL T ps sc) b else none
/-- a lambda, handed itself ahead of its arguments -/
def runL (T : Tab) (Φ : Fenv) : Prim := fun ivs => match ivs with
  | .d (.lam q ps b sc) :: args => (lamB T ps b sc).bind fun el => (runD Φ (lamPs ps).length (lamPs ps).length (sRet el) args).bind fun r => some (r.1, .d (.lam q ps b sc) :: r.2)
  | _ => none
/-- an __init__, without the new instance itself -/
def isInit (d : He.DefD) : Bool := decide (d.at_.2 = some ("__init__" : Str))
def iniOf (T : Tab) (d : He.DefD) : Option (List (Str × Den)) := cIni (ctxOf T d) d.at_.1 d.body
def runI (Φ : Fenv) (c : Str) (np n : Nat) (ini : List (Str × Den)) : Prim := fun ivs => if ivs.length + 1 = np then
    (runIni Φ ini (none :: (ivs.map some ++ List.replicate (n - np) none)) []).bind fun r => (finals r.2 1 ivs).bind fun l => some (.obj c r.1, l)
  else none
/-- a default that is plain -/
def dvD : He.Dv → Option D
  | .non => some .non
  | .bl b => some (.bl b)
  | .int i => some (.int i)
  | _ => none
def dflD (d : He.DefD) : List D := match d.dfl with
  | [v] => (dvD v).toList
  | _ => []
/-- the defaults stand behind what is handed -/
def runX (ds : List D) (p : Prim) : Prim := match ds with
  | [] => p
  | x :: xs => fun ivs => (p (ivs ++ (x :: xs).map IV.d)).bind fun r => some (r.1, r.2.take ivs.length)
def okDfl (d : He.DefD) : Bool := match d.dfl with
  | [] => true
  | [v] => (dvD v).isSome && decide (2 ≤ (parsOf d).length) && d.at_.2.isNone
  | _ => false
def denI (T : Tab) (d : He.DefD) (Φ : Option Fenv) : Prim := fun ivs => Φ.bind fun Φ => (iniOf T d).bind fun ini => runI Φ d.at_.1 (parsOf d).length (namesOf d).length ini ivs
def bodyH (T : Tab) (d : He.DefD) : Option SDen := cBodyH (ctxOf T d) d.body
/-- what a def raises; what it means where an exception is handled -/
def denK (T : Tab) (Φ : Fenv) : Fenv := fun f ivs => match T.ds.find? fun d => keyX d.qual == f with
    | some d => if !isInit d && d.dfl.isEmpty then (bodyOf T d).bind fun b => runR Φ (parsOf d).length (namesOf d).length b ivs else none
    | none => (T.ds.find? fun d => keyH d.qual == f).bind fun d => if !isInit d && d.dfl.isEmpty then (bodyH T d).bind fun b => runD Φ (parsOf d).length (namesOf d).length b ivs else none
def denS (T : Tab) (q : Fenv × Option Fenv) : Fenv := fun f ivs => match T.ds.find? fun d => d.qual == f with
    | some d => if isInit d then denI T d q.2 ivs else (bodyOf T d).bind fun b => runX (dflD d) (runD q.1 (parsOf d).length (namesOf d).length b) ivs
    | none => if f = keyL then runL T q.1 ivs else denK T q.1 f ivs
def denP (T : Tab) : Nat → Fenv × Option Fenv
  | 0 => (fun _ _ => none, none)
  | k + 1 => (denS T (denP T k), some (denP T k).1)
def denF (T : Tab) (k : Nat) : Fenv := (denP T k).1
def okPars (a : Arguments) : Bool := a.posonlyargs.isEmpty && a.vararg.isNone && a.kwonlyargs.isEmpty && a.kwarg.isNone
def okAt (d : He.DefD) : Bool := (decide (d.at_ = (d.name, none)) && decide (d.qual = d.name)) || decide (d.at_.2 = some d.name)
def okDef (d : He.DefD) : Bool := okAt d && okPars d.params && okDfl d && d.kwd.isEmpty && kindFn d.scope.kind && !d.scope.isCoroutine && !d.scope.isGenerator && decide ((namesOf d).Nodup) && decide ((parsOf d).Nodup)
  && decide ((namesOf d).take (parsOf d).length = parsOf d) && (parsOf d).all (fun x => match d.scope.names.lookup x with
    | some .local => true
    | some .cell => true
    | _ => false) && d.scope.names.all (fun y => match y.2 with
    | .free => false
    | _ => true)
theorem okDef_scope {d : He.DefD} (h : okDef d = true) : FnScope (namesOf d) (parsOf d) d.scope ∧ okAt d = true ∧ okPars d.params = true ∧ okDfl d = true ∧ d.kwd = [] ∧ (parsOf d).Nodup := by
  unfold okDef at h
  simp only [Bool.and_eq_true, decide_eq_true_eq, Bool.not_eq_true', List.all_eq_true] at h
  obtain ⟨⟨⟨⟨⟨⟨⟨⟨⟨⟨⟨h1, h2⟩, h3⟩, h4⟩, h5⟩, h6⟩, h7⟩, h8⟩, h9⟩, h10⟩, h11⟩, h12⟩ := h
  refine ⟨⟨?_, h6, h7, h8, h10, fun x hx => ?_, fun y hy e => ?_⟩, h1, h2, h3, List.isEmpty_iff.mp h4, h9⟩
  · unfold kindFn at h5
    split at h5
    · assumption
    · cases h5
  · have := h11 x hx
    split at this
    · exact .inl (by assumption)
    · exact .inr (by assumption)
    · cases this
  · have := h12 y hy
    rw [e] at this
    cases this
theorem okPars_eq {a : Arguments} (h : okPars a = true) : a = ⟨[], a.args, none, [], a.kw_defaults, none, a.defaults⟩ := by
  obtain ⟨p, as, v, ko, kd, kw, df⟩ := a
  simp only [okPars, Bool.and_eq_true, List.isEmpty_iff, Option.isNone_iff_eq_none] at h
  obtain ⟨⟨⟨rfl, rfl⟩, rfl⟩, rfl⟩ := h
  rfl
theorem finals_len : ∀ {ivs : List IV} {env : Env} {i : Nat} {l : List IV}, finals env i ivs = some l → l.length = ivs.length
  | [], _, _, _, h => by cases h; rfl
  | iv :: r, env, i, l, h => by
    unfold finals at h
    obtain ⟨l', e, h⟩ := Option.bind_eq_some_iff.mp h
    have := finals_len e
    split at h
    · split at h
      · cases h; simp [this]
      · cases h
    · cases h; simp [this]
theorem finals_get : ∀ {ivs : List IV} {env : Env} {i : Nat} {l : List IV}, finals env i ivs = some l → ∀ (j : Nat) iv', l[j]? = some iv' → ∃ iv, ivs[j]? = some iv ∧ if isOwn iv then env[i + j]? = some (some iv') else iv' = iv
  | [], _, _, _, h, j, iv', e => by cases h; simp at e
  | iv :: r, env, i, l, h, j, iv', e => by
    unfold finals at h
    obtain ⟨l', e1, h⟩ := Option.bind_eq_some_iff.mp h
    have ih := finals_get e1
    have step : ∀ z, l = z :: l' → (if isOwn iv then env[i]? = some (some z) else z = iv) → ∃ iv_1, (iv :: r)[j]? = some iv_1 ∧ if isOwn iv_1 then env[i + j]? = some (some iv') else iv' = iv_1 := fun z hz hc => by
      subst hz
      cases j with
      | zero =>
        cases e
        exact ⟨iv, rfl, hc⟩
      | succ j =>
        obtain ⟨w, w1, w2⟩ := ih j iv' (by simpa using e)
        refine ⟨w, by simpa using w1, ?_⟩
        rw [show i + (j + 1) = i + 1 + j by omega]
        exact w2
    split at h
    case isTrue ho =>
      split at h
      case h_1 z hz => cases h; exact step z rfl (by rw [if_pos ho]; exact hz)
      case h_2 => cases h
    case isFalse ho => cases h; exact step iv rfl (by rw [if_neg ho])
theorem lkOf_iff {ivs : List IV} {i : Nat} : lkOf ivs i = true ↔ ∃ iv, ivs[i]? = some iv ∧ isOwn iv = true := by
  unfold lkOf
  split
  case h_1 iv e => exact ⟨fun h => ⟨iv, e, h⟩, fun ⟨iv', e', h⟩ => by rw [e] at e'; cases e'; exact h⟩
  case h_2 e => exact ⟨(fun h => nomatch (show (false = true) from h)), (fun ⟨iv', e', h⟩ => nomatch (show (none = some iv') from e ▸ e'))⟩
section
variable {K : Fg} {mg : MG}
theorem OwnV.cong {F H : Hp} {v : V} {iv : IV} {S S' : AS} (h : OwnV K mg F H v iv S) (e : ∀ b, S b ↔ S' b) : OwnV K mg F H v iv S' := by
  have : S = S' := funext fun b => propext (e b)
  rw [← this]; exact h
theorem own_d {F H : Hp} {v : V} {iv : IV} {S : AS} (h : OwnV K mg F H v iv S) (e : isOwn iv = false) : (∀ b, ¬ S b) ∧ ∀ {F' H' : Hp} {S' : AS}, Same F F' → (∀ b, ¬ S' b) → OwnV K mg F' H' v iv S' := by
  cases iv with
  | d x => exact ⟨h.2, fun s n => ⟨Rp.mono s _ _ h.1, n⟩⟩
  | _ => cases e
theorem run_out {np n : Nat} {N : List Str} {vs : List V} {ivs l : List IV} {F H : Hp} {fp : FP} {env' : Env} (hn : N.length = n) (st : StOk K mg F H (vs.map some) (ivs.map some) fp) (hl : ivs.length = np) (hvl : vs.length = np) (e2 : finals env' 0 ivs = some l) :
    StOk K mg F H (L2.start N vs) (ivs.map some ++ List.replicate (n - np) none) fp ∧ ∀ {σ' : L2.St} {H' F' : Hp} {fp' : FP}, StOk K mg F' H' σ' env' fp' → Stp (lkP (lkOf ivs)) F H (L2.start N vs) fp F' H' σ' fp' →
      ∃ fp'', StOk K mg F' H' (vs.map some) (l.map some) fp'' ∧ EStp F H (vs.map some) fp F' H' (vs.map some) fp'' := by
  have hst : L2.start N vs = vs.map some ++ List.replicate (n - np) none := by unfold L2.start; rw [hn, hvl]
  have st0 : StOk K mg F H (L2.start N vs) (ivs.map some ++ List.replicate (n - np) none) fp := by
    rw [hst]
    refine ⟨st.ex, by simp [hvl, hl], fun i iv q => ?_, fun i b z => ?_, st.disj, st.fr, st.tb⟩
    · by_cases hi : i < (ivs.map some).length
      · rw [List.getElem?_append_left hi] at q
        obtain ⟨v, q1, q2⟩ := st.slot i iv q
        refine ⟨v, ?_, q2⟩
        rw [List.getElem?_append_left (by rw [st.len]; exact hi)]
        exact q1
      · rw [List.getElem?_append_right (by omega), List.getElem?_replicate] at q
        split at q <;> cases q
    · obtain ⟨iv, q⟩ := st.emp i b z
      refine ⟨iv, ?_⟩
      rw [List.getElem?_append_left]
      · exact q
      · exact (List.getElem?_eq_some_iff.mp q).1
  have out : ∀ {σ' : L2.St} {H' F' : Hp} {fp' : FP}, StOk K mg F' H' σ' env' fp' → Stp (lkP (lkOf ivs)) F H (L2.start N vs) fp F' H' σ' fp' →
      ∃ fp'', StOk K mg F' H' (vs.map some) (l.map some) fp'' ∧ EStp F H (vs.map some) fp F' H' (vs.map some) fp'' := fun {σ' H' F' fp'} st' p => by
    have ll := finals_len e2
    refine ⟨fun i b => lkOf ivs i = true ∧ fp' i b, ⟨st'.ex, by simp [hvl, ll, hl], fun i iv q => ?_, fun i b z => ?_, fun i j b z y => st'.disj i j b z.2 y.2, fun i b z => st'.fr i b z.2, st'.tb⟩, ⟨p.p, fun i b z => p.own i b z.2, fun i _ => ⟨rfl, fun b z => (p.par i z.1).2 b z.2⟩⟩⟩
    · have q' : l[i]? = some iv := by
        rw [List.getElem?_map] at q
        cases w : l[i]? with
        | none => rw [w] at q; cases q
        | some z => rw [w] at q; cases q; rfl
      obtain ⟨iv0, g1, g2⟩ := finals_get e2 i iv q'
      have q0 : (ivs.map some)[i]? = some (some iv0) := by rw [List.getElem?_map, g1]; rfl
      obtain ⟨v, s1, s2⟩ := st.slot i iv0 q0
      refine ⟨v, s1, ?_⟩
      cases ho : isOwn iv0 with
      | true =>
        rw [ho] at g2
        have g2 : env'[0 + i]? = some (some iv) := g2
        rw [Nat.zero_add] at g2
        have lki : lkOf ivs i = true := lkOf_iff.mpr ⟨iv0, g1, ho⟩
        obtain ⟨v', t1, t2⟩ := st'.slot i iv g2
        have hpar := (p.par i lki).1
        rw [t1, hst, List.getElem?_append_left (by have := (List.getElem?_eq_some_iff.mp s1).1; exact this), s1] at hpar
        cases hpar
        exact OwnV.cong t2 fun b => ⟨fun z => ⟨lki, z⟩, fun z => z.2⟩
      | false =>
        rw [ho] at g2
        have g2 : iv = iv0 := g2
        subst g2
        obtain ⟨_, k2⟩ := own_d s2 ho
        refine k2 p.p.fF fun b z => ?_
        obtain ⟨iv1, g3, g4⟩ := lkOf_iff.mp z.1
        rw [g1] at g3; cases g3
        rw [ho] at g4; cases g4
    · obtain ⟨iv1, g3, g4⟩ := lkOf_iff.mp z.1
      have : i < l.length := by rw [ll]; exact (List.getElem?_eq_some_iff.mp g3).1
      exact ⟨l[i], by rw [List.getElem?_map, List.getElem?_eq_getElem this]; rfl⟩
  exact ⟨st0, fun a b => out a b⟩
theorem run_ok {W : WX} {Φ : Fenv} {np n : Nat} {N : List Str} {body : SDen} {vs : List V} {H : Hp} {Q : VK} (hn : N.length = n) (hp : np ≤ n) (h : tPrim K mg (runD Φ np n body) vs H Q) :
    vs.length = np ∧ ∃ lk, tS K mg Φ lk W body { nx := fun _ H' => Q .non H', rt := Q } (L2.start N vs) H := by
  obtain ⟨F, ivs, fp, res, ivs', st, e, c⟩ := h
  unfold runD at e
  split at e
  case isFalse => cases e
  case isTrue hl =>
  obtain ⟨⟨fl, env'⟩, e1, e⟩ := Option.bind_eq_some_iff.mp e
  obtain ⟨l, e2, e⟩ := Option.bind_eq_some_iff.mp e
  have hvl : vs.length = np := by have := st.len; simp only [List.length_map] at this; omega
  obtain ⟨st0, out⟩ := run_out hn st hl hvl e2
  refine ⟨hvl, lkOf ivs, F, _, fp, fl, env', st0, e1, ?_⟩
  cases fl with
  | nx =>
    cases e
    intro σ' H' F' fp' st' p
    obtain ⟨fp'', a, b⟩ := out st' p
    exact c .non H' F' fp'' _ a b (.ofD .non)
  | bk => cases e
  | ct => cases e
  | ret iv =>
    cases e
    intro v σ' H' F' fp' S st' p t
    obtain ⟨fp'', a, b⟩ := out st' p
    refine c v H' F' fp'' S a b ⟨t.1, fun x hx => ?_⟩
    obtain ⟨t1, t2, t3⟩ := t.2 x hx
    refine ⟨?_, t2⟩
    rcases t1 with t1 | ⟨i, i1, i2⟩
    · exact t1
    · exfalso
      obtain ⟨iv0, q⟩ := st.emp i x i2
      obtain ⟨v0, s1, s2⟩ := st.slot i iv0 q
      have g1 : ivs[i]? = some iv0 := by
        rw [List.getElem?_map] at q
        cases w : ivs[i]? with
        | none => rw [w] at q; cases q
        | some z => rw [w] at q; cases q; rfl
      have ho : isOwn iv0 = false := by
        cases ho : isOwn iv0 with
        | false => rfl
        | true => rw [lkOf_iff.mpr ⟨iv0, g1, ho⟩] at i1; cases i1
      exact (own_d s2 ho).1 x i2
  | ex _ _ _ => cases e
theorem runR_ok {E : XK} {Φ : Fenv} {np n : Nat} {N : List Str} {body : SDen} {vs : List V} {H : Hp} (hn : N.length = n) (h : tRz K mg (runR Φ np n body) vs H E) :
    vs.length = np ∧ ∃ lk, ∀ Q : VK, tS K mg Φ lk (fun cls od _ H' => E cls od H') body { nx := fun _ H' => Q .non H', rt := Q } (L2.start N vs) H := by
  obtain ⟨F, ivs, fp, cn, g, x, ivs', st, e, c⟩ := h
  unfold runR at e
  split at e
  case isFalse => cases e
  case isTrue hl =>
  obtain ⟨⟨fl, env'⟩, e1, e⟩ := Option.bind_eq_some_iff.mp e
  obtain ⟨l, e2, e⟩ := Option.bind_eq_some_iff.mp e
  have hvl : vs.length = np := by have := st.len; simp only [List.length_map] at this; omega
  obtain ⟨st0, out⟩ := run_out hn st hl hvl e2
  refine ⟨hvl, lkOf ivs, fun Q => ⟨F, _, fp, fl, env', st0, e1, ?_⟩⟩
  cases fl with
  | nx => cases e
  | bk => cases e
  | ct => cases e
  | ret iv => cases e
  | ex c2 g2 x2 =>
    cases e
    intro cls od σ' H' F' fp' st' p z
    obtain ⟨fp'', a, b⟩ := out st' p
    exact c cls od H' F' fp'' a b z
end
theorem okLam_scope {ps : Arguments} {sc : Scope} (h : okLam ps sc = true) : FnScope (lamPs ps) (lamPs ps) sc ∧ okPars ps = true ∧ (lamPs ps).Nodup := by
  unfold okLam at h
  simp only [Bool.and_eq_true, decide_eq_true_eq, Bool.not_eq_true', List.all_eq_true] at h
  obtain ⟨⟨⟨⟨⟨⟨⟨⟨⟨h1, h2⟩, h3⟩, h4⟩, h5⟩, h6⟩, h7⟩, h8⟩, h9⟩, h10⟩ := h
  refine ⟨⟨?_, h6, h7, h8, List.take_length, fun x hx => ?_, fun y hy e => ?_⟩, ?_, h8⟩
  · unfold kindFn at h5
    split at h5
    · assumption
    · cases h5
  · have := h9 x hx
    split at this
    · exact .inl (by assumption)
    · exact .inr (by assumption)
    · cases this
  · have := List.all_eq_true.mp h10 y hy
    rw [e] at this
    cases this
  · unfold okPars
    rw [h1, h2, h3, h4]; rfl
/-- the arguments behind the first one, which is data -/
theorem prim_tail {K : Fg} {mg : MG} {p : Prim} {x : V} {vs : List V} {H : Hp} {Q : VK} (h : tPrim K mg p (x :: vs) H Q) {R : D → Prim} (hp : ∀ ivs r, p ivs = some r → ∃ y args res out, ivs = .d y :: args ∧ R y args = some (res, out) ∧ r = (res, .d y :: out)) :
    ∃ F y, Rp K mg F x y ∧ Same F H ∧ (∃ args r, R y args = some r) ∧ tPrim K mg (R y) vs H Q := by
  obtain ⟨F, ivs, fp, res, ivs', st, e, c⟩ := h
  obtain ⟨y, args, res', out, rfl, e1, e2⟩ := hp _ _ e
  injection e2 with e2 e3
  subst e2 e3
  obtain ⟨v, s1, s2⟩ := st.slot 0 (.d y) rfl
  cases s1
  have n0 : ∀ b, ¬ fp 0 b := s2.2
  have fO : ∀ b, fpO fp b ↔ fpO (fun i => fp (i + 1)) b := fun b => ⟨fun ⟨i, z⟩ => by
    cases i with
    | zero => exact absurd z (n0 b)
    | succ i => exact ⟨i, z⟩, fun ⟨i, z⟩ => ⟨i + 1, z⟩⟩
  have st1 : StOk K mg F H (vs.map some) (args.map some) (fun i => fp (i + 1)) := by
    refine ⟨st.ex, by simpa using st.len, fun i iv q => ?_, fun i b z => ?_, fun i j b z y => by have := st.disj _ _ b z y; omega, fun i b z => st.fr _ b z, st.tb⟩
    · obtain ⟨v, g1, g2⟩ := st.slot (i + 1) iv (by simpa using q)
      exact ⟨v, by simpa using g1, g2⟩
    · obtain ⟨iv, q⟩ := st.emp (i + 1) b z
      exact ⟨iv, by simpa using q⟩
  refine ⟨F, y, s2.1, st.ex, ⟨_, _, e1⟩, F, args, _, _, _, st1, e1, fun v H' F' fp' S st' p' t => ?_⟩
  let g : FP := fun i b => match i with
    | 0 => False
    | i + 1 => fp' i b
  refine c v H' F' g S ⟨st'.ex, by simpa using st'.len, fun i iv q => ?_, fun i b z => ?_, fun i j b z y => ?_, fun i b z => ?_, st'.tb⟩ ⟨p'.p.mono fun b z => (fO b).mpr z, fun i b z => ?_, fun i _ => ⟨rfl, fun b z => ?_⟩⟩ t
  · cases i with
    | zero =>
      cases q
      exact ⟨_, rfl, Rp.mono p'.p.fF _ _ s2.1, fun b z => z⟩
    | succ i =>
      obtain ⟨v, g1, g2⟩ := st'.slot i iv (by simpa using q)
      exact ⟨v, by simpa using g1, g2⟩
  · cases i with
    | zero => exact z.elim
    | succ i =>
      obtain ⟨iv, q⟩ := st'.emp i b z
      exact ⟨iv, by simpa using q⟩
  · cases i with
    | zero => exact z.elim
    | succ i => cases j with
      | zero => exact y.elim
      | succ j => rw [st'.disj i j b z y]
  · cases i with
    | zero => exact z.elim
    | succ i => exact st'.fr i b z
  · cases i with
    | zero => exact z.elim
    | succ i => exact p'.own i b z
  · cases i with
    | zero => exact z.elim
    | succ i => exact (p'.par i trivial).2 b z
/-- an __init__ of one field -/
def iniG (d : He.DefD) : Option Str := match d.body with
  | [.Assign [.Attribute (.Name x _) g _] (.Name y _) _] => if decide (namesOf d = [x, y]) && decide (parsOf d = [x, y]) && goodName x && goodName y && d.dfl.isEmpty then some g else none
  | _ => none
structure TabOk (K : Fg) (mg : MG) (T : Tab) : Prop where
  blt : ∀ x ∈ bltNames, mg x = none
  gl : ∀ p ∈ T.gl, ∃ u v, mg p.1 = some u ∧ RelV v u ∧ ∀ F, Rp K mg F v p.2
  fns : ∀ d ∈ T.ds, okDef d = true ∧ (d.at_.2 = none → mg d.name = some (.ref (He.ga K d.name))) ∧ ∃ fd, FunD K d.name d.qual d.params d.body d.scope (d.dvs K) (d.kws K) (He.fAd K d.at_) fd
  cls : ∀ p ∈ T.cs, mg p.1 = some (.ref (He.ga K p.1)) ∧ ClsOk K (He.ga K p.1)
  isi : ∀ p ∈ T.cs, ∀ q ∈ T.cs, PySem.W.kitOne K (.ref (He.ga K p.1)) (.ref (He.ga K q.1)) = some (isSub p q.1)
  mts : ∀ p ∈ T.ms, mg p.1 = some (.ref (He.ga K p.1)) ∧ Cls K (He.ga K p.1) ∧ Meth K (He.ga K p.1) p.2.1 (He.ma K (He.ga K p.1) p.2.1) ∧ ∃ d ∈ T.ds, T.ds.find? (fun d' => d'.qual == p.2.2) = some d ∧ d.at_ = (p.1, some p.2.1) ∧ isInit d = false
  fld : ∀ p ∈ T.fl, mg p.1 = some (.ref (He.ga K p.1)) ∧ Cls K (He.ga K p.1) ∧ NoAttr K (He.ga K p.1) p.2
  mks : ∀ p ∈ T.ks, mg p.1 = some (.ref (He.ga K p.1)) ∧ Mk K (He.ga K p.1) (He.ma K (He.ga K p.1) "__init__") ∧ ∃ d ∈ T.ds, T.ds.find? (fun d' => d'.qual == p.2) = some d ∧ d.at_ = (p.1, some ("__init__" : Str))
  xcs : ∀ p ∈ T.xs, mg p.1 = some (.ref (He.ga K p.1)) ∧ XcC K (He.ga K p.1)
  xis : ∀ p ∈ T.xs, (∀ q ∈ T.xs, PySem.W.kitOne K (.ref (He.ga K p.1)) (.ref (He.ga K q.1)) = some (p.2.contains q.1) ∧ PySem.W.exmOne K (.ref (He.ga K p.1)) (.ref (He.ga K q.1)) = some (p.2.contains q.1)) ∧ PySem.W.kitOne K (.ref (He.ga K p.1)) (.type "ValueError") = some (p.2.contains "ValueError")
  xfs : ∀ p ∈ T.xf, mg p.1 = some (.ref (He.ga K p.1)) ∧ (XcC K (He.ga K p.1) ∧ OexC K (He.ga K p.1) ∧ PySem.W.findIn K (.ref (He.ga K p.1)) p.2 = some none ∧ PySem.W.findIn K (.ref (He.ga K p.1)) "__init__" = some (some (.ref (He.ma K (He.ga K p.1) "__init__"))) ∧
    PySem.W.typeIn K (.ref (He.ma K (He.ga K p.1) "__init__")) = some (.type "function")) ∧ ∃ d ∈ T.ds, d.at_ = (p.1, some ("__init__" : Str)) ∧ T.ds.find? (fun d' => d'.qual == d.qual) = some d ∧ iniG d = some p.2
  xps : ∀ c ∈ T.xp, mg c = some (.ref (He.ga K c)) ∧ XpC K (He.ga K c)
  hts : ∀ f ∈ T.hts, ∃ d, T.ds.find? (fun d' => d'.qual == f) = some d ∧ d.at_ = (f, none) ∧ d.name = f
  hdf : ∀ f ∈ T.hts, ∀ d, T.ds.find? (fun d' => d'.qual == f) = some d → d.dfl = []
  keys : T.ds.all (fun d => !(d.qual.cps[0]? == some 33) && !(d.qual.cps[0]? == some 63)) = true
theorem find_qual {ds : List He.DefD} {f : Str} {d : He.DefD} (h : ds.find? (fun d' => d'.qual == f) = some d) : d ∈ ds ∧ d.qual = f :=
  ⟨List.mem_of_find?_eq_some h, by have q := List.find?_some h; exact eq_of_beq q⟩
/-- what a body of the table may lean on, one level down -/
structure Lev (P : Program) (w : World) (K : Fg) (mg : MG) (base : Heap) (T : Tab) (k : Nat) : Prop where
  fns : ∀ f ∈ T.fs, FnHas P w K mg base (k + 2) (denF T k f) (denF T k (keyX f)) f
  hts : ∀ f ∈ T.hts, HotHas P w K mg base (k + 2) (denF T k (keyH f)) f
  mts : ∀ p ∈ T.ms, ∃ Ca f fd ps, mg p.1 = some (.ref Ca) ∧ Cls K Ca ∧ Meth K Ca p.2.1 f ∧ Binds K fd ps [] ∧ FnOk P w K mg base (L2.CX P w) (k + 2) f fd ps (fun vs H Q E => tPrim K mg (denF T k p.2.2) vs H Q ∨ tRz K mg (denF T k (keyX p.2.2)) vs H E)
  lm : LamHas P w K mg base (k + 2) (denF T k keyL)
  mks : ∀ p ∈ T.ks, (∀ ivs, denF T k p.2 ivs = none) ∨ ∃ Ca f fd ps j, mg p.1 = some (.ref Ca) ∧ Mk K Ca f ∧ Binds K fd ps [] ∧ j + 1 = k + 2 ∧ FnOk P w K mg base (L2.CX P w) j f fd ps (fun vs H Q _ => tInit K mg Ca (denF T k p.2) vs H Q)
  xfs : ∀ p ∈ T.xf, ∃ Ca, mg p.1 = some (.ref Ca) ∧ XfCl P w K mg base Ca p.2
def isLoc (scope : Scope) : Str → Bool := fun x => match scope.names.lookup x with
  | some .local => true
  | some .cell => true
  | _ => false
theorem Lev.xok {P : Program} {w : World} {K : Fg} {mg : MG} {base : Heap} {T : Tab} {k : Nat} (L : Lev P w K mg base T k) (ok : TabOk K mg T) {X : Cx} (e1 : X.prog = P) (e2 : X.w = w) (e3 : X.K = K) (e4 : X.mg = mg) (e5 : X.base = base) {C : Ctx} (hN : X.N = C.N) (hsc : X.env.scope = C.sc) (hfn : X.fn = fun _ => true)
    (c1 : C.loc = isLoc C.sc) (c2 : C.gl = T.gl) (c3 : C.fs = T.fs) (c4 : C.cs = T.cs) (c5 : C.ms = T.ms) (c6 : C.fl = T.fl) (c7 : C.ks = T.ks) (c8 : C.hts = T.hts) (c9 : C.xs = T.xs) (c10 : C.xf = T.xf) (c11 : C.xp = T.xp)
    (nd : C.N.Nodup) (hc : C.hot = false → X.calm = true) (hd : C.hot = false → X.A.handled = none) (hr : L2H.RoomH (k + 2) X.A)
    (hl : C.lam = true → ∃ c P, (c, P) ∈ lamT K ∧ lamT K = [(c, P)] ∧ LamX.TabB base mg c P ∧ X.env.code = .ref c ∧ X.env.qual ++ "<lambda>" = lamQ) : XOk X C (denF T k) (k + 2) := by
  subst e1 e2 e3 e4 e5
  refine ⟨hN, nd, hsc, hc, hr, hd, by omega, ok.blt, by rw [c2]; exact ok.gl, by rw [c3]; exact L.fns, by rw [c8]; exact L.hts, by rw [c4]; exact fun p hp => ⟨_, (ok.cls p hp).1, (ok.cls p hp).2⟩, fun p hp q hq Ca Da e1 e2 => ?_, by rw [c5]; exact L.mts, fun x hx => ?_, L.lm,
    by rw [c6]; exact fun p hp => ⟨_, (ok.fld p hp).1, (ok.fld p hp).2.1, (ok.fld p hp).2.2⟩, by rw [c7]; exact L.mks, hl, by rw [c9]; exact fun p hp => ⟨_, (ok.xcs p hp).1, (ok.xcs p hp).2⟩, fun p hp Ca hm => ?_, by rw [c10]; exact L.xfs, by rw [c11]; exact fun c hc => ⟨_, (ok.xps c hc).1, (ok.xps c hc).2⟩⟩
  · rw [c4] at hp hq
    rw [(ok.cls p hp).1] at e1
    rw [(ok.cls q hq).1] at e2
    cases e1
    cases e2
    exact ok.isi p hp q hq
  · rw [c1] at hx
    have hx : (match C.sc.names.lookup x with
      | some .local => true
      | some .cell => true
      | _ => false) = true := hx
    refine ⟨?_, .inl (by rw [hfn])⟩
    rw [hsc]
    split at hx
    · exact .inl (by assumption)
    · exact .inr (by assumption)
    · cases hx
  · rw [c9] at hp ⊢
    obtain ⟨i1, i2⟩ := ok.xis p hp
    rw [(ok.xcs p hp).1] at hm
    cases hm
    refine ⟨fun q hq Da hd => ?_, i2⟩
    rw [(ok.xcs q hq).1] at hd
    cases hd
    exact i1 q hq
/-- a lambda of the table is called -/
theorem lam_has {P : Program} {w : World} {K : Fg} {mg : MG} {base : Heap} {T : Tab} {k : Nat} (L : Lev P w K mg base T k) (ok : TabOk K mg T) : LamHas P w K mg base (k + 3) (runL T (denF T k)) := by
  intro A outer s H x vs us Q hr e0 rv h
  obtain ⟨F, y, rp, ex, ⟨args, r, he⟩, h2⟩ := prim_tail h (R := fun y => match y with
    | .lam q ps b sc => fun args => (lamB T ps b sc).bind fun el => runD (denF T k) (lamPs ps).length (lamPs ps).length (sRet el) args
    | _ => fun _ => none) (fun ivs r e => by
      unfold runL at e
      split at e
      case h_1 q ps b sc args =>
        obtain ⟨el, e1, e⟩ := Option.bind_eq_some_iff.mp e
        obtain ⟨⟨res, out⟩, e2, e⟩ := Option.bind_eq_some_iff.mp e
        cases e
        exact ⟨_, args, res, out, rfl, by show (lamB T ps b sc).bind _ = _; rw [e1]; exact e2, rfl⟩
      case h_2 => cases e)
  cases y with
  | lam q ps b sc =>
    cases rp with
    | @lam f c _ _ _ _ g1 g2 =>
      obtain ⟨el, el1, _⟩ := Option.bind_eq_some_iff.mp he
      have h : tPrim K mg (runD (denF T k) (lamPs ps).length (lamPs ps).length (sRet el)) vs H Q := by
        have e : (fun args => (lamB T ps b sc).bind fun el => runD (denF T k) (lamPs ps).length (lamPs ps).length (sRet el) args) = runD (denF T k) (lamPs ps).length (lamPs ps).length (sRet el) := by
          funext args; rw [el1]; rfl
        rw [← e]
        exact h2
      unfold lamB at el1
      split at el1
      case isFalse => cases el1
      case isTrue okl =>
      obtain ⟨S, okp, nd⟩ := okLam_scope okl
      obtain ⟨⟨pm, ctv, hf⟩, _⟩ := e0.hok _ _ (ex _ _ g1)
      obtain ⟨⟨oc, vc, t, hoc, hdc, hvc⟩, _⟩ := e0.hok _ _ (ex _ _ g2)
      obtain ⟨hvl, lk, tt⟩ := run_ok (W := fun _ _ _ _ => False) (N := lamPs ps) rfl (Nat.le_refl _) h
      have tt := tS_Ret tt
      refine ⟨f, rfl, ⟨_, _, _, _, hf⟩, ?_⟩
      have lim : s.heap.NoLimit := e0.mod.nolimit.keeps fun b o e => (e0.bs b o e).1
      have hkind : ∀ y ∈ (lamPs ps).zip us, sc.names.lookup y.1 = some .local ∨ (sc.names.lookup y.1 = some .cell ∧ ((cellsFrom (s.heap.objs.size + 1) sc.names []).lookup y.1).isSome = true) := fun y hy => by
        have hy : (y.1, y.2) ∈ (lamPs ps).zip us := hy
        exact (S.par y.1 (List.of_mem_zip hy).1).imp id fun q => ⟨q, PySem.W.cellsFrom_some _ _ _ (.inl q)⟩
      refine PySem.W.kla_callFunE hr.depth hf rfl S.co S.gen rfl ⟨c, oc, vc, t, rfl, hoc, hdc, hvc⟩ ?_
      rw [bind_plain (as := ps.args) (okPars_eq okp) rfl nd us (by rw [← rv.length]; exact hvl)]
      refine wpAny_pure (wpAny_newFunctionEnv_cells S.kind hkind fun env he2 s1 x => ?_)
      subst he2
      have I : Inv (cxOf (L2.CX P w) P w K mg base (lamPs ps) q sc f (.ref c) A outer s H E0).nox [] (L2.start (lamPs ps) vs) H s1 := Inv.wish (inv_start S hr.hd e0 hvl rv x) _
      refine ⟨lim.keeps x.toInCall.keep, PySem.W.kla_codeExpr ?_⟩
      have xok := L.xok ok (X := (cxOf (L2.CX P w) P w K mg base (lamPs ps) q sc f (.ref c) A outer s H E0).nox) (C := ctxL T ps sc) rfl rfl rfl rfl rfl rfl rfl rfl rfl rfl rfl rfl rfl rfl rfl rfl rfl rfl rfl nd (fun _ => rfl) (fun _ => hr.hd) (L2H.roomH_of (hr.deeper _)) (fun z => nomatch z)
      have pe := (recN_ok (Φ := denF T k) (k := k + 2) 40 _ _ xok).1 b el el1
      refine wpAny_mono (pe.run [] _ _ H _ I tt) (fun v s' hq => ?_) fun e s' hq => hq.elim
      obtain ⟨w', H', J', rv', q'⟩ := hq
      exact ⟨w', H', J'.os, J'.bare, J'.base, J'.hok, rv', q'⟩
  | _ => cases he
/-- the tables of the base -/
def Tbl (K : Fg) (mg : MG) (base : Heap) : Prop := ∀ p ∈ lamT K, LamX.TabB base mg p.1 p.2
theorem lamT_one {K : Fg} {o : Obj} {fd : FuncData} (h : K.lookup (He.fAd K (lamD, none)) = some o) (hd : o.data = .func fd) : lamT K = [He.cT K (lamD, none)] := by
  obtain ⟨oc, od, dt, sl⟩ := o
  cases hd
  unfold lamT
  rw [h]
/-- the context of a def's body -/
theorem TabOk.xokD {P : Program} {w : World} {K : Fg} {mg : MG} {base : Heap} {T : Tab} (ok : TabOk K mg T) (TB : Tbl K mg base) {k : Nat} (L : Lev P w K mg base T k) {d : He.DefD} (hd : d ∈ T.ds) {oc : Value} {od : Option Addr} {dV kV doc pm : Value} {an : Option Addr} {cdv ct : Value} {osl : Array (Option Value)}
    (lk : K.lookup (He.fAd K d.at_) = some ⟨oc, od, .func (PySem.W.fnOf d.name d.qual d.params d.body d.scope dV kV doc pm an cdv ct), osl⟩) (hcd : PySem.W.codeIn K cdv d.qual = true) {A : Around} {outer : List PySem.Env} {s : Shared} {H : Hp} {E : XK}
    (hh : A.handled = none) (hr : L2H.RoomH (k + 2) (A.deeper (PyProof.Rows.envOfC d.qual d.scope s.heap.objs.size (He.fAd K d.at_) cdv))) : XOk (cxOf (L2.CX P w) P w K mg base (namesOf d) d.qual d.scope (He.fAd K d.at_) cdv A outer s H E) (ctxOf T d) (denF T k) (k + 2) := by
  obtain ⟨m2, m1, _⟩ := ok.fns d hd
  obtain ⟨S, a1, a2, a3, a4, a5⟩ := okDef_scope m2
  refine L.xok ok (C := ctxOf T d) rfl rfl rfl rfl rfl rfl rfl rfl rfl rfl rfl rfl rfl rfl rfl rfl rfl rfl rfl S.nd (fun _ => rfl) (fun _ => hh) hr fun z => ?_
  have hat : d.at_ = (lamD, none) := of_decide_eq_true z
  have one := lamT_one (by rw [← hat]; exact lk) rfl
  have hq : d.qual = lamD := by
    unfold okAt at a1
    rw [hat] at a1
    simp only [Bool.or_eq_true, Bool.and_eq_true, decide_eq_true_eq] at a1
    rcases a1 with ⟨z1, z2⟩ | z1
    · exact z2.trans (congrArg Prod.fst z1).symm
    · cases z1
  refine ⟨(He.cT K (lamD, none)).1, (He.cT K (lamD, none)).2, by rw [one]; exact List.mem_singleton.mpr rfl, one, TB _ (by rw [one]; exact List.mem_singleton.mpr rfl), ?_, by rw [hq]; rfl⟩
  cases cdv with
  | ref c =>
    have : He.codeOf K (lamD, none) = c := He.codeOf_eq (p := (lamD, none)) (by rw [← hat]; exact lk) rfl
    show Value.ref c = .ref (He.codeOf K (lamD, none))
    rw [this]
  | _ => cases hcd
theorem stx_of {P : Program} {w : World} {K : Fg} {mg : MG} {base : Heap} {N : List Str} {qual : Str} {scope : Scope} {f : Addr} {cdv : Value} {A : Around} {outer : List PySem.Env} {s : Shared} {H : Hp} {E : XK} : StX (cxOf (L2.CX P w) P w K mg base N qual scope f cdv A outer s H E) (fun cls od _ H' => E cls od H') :=
  ⟨passes_of rfl, takes_of rfl rfl rfl rfl, rfl, rfl, rfl⟩
theorem TabOk.fn_at {P : Program} {w : World} {K : Fg} {mg : MG} {base : Heap} {T : Tab} (ok : TabOk K mg T) (TB : Tbl K mg base) {k : Nat} (L : Lev P w K mg base T k) {d : He.DefD} (hd : d ∈ T.ds) {b : SDen} (eb : bodyOf T d = some b) {fd : FuncData} {dvs : List V} {kws : List (Str × V)} (F : FunD K d.name d.qual d.params d.body d.scope dvs kws (He.fAd K d.at_) fd) :
    FnOk P w K mg base (L2.CX P w) (k + 3) (He.fAd K d.at_) fd (parsOf d) (fun vs H Q E => tPrim K mg (runD (denF T k) (parsOf d).length (namesOf d).length b) vs H Q ∨ tRz K mg (runR (denF T k) (parsOf d).length (namesOf d).length b) vs H E) := by
  obtain ⟨m2, m1, _⟩ := ok.fns d hd
  obtain ⟨S, a1, a2, a3, a4, a5⟩ := okDef_scope m2
  have hpl : (parsOf d).length ≤ (namesOf d).length := by have := congrArg List.length S.pre; rw [List.length_take] at this; omega
  obtain ⟨oc, od, dV, kV, doc, pm, an, cdv, ct, osl, rfl, lk, hcd, _, _⟩ := F.ex
  have two : ∀ {vs H Q} {E : XK}, (tPrim K mg (runD (denF T k) (parsOf d).length (namesOf d).length b) vs H Q ∨ tRz K mg (runR (denF T k) (parsOf d).length (namesOf d).length b) vs H E) →
      vs.length = (parsOf d).length ∧ ∃ lk', tS K mg (denF T k) lk' (fun cls od _ H' => E cls od H') b { nx := fun _ H' => Q .non H', rt := Q } (L2.start (namesOf d) vs) H := fun h => by
    rcases h with h | h
    · exact run_ok rfl hpl h
    · obtain ⟨l, lk', t⟩ := runR_ok (N := namesOf d) rfl h
      exact ⟨l, lk', t _⟩
  refine fn_of lk hcd S (fun vs H Q E h => (two h).1) fun A outer s H vs Q E hr h => ?_
  obtain ⟨_, lk', t⟩ := two h
  exact ⟨_, cBody_ok (ok.xokD (A := A) (outer := outer) (s := s) (H := H) (E := E) TB L hd lk hcd hr.hd (L2H.roomH_of hr)) stx_of eb, t⟩
/-- .. called where an exception is handled -/
theorem hot_of {X : Cx} {C : Ctx} {Φ : Fenv} {k : Nat} (ok : XOk X C Φ k) {A' : Around} {xe' : Value → Shared → Prop} (hr : L2H.RoomH k A') : XOk { X with A := A', calm := false, xe := xe' } (hotC C) Φ k :=
  ⟨ok.hN, ok.nd, ok.sc, (fun z => nomatch z), hr, (fun z => nomatch z), ok.k2, ok.blt, ok.gl, (fun f hf => nomatch hf), ok.hts, (fun p hp => nomatch hp), (fun p hp => nomatch hp), (fun p hp => nomatch hp), ok.loc, ok.lm, ok.fld, (fun p hp => nomatch hp), (fun z => nomatch z), ok.xcs, ok.xis, ok.xfs, ok.xps⟩
theorem TabOk.hot_at {P : Program} {w : World} {K : Fg} {mg : MG} {base : Heap} {T : Tab} (ok : TabOk K mg T) (TB : Tbl K mg base) {k : Nat} (L : Lev P w K mg base T k) {d : He.DefD} (hd : d ∈ T.ds) {b : SDen} (eb : bodyH T d = some b) {fd : FuncData} {dvs : List V} {kws : List (Str × V)} (F : FunD K d.name d.qual d.params d.body d.scope dvs kws (He.fAd K d.at_) fd) :
    FnHt P w K mg base (k + 3) (He.fAd K d.at_) fd (parsOf d) (fun vs H Q _ => tPrim K mg (runD (denF T k) (parsOf d).length (namesOf d).length b) vs H Q) := by
  obtain ⟨m2, m1, _⟩ := ok.fns d hd
  obtain ⟨S, a1, a2, a3, a4, a5⟩ := okDef_scope m2
  have hpl : (parsOf d).length ≤ (namesOf d).length := by have := congrArg List.length S.pre; rw [List.length_take] at this; omega
  obtain ⟨oc, od, dV, kV, doc, pm, an, cdv, ct, osl, rfl, lk, hcd, _, _⟩ := F.ex
  refine fn_ofHt (N := namesOf d) lk hcd S (fun vs H Q E h => (run_ok (W := fun _ _ _ _ => False) (N := namesOf d) rfl hpl h).1) fun A outer s H vs Q E hr h => ?_
  obtain ⟨_, lk', t⟩ := run_ok (W := fun _ _ _ _ => False) (N := namesOf d) rfl hpl h
  have xok := ok.xokD (A := { A with handled := none }) (outer := outer) (s := s) (H := H) (E := E) TB L hd lk hcd rfl ⟨hr.dp, hr.un⟩
  refine ⟨_, cBodyH_ok (X := cxHt P w K mg base (namesOf d) d.qual d.scope (He.fAd K d.at_) cdv A outer s H E) (hot_of xok hr) ?_ eb, t⟩
  exact passes_of (X := cxHt P w K mg base (namesOf d) d.qual d.scope (He.fAd K d.at_) cdv A outer s H E) rfl
theorem start_cons {N : List Str} {v : V} {vs : List V} {n np : Nat} (hn : N.length = n) (hv : vs.length + 1 = np) : L2.start N (v :: vs) = some v :: (vs.map some ++ List.replicate (n - np) none) := by
  unfold L2.start
  rw [hn]
  simp only [List.length_cons, List.map_cons, List.cons_append]
  rw [hv]
theorem run_init {K : Fg} {mg : MG} {Φ : Fenv} {c : Str} {np n : Nat} {N : List Str} {ini : List (Str × Den)} {vs : List V} {H : Hp} {Q : VK} {Ca : Addr} (hn : N.length = n) (hp : np ≤ n) (hm : mg c = some (.ref Ca)) (h : tInit K mg Ca (runI Φ c np n ini) vs H Q) :
    vs.length = np ∧ tIni K mg Φ c ini { nx := fun _ H' => Q .non H', rt := Q } (L2.start N vs) H := by
  obtain ⟨x, vs0, dx, F, ivs, fp, res, ivs', rfl, hx, Fx, nfp, st, e, kk⟩ := h
  unfold runI at e
  split at e
  case isFalse => cases e
  case isTrue hl =>
  obtain ⟨⟨fs', env'⟩, e1, e⟩ := Option.bind_eq_some_iff.mp e
  obtain ⟨l, e2, e⟩ := Option.bind_eq_some_iff.mp e
  cases e
  have hvl : vs0.length = ivs.length := by simpa using st.len
  have hst := start_cons (N := N) (v := .ref x) (vs := vs0) (np := np) hn (by omega)
  let fp1 : FP := fun i b => match i with
    | 0 => False
    | i + 1 => fp i b
  have st0 : StOk K mg F H (L2.start N (.ref x :: vs0)) (none :: (ivs.map some ++ List.replicate (n - np) none)) fp1 := by
    rw [hst]
    refine ⟨st.ex, by simp [hvl], fun i iv q => ?_, fun i b z => ?_, fun i j b z y => ?_, fun i b z => ?_, st.tb⟩
    · cases i with
      | zero => cases q
      | succ i =>
        have q : (ivs.map some ++ List.replicate (n - np) none)[i]? = some (some iv) := q
        by_cases hi : i < (ivs.map some).length
        · rw [List.getElem?_append_left hi] at q
          obtain ⟨v, q1, q2⟩ := st.slot i iv q
          refine ⟨v, ?_, q2⟩
          show (vs0.map some ++ _)[i]? = _
          rw [List.getElem?_append_left (by rw [st.len]; exact hi)]
          exact q1
        · rw [List.getElem?_append_right (by omega), List.getElem?_replicate] at q
          split at q <;> cases q
    · cases i with
      | zero => exact z.elim
      | succ i =>
        obtain ⟨iv, q⟩ := st.emp i b z
        refine ⟨iv, ?_⟩
        show (ivs.map some ++ _)[i]? = _
        rw [List.getElem?_append_left]
        · exact q
        · exact (List.getElem?_eq_some_iff.mp q).1
    · cases i with
      | zero => exact z.elim
      | succ i => cases j with
        | zero => exact y.elim
        | succ j => rw [st.disj i j b z y]
    · cases i with
      | zero => exact z.elim
      | succ i => exact st.fr i b z
  refine ⟨by simp; omega, F, _, fp1, x, Ca, dx, [], [], [], fs', env', by rw [hst]; rfl, hm, hx, .nil, Fx, (fun b hb => absurd hb (by simp)), (fun i b z => ⟨fun e => ?_, by simp⟩), st0, e1, fun H' F' fp' fv' os' st' ps par ex fo Fx' nw => ?_⟩
  · cases i with
    | zero => exact z.elim
    | succ i => rw [e] at z; exact nfp i z
  have ll := finals_len e2
  refine kk H' F' (fun i b => lkOf ivs i = true ∧ fp' (i + 1) b) (fun b => b = x ∨ b ∈ os') ⟨st'.ex, by simp [hvl, ll], fun i iv q => ?_, fun i b z => ?_, fun i j b z y => by have := st'.disj (i + 1) (j + 1) b z.2 y.2; omega, fun i b z => st'.fr _ b z.2, st'.tb⟩ (ps.mono fun b z => ?_) (fun i b z => par (i + 1) b z.2) ⟨x, Ca, dx, fv', os', rfl, hm, ex, fo, fun b => Iff.rfl⟩ fun b hb => ?_
  · have q' : ivs'[i]? = some iv := by
      rw [List.getElem?_map] at q
      cases w : ivs'[i]? with
      | none => rw [w] at q; cases q
      | some z => rw [w] at q; cases q; rfl
    obtain ⟨iv0, g1, g2⟩ := finals_get e2 i iv q'
    have q0 : (ivs.map some)[i]? = some (some iv0) := by rw [List.getElem?_map, g1]; rfl
    obtain ⟨v, s1, s2⟩ := st.slot i iv0 q0
    refine ⟨v, s1, ?_⟩
    cases ho : isOwn iv0 with
    | true =>
      rw [ho] at g2
      have g2 : env'[1 + i]? = some (some iv) := g2
      rw [Nat.add_comm] at g2
      have lki : lkOf ivs i = true := lkOf_iff.mpr ⟨iv0, g1, ho⟩
      obtain ⟨v', t1, t2⟩ := st'.slot (i + 1) iv g2
      rw [hst] at t1
      have t1 : (vs0.map some ++ List.replicate (n - np) none)[i]? = some (some v') := t1
      rw [List.getElem?_append_left ((List.getElem?_eq_some_iff.mp s1).1), s1] at t1
      cases t1
      exact OwnV.cong t2 fun b => ⟨fun z => ⟨lki, z⟩, fun z => z.2⟩
    | false =>
      rw [ho] at g2
      have g2 : iv = iv0 := g2
      subst g2
      obtain ⟨_, k2⟩ := own_d s2 ho
      refine k2 ps.fF fun b z => ?_
      obtain ⟨iv1, g3, g4⟩ := lkOf_iff.mp z.1
      rw [g1] at g3; cases g3
      rw [ho] at g4; cases g4
  · obtain ⟨iv1, g3, g4⟩ := lkOf_iff.mp z.1
    have : i < ivs'.length := by rw [ll]; exact (List.getElem?_eq_some_iff.mp g3).1
    exact ⟨ivs'[i], by rw [List.getElem?_map, List.getElem?_eq_getElem this]; rfl⟩
  · rcases z with ⟨i, z⟩ | z | z
    · cases i with
      | zero => exact z.elim
      | succ i => exact .inl ⟨i, z⟩
    · exact .inr z
    · cases z
  · rcases hb with z | z
    · rw [z]; exact ⟨.inl rfl, Fx'⟩
    · refine ⟨?_, (nw b z).1⟩
      rcases (nw b z).2 with w | w
      · cases w
      · exact .inr w
theorem TabOk.ini_at {P : Program} {w : World} {K : Fg} {mg : MG} {base : Heap} {T : Tab} (ok : TabOk K mg T) {k : Nat} (L : Lev P w K mg base T k) {d : He.DefD} (hd : d ∈ T.ds) (hi : isInit d = true) {ini : List (Str × Den)} (eb : iniOf T d = some ini) {Ca : Addr} (hm : mg d.at_.1 = some (.ref Ca)) {fd : FuncData} (F : FunD K d.name d.qual d.params d.body d.scope [] [] (He.fAd K d.at_) fd) :
    FnOk P w K mg base (L2.CX P w) (k + 3) (He.fAd K d.at_) fd (parsOf d) (fun vs H Q _ => tInit K mg Ca (runI (denF T k) d.at_.1 (parsOf d).length (namesOf d).length ini) vs H Q) := by
  obtain ⟨m2, m1, _⟩ := ok.fns d hd
  obtain ⟨S, a1, a2, a3, a4, a5⟩ := okDef_scope m2
  have hpl : (parsOf d).length ≤ (namesOf d).length := by have := congrArg List.length S.pre; rw [List.length_take] at this; omega
  obtain ⟨oc, od, dV, kV, doc, pm, an, cdv, ct, osl, rfl, lk, hcd, _, _⟩ := F.ex
  refine fn_of lk hcd S (fun vs H Q E h => (run_init (N := namesOf d) rfl hpl hm h).1) fun A outer s H vs Q E hr h => ?_
  obtain ⟨_, t⟩ := run_init (N := namesOf d) rfl hpl hm h
  refine ⟨_, PSs.nox ?_, t⟩
  refine cIni_ok (C := ctxOf T d) (k := k + 2) (L.xok ok (X := (cxOf (L2.CX P w) P w K mg base (namesOf d) d.qual d.scope (He.fAd K d.at_) cdv A outer s H E).nox) (C := ctxOf T d) rfl rfl rfl rfl rfl rfl rfl rfl rfl rfl rfl rfl rfl rfl rfl rfl rfl rfl rfl S.nd (fun _ => rfl) (fun _ => hr.hd) (L2H.roomH_of hr) fun z => ?_) eb
  have hat : d.at_ = (lamD, none) := of_decide_eq_true z
  unfold isInit at hi
  rw [hat] at hi
  exact absurd (of_decide_eq_true hi) (by simp)
theorem dfl_or {d : He.DefD} (h : okDfl d = true) : d.dfl = [] ∨ ∃ v x, d.dfl = [v] ∧ dvD v = some x ∧ 2 ≤ (parsOf d).length ∧ d.at_.2 = none := by
  unfold okDfl at h
  split at h
  case h_1 e => exact .inl e
  case h_2 v e =>
    simp only [Bool.and_eq_true, decide_eq_true_eq, Option.isNone_iff_eq_none] at h
    obtain ⟨x, hx⟩ := Option.isSome_iff_exists.mp h.1.1
    exact .inr ⟨v, x, e, hx, h.1.2, h.2⟩
  case h_3 => cases h
theorem dv_rp {K : Fg} {mg : MG} {F : Hp} {v : He.Dv} {x : D} (h : dvD v = some x) : Rp K mg F (v.v K) x := by
  cases v with
  | non => cases h; exact .non
  | bl b => cases h; exact .bl b
  | int i => cases h; exact .int i
  | _ => cases h
/-- what stands behind the arguments is data: a primitive with it is one without -/
theorem prim_dfl {K : Fg} {mg : MG} {p : Prim} {dd : List D} {dvs vs : List V} {H : Hp} {Q : VK} (hr : ∀ F, Rps K mg F dvs dd) (h : tPrim K mg (fun ivs => (p (ivs ++ dd.map IV.d)).bind fun r => some (r.1, r.2.take ivs.length)) vs H Q) : tPrim K mg p (vs ++ dvs) H Q := by
  obtain ⟨F, ivs, fp, res, ivs', st, e, c⟩ := h
  obtain ⟨⟨res', out⟩, e1, e2⟩ := Option.bind_eq_some_iff.mp e
  cases e2
  have ln : vs.length = ivs.length := by simpa using st.len
  have ld := (hr F).len
  have fe : ∀ {g : FP} {i : Nat}, i < ivs.length → (fun b => i < ivs.length ∧ g i b) = g i := fun hi => funext fun b => propext ⟨fun z => z.2, fun z => ⟨hi, z⟩⟩
  refine ⟨F, ivs ++ dd.map IV.d, fun i b => i < ivs.length ∧ fp i b, _, _, ⟨st.ex, by simp [ln, ld], fun i iv q => ?_, fun i b z => ?_, fun i j b z y => st.disj i j b z.2 y.2, fun i b z => st.fr i b z.2, st.tb⟩, e1, fun v H' F' fp' S st' p' t => ?_⟩
  · rw [List.getElem?_map] at q
    by_cases hi : i < ivs.length
    · rw [List.getElem?_append_left hi] at q
      obtain ⟨v, g1, g2⟩ := st.slot i iv (by rw [List.getElem?_map]; exact q)
      rw [fe hi]
      refine ⟨v, ?_, g2⟩
      rw [List.getElem?_map] at g1 ⊢
      rw [List.getElem?_append_left (by omega)]
      exact g1
    · rw [List.getElem?_append_right (by omega), List.getElem?_map] at q
      cases hd : dd[i - ivs.length]? with
      | none => rw [hd] at q; cases q
      | some x =>
        rw [hd] at q
        cases q
        obtain ⟨u, g1, g2⟩ := (hr F).get _ hd
        refine ⟨u, ?_, g2, fun b z => hi z.1⟩
        rw [List.getElem?_map, List.getElem?_append_right (by omega), ln, g1]; rfl
  · obtain ⟨iv, q⟩ := st.emp i b z.2
    refine ⟨iv, ?_⟩
    rw [List.getElem?_map] at q ⊢
    rw [List.getElem?_append_left z.1]
    exact q
  · have lo : vs.length + dvs.length = out.length := by simpa using st'.len
    have fe2 : ∀ {i : Nat}, i < ivs.length → (fun b => i < ivs.length ∧ fp' i b) = fp' i := fun hi => fe hi
    refine c v H' F' (fun i b => i < ivs.length ∧ fp' i b) S ⟨st'.ex, by simp; omega, fun i iv q => ?_, fun i b z => ?_, fun i j b z y => st'.disj i j b z.2 y.2, fun i b z => st'.fr i b z.2, st'.tb⟩ ⟨p'.p.mono fun b ⟨i, z⟩ => ⟨i, z.2⟩, fun i b z => ?_, fun i _ => ⟨rfl, fun b z => ((p'.par i trivial).2 b z.2).2⟩⟩ t
    · rw [List.getElem?_map] at q
      have hi : i < ivs.length := by
        by_cases hi : i < ivs.length
        · exact hi
        · rw [List.getElem?_take, if_neg hi] at q; cases q
      rw [List.getElem?_take, if_pos hi] at q
      obtain ⟨w, g1, g2⟩ := st'.slot i iv (by rw [List.getElem?_map]; exact q)
      rw [fe2 hi]
      refine ⟨w, ?_, g2⟩
      rw [List.getElem?_map] at g1 ⊢
      rw [List.getElem?_append_left (by omega)] at g1
      exact g1
    · obtain ⟨iv, q⟩ := st'.emp i b z.2
      refine ⟨iv, ?_⟩
      rw [List.getElem?_map] at q ⊢
      rw [List.getElem?_take, if_pos z.1]
      exact q
    · rcases p'.own i b z.2 with y | y
      · exact .inl y.2
      · exact .inr y
/-- all that a level tells of the defs -/
structure Lv (P : Program) (w : World) (K : Fg) (mg : MG) (base : Heap) (T : Tab) (k : Nat) : Prop where
  lm : LamHas P w K mg base (k + 2) (denF T k keyL)
  fx : ∀ (d : He.DefD), T.ds.find? (fun d' => d'.qual == d.qual) = some d → isInit d = false → ∀ fd, FunD K d.name d.qual d.params d.body d.scope (d.dvs K) (d.kws K) (He.fAd K d.at_) fd →
      ∃ dvs ds sp, Binds K fd (parsOf d) ds ∧ Vals dvs ds ∧ PySem.W.keepIn K (.ref (He.fAd K d.at_)) = true ∧ FnOk P w K mg base (L2.CX P w) (k + 2) (He.fAd K d.at_) fd (parsOf d) sp ∧ (∀ vs H Q, tPrim K mg (denF T k d.qual) vs H Q → sp (vs ++ dvs) H Q E0) ∧
        ∀ vs H Q E, tRz K mg (denF T k (keyX d.qual)) vs H E → ds = [] ∧ sp vs H Q E
  fn : ∀ (d : He.DefD), T.ds.find? (fun d' => d'.qual == d.qual) = some d → d.dfl = [] → isInit d = false → ∀ fd, FunD K d.name d.qual d.params d.body d.scope (d.dvs K) (d.kws K) (He.fAd K d.at_) fd →
      Binds K fd (parsOf d) [] ∧ PySem.W.keepIn K (.ref (He.fAd K d.at_)) = true ∧ FnOk P w K mg base (L2.CX P w) (k + 2) (He.fAd K d.at_) fd (parsOf d) (fun vs H Q E => tPrim K mg (denF T k d.qual) vs H Q ∨ tRz K mg (denF T k (keyX d.qual)) vs H E)
  ht : ∀ (d : He.DefD), T.ds.find? (fun d' => d'.qual == d.qual) = some d → d.dfl = [] → isInit d = false → ∀ fd, FunD K d.name d.qual d.params d.body d.scope (d.dvs K) (d.kws K) (He.fAd K d.at_) fd →
      FnHt P w K mg base (k + 2) (He.fAd K d.at_) fd (parsOf d) (fun vs H Q _ => tPrim K mg (denF T k (keyH d.qual)) vs H Q)
  ini : ∀ (d : He.DefD), T.ds.find? (fun d' => d'.qual == d.qual) = some d → isInit d = true → ∀ fd, FunD K d.name d.qual d.params d.body d.scope (d.dvs K) (d.kws K) (He.fAd K d.at_) fd → ∀ Ca, mg d.at_.1 = some (.ref Ca) →
      (∀ ivs, denF T k d.qual ivs = none) ∨ (Binds K fd (parsOf d) [] ∧ ∃ j, j + 1 = k + 2 ∧ FnOk P w K mg base (L2.CX P w) j (He.fAd K d.at_) fd (parsOf d) (fun vs H Q _ => tInit K mg Ca (denF T k d.qual) vs H Q))
/-- the first sign of a key -/
theorem keyX_first (q : Str) : (keyX q).cps[0]? = some 33 := by
  rw [show (keyX q).cps = (#[33] : Array Nat) ++ q.cps from rfl, Array.getElem?_append_left (by decide)]
  rfl
theorem keyH_first (q : Str) : (keyH q).cps[0]? = some 63 := by
  rw [show (keyH q).cps = (#[63] : Array Nat) ++ q.cps from rfl, Array.getElem?_append_left (by decide)]
  rfl
theorem keyX_inj {a b : Str} (h : keyX a = keyX b) : a = b := by
  have e : (#[33] : Array Nat) ++ a.cps = #[33] ++ b.cps := congrArg Str.cps h
  have e2 : a.cps = b.cps := Array.append_right_inj _ |>.mp e
  cases a; cases b; exact congrArg Str.mk e2
theorem keyH_inj {a b : Str} (h : keyH a = keyH b) : a = b := by
  have e : (#[63] : Array Nat) ++ a.cps = #[63] ++ b.cps := congrArg Str.cps h
  have e2 : a.cps = b.cps := Array.append_right_inj _ |>.mp e
  cases a; cases b; exact congrArg Str.mk e2
/-- no def's name begins like a key -/
def okKeys (T : Tab) : Bool := T.ds.all fun d => !(d.qual.cps[0]? == some 33) && !(d.qual.cps[0]? == some 63)
theorem keys_none {T : Tab} (h : okKeys T = true) (q : Str) : T.ds.find? (fun d => d.qual == keyX q) = none ∧ T.ds.find? (fun d => d.qual == keyH q) = none ∧ T.ds.find? (fun d => keyX d.qual == keyH q) = none := by
  refine ⟨List.find?_eq_none.mpr fun d hd e => ?_, List.find?_eq_none.mpr fun d hd e => ?_, List.find?_eq_none.mpr fun d hd e => ?_⟩
  · have z := List.all_eq_true.mp h d hd
    rw [eq_of_beq e, keyX_first] at z
    revert z; decide
  · have z := List.all_eq_true.mp h d hd
    rw [eq_of_beq e, keyH_first] at z
    revert z; decide
  · have z := congrArg (fun s : Str => s.cps[0]?) (eq_of_beq e)
    simp only [keyX_first, keyH_first] at z
    revert z; decide
theorem find_keyX {ds : List He.DefD} (q : Str) : ds.find? (fun d => keyX d.qual == keyX q) = ds.find? (fun d => d.qual == q) := by
  congr 1
  funext d
  by_cases e : d.qual = q
  · rw [e, beq_self_eq_true, beq_self_eq_true]
  · rw [beq_eq_false_iff_ne.mpr fun z => e (keyX_inj z), beq_eq_false_iff_ne.mpr e]
theorem find_keyH {ds : List He.DefD} (q : Str) : ds.find? (fun d => keyH d.qual == keyH q) = ds.find? (fun d => d.qual == q) := by
  congr 1
  funext d
  by_cases e : d.qual = q
  · rw [e, beq_self_eq_true, beq_self_eq_true]
  · rw [beq_eq_false_iff_ne.mpr fun z => e (keyH_inj z), beq_eq_false_iff_ne.mpr e]
theorem denF_eq {T : Tab} {k : Nat} {f : Str} {ivs : List IV} : denF T (k + 1) f ivs = match T.ds.find? fun d => d.qual == f with
    | some d => if isInit d then denI T d (match k with
      | 0 => none
      | j + 1 => some (denF T j)) ivs else (bodyOf T d).bind fun b => runX (dflD d) (runD (denF T k) (parsOf d).length (namesOf d).length b) ivs
    | none => if f = keyL then runL T (denF T k) ivs else denK T (denF T k) f ivs := by
  cases k <;> rfl
theorem key_ne (q : Str) : keyX q ≠ keyL ∧ keyH q ≠ keyL := by
  refine ⟨fun e => ?_, fun e => ?_⟩
  · have z := congrArg (fun s : Str => s.cps[0]?) e
    simp only [keyX_first] at z
    revert z; decide
  · have z := congrArg (fun s : Str => s.cps[0]?) e
    simp only [keyH_first] at z
    revert z; decide
theorem den_X {T : Tab} {k : Nat} {d : He.DefD} (hk : okKeys T = true) (h : T.ds.find? (fun d' => d'.qual == d.qual) = some d) : denF T (k + 1) (keyX d.qual) = fun ivs => if !isInit d && d.dfl.isEmpty then (bodyOf T d).bind fun b => runR (denF T k) (parsOf d).length (namesOf d).length b ivs else none := by
  funext ivs
  rw [denF_eq, (keys_none hk d.qual).1]
  show (if keyX d.qual = keyL then runL T (denF T k) ivs else denK T (denF T k) (keyX d.qual) ivs) = _
  rw [if_neg (key_ne d.qual).1]
  unfold denK
  rw [find_keyX, h]
theorem den_H {T : Tab} {k : Nat} {d : He.DefD} (hk : okKeys T = true) (h : T.ds.find? (fun d' => d'.qual == d.qual) = some d) : denF T (k + 1) (keyH d.qual) = fun ivs => if !isInit d && d.dfl.isEmpty then (bodyH T d).bind fun b => runD (denF T k) (parsOf d).length (namesOf d).length b ivs else none := by
  funext ivs
  rw [denF_eq, (keys_none hk d.qual).2.1]
  show (if keyH d.qual = keyL then runL T (denF T k) ivs else denK T (denF T k) (keyH d.qual) ivs) = _
  rw [if_neg (key_ne d.qual).2]
  unfold denK
  rw [(keys_none hk d.qual).2.2, find_keyH, h]
  rfl
theorem den_key {T : Tab} {k : Nat} (h : T.ds.find? (fun d' => d'.qual == keyL) = none) : denF T (k + 1) keyL = runL T (denF T k) := by
  funext ivs
  rw [denF_eq, h]
  exact if_pos rfl
theorem den_fn {T : Tab} {k : Nat} {f : Str} {d : He.DefD} (h : T.ds.find? (fun d' => d'.qual == f) = some d) (hi : isInit d = false) : denF T (k + 1) f = fun ivs => (bodyOf T d).bind fun b => runX (dflD d) (runD (denF T k) (parsOf d).length (namesOf d).length b) ivs := by
  funext ivs
  rw [denF_eq, h]
  simp only [hi, Bool.false_eq_true, if_false]
theorem den_ini {T : Tab} {k : Nat} {f : Str} {d : He.DefD} (h : T.ds.find? (fun d' => d'.qual == f) = some d) (hi : isInit d = true) : denF T (k + 2) f = fun ivs => (iniOf T d).bind fun ini => runI (denF T k) d.at_.1 (parsOf d).length (namesOf d).length ini ivs := by
  funext ivs
  rw [denF_eq, h]
  simp only [hi, if_true]
  rfl
theorem dfl_nil {d : He.DefD} (h : d.dfl = []) : dflD d = [] := by unfold dflD; rw [h]
theorem bind_one {fd : FuncData} {as : List Arg} {kd : List (Option Expr)} {df : List Expr} {T : Addr} (hp : fd.params = ⟨[], as, none, [], kd, none, df⟩) (hd : fd.defaults = .ref T) (nd : (as.map (·.arg)).Nodup) (us : List Value) (u : Value) (hl : us.length + 1 = (as.map (·.arg)).length) :
    ∃ k, bindArgs fd ⟨us, []⟩ = seqItems? (.ref T) >>= k ∧ k (some #[u]) = pure ((as.map (·.arg)).zip (us ++ [u])) := by
  have hl2 : (us ++ [u]).length = (as.map (·.arg)).length := by simpa using hl
  have l1 := zip_filt (zs := (as.map (·.arg)).zip (us ++ [u])) nd hl2 fun _ _ => rfl
  unfold bindArgs
  simp only [hp, hd, List.map_nil, List.nil_append, List.append_nil]
  refine ⟨_, rfl, ?_⟩
  obtain ⟨qs, x, e⟩ : ∃ qs x, as.map (·.arg) = qs ++ [x] := by
    rcases List.eq_nil_or_concat (as.map (·.arg)) with z | ⟨qs, x, z⟩
    · rw [z] at hl; simp at hl
    · exact ⟨qs, x, by simpa using z⟩
  rw [e] at nd hl l1 ⊢
  have hq : us.length = qs.length := by simpa using hl
  have n1 : qs.Nodup := (List.nodup_append.mp nd).1
  have n2 : x ∉ qs := fun h => by
    have := (List.nodup_append.mp nd).2.2
    exact this x h x (List.mem_singleton.mpr rfl) rfl
  have z1 : (qs ++ [x]).zip us = qs.zip us := by
    rw [show us = us ++ [] by simp, List.zip_append hq.symm]; simp
  have z2 : (qs ++ [x]).zip (us ++ [u]) = qs.zip us ++ [(x, u)] := by
    rw [List.zip_append hq.symm]; rfl
  have z3 : List.lookup x (qs.zip us) = none := by
    rw [List.lookup_eq_none_iff]
    intro p hp
    have := (List.of_mem_zip hp).1
    have hne : x ≠ p.1 := fun h => n2 (by rw [h]; exact this)
    simp [hne]
  have z4 : (List.filter (fun n => (List.lookup n (qs.zip us)).isNone) qs) = [] := by
    rw [List.filter_eq_nil_iff]
    intro n hn
    obtain ⟨w, e⟩ := zip_look n1 hq n hn
    rw [e]; simp
  rw [z2] at l1
  simp [z1, z2, z3, z4, hq, l1]
  rw [if_neg (by omega), ← List.filterMap_append, l1]
theorem TabOk.bindsX {K : Fg} {mg : MG} {T : Tab} (ok : TabOk K mg T) {d : He.DefD} (ef : T.ds.find? (fun d' => d'.qual == d.qual) = some d) {v : He.Dv} (hv : d.dfl = [v]) (h2 : 2 ≤ (parsOf d).length) {fd : FuncData} (F : FunD K d.name d.qual d.params d.body d.scope (d.dvs K) (d.kws K) (He.fAd K d.at_) fd) :
    ∃ ds, Vals [v.v K] ds ∧ Binds K fd (parsOf d) ds := by
  obtain ⟨m2, m1, _⟩ := ok.fns d (find_qual ef).1
  obtain ⟨S, a1, a2, a3, a4, a5⟩ := okDef_scope m2
  have ed : d.dvs K = [v.v K] := by unfold He.DefD.dvs; rw [hv]; rfl
  have ek : d.kws K = [] := by unfold He.DefD.kws; rw [a4]; rfl
  rw [ed, ek] at F
  refine F.binds1 ((parsOf d).length - 1) 0 (by simp) (by simp; omega) fun T kV doc pm an cdv ct us its h1 h2 => ?_
  match its, h2 with
  | [u], _ =>
    exact bind_one (fd := PySem.W.fnOf d.name d.qual d.params d.body d.scope (.ref T) kV doc pm an cdv ct) (as := d.params.args) (okPars_eq a2) rfl a5 us u (by show us.length + 1 = (parsOf d).length; omega)
theorem TabOk.binds {P : Program} {w : World} {K : Fg} {mg : MG} {base : Heap} {T : Tab} (ok : TabOk K mg T) {d : He.DefD} (ef : T.ds.find? (fun d' => d'.qual == d.qual) = some d) (a3 : d.dfl = []) {fd : FuncData} (F : FunD K d.name d.qual d.params d.body d.scope (d.dvs K) (d.kws K) (He.fAd K d.at_) fd) :
    Binds K fd (parsOf d) [] ∧ (∀ (s : Shared) (us : List Value), us.length = (parsOf d).length → BindsTo s fd ⟨us, []⟩ ((parsOf d).zip us)) ∧ PySem.W.keepIn K (.ref (He.fAd K d.at_)) = true := by
  obtain ⟨m2, m1, _⟩ := ok.fns d (find_qual ef).1
  obtain ⟨S, a1, a2, _, a4, a5⟩ := okDef_scope m2
  have ed : d.dvs K = [] := by unfold He.DefD.dvs; rw [a3]; rfl
  have ek : d.kws K = [] := by unfold He.DefD.kws; rw [a4]; rfl
  rw [ed, ek] at F
  have bp : ∀ (kV doc pm : Value) (an : Option Addr) (cdv ct : Value) (us : List Value), us.length = (parsOf d).length → bindArgs (PySem.W.fnOf d.name d.qual d.params d.body d.scope .none kV doc pm an cdv ct) ⟨us, []⟩ = pure ((parsOf d).zip us) :=
    fun kV doc pm an cdv ct us hl => bind_plain (fd := PySem.W.fnOf d.name d.qual d.params d.body d.scope .none kV doc pm an cdv ct) (as := d.params.args) (okPars_eq a2) rfl a5 us hl
  exact ⟨F.bindsN bp, fun s us hl => F.bindsA bp s us hl, F.kp⟩
theorem iniG_body {d : He.DefD} {g : Str} (h : iniG d = some g) : ∃ x y p1 p2 p3 p4, d.body = [.Assign [.Attribute (.Name x p1) g p2] (.Name y p3) p4] ∧ namesOf d = [x, y] ∧ parsOf d = [x, y] ∧ goodName x = true ∧ goodName y = true ∧ d.dfl = [] := by
  unfold iniG at h
  split at h
  case h_2 => cases h
  case h_1 x p1 g' p2 y p3 p4 e =>
    split at h
    case isFalse => cases h
    case isTrue q =>
      cases h
      simp only [Bool.and_eq_true, decide_eq_true_eq, List.isEmpty_iff] at q
      obtain ⟨⟨⟨⟨q1, q2⟩, q3⟩, q4⟩, q5⟩ := q
      exact ⟨x, y, p1, p2, p3, p4, e, q1, q2, q3, q4, q5⟩
theorem TabOk.xf_cl {P : Program} {w : World} {K : Fg} {mg : MG} {base : Heap} {T : Tab} (ok : TabOk K mg T) : ∀ p ∈ T.xf, ∃ Ca, mg p.1 = some (.ref Ca) ∧ XfCl P w K mg base Ca p.2 := fun p hp => by
  obtain ⟨h1, ⟨x1, x2, x3, x4, x5⟩, d, hd, hat, ef, hg⟩ := ok.xfs p hp
  obtain ⟨x, y, p1, p2, p3, p4, e1, e2, e3, e4, e5, e6⟩ := iniG_body hg
  obtain ⟨m2, m1, fd, F⟩ := ok.fns d hd
  have S := (okDef_scope m2).1
  have B := (ok.binds (P := P) (w := w) (base := base) ef e6 F).1
  obtain ⟨oc, od, dV, kV, doc, pm, an, cdv, ct, osl, rfl, lk, hcd, _, _⟩ := F.ex
  rw [hat] at lk
  rw [e3] at B
  rw [e2, e3] at S
  rw [e1] at lk B
  exact ⟨_, h1, x1, x2, x3, _, _, _, x4, x5, B, ini_one lk hcd S ⟨(good_ok e4).1, (good_ok e4).2.1⟩ ⟨(good_ok e5).1, (good_ok e5).2.1⟩⟩
theorem TabOk.lev {P : Program} {w : World} {K : Fg} {mg : MG} {base : Heap} {T : Tab} (ok : TabOk K mg T) (TB : Tbl K mg base) (hfs : ∀ f ∈ T.fs, ∃ d, T.ds.find? (fun d' => d'.qual == f) = some d ∧ d.at_ = (f, none) ∧ d.name = f) {k : Nat} (V : Lv P w K mg base T k) : Lev P w K mg base T k := by
  refine ⟨fun f hf => ?_, fun f hf => ?_, fun p hp => ?_, V.lm, fun p hp => ?_, ok.xf_cl⟩
  · obtain ⟨d', h2, h3, h4⟩ := hfs f hf
    have h5 := (find_qual h2).2
    obtain ⟨n1, n2, fd', F'⟩ := ok.fns d' (find_qual h2).1
    obtain ⟨dvs, dss, sp, b1, bv, b3, b4, b5, b6⟩ := V.fx d' (by rw [h5]; exact h2) (by unfold isInit; rw [h3]; rfl) fd' F'
    have n3 := n2 (by rw [h3])
    rw [h4] at n3
    rw [h3] at b3 b4
    rw [h5] at b5 b6
    exact ⟨_, fd', _, dvs, dss, sp, n3, b3, b1, bv, b4, b5, b6⟩
  · obtain ⟨d', h2, h3, h4⟩ := ok.hts f hf
    have h5 := (find_qual h2).2
    obtain ⟨n1, n2, fd', F'⟩ := ok.fns d' (find_qual h2).1
    have n3 := n2 (by rw [h3])
    rw [h4] at n3
    cases hdf : d'.dfl with
    | nil =>
      have hi : isInit d' = false := by unfold isInit; rw [h3]; rfl
      have h2' : T.ds.find? (fun d'' => d''.qual == d'.qual) = some d' := by rw [h5]; exact h2
      obtain ⟨b1, b3, _⟩ := V.fn d' h2' hdf hi fd' F'
      have b4 := V.ht d' h2' hdf hi fd' F'
      rw [h3] at b3 b4
      rw [h5] at b4
      exact ⟨_, fd', _, _, n3, b3, b1, b4, fun vs H Q z => z⟩
    | cons v r =>
      obtain ⟨dvs, dss, sp, b1, bv, b3, b4, b5, b6⟩ := V.fx d' (by rw [h5]; exact h2) (by unfold isInit; rw [h3]; rfl) fd' F'
      exact absurd (ok.hdf f hf d' h2) (by rw [hdf]; simp)
  · obtain ⟨h1, h2, h3, d', h4, h5, h6, h6'⟩ := ok.mts p hp
    have h7 := (find_qual h5).2
    obtain ⟨n1, n2, fd', F'⟩ := ok.fns d' h4
    have hdf : d'.dfl = [] := by
      rcases dfl_or (okDef_scope n1).2.2.2.1 with z | ⟨_, _, _, _, _, z⟩
      · exact z
      · rw [h6] at z; cases z
    obtain ⟨b1, b3, b4⟩ := V.fn d' (by rw [h7]; exact h5) hdf h6' fd' F'
    rw [h6, h7] at b4
    exact ⟨_, _, fd', _, h1, h2, h3, b1, b4⟩
  · obtain ⟨h1, h2, d', h4, h5, h6⟩ := ok.mks p hp
    have h7 := (find_qual h5).2
    obtain ⟨n1, n2, fd', F'⟩ := ok.fns d' h4
    have hm : mg d'.at_.1 = some (.ref (He.ga K p.1)) := by rw [h6]; exact h1
    rcases V.ini d' (by rw [h7]; exact h5) (by unfold isInit; rw [h6]; exact decide_eq_true rfl) fd' F' _ hm with z | ⟨b1, j, hj, b4⟩
    · left; rw [← h7]; exact z
    · right
      rw [h6, h7] at b4
      exact ⟨_, _, fd', _, j, h1, h2, b1, hj, b4⟩
theorem TabOk.all {P : Program} {w : World} {K : Fg} {mg : MG} {base : Heap} {T : Tab} (ok : TabOk K mg T) (TB : Tbl K mg base) (hnl : T.ds.find? (fun d' => d'.qual == keyL) = none) (hfs : ∀ f ∈ T.fs, ∃ d, T.ds.find? (fun d' => d'.qual == f) = some d ∧ d.at_ = (f, none) ∧ d.name = f) : ∀ k : Nat, Lv P w K mg base T k := by
  have nolv : ∀ {k : Nat} {p : Prim} {f : Addr} {fd : FuncData} {ps : List Str}, (∀ ivs, p ivs = none) → FnOk P w K mg base (L2.CX P w) k f fd ps (fun vs H Q _ => tPrim K mg p vs H Q) := fun hp =>
    ⟨(fun vs H Q E ⟨_, _, _, _, _, _, e, _⟩ => nomatch (hp _ ▸ e)), (fun A outer s H args us vs Q E _ _ _ _ ⟨_, _, _, _, _, _, e, _⟩ => nomatch (hp _ ▸ e))⟩
  have noZ : ∀ {p : Prim} {vs : List V} {H : Hp} {E : XK}, (∀ ivs, p ivs = none) → ¬ tRz K mg p vs H E := fun hp ⟨_, _, _, _, _, _, _, _, e, _⟩ => nomatch (hp _ ▸ e)
  have nol2 : ∀ {k : Nat} {p px : Prim} {f : Addr} {fd : FuncData} {ps : List Str}, (∀ ivs, p ivs = none) → (∀ ivs, px ivs = none) → FnOk P w K mg base (L2.CX P w) k f fd ps (fun vs H Q E => tPrim K mg p vs H Q ∨ tRz K mg px vs H E) := fun hp hx =>
    (nolv hp).imp fun vs H Q E h => h.elim id fun z => absurd z (noZ hx)
  have fns : ∀ k, Lv P w K mg base T k → ∀ (d : He.DefD), T.ds.find? (fun d' => d'.qual == d.qual) = some d → d.dfl = [] → isInit d = false → ∀ fd, FunD K d.name d.qual d.params d.body d.scope (d.dvs K) (d.kws K) (He.fAd K d.at_) fd →
      Binds K fd (parsOf d) [] ∧ PySem.W.keepIn K (.ref (He.fAd K d.at_)) = true ∧ FnOk P w K mg base (L2.CX P w) (k + 3) (He.fAd K d.at_) fd (parsOf d) (fun vs H Q E => tPrim K mg (denF T (k + 1) d.qual) vs H Q ∨ tRz K mg (denF T (k + 1) (keyX d.qual)) vs H E) := fun k V d ef hdf hi fd F => by
    have L : Lev P w K mg base T k := ok.lev TB hfs V
    obtain ⟨b1, _, b3⟩ := ok.binds (P := P) (w := w) (base := base) ef hdf F
    refine ⟨b1, b3, ?_⟩
    rw [den_fn ef hi, dfl_nil hdf, den_X ok.keys ef]
    simp only [hi, hdf, List.isEmpty_nil, Bool.not_false, Bool.and_self, if_true]
    cases eb : bodyOf T d with
    | none => exact nol2 (fun ivs => rfl) fun ivs => rfl
    | some b => exact ok.fn_at TB L (find_qual ef).1 eb F
  have hots : ∀ k, Lv P w K mg base T k → ∀ (d : He.DefD), T.ds.find? (fun d' => d'.qual == d.qual) = some d → d.dfl = [] → isInit d = false → ∀ fd, FunD K d.name d.qual d.params d.body d.scope (d.dvs K) (d.kws K) (He.fAd K d.at_) fd →
      FnHt P w K mg base (k + 3) (He.fAd K d.at_) fd (parsOf d) (fun vs H Q _ => tPrim K mg (denF T (k + 1) (keyH d.qual)) vs H Q) := fun k V d ef hdf hi fd F => by
    have L : Lev P w K mg base T k := ok.lev TB hfs V
    rw [den_H ok.keys ef]
    simp only [hi, hdf, List.isEmpty_nil, Bool.not_false, Bool.and_self, if_true]
    cases eb : bodyH T d with
    | none => exact ⟨(fun vs H Q E ⟨_, _, _, _, _, _, e, _⟩ => nomatch e), (fun A outer s H args us vs Q E _ _ _ _ ⟨_, _, _, _, _, _, e, _⟩ => nomatch e)⟩
    | some b => exact ok.hot_at TB L (find_qual ef).1 eb F
  have fxs : ∀ k, Lv P w K mg base T k → ∀ (d : He.DefD), T.ds.find? (fun d' => d'.qual == d.qual) = some d → isInit d = false → ∀ fd, FunD K d.name d.qual d.params d.body d.scope (d.dvs K) (d.kws K) (He.fAd K d.at_) fd →
      ∃ dvs ds sp, Binds K fd (parsOf d) ds ∧ Vals dvs ds ∧ PySem.W.keepIn K (.ref (He.fAd K d.at_)) = true ∧ FnOk P w K mg base (L2.CX P w) (k + 3) (He.fAd K d.at_) fd (parsOf d) sp ∧ (∀ vs H Q, tPrim K mg (denF T (k + 1) d.qual) vs H Q → sp (vs ++ dvs) H Q E0) ∧
        ∀ vs H Q E, tRz K mg (denF T (k + 1) (keyX d.qual)) vs H E → ds = [] ∧ sp vs H Q E := fun k V d ef hi fd F => by
    obtain ⟨m2, _, _⟩ := ok.fns d (find_qual ef).1
    rcases dfl_or (okDef_scope m2).2.2.2.1 with hdf | ⟨v, x, hv, hx, h2, _⟩
    · obtain ⟨b1, b3, b4⟩ := fns k V d ef hdf hi fd F
      exact ⟨[], [], _, b1, .nil, b3, b4, fun vs H Q z => .inl (by rw [List.append_nil]; exact z), fun vs H Q E z => ⟨rfl, .inr z⟩⟩
    · obtain ⟨dss, d1, d2⟩ := ok.bindsX ef hv h2 F
      have L : Lev P w K mg base T k := ok.lev TB hfs V
      have dd : dflD d = [x] := by unfold dflD; rw [hv]; show (dvD v).toList = [x]; rw [hx]; rfl
      have nx : ∀ ivs, denF T (k + 1) (keyX d.qual) ivs = none := fun ivs => by
        rw [den_X ok.keys ef, hv]
        simp
      rw [den_fn ef hi, dd]
      cases eb : bodyOf T d with
      | none => exact ⟨[v.v K], dss, fun _ _ _ _ => False, d2, d1, F.kp, ⟨fun _ _ _ _ z => z.elim, fun _ _ _ _ _ _ _ _ _ _ _ _ _ z => z.elim⟩, (fun vs H Q ⟨_, _, _, _, _, _, e, _⟩ => nomatch e), fun vs H Q E z => absurd z (noZ nx)⟩
      | some b => exact ⟨[v.v K], dss, _, d2, d1, F.kp, ok.fn_at TB L (find_qual ef).1 eb F, fun vs H Q z => .inl (prim_dfl (dd := [x]) (fun F => .one (dv_rp hx)) z), fun vs H Q E z => absurd z (noZ nx)⟩
  have v0 : Lv P w K mg base T 0 := by
    refine ⟨(fun A outer s H x vs us Q _ _ _ ⟨_, _, _, _, _, _, e, _⟩ => (by cases e)), fun d ef hi fd F => ?_, fun d ef hdf hi fd F => ?_, fun d ef hdf hi fd F => ⟨(fun vs H Q E ⟨_, _, _, _, _, _, e, _⟩ => nomatch e), (fun A outer s H args us vs Q E _ _ _ _ ⟨_, _, _, _, _, _, e, _⟩ => nomatch e)⟩, fun d ef hi fd F Ca hm => .inl fun _ => rfl⟩
    · obtain ⟨m2, _, _⟩ := ok.fns d (find_qual ef).1
      rcases dfl_or (okDef_scope m2).2.2.2.1 with hdf | ⟨v, x, hv, hx, h2, _⟩
      · obtain ⟨b1, _, b3⟩ := ok.binds (P := P) (w := w) (base := base) ef hdf F
        exact ⟨[], [], fun _ _ _ _ => False, b1, .nil, b3, ⟨fun _ _ _ _ z => z.elim, fun _ _ _ _ _ _ _ _ _ _ _ _ _ z => z.elim⟩, (fun vs H Q ⟨_, _, _, _, _, _, e, _⟩ => nomatch e), fun vs H Q E z => absurd z (noZ fun _ => rfl)⟩
      · obtain ⟨dss, d1, d2⟩ := ok.bindsX ef hv h2 F
        exact ⟨[v.v K], dss, fun _ _ _ _ => False, d2, d1, F.kp, ⟨fun _ _ _ _ z => z.elim, fun _ _ _ _ _ _ _ _ _ _ _ _ _ z => z.elim⟩, (fun vs H Q ⟨_, _, _, _, _, _, e, _⟩ => nomatch e), fun vs H Q E z => absurd z (noZ fun _ => rfl)⟩
    · obtain ⟨b1, _, b3⟩ := ok.binds (P := P) (w := w) (base := base) ef hdf F
      exact ⟨b1, b3, nol2 (fun _ => rfl) fun _ => rfl⟩
  have key : ∀ k, Lv P w K mg base T k ∧ Lv P w K mg base T (k + 1) := fun k => by
    induction k with
    | zero =>
      refine ⟨v0, by rw [den_key hnl]; exact lam_has (ok.lev TB hfs v0) ok, fxs 0 v0, fns 0 v0, hots 0 v0, fun d ef hi fd F Ca hm => .inl fun ivs => ?_⟩
      rw [denF_eq, ef]
      simp only [hi, if_true]
      rfl
    | succ k ih =>
      refine ⟨ih.2, by rw [den_key hnl]; exact lam_has (ok.lev TB hfs ih.2) ok, fxs (k + 1) ih.2, fns (k + 1) ih.2, hots (k + 1) ih.2, fun d ef hi fd F Ca hm => ?_⟩
      rw [den_ini ef hi]
      cases eb : iniOf T d with
      | none => exact .inl fun ivs => rfl
      | some ini =>
        right
        obtain ⟨m2, _, _⟩ := ok.fns d (find_qual ef).1
        obtain ⟨_, _, _, a3, a4, _⟩ := okDef_scope m2
        have hdf : d.dfl = [] := by
          rcases dfl_or a3 with z | ⟨_, _, _, _, _, z⟩
          · exact z
          · have hi := of_decide_eq_true (show decide (d.at_.2 = some ("__init__" : Str)) = true from hi)
            rw [z] at hi; cases hi
        obtain ⟨b1, _, b3⟩ := ok.binds (P := P) (w := w) (base := base) ef hdf F
        have ed : d.dvs K = [] := by unfold He.DefD.dvs; rw [hdf]; rfl
        have ek : d.kws K = [] := by unfold He.DefD.kws; rw [a4]; rfl
        rw [ed, ek] at F
        exact ⟨b1, k + 3, rfl, ok.ini_at (ok.lev TB hfs ih.1) (find_qual ef).1 hi eb hm F⟩
  exact fun k => (key k).1
end SD
namespace SD
open PySem PySem.Spec PyProof.Rows L2
def dvOf : Expr → He.Dv
  | .Constant (.bool b) _ _ => .bl b
  | .Constant (.int i) _ _ => .int i
  | .Constant (.str s) _ _ => .str s
  | _ => .non
def faGl : Str × D → He.Fa
  | (x, .int i) => .int x i
  | (x, .str s) => .str x s
  | (x, .tup _) => .glo x
  | (x, _) => .free x
def okGl : Str × D → Bool
  | (_, .int _) => true
  | (_, .str s) => sOkB s
  | (_, .tup _) => true
  | _ => false
def faOf0 (T : Tab) : List He.Fa := bltNames.map .free ++ (T.fs.map fun f => .glo f) ++ T.gl.map faGl ++ (T.cs.map fun p => .glo p.1) ++ (T.cs.map fun p => .cls p.1) ++ (T.ms.map fun p => .glo p.1) ++ (T.ms.map fun p => .cls p.1) ++ (T.ms.map fun p => .meth p.1 p.2.1) ++ (T.fl.map fun p => .glo p.1) ++ (T.fl.map fun p => .cls p.1) ++ (T.fl.map fun p => .noat p.1 p.2) ++ (T.ks.map fun p => .glo p.1) ++ (T.ks.map fun p => .mkr p.1)
def faOf (T : Tab) : List He.Fa := faOf0 T ++ T.xs.map fun p => .glo p.1
/-- what the head's own facts don't tell -/
def exCls (K : Fg) (C : Addr) : Bool := PySem.W.makesIn K C && (decide (PySem.W.findIn K (.ref C) "__init__" = some (some (.builtin "object.__init__"))) && (PySem.W.keepIn K (.ref C) && (decide (PySem.W.findIn K (.ref C) "__class__" = some (some (.builtin "object.__class__"))) &&
  (decide (PySem.W.specialIn K (.builtin "object.__class__") "__get__" = some (some (.builtin "getset_descriptor.__get__"))) && (decide (PySem.W.takesIn K (.builtin "object.__class__") = some true) && decide (PySem.W.mroIn K C (.type "object") = some true))))))
/-- a tuple of texts -/
def strsB : List Value → List D → Bool
  | [], [] => true
  | .str s _ :: r, .str z :: ds => decide (s = z) && (sOkB z && strsB r ds)
  | _, _ => false
def tupB (K : Fg) (p : Str × D) : Bool := match p.2 with
  | .tup ds => (match K.lookup (He.ga K p.1) with
    | some ⟨.type "tuple", _, .seq its _, _⟩ => decide (its.size ≤ sizeLine) && strsB its.toList ds
    | _ => false)
  | _ => true
theorem strsB_ok {K : Fg} {mg : MG} {F : Hp} : ∀ {us : List Value} {ds : List D}, strsB us ds = true → ∃ vs, Vals vs us ∧ Rps K mg F vs ds
  | [], [], _ => ⟨[], .nil, .nil⟩
  | .str s t :: r, .str z :: ds, h => by
    obtain ⟨h1, h⟩ := Bool.and_eq_true_iff.mp h
    obtain ⟨h2, h3⟩ := Bool.and_eq_true_iff.mp h
    obtain ⟨vs, a, b⟩ := strsB_ok h3
    have h1 := of_decide_eq_true h1
    subst h1
    exact ⟨.str s :: vs, .cons ⟨t, rfl⟩ a, .cons (.str s (sOkB_ok h2)) b⟩
theorem tupB_ok {K : Fg} {mg : MG} {x : Str} {ds : List D} (h : tupB K (x, .tup ds) = true) (F : Hp) : Rp K mg F (.ref (He.ga K x)) (.tup ds) := by
  have h : (match K.lookup (He.ga K x) with
    | some ⟨.type "tuple", _, .seq its _, _⟩ => decide (its.size ≤ sizeLine) && strsB its.toList ds
    | _ => false) = true := h
  split at h
  case h_2 => cases h
  case h_1 od its n sl e =>
    obtain ⟨h1, h2⟩ := Bool.and_eq_true_iff.mp h
    obtain ⟨vs, a, b⟩ := strsB_ok (mg := mg) (K := K) (F := F) h2
    exact .tup (.inr ⟨_, its, n, e, rfl, rfl, of_decide_eq_true h1, a⟩) b
/-- what the exceptions' classes say -/
def exXs (T : Tab) (K : Fg) : Bool := (T.gl.all (tupB K)) && ((T.xs.all fun p => xcB K (He.ga K p.1)) && ((T.xs.all fun p => (T.xs.all fun q => decide (PySem.W.kitOne K (.ref (He.ga K p.1)) (.ref (He.ga K q.1)) = some (p.2.contains q.1)) && decide (PySem.W.exmOne K (.ref (He.ga K p.1)) (.ref (He.ga K q.1)) = some (p.2.contains q.1))) &&
  decide (PySem.W.kitOne K (.ref (He.ga K p.1)) (.type "ValueError") = some (p.2.contains "ValueError"))) && ((T.xf.all fun p => xfB K (He.ga K p.1) (He.ma K (He.ga K p.1) "__init__") p.2) && T.xp.all fun c => xpB K (He.ga K c))))
def exOf (T : Tab) (K : Fg) : Bool := exXs T K && ((T.cs.all fun p => exCls K (He.ga K p.1)) && T.cs.all fun p => T.cs.all fun q => decide (PySem.W.kitOne K (.ref (He.ga K p.1)) (.ref (He.ga K q.1)) = some (isSub p q.1)))
abbrev AlX : Type := He.AlD × Bool × Bool
/-- the tables of code objects are there, and empty -/
def exTb (g : Addr → Option Obj) (K : Fg) : Bool := (lamT K).all fun p => PySem.W.codeHdIn K p.1 p.2 && (match g p.2 with
  | some o => He.emptyTab o
  | none => false)
structure TbSays (K : Fg) (h : Heap) : Prop where
  emp : ∀ p ∈ lamT K, h.get? p.2 = some { cls := .none, data := .fields #[] }
  out : ∀ p ∈ lamT K, K.lookup p.2 = none
  hd : ∀ p ∈ lamT K, PySem.W.codeHdIn K p.1 p.2 = true
theorem tb_says {h : Heap} {as : List Addr} (e : exTb h.get? (He.frT h.get? as) = true) : TbSays (He.frT h.get? as) h := by
  have key : ∀ p ∈ lamT (He.frT h.get? as), PySem.W.codeHdIn (He.frT h.get? as) p.1 p.2 = true ∧ ∃ o, h.get? p.2 = some o ∧ He.emptyTab o = true := fun p hp => by
    obtain ⟨a, b⟩ := Bool.and_eq_true_iff.mp (List.all_eq_true.mp e p hp)
    refine ⟨a, ?_⟩
    split at b
    case h_1 o z => exact ⟨o, z, b⟩
    case h_2 => cases b
  refine ⟨fun p hp => ?_, fun p hp => ?_, fun p hp => (key p hp).1⟩
  · obtain ⟨_, o, z, b⟩ := key p hp
    rw [z, He.emptyTab_eq b]
  · obtain ⟨_, o, z, b⟩ := key p hp
    exact He.frT_none z b
def obsXG (as : List Addr) (T : Tab) (g : Addr → Option Obj) : AlX := let K := He.frT g as; (He.obsD (faOf T) T.ds K, exOf T K, exTb g K)
def hookX (as : List Addr) (T : Tab) : PySem.W.Hook where
  α := AlX
  obs := fun s => obsXG as T s.heap.get?
  val := fun _ => (He.valD T.ds, true, true)
  says := fun _ h => ∃ K : Fg, K.In h ∧ He.SaysD (faOf T) T.ds K ∧ exOf T K = true ∧ TbSays K h
  of := fun _ _ e => ⟨_, He.frT_in, congrArg Prod.fst e, congrArg (fun z => z.2.1) e, tb_says (congrArg (fun z => z.2.2) e)⟩
  keeps := fun _ _ _ ⟨K, hK, c, d, t⟩ k => ⟨K, PySem.W.Frag.In.keeps hK k, c, d, fun p hp => k _ _ (t.emp p hp), t.out, t.hd⟩
theorem obsXG_eq {n : List Addr} {T : Tab} {g : Addr → Option Obj} {s : Shared} (h : ∀ a, g a = s.heap.get? a) : obsXG n T g = (hookX n T).obs s := by
  have e : g = s.heap.get? := funext h
  rw [e] <;> rfl
theorem says_fact {fa : List He.Fa} {fn : List He.DefD} {K : Fg} (c : He.SaysD fa fn K) {f : He.Fa} (h : f ∈ fa) : f.ok K = true := by
  obtain ⟨i, hi, e⟩ := List.mem_iff_getElem.mp h
  exact c.fact i (f := f) (by rw [List.getElem?_eq_getElem hi, e])
/-- what of the table is looked at itself -/
def okFs (T : Tab) : Bool := T.fs.all fun f => match T.ds.find? (fun d' => d'.qual == f) with
  | some d => decide (d.at_ = (f, none)) && decide (d.name = f)
  | none => false
def okMs (T : Tab) : Bool := (T.ms.all fun p => match T.ds.find? (fun d' => d'.qual == p.2.2) with
  | some d => decide (d.at_ = (p.1, some p.2.1)) && !isInit d
  | none => false) && T.ks.all fun p => match T.ds.find? (fun d' => d'.qual == p.2) with
  | some d => decide (d.at_ = (p.1, some ("__init__" : Str)))
  | none => false
def okXs (T : Tab) : Bool := (T.xf.all fun p => T.xs.any (fun q => q.1 == p.1) && match T.ds.find? (fun d' => d'.qual == p.1 ++ ".__init__") with
  | some d => decide (d.at_ = (p.1, some ("__init__" : Str))) && decide (iniG d = some p.2)
  | none => false) && ((T.xp.all fun c => T.xs.any fun q => q.1 == c) && ((T.hts.all fun f => match T.ds.find? (fun d' => d'.qual == f) with
  | some d => decide (d.at_ = (f, none)) && (decide (d.name = f) && d.dfl.isEmpty)
  | none => false) && okKeys T))
theorem okFs_ok {T : Tab} (h : okFs T = true) : ∀ f ∈ T.fs, ∃ d, T.ds.find? (fun d' => d'.qual == f) = some d ∧ d.at_ = (f, none) ∧ d.name = f := fun f hf => by
  have := List.all_eq_true.mp h f hf
  split at this
  case h_1 d e =>
    obtain ⟨a, b⟩ := Bool.and_eq_true_iff.mp this
    exact ⟨d, e, of_decide_eq_true a, of_decide_eq_true b⟩
  case h_2 => cases this
theorem tab_ok {K : Fg} {mg : MG} {h : Heap} {T : Tab} (X : K.In h) (G : h.Ns mainGlobals mg) (c : He.SaysD (faOf T) T.ds K) (ex : exOf T K = true) (k1 : T.ds.all okDef = true) (k2 : T.gl.all okGl = true) (k3 : okMs T = true) (k7 : okXs T = true) : TabOk K mg T := by
  obtain ⟨xx, ex⟩ := Bool.and_eq_true_iff.mp ex
  obtain ⟨x1, x2⟩ := Bool.and_eq_true_iff.mp ex
  have f : ∀ f ∈ faOf T, f.ok K = true := fun f h => says_fact c h
  have fx : ∀ p ∈ T.xs, mg p.1 = some (.ref (He.ga K p.1)) := fun p hp => He.glo_ok X G (f _ (List.mem_append_right _ (List.mem_map.mpr ⟨p, hp, rfl⟩)))
  obtain ⟨y0, xx⟩ := Bool.and_eq_true_iff.mp xx
  obtain ⟨y1, xx⟩ := Bool.and_eq_true_iff.mp xx
  obtain ⟨y2, xx⟩ := Bool.and_eq_true_iff.mp xx
  obtain ⟨y3, y4⟩ := Bool.and_eq_true_iff.mp xx
  obtain ⟨z1, k7⟩ := Bool.and_eq_true_iff.mp k7
  obtain ⟨z2, k7⟩ := Bool.and_eq_true_iff.mp k7
  obtain ⟨z3, z4⟩ := Bool.and_eq_true_iff.mp k7
  have fx2 : ∀ c, (T.xs.any fun q => q.1 == c) = true → mg c = some (.ref (He.ga K c)) := fun c h => by
    obtain ⟨q, q1, q2⟩ := List.any_eq_true.mp h
    have q2 : q.1 = c := eq_of_beq q2
    subst q2
    exact fx q q1
  have w1 : ∀ p ∈ T.xs, mg p.1 = some (.ref (He.ga K p.1)) ∧ XcC K (He.ga K p.1) := fun p hp => ⟨fx p hp, xcB_ok (List.all_eq_true.mp y1 p hp)⟩
  have w2 : ∀ p ∈ T.xs, (∀ q ∈ T.xs, PySem.W.kitOne K (.ref (He.ga K p.1)) (.ref (He.ga K q.1)) = some (p.2.contains q.1) ∧ PySem.W.exmOne K (.ref (He.ga K p.1)) (.ref (He.ga K q.1)) = some (p.2.contains q.1)) ∧ PySem.W.kitOne K (.ref (He.ga K p.1)) (.type "ValueError") = some (p.2.contains "ValueError") := fun p hp => by
    obtain ⟨a, b⟩ := Bool.and_eq_true_iff.mp (List.all_eq_true.mp y2 p hp)
    refine ⟨fun q hq => ?_, of_decide_eq_true b⟩
    obtain ⟨a1, a2⟩ := Bool.and_eq_true_iff.mp (List.all_eq_true.mp a q hq)
    exact ⟨of_decide_eq_true a1, of_decide_eq_true a2⟩
  have w3 : ∀ p ∈ T.xf, mg p.1 = some (.ref (He.ga K p.1)) ∧ (XcC K (He.ga K p.1) ∧ OexC K (He.ga K p.1) ∧ PySem.W.findIn K (.ref (He.ga K p.1)) p.2 = some none ∧ PySem.W.findIn K (.ref (He.ga K p.1)) "__init__" = some (some (.ref (He.ma K (He.ga K p.1) "__init__"))) ∧
      PySem.W.typeIn K (.ref (He.ma K (He.ga K p.1) "__init__")) = some (.type "function")) ∧ ∃ d ∈ T.ds, d.at_ = (p.1, some ("__init__" : Str)) ∧ T.ds.find? (fun d' => d'.qual == d.qual) = some d ∧ iniG d = some p.2 := fun p hp => by
    obtain ⟨a, b⟩ := Bool.and_eq_true_iff.mp (List.all_eq_true.mp z1 p hp)
    refine ⟨fx2 _ a, xfB_ok (List.all_eq_true.mp y3 p hp), ?_⟩
    split at b
    case h_2 => cases b
    case h_1 d e =>
      obtain ⟨b1, b2⟩ := Bool.and_eq_true_iff.mp b
      have q := find_qual e
      exact ⟨d, q.1, of_decide_eq_true b1, by rw [q.2]; exact e, of_decide_eq_true b2⟩
  have w4 : ∀ c ∈ T.xp, mg c = some (.ref (He.ga K c)) ∧ XpC K (He.ga K c) := fun c hc => ⟨fx2 c (List.all_eq_true.mp z2 c hc), xpB_ok (List.all_eq_true.mp y4 c hc)⟩
  have wh : ∀ f ∈ T.hts, ∃ d, T.ds.find? (fun d' => d'.qual == f) = some d ∧ d.at_ = (f, none) ∧ d.name = f ∧ d.dfl = [] := fun f hf => by
    have b := List.all_eq_true.mp z3 f hf
    split at b
    case h_2 => cases b
    case h_1 d e =>
      obtain ⟨b1, b2⟩ := Bool.and_eq_true_iff.mp b
      obtain ⟨b2, b3⟩ := Bool.and_eq_true_iff.mp b2
      exact ⟨d, e, of_decide_eq_true b1, of_decide_eq_true b2, List.isEmpty_iff.mp b3⟩
  have w5 : ∀ f ∈ T.hts, ∃ d, T.ds.find? (fun d' => d'.qual == f) = some d ∧ d.at_ = (f, none) ∧ d.name = f := fun f hf => by
    obtain ⟨d, a, b, c, _⟩ := wh f hf
    exact ⟨d, a, b, c⟩
  have w6 : ∀ f ∈ T.hts, ∀ d, T.ds.find? (fun d' => d'.qual == f) = some d → d.dfl = [] := fun f hf d e => by
    obtain ⟨d', a, b, c, z⟩ := wh f hf
    rw [e] at a
    cases a
    exact z
  have f : ∀ g ∈ faOf0 T, g.ok K = true := fun g h => f g (List.mem_append_left _ h)
  unfold faOf0 at f
  simp only [List.mem_append] at f
  obtain ⟨k3, k6⟩ := Bool.and_eq_true_iff.mp k3
  refine ⟨fun x hx => He.free_ok X G (f _ ?_), fun p hp => ?_, fun d hd => ⟨List.all_eq_true.mp k1 d hd, fun e => He.glo_ok X G (f _ ?_), ?_⟩, fun p hp => ⟨He.glo_ok X G (f _ ?_), ?_⟩, fun p hp q hq => ?_, fun p hp => ⟨He.glo_ok X G (f _ ?_), He.cls_ok (f _ ?_), He.meth_ok (f _ ?_), ?_⟩, fun p hp => ⟨He.glo_ok X G (f _ ?_), He.cls_ok (f _ ?_), He.noat_ok (f _ ?_)⟩, fun p hp => ⟨He.glo_ok X G (f _ ?_), He.mkr_ok (f _ ?_), ?_⟩, w1, w2, w3, w4, w5, w6, z4⟩
  · simp only [List.mem_map]; exact .inl (.inl (.inl (.inl (.inl (.inl (.inl (.inl (.inl (.inl (.inl (.inl ⟨x, hx, rfl⟩)))))))))))
  · have z := f (faGl p) (.inl (.inl (.inl (.inl (.inl (.inl (.inl (.inl (.inl (.inl (.inr (List.mem_map.mpr ⟨p, hp, rfl⟩))))))))))))
    have q := List.all_eq_true.mp k2 p hp
    obtain ⟨x, v⟩ := p
    cases v with
    | int i =>
      obtain ⟨t, e⟩ := He.int_ok X G z
      exact ⟨_, .int i, e, ⟨t, rfl⟩, fun F => .int i⟩
    | str s =>
      obtain ⟨t, e⟩ := He.str_ok X G z
      exact ⟨_, .str s, e, ⟨t, rfl⟩, fun F => .str s (sOkB_ok q)⟩
    | tup ds => exact ⟨_, .ref _, He.glo_ok X G z, rfl, fun F => tupB_ok (List.all_eq_true.mp y0 (x, .tup ds) hp) F⟩
    | _ => cases q
  · refine .inl (.inl (.inl (.inl (.inl (.inl (.inl (.inl (.inl (.inl (.inl (.inr (List.mem_map.mpr ⟨d.name, List.mem_map.mpr ⟨d, List.mem_filter.mpr ⟨hd, by rw [e]; rfl⟩, rfl⟩, rfl⟩))))))))))))
  · obtain ⟨i, hi, e⟩ := List.mem_iff_getElem.mp hd
    exact c.def_ i (d := d) (by rw [List.getElem?_eq_getElem hi, e])
  · exact .inl (.inl (.inl (.inl (.inl (.inl (.inl (.inl (.inl (.inr (List.mem_map.mpr ⟨p, hp, rfl⟩))))))))))
  · have z : exCls K (He.ga K p.1) = true := List.all_eq_true.mp x1 p hp
    have cl : Cls K (He.ga K p.1) := He.cls_ok (f _ (.inl (.inl (.inl (.inl (.inl (.inl (.inl (.inl (.inr (List.mem_map.mpr ⟨p, hp, rfl⟩)))))))))))
    unfold exCls at z
    simp only [Bool.and_eq_true, decide_eq_true_eq] at z
    obtain ⟨z1, z2, z3, z4, z5, z6, z7⟩ := z
    exact ⟨cl, z1, z2, z3, z4, z5, z6, z7⟩
  · exact of_decide_eq_true (List.all_eq_true.mp (List.all_eq_true.mp x2 p hp) q hq)
  · exact .inl (.inl (.inl (.inl (.inl (.inl (.inl (.inr (List.mem_map.mpr ⟨p, hp, rfl⟩))))))))
  · exact .inl (.inl (.inl (.inl (.inl (.inl (.inr (List.mem_map.mpr ⟨p, hp, rfl⟩)))))))
  · exact .inl (.inl (.inl (.inl (.inl (.inr (List.mem_map.mpr ⟨p, hp, rfl⟩))))))
  · have := List.all_eq_true.mp k3 p hp
    split at this
    case h_1 d e =>
      obtain ⟨a, b⟩ := Bool.and_eq_true_iff.mp this
      exact ⟨d, (find_qual e).1, e, of_decide_eq_true a, by simpa using b⟩
    case h_2 => cases this
  · exact .inl (.inl (.inl (.inl (.inr (List.mem_map.mpr ⟨p, hp, rfl⟩)))))
  · exact .inl (.inl (.inl (.inr (List.mem_map.mpr ⟨p, hp, rfl⟩))))
  · exact .inl (.inl (.inr (List.mem_map.mpr ⟨p, hp, rfl⟩)))
  · exact .inl (.inr (List.mem_map.mpr ⟨p, hp, rfl⟩))
  · exact .inr (List.mem_map.mpr ⟨p, hp, rfl⟩)
  · have := List.all_eq_true.mp k6 p hp
    split at this
    case h_1 d e => exact ⟨d, (find_qual e).1, e, of_decide_eq_true this⟩
    case h_2 => cases this
theorem rps_ints {K : Fg} {mg : MG} {F : Hp} : ∀ ns : List Int, Rps K mg F (ns.map V.int) (ns.map D.int)
  | [] => .nil
  | n :: ns => .cons (.int n) (rps_ints ns)
/-- a law at its head, its tables of code objects empty -/
theorem walk_of {l : PySem.W.OpenLaw} {n k : Nat} {q : Program} {loose : List Str} {XP : (Str → Option Value) → Heap → Prop} {YP : World → Heap → Prop} {d : DefRec} {CX : World → CXT} {x : Str} (hn : l.most = some n) (hn2 : n ≤ sizeLine) (hdf : d.params.defaults = []) (hr : Room k callerA)
    (F : ∀ (w : World) (mg : MG) (fa : Addr) (h : Heap), YP w h → h.Ns mainGlobals mg → mg d.name = some (.ref fa) →
      ∃ (K : Fg) (fd : FuncData) (sp : Sp), K.In h ∧ TbSays K h ∧ (∀ (s : Shared) (u : Value), BindsTo s fd ⟨[u], []⟩ [(x, u)]) ∧
        (∀ (H : Hp) (a : Addr) (ns : List Int), ns.length ≤ n → (∀ p ∈ lamT K, H p.2 = some (.tbl #[])) → SqL K H a (ns.map V.int) → sp [.ref a] H (fun v _ => v = .bl true) fun _ _ _ => False) ∧
        ∀ base : Heap, K.In base → base.Ns mainGlobals mg → Tbl K mg base → FnOk l.prog w K mg base (CX w) k fa fd [x] sp)
    (hCX : ∀ (w : World) (H : Hp) (s : Shared) (e : Value) (s' : Shared), CX w [] H s (fun _ _ _ => False) e s' → False) : PySem.W.WalkO q loose XP YP l.row.toRowW d [] (fun f vs => PySem.call f vs) := by
  refine Att.attach_call hn hdf fun w s₀ s₁ mg mb fa o pm cd doc a vs ns G Y ho hd hcd hmg hobj hints hlen hg => ?_
  obtain ⟨K, fd, sp, KX, tb, hb, hsp, hF⟩ := F w mg fa _ Y G.T.g hmg
  refine LamX.law_callTs (cs := lamT K) KX G.T.g G.T.b G.T.builtins G.T.nolimit hg tb.emp tb.out (fun p hp => PySem.W.codeHd_of_K KX (tb.hd p hp)) G.T.bmain hobj hints (Nat.le_trans hlen hn2) hr (fun base h1 h2 h3 => hF base h1 h2 h3) hb ?_ ?_
  · exact fun H h1 h2 => hsp H a ns hlen h1 h2
  · exact fun H e s' => hCX w H s₁ e s'
open Classical in
/-- the heap without the tables -/
noncomputable def offT (K : Fg) (H : Hp) : Hp := fun b => if ∃ p ∈ lamT K, p.2 = b then none else H b
theorem offT_same {K : Fg} {H : Hp} : Same (offT K H) H := fun b o e => by
  unfold offT at e
  split at e
  · cases e
  · exact e
theorem offT_ne {K : Fg} {H : Hp} {b : Addr} {o : HO} (ht : ∀ p ∈ lamT K, H p.2 = some (.tbl #[])) (e : H b = some o) (nt : NT o) : offT K H b = some o := by
  unfold offT
  rw [if_neg]
  · exact e
  · rintro ⟨p, hp, rfl⟩
    rw [ht p hp] at e
    exact nt _ (Option.some.inj e).symm
theorem offT_tb {K : Fg} {H : Hp} (ht : ∀ p ∈ lamT K, H p.2 = some (.tbl #[])) : TbOk K (offT K H) H := fun p hp =>
  ⟨by unfold offT; rw [if_pos ⟨p, hp, rfl⟩], #[], ht p hp, True.intro, fun pos cv hc => by
    have z : codeAmong pos [] = some cv := hc
    simp [codeAmong] at z⟩
/-- THE END: what the machine does is what the meaning of law tells -/
theorem law_end {P : Program} {w : World} {mg : MG} {fa : Addr} {h : Heap} {T : Tab} {d : He.DefD} {x : Str} {k n : Nat} (Y : ∃ K : Fg, K.In h ∧ He.SaysD (faOf T) T.ds K ∧ exOf T K = true ∧ TbSays K h) (G : h.Ns mainGlobals mg) (hmg : mg ("law" : Str) = some (.ref fa))
    (k1 : T.ds.all okDef = true) (k2 : T.gl.all okGl = true) (k3 : okMs T = true) (k4 : okFs T = true) (k7 : okXs T = true) (k5 : T.ds.find? (fun d' => d'.qual == keyL) = none) (hd : T.ds.find? (fun d' => d'.qual == ("law" : Str)) = some d) (hat : d.at_ = (("law" : Str), none)) (hnm : d.name = "law") (hp : parsOf d = [x])
    (M : ∀ ns : List Int, ns.length ≤ n → ∃ out, denF T k "law" [.d (.lst (ns.map D.int))] = some (.d (.bl true), out)) :
    ∃ (K : Fg) (fd : FuncData) (sp : Sp), K.In h ∧ TbSays K h ∧ (∀ (s : Shared) (u : Value), BindsTo s fd ⟨[u], []⟩ [(x, u)]) ∧
      (∀ (H : Hp) (a : Addr) (ns : List Int), ns.length ≤ n → (∀ p ∈ lamT K, H p.2 = some (.tbl #[])) → SqL K H a (ns.map V.int) → sp [.ref a] H (fun v _ => v = .bl true) fun _ _ _ => False) ∧
      ∀ base : Heap, K.In base → base.Ns mainGlobals mg → Tbl K mg base → FnOk P w K mg base (L2.CX P w) (k + 2) fa fd [x] sp := by
  obtain ⟨K, X, c, ex, tb⟩ := Y
  have ok := tab_ok X G c ex k1 k2 k3 k7
  have hfs := okFs_ok k4
  obtain ⟨hm, en⟩ := find_qual hd
  obtain ⟨m2, m1, fd, F⟩ := ok.fns d hm
  have m1 := m1 (by rw [hat])
  rw [hnm, hmg] at m1
  have ef : fa = He.ga K ("law" : Str) := by
    have := Option.some.inj m1
    cases this
    rfl
  have hf : T.ds.find? (fun d' => d'.qual == d.qual) = some d := by rw [en]; exact hd
  have hdf : d.dfl = [] := by
    rcases dfl_or (okDef_scope m2).2.2.2.1 with z | ⟨_, _, _, _, z, _⟩
    · exact z
    · rw [hp] at z; simp at z
  refine ⟨K, fd, fun vs H Q _ => tPrim K mg (denF T k "law") vs H Q, X, tb, fun s u => ?_, fun H a ns hl ht hS => ?_, fun base _ _ TB => ?_⟩
  · have b := (ok.binds (P := P) (w := w) (base := h) hf hdf F).2.1 s [u] (by rw [hp]; rfl)
    rw [hp] at b
    exact b
  · obtain ⟨out, e⟩ := M ns hl
    have hS' : SqL K (offT K H) a (ns.map V.int) := by
      rcases hS with (hS | ⟨o, hS⟩) | hS
      · exact .inl (.inl (offT_ne ht hS fun ps z => by cases z))
      · exact .inl (.inr ⟨o, offT_ne ht hS fun ps z => by cases z⟩)
      · exact .inr hS
    refine ⟨offT K H, [.d (.lst (ns.map D.int))], fun _ _ => False, _, out, ⟨offT_same, rfl, fun i iv q => ?_, fun i b z => z.elim, fun i j b z => z.elim, fun i b z => z.elim, offT_tb ht⟩, e, fun v H' F' fp' S st p t => bl_of t⟩
    cases i with
    | zero =>
      cases q
      exact ⟨_, rfl, .lst hS' (rps_ints ns), fun b z => z⟩
    | succ i => simp at q
  · have b := ((ok.all (P := P) (w := w) (base := base) TB k5 hfs k).fn d hf hdf (by unfold isInit; rw [hat]; rfl) fd F).2.2
    rw [hp, en, hat] at b
    rw [ef]
    exact b.imp fun vs H Q E h => .inl h
/-- nothing leaves a law -/
theorem no_CX {P : Program} {w : World} {H : Hp} {s : Shared} {e : Value} {s' : Shared} (h : L2.CX P w [] H s (fun _ _ _ => False) e s') : False := by
  obtain ⟨_, _, _, _, _, _, _, _, _, _, _, _, z⟩ := h
  exact z
theorem opt_both {σ α β γ : Type} {X : Option σ} {a : σ → α} {b : σ → β} {c : σ → γ} {x : α} {y : β} {z : γ} (h1 : X.map (fun s => (a s, b s)) = some (x, y)) (h3 : X.map c = some z) : X.map (fun s => (a s, b s, c s)) = some (x, y, z) := by
  cases X with
  | none => cases h1
  | some s => cases h1; cases h3; rfl
end SD
namespace SD
open PySem
def stA (i : Nat) : Stmt := (PySem.Challenge.pw_shootdays_k02_names_and_numbers.main.body[i]?).getD default
def pOf : Stmt → Arguments
  | .FunctionDef _ p _ _ _ _ _ _ _ _ => p
  | _ => ⟨[], [], none, [], [], none, []⟩
def bOf : Stmt → List Stmt
  | .FunctionDef _ _ b _ _ _ _ _ _ _ => b
  | _ => []
def sOf : Stmt → Scope
  | .FunctionDef _ _ _ _ _ _ sc _ _ _ => sc
  | _ => ⟨.function, [], false, false, []⟩
def mkD (a : Str × Option Str) (n q : Str) (s : Stmt) : He.DefD := ⟨a, n, q, pOf s, bOf s, sOf s, (pOf s).defaults.map dvOf, []⟩
def tDs : List He.DefD := [mkD (("is_name" : Str), none) ("is_name" : Str) ("is_name" : Str) (stA 3),
  mkD (("number_in" : Str), none) ("number_in" : Str) ("number_in" : Str) (stA 4),
  mkD (("_law_take" : Str), none) ("_law_take" : Str) ("_law_take" : Str) (stA 6),
  mkD (("_law_far" : Str), none) ("_law_far" : Str) ("_law_far" : Str) (stA 7),
  mkD (("_law_text" : Str), none) ("_law_text" : Str) ("_law_text" : Str) (stA 8),
  mkD (("_law_value" : Str), none) ("_law_value" : Str) ("_law_value" : Str) (stA 9),
  mkD (("law" : Str), none) ("law" : Str) ("law" : Str) (stA 10)]
def tGl : List (Str × D) := [(("LETTERS" : Str), .str ("abcdefghijklmnopqrstuvwxyz" : Str)), (("FIGURES" : Str), .str ("0123456789" : Str))]
def tCs : List (Str × List Str) := []
def tMs : List (Str × Str × Str) := []
def tFl : List (Str × Str) := []
def tKs : List (Str × Str) := []
def tbRz : List Str := []
def tbHt : List Str := []
def tbXs : List (Str × List Str) := []
def tbXf : List (Str × Str) := []
def tbXp : List Str := []
def T : Tab := ⟨tDs, tGl, tCs, tMs, tFl, tKs, tbRz, tbHt, tbXs, tbXf, tbXp⟩
end SD
namespace Hd
open PySem PySem.Spec PyProof.Rows L2
abbrev R : PySem.W.OpenRow := PySem.W.OpenLaw.row PySem.Challenge.rw_shootdays_k02_names_and_numbers
def asl : List PySem.Addr := [3, 6, 4, 19, 18, 24, 23, 31, 30, 38, 37, 43, 42, 50, 49, 55, 54]
abbrev hk : PySem.W.Hook := SD.hookX asl SD.T
def ob (s : PySem.W.SharedT) : SD.AlX := SD.obsXG asl SD.T (HandSHeadRun.getT s)
theorem ob_is (s : PySem.W.SharedT) : ob s = hk.obs s.abs := SD.obsXG_eq (HandSHeadRun.getT_eq s)
def lo0 : List PySem.Str := ["LETTERS", "FIGURES", "is_name", "number_in", "_law_take", "_law_far", "_law_text", "_law_value"]
def loose : List PySem.Str := lo0
section
open PySem PySem.W PySem.Calls PyProof.Rows HandSHeadRun
theorem run1 (w : World) (os : OsState) : (endF (stepQ (denQ tabQ) R.prog w) 6000 R.prog w os).map (fun s => (looksF R.prog (boot_heap w.params) s.abs, seenQ (PySem.W.view R.prog [10]) loose (importedModules R.prog.main.body) (fun s => xlAt (PySem.W.view R.prog [10]) [] s && recOk R.toRowW.records s) s.abs)) = some (true, openGood (PySem.W.view R.prog [10]) loose) := by kernel_rfl
theorem run3 (w : World) (os : OsState) : (endF (stepQ (denQ tabQ) R.prog w) 6000 R.prog w os).map ob = some (hk.val w) := by kernel_rfl
theorem run (w : World) : HandSHeadRun.RunEq R (PySem.W.view R.prog [10]) hk ob 6000 loose w := fun os => SD.opt_both (run1 w os) (run3 w os)
end
end Hd
namespace SD
open PySem
def look (T : Tab) (f : Str) : Option (SDen × Nat × Nat) := (T.ds.find? fun d => d.qual == f).bind fun d => if isInit d || !(dflD d).isEmpty then none else (bodyOf T d).bind fun b => some (b, (parsOf d).length, (namesOf d).length)
theorem look_eq {T : Tab} {f : Str} {b : SDen} {np n : Nat} (h : look T f = some (b, np, n)) (k : Nat) : denF T (k + 1) f = runD (denF T k) np n b := by
  obtain ⟨d, e1, h⟩ := Option.bind_eq_some_iff.mp h
  split at h
  case isTrue => cases h
  case isFalse hi =>
  simp only [Bool.or_eq_true, Bool.not_eq_true', not_or, Bool.not_eq_true, Bool.not_eq_false] at hi
  obtain ⟨b', e2, h⟩ := Option.bind_eq_some_iff.mp h
  cases h
  funext ivs
  rw [den_fn e1 hi.1, List.isEmpty_iff.mp hi.2]
  show (bodyOf T d).bind _ = _
  rw [e2]; rfl
section
variable {Φ : Fenv} {lk : LK} {env env' : Env} {a b : SDen} {d : Den} {i : Nat} {iv : IV} {x : D} {xs : List D}
def seqK (b : SDen) (Φ : Fenv) (lk : LK) (q : Option (Fl × Env)) : Option (Fl × Env) := q.bind fun r => match r.1 with
  | .nx => b Φ lk r.2
  | f => some (f, r.2)
theorem v_seq : sSeq a b Φ lk env = seqK b Φ lk (a Φ lk env) := rfl
theorem v_seq1 : seqK b Φ lk (some (.nx, env)) = b Φ lk env := rfl
theorem v_seq2 {iv : IV} : seqK b Φ lk (some (.ret iv, env)) = some (.ret iv, env) := rfl
theorem v_seq3 : seqK b Φ lk (some (.bk, env)) = some (.bk, env) := rfl
theorem v_seq4 : seqK b Φ lk (some (.ct, env)) = some (.ct, env) := rfl
theorem v_skip : sSkip Φ lk env = some (.nx, env) := rfl
theorem v_bk : sBk Φ lk env = some (.bk, env) := rfl
theorem v_ct : sCt Φ lk env = some (.ct, env) := rfl
def setK (i : Nat) (lk : LK) (q : Option (IV × Env)) : Option (Fl × Env) := q.bind fun r => if lk i then none else some (.nx, r.2.set i (some r.1))
theorem v_set : sSet i d Φ lk env = setK i lk (d Φ env) := rfl
theorem v_set1 : setK i lk (some (iv, env)) = if lk i then none else some (.nx, env.set i (some iv)) := rfl
def ifK (a b : SDen) (Φ : Fenv) (lk : LK) (q : Option (Bool × Env)) : Option (Fl × Env) := q.bind fun r => if r.1 then a Φ lk r.2 else b Φ lk r.2
theorem v_if {t : TDen} : sIf t a b Φ lk env = ifK a b Φ lk (t Φ env) := rfl
theorem v_if1 : ifK a b Φ lk (some (true, env)) = a Φ lk env := rfl
theorem v_if2 : ifK a b Φ lk (some (false, env)) = b Φ lk env := rfl
def exK (q : Option (IV × Env)) : Option (Fl × Env) := q.bind fun r => some (.nx, r.2)
theorem v_ex : sEx d Φ lk env = exK (d Φ env) := rfl
theorem v_ex1 : exK (some (iv, env)) = some (.nx, env) := rfl
def retK (q : Option (IV × Env)) : Option (Fl × Env) := q.bind fun r => some (.ret r.1, r.2)
theorem v_ret : sRet d Φ lk env = retK (d Φ env) := rfl
theorem v_ret1 : retK (some (iv, env)) = some (.ret iv, env) := rfl
theorem v_retN : sRetN Φ lk env = some (.ret (.d .non), env) := rfl
def retNmK (i : Nat) (lk : LK) (env : Env) (q : Option (Option IV)) : Option (Fl × Env) := match q with
  | some (some (.d x)) => some (.ret (.d x), env)
  | some (some (.own xs)) => if lk i then some (.ret (.d (.lst xs)), env.set i (some (.d (.lst xs)))) else some (.ret (.own xs), env.set i none)
  | some (some iv) => if lk i then none else some (.ret iv, env.set i none)
  | _ => none
theorem v_retNm : sRetNm i Φ lk env = retNmK i lk env (env[i]?) := rfl
theorem v_retNm1 : retNmK i lk env (some (some (.d x))) = some (.ret (.d x), env) := rfl
theorem v_retNm2 : retNmK i lk env (some (some (.own xs))) = if lk i then some (.ret (.d (.lst xs)), env.set i (some (.d (.lst xs)))) else some (.ret (.own xs), env.set i none) := rfl
def setTK (is : List Nat) (lk : LK) (q : Option (IV × Env)) : Option (Fl × Env) := q.bind fun r => match r.1 with
  | .d (.tup xs) => (setT lk is xs r.2).bind fun env' => some (.nx, env')
  | _ => none
theorem v_setT {is : List Nat} : sSetT is d Φ lk env = setTK is lk (d Φ env) := rfl
def nxK (q : Option Env) : Option (Fl × Env) := q.bind fun env' => some (.nx, env')
theorem v_setT1 {is : List Nat} : setTK is lk (some (.d (.tup xs), env)) = nxK (setT lk is xs env) := rfl
theorem v_nx : nxK (some env) = some (.nx, env) := rfl
theorem v_sT0 : setT lk [] [] env = some env := rfl
theorem v_sT1 {is : List Nat} : setT lk (i :: is) (x :: xs) env = if lk i then none else setT lk is xs (env.set i (some (.d x))) := rfl
def forK (t : Tgt) (b : SDen) (Φ : Fenv) (lk : LK) (q : Option (List D × Env)) : Option (Fl × Env) := q.bind fun r => forL t b Φ lk r.1 r.2
theorem v_for {it : IDen} {t : Tgt} : sFor it t b Φ lk env = forK t b Φ lk (it Φ env) := rfl
theorem v_for1 {t : Tgt} : forK t b Φ lk (some (xs, env)) = forL t b Φ lk xs env := rfl
theorem v_while {t : TDen} : sWhile t b Φ lk env = whileN t b Φ lk whileFuel env := rfl
theorem v_C : dC x Φ env = some (.d x, env) := rfl
def nmK (i : Nat) (env : Env) (q : Option (Option IV)) : Option (IV × Env) := match q with
  | some (some (.d x)) => some (.d x, env)
  | some (some (.own xs)) => some (.d (.lst xs), env.set i (some (.d (.lst xs))))
  | _ => none
theorem v_nm : dNm i Φ env = nmK i env (env[i]?) := rfl
theorem v_nm1 : nmK i env (some (some (.d x))) = some (.d x, env) := rfl
theorem v_nm2 : nmK i env (some (some (.own xs))) = some (.d (.lst xs), env.set i (some (.d (.lst xs)))) := rfl
def oNmK (i : Nat) (env : Env) (q : Option (Option IV)) : Option (Opd × Env) := match q with
  | some (some (.d x)) => some (.val (.d x), env)
  | some (some (.own _)) => some (.pl i, env)
  | some (some (.dct _)) => some (.pl i, env)
  | some (some (.obj _ _)) => some (.pl i, env)
  | _ => none
theorem v_oNm : oNm i Φ env = oNmK i env (env[i]?) := rfl
theorem v_oNm1 : oNmK i env (some (some (.d x))) = some (.val (.d x), env) := rfl
theorem v_oNm2 : oNmK i env (some (some (.own xs))) = some (.pl i, env) := rfl
def oVK (q : Option (IV × Env)) : Option (Opd × Env) := q.bind fun r => some (.val r.1, r.2)
theorem v_oV : oV d Φ env = oVK (d Φ env) := rfl
theorem v_oV1 : oVK (some (iv, env)) = some (.val iv, env) := rfl
def fzK (q : Option (IV × Env)) : Option (IV × Env) := q.bind fun r => (r.1.frz).bind fun x => some (.d x, r.2)
theorem v_fz : dFz d Φ env = fzK (d Φ env) := rfl
theorem v_fz1 : fzK (some (.d x, env)) = some (.d x, env) := rfl
theorem v_fz2 : fzK (some (.own xs, env)) = some (.d (.lst xs), env) := rfl
def evK (ds : List ODen) (Φ : Fenv) (q : Option (Opd × Env)) : Option (List Opd × Env) := q.bind fun r => (evL ds Φ r.2).bind fun s => some (r.1 :: s.1, s.2)
def evC (o : Opd) (q : Option (List Opd × Env)) : Option (List Opd × Env) := q.bind fun s => some (o :: s.1, s.2)
theorem v_ev0 : evL [] Φ env = some ([], env) := rfl
theorem v_ev {o : ODen} {ds : List ODen} : evL (o :: ds) Φ env = evK ds Φ (o Φ env) := rfl
theorem v_ev1 {o : Opd} {ds : List ODen} : evK ds Φ (some (o, env)) = evC o (evL ds Φ env) := rfl
theorem v_ev2 {o : Opd} {os : List Opd} : evC o (some (os, env)) = some (o :: os, env) := rfl
def prK (p : Prim) (q : Option (List Opd × Env)) : Option (IV × Env) := q.bind fun r =>
  if (places r.1).Nodup then (derefs r.2 r.1).bind fun ivs => (p ivs).bind fun q => some (q.1, wb r.2 r.1 q.2) else none
def wbK (env : Env) (os : List Opd) (q : Option (IV × List IV)) : Option (IV × Env) := q.bind fun q => some (q.1, wb env os q.2)
theorem v_pr {p : Prim} {ds : List ODen} : dPrim p ds Φ env = prK p (evL ds Φ env) := rfl
theorem v_call {f : Str} {ds : List ODen} : dCall f ds Φ env = prK (Φ f) (evL ds Φ env) := rfl
section
variable {p : Prim} {v w u : IV}
theorem v_pr0 : prK p (some ([], env)) = wbK env [] (p []) := by
  simp [prK, wbK, places, derefs]
theorem v_pr1 : prK p (some ([.val v], env)) = wbK env [.val v] (p [v]) := by
  simp [prK, wbK, places, derefs, deref]
theorem v_pr2 : prK p (some ([.val v, .val w], env)) = wbK env [.val v, .val w] (p [v, w]) := by
  simp [prK, wbK, places, derefs, deref]
theorem v_pr3 : prK p (some ([.val v, .val w, .val u], env)) = wbK env [.val v, .val w, .val u] (p [v, w, u]) := by
  simp [prK, wbK, places, derefs, deref]
end
/-- in general -/
def drK (p : Prim) (os : List Opd) (env : Env) (q : Option (List IV)) : Option (IV × Env) := q.bind fun ivs => wbK env os (p ivs)
def noPl (i : Nat) : List Opd → Bool
  | [] => true
  | .val _ :: os => noPl i os
  | .pl j :: os => !(i == j) && noPl i os
def plB : List Opd → Bool
  | [] => true
  | .val _ :: os => plB os
  | .pl i :: os => noPl i os && plB os
theorem noPl_ok {i : Nat} : ∀ {os : List Opd}, noPl i os = true → i ∉ places os
  | [], _ => by simp [places]
  | .val _ :: os, h => noPl_ok (os := os) h
  | .pl j :: os, h => by
    obtain ⟨h1, h2⟩ := Bool.and_eq_true_iff.mp h
    simp only [places, List.mem_cons, not_or]
    exact ⟨by simpa using h1, noPl_ok h2⟩
theorem plB_ok : ∀ {os : List Opd}, plB os = true → (places os).Nodup
  | [], _ => by simp [places]
  | .val _ :: os, h => plB_ok (os := os) h
  | .pl j :: os, h => by
    obtain ⟨h1, h2⟩ := Bool.and_eq_true_iff.mp h
    exact List.nodup_cons.mpr ⟨noPl_ok h1, plB_ok h2⟩
theorem v_plB0 : plB [] = true := rfl
theorem v_plB1 {v : IV} {os : List Opd} : plB (.val v :: os) = plB os := rfl
theorem v_plB2 {i : Nat} {os : List Opd} : plB (.pl i :: os) = (noPl i os && plB os) := rfl
theorem v_noPl0 {i : Nat} : noPl i [] = true := rfl
theorem v_noPl1 {i : Nat} {v : IV} {os : List Opd} : noPl i (.val v :: os) = noPl i os := rfl
theorem v_noPl2 {i j : Nat} {os : List Opd} : noPl i (.pl j :: os) = (!(i == j) && noPl i os) := rfl
theorem plB_no : ∀ {os : List Opd}, plB os = false → ¬ (places os).Nodup := by
  have no : ∀ {i : Nat} {os : List Opd}, noPl i os = false → i ∈ places os := fun {i os} => by
    induction os with
    | nil => intro h; cases h
    | cons o os ih =>
      cases o with
      | val v => exact ih
      | pl j =>
        intro h
        simp only [noPl, Bool.and_eq_false_iff, Bool.not_eq_false', beq_iff_eq] at h
        rcases h with rfl | h
        · exact List.mem_cons_self ..
        · exact List.mem_cons_of_mem _ (ih h)
  intro os
  induction os with
  | nil => intro h; cases h
  | cons o os ih =>
    cases o with
    | val v => exact ih
    | pl j =>
      intro h nd
      obtain ⟨n1, n2⟩ := List.nodup_cons.mp (show (j :: places os).Nodup from nd)
      rcases Bool.and_eq_false_iff.mp (show (noPl j os && plB os) = false from h) with h | h
      · exact n1 (no h)
      · exact ih h n2
theorem v_prg {p : Prim} {os : List Opd} : prK p (some (os, env)) = if plB os then drK p os env (derefs env os) else none := by
  cases h : plB os with
  | true => simp only [prK, Option.bind_some, plB_ok h, if_true]; rfl
  | false => simp only [prK, Option.bind_some, plB_no h, if_false, Bool.false_eq_true]
theorem v_drK {p : Prim} {os : List Opd} {ivs : List IV} : drK p os env (some ivs) = wbK env os (p ivs) := rfl
def dr1 (env : Env) (os : List Opd) (q : Option IV) : Option (List IV) := q.bind fun x => (derefs env os).bind fun xs => some (x :: xs)
def dr2 (v : IV) (q : Option (List IV)) : Option (List IV) := q.bind fun xs => some (v :: xs)
theorem v_dr0 : derefs env [] = some [] := rfl
theorem v_dr {o : Opd} {os : List Opd} : derefs env (o :: os) = dr1 env os (deref env o) := rfl
theorem v_dr1 {os : List Opd} : dr1 env os (some iv) = dr2 iv (derefs env os) := rfl
theorem v_dr2 {ivs : List IV} : dr2 iv (some ivs) = some (iv :: ivs) := rfl
theorem v_de1 : deref env (.val iv) = some iv := rfl
theorem v_de2 : deref env (.pl i) = (env[i]?).bind id := rfl
theorem v_wbK {os : List Opd} {out : List IV} : wbK env os (some (iv, out)) = some (iv, wb env os out) := rfl
theorem v_wb0 {ivs : List IV} : wb env [] ivs = env := by cases ivs <;> rfl
theorem v_wb1 {os : List Opd} {ivs : List IV} {w : IV} : wb env (.val w :: os) (iv :: ivs) = wb env os ivs := rfl
theorem v_wb2 {os : List Opd} {ivs : List IV} : wb env (.pl i :: os) (iv :: ivs) = wb (env.set i (some iv)) os ivs := rfl
def metK (ok : IV → Bool) (p : Prim) (o : ODen) (ds : List ODen) (Φ : Fenv) (env : Env) (q : Option IV) : Option (IV × Env) := match q with
  | some iv => if ok iv then dPrim p (o :: ds) Φ env else none
  | none => none
def drO (q : Option (Opd × Env)) : Option IV := q.bind fun r => deref r.2 r.1
theorem v_met {ok : IV → Bool} {p : Prim} {o : ODen} {ds : List ODen} : dMeth ok p o ds Φ env = metK ok p o ds Φ env (drO (o Φ env)) := rfl
theorem v_drO {o : Opd} : drO (some (o, env)) = deref env o := rfl
theorem v_met1 {ok : IV → Bool} {p : Prim} {o : ODen} {ds : List ODen} : metK ok p o ds Φ env (some iv) = if ok iv then dPrim p (o :: ds) Φ env else none := rfl
def tvK (q : Option (IV × Env)) : Option (Bool × Env) := q.bind fun r => match r.1 with
  | .d (.bl b) => some (b, r.2)
  | _ => none
theorem v_tV : tdV d Φ env = tvK (d Φ env) := rfl
theorem v_tV1 {c : Bool} : tvK (some (.d (.bl c), env)) = some (c, env) := rfl
def tandK (t : TDen) (Φ : Fenv) (q : Option (Bool × Env)) : Option (Bool × Env) := q.bind fun r => if r.1 then t Φ r.2 else some (false, r.2)
def torK (t : TDen) (Φ : Fenv) (q : Option (Bool × Env)) : Option (Bool × Env) := q.bind fun r => if r.1 then some (true, r.2) else t Φ r.2
def tnotK (q : Option (Bool × Env)) : Option (Bool × Env) := q.bind fun r => some (!r.1, r.2)
theorem v_tand {t u : TDen} : tdAnd t u Φ env = tandK u Φ (t Φ env) := rfl
theorem v_tand1 {u : TDen} : tandK u Φ (some (true, env)) = u Φ env := rfl
theorem v_tand2 {u : TDen} : tandK u Φ (some (false, env)) = some (false, env) := rfl
theorem v_tor {t u : TDen} : tdOr t u Φ env = torK u Φ (t Φ env) := rfl
theorem v_tor1 {u : TDen} : torK u Φ (some (true, env)) = some (true, env) := rfl
theorem v_tor2 {u : TDen} : torK u Φ (some (false, env)) = u Φ env := rfl
theorem v_tnot {t : TDen} : tdNot t Φ env = tnotK (t Φ env) := rfl
theorem v_tnot1 {c : Bool} : tnotK (some (c, env)) = some (!c, env) := rfl
theorem v_tyes : tdYes Φ env = some (true, env) := rfl
def andK (e : Den) (Φ : Fenv) (q : Option (IV × Env)) : Option (IV × Env) := q.bind fun r => match r.1 with
  | .d (.bl true) => e Φ r.2
  | .d (.bl false) => some (.d (.bl false), r.2)
  | _ => none
def orK (e : Den) (Φ : Fenv) (q : Option (IV × Env)) : Option (IV × Env) := q.bind fun r => match r.1 with
  | .d (.bl true) => some (.d (.bl true), r.2)
  | .d (.bl false) => e Φ r.2
  | _ => none
def notK (q : Option (IV × Env)) : Option (IV × Env) := q.bind fun r => match r.1 with
  | .d (.bl b) => some (.d (.bl !b), r.2)
  | _ => none
theorem v_and {e f : Den} : dAnd e f Φ env = andK f Φ (e Φ env) := rfl
theorem v_and1 {e : Den} : andK e Φ (some (.d (.bl true), env)) = e Φ env := rfl
theorem v_and2 {e : Den} : andK e Φ (some (.d (.bl false), env)) = some (.d (.bl false), env) := rfl
theorem v_or {e f : Den} : dOr e f Φ env = orK f Φ (e Φ env) := rfl
theorem v_or1 {e : Den} : orK e Φ (some (.d (.bl true), env)) = some (.d (.bl true), env) := rfl
theorem v_or2 {e : Den} : orK e Φ (some (.d (.bl false), env)) = e Φ env := rfl
theorem v_not : dNot d Φ env = notK (d Φ env) := rfl
theorem v_not1 {c : Bool} : notK (some (.d (.bl c), env)) = some (.d (.bl !c), env) := rfl
def difK (e f : Den) (Φ : Fenv) (q : Option (Bool × Env)) : Option (IV × Env) := q.bind fun r => if r.1 then e Φ r.2 else f Φ r.2
theorem v_dif {t : TDen} {e f : Den} : dIf t e f Φ env = difK e f Φ (t Φ env) := rfl
theorem v_dif1 {e f : Den} : difK e f Φ (some (true, env)) = e Φ env := rfl
theorem v_dif2 {e f : Den} : difK e f Φ (some (false, env)) = f Φ env := rfl
def seqIK (q : Option (IV × Env)) : Option (List D × Env) := q.bind fun r => match r.1 with
  | .d (.lst xs) => some (xs, r.2)
  | .d (.tup xs) => some (xs, r.2)
  | .d (.str s) => some (signs s, r.2)
  | _ => none
theorem v_iS : itSeq d Φ env = seqIK (dFz d Φ env) := rfl
theorem v_iS1 : seqIK (some (.d (.lst xs), env)) = some (xs, env) := rfl
theorem v_iS2 : seqIK (some (.d (.tup xs), env)) = some (xs, env) := rfl
theorem v_iS3 {s : Str} : seqIK (some (.d (.str s), env)) = some (signs s, env) := rfl
def r1K (q : Option (IV × Env)) : Option (List D × Env) := q.bind fun r => (r.1.asI).bind fun n => if -1000000 ≤ n ∧ n ≤ 1000000 then some (rangeD 0 n.toNat, r.2) else none
theorem v_iR1 : itR1 d Φ env = r1K (d Φ env) := rfl
theorem v_iR11 {n : Int} (h : -1000000 ≤ n) (h2 : n ≤ 1000000) : r1K (some (.d (.int n), env)) = some (rangeD 0 n.toNat, env) := by
  show (if -1000000 ≤ n ∧ n ≤ 1000000 then some (rangeD 0 n.toNat, env) else none) = _
  rw [if_pos ⟨h, h2⟩]
def enK (q : Option (IV × Env)) : Option (List D × Env) := q.bind fun r => match r.1 with
  | .d (.lst xs) => some (enumD 0 xs, r.2)
  | .d (.tup xs) => some (enumD 0 xs, r.2)
  | _ => none
theorem v_iE : itEnum d Φ env = enK (dFz d Φ env) := rfl
theorem v_iE1 : enK (some (.d (.lst xs), env)) = some (enumD 0 xs, env) := rfl
def r2A (e : Den) (Φ : Fenv) (q : Option (IV × Env)) : Option (List D × Env) := q.bind fun r => (e Φ r.2).bind fun s => (r.1.asI).bind fun m => (s.1.asI).bind fun n =>
  if (-1000000 ≤ m ∧ m ≤ 1000000) ∧ (-1000000 ≤ n ∧ n ≤ 1000000) then some (rangeD m (n - m).toNat, s.2) else none
def r2B (iv : IV) (q : Option (IV × Env)) : Option (List D × Env) := q.bind fun s => (iv.asI).bind fun m => (s.1.asI).bind fun n =>
  if (-1000000 ≤ m ∧ m ≤ 1000000) ∧ (-1000000 ≤ n ∧ n ≤ 1000000) then some (rangeD m (n - m).toNat, s.2) else none
theorem v_iR2 {e : Den} : itR2 d e Φ env = r2A e Φ (d Φ env) := rfl
theorem v_iR21 {e : Den} : r2A e Φ (some (iv, env)) = r2B iv (e Φ env) := rfl
theorem v_iR22 {m n : Int} (h1 : -1000000 ≤ m) (h2 : m ≤ 1000000) (h3 : -1000000 ≤ n) (h4 : n ≤ 1000000) : r2B (.d (.int m)) (some (.d (.int n), env)) = some (rangeD m (n - m).toNat, env) := by
  show (if (-1000000 ≤ m ∧ m ≤ 1000000) ∧ (-1000000 ≤ n ∧ n ≤ 1000000) then some (rangeD m (n - m).toNat, env) else none) = _
  rw [if_pos ⟨⟨h1, h2⟩, h3, h4⟩]
def zA (e : Den) (Φ : Fenv) (q : Option (IV × Env)) : Option (List D × Env) := q.bind fun r => (dFz e Φ r.2).bind fun s => match r.1, s.1 with
  | .d (.lst xs), .d (.lst ys) => some (zipD xs ys, s.2)
  | .d (.tup xs), .d (.tup ys) => some (zipD xs ys, s.2)
  | .d (.tup xs), .d (.lst ys) => some (zipD xs ys, s.2)
  | .d (.lst xs), .d (.tup ys) => some (zipD xs ys, s.2)
  | _, _ => none
def zB (iv : IV) (q : Option (IV × Env)) : Option (List D × Env) := q.bind fun s => match iv, s.1 with
  | .d (.lst xs), .d (.lst ys) => some (zipD xs ys, s.2)
  | .d (.tup xs), .d (.tup ys) => some (zipD xs ys, s.2)
  | .d (.tup xs), .d (.lst ys) => some (zipD xs ys, s.2)
  | .d (.lst xs), .d (.tup ys) => some (zipD xs ys, s.2)
  | _, _ => none
theorem v_iZ {e : Den} : itZip d e Φ env = zA e Φ (dFz d Φ env) := rfl
theorem v_iZ1 {e : Den} : zA e Φ (some (iv, env)) = zB iv (dFz e Φ env) := rfl
theorem v_iZ2 {ys : List D} : zB (.d (.lst xs)) (some (.d (.lst ys), env)) = some (zipD xs ys, env) := rfl
theorem v_iZ3 {ys : List D} : zB (.d (.tup xs)) (some (.d (.tup ys), env)) = some (zipD xs ys, env) := rfl
theorem v_iZ4 {ys : List D} : zB (.d (.tup xs)) (some (.d (.lst ys), env)) = some (zipD xs ys, env) := rfl
theorem v_iZ5 {ys : List D} : zB (.d (.lst xs)) (some (.d (.tup ys), env)) = some (zipD xs ys, env) := rfl
def chA (f g : Int → Int → Bool) (e c : Den) (Φ : Fenv) (q : Option (IV × Env)) : Option (IV × Env) := q.bind fun r => (e Φ r.2).bind fun s => (r.1.asI).bind fun i => (s.1.asI).bind fun j =>
  if f i j then (c Φ s.2).bind fun t => (t.1.asI).bind fun k => some (.d (.bl (g j k)), t.2) else some (.d (.bl false), s.2)
def chB (f g : Int → Int → Bool) (iv : IV) (c : Den) (Φ : Fenv) (q : Option (IV × Env)) : Option (IV × Env) := q.bind fun s => (iv.asI).bind fun i => (s.1.asI).bind fun j =>
  if f i j then (c Φ s.2).bind fun t => (t.1.asI).bind fun k => some (.d (.bl (g j k)), t.2) else some (.d (.bl false), s.2)
def chC (g : Int → Int → Bool) (j : Int) (q : Option (IV × Env)) : Option (IV × Env) := q.bind fun t => (t.1.asI).bind fun k => some (.d (.bl (g j k)), t.2)
theorem v_ch {f g : Int → Int → Bool} {e c : Den} : dChain f g d e c Φ env = chA f g e c Φ (d Φ env) := rfl
theorem v_ch1 {f g : Int → Int → Bool} {e c : Den} : chA f g e c Φ (some (iv, env)) = chB f g iv c Φ (e Φ env) := rfl
theorem v_ch2 {f g : Int → Int → Bool} {c : Den} {i j : Int} : chB f g (.d (.int i)) c Φ (some (.d (.int j), env)) = if f i j then chC g j (c Φ env) else some (.d (.bl false), env) := rfl
theorem v_ch3 {g : Int → Int → Bool} {j k : Int} : chC g j (some (.d (.int k), env)) = some (.d (.bl (g j k)), env) := rfl
def cmA (t : Tgt) (tt : TDen) (el : Den) (vs : List Nat) (Φ : Fenv) (q : Option (List D × Env)) : Option (IV × Env) := q.bind fun r => (compL t tt el vs Φ r.1 (wipeE r.2 vs) []).bind fun q => some (.own q.1, backE r.2 q.2 vs)
def cmB (vs : List Nat) (env : Env) (q : Option (List D × Env)) : Option (IV × Env) := q.bind fun q => some (.own q.1, backE env q.2 vs)
theorem v_cm {it : IDen} {t : Tgt} {tt : TDen} {el : Den} {vs : List Nat} : dComp it t tt el vs Φ env = cmA t tt el vs Φ (it Φ env) := rfl
theorem v_cm1 {t : Tgt} {tt : TDen} {el : Den} {vs : List Nat} : cmA t tt el vs Φ (some (xs, env)) = cmB vs env (compL t tt el vs Φ xs (wipeE env vs) []) := rfl
theorem v_cm2 {vs : List Nat} : cmB vs env (some (xs, env')) = some (.own xs, backE env env' vs) := rfl
def rnK (ivs : List IV) (q : Option (Fl × Env)) : Option (IV × List IV) := q.bind fun r => (finals r.2 0 ivs).bind fun l => match r.1 with
      | .nx => some (.d .non, l)
      | .ret iv => some (iv, l)
      | _ => none
theorem v_run {np n : Nat} {ivs : List IV} (h : ivs.length = np) : runD Φ np n b ivs = rnK ivs (b Φ (lkOf ivs) (ivs.map some ++ List.replicate (n - np) none)) := by
  unfold runD; rw [if_pos h]; rfl
theorem v_run_1 {n : Nat} {a0 : IV} : runD Φ 1 n b [a0] = rnK [a0] (b Φ (lkOf [a0]) (some a0 :: List.replicate (n - 1) none)) := v_run rfl
theorem v_run_2 {n : Nat} {a0 a1 : IV} : runD Φ 2 n b [a0, a1] = rnK [a0, a1] (b Φ (lkOf [a0, a1]) (some a0 :: some a1 :: List.replicate (n - 2) none)) := v_run rfl
theorem v_run_3 {n : Nat} {a0 a1 a2 : IV} : runD Φ 3 n b [a0, a1, a2] = rnK [a0, a1, a2] (b Φ (lkOf [a0, a1, a2]) (some a0 :: some a1 :: some a2 :: List.replicate (n - 3) none)) := v_run rfl
theorem v_run_4 {n : Nat} {a0 a1 a2 a3 : IV} : runD Φ 4 n b [a0, a1, a2, a3] = rnK [a0, a1, a2, a3] (b Φ (lkOf [a0, a1, a2, a3]) (some a0 :: some a1 :: some a2 :: some a3 :: List.replicate (n - 4) none)) := v_run rfl
theorem v_run_5 {n : Nat} {a0 a1 a2 a3 a4 : IV} : runD Φ 5 n b [a0, a1, a2, a3, a4] = rnK [a0, a1, a2, a3, a4] (b Φ (lkOf [a0, a1, a2, a3, a4]) (some a0 :: some a1 :: some a2 :: some a3 :: some a4 :: List.replicate (n - 5) none)) := v_run rfl
theorem v_run_6 {n : Nat} {a0 a1 a2 a3 a4 a5 : IV} : runD Φ 6 n b [a0, a1, a2, a3, a4, a5] = rnK [a0, a1, a2, a3, a4, a5] (b Φ (lkOf [a0, a1, a2, a3, a4, a5]) (some a0 :: some a1 :: some a2 :: some a3 :: some a4 :: some a5 :: List.replicate (n - 6) none)) := v_run rfl
theorem v_run_7 {n : Nat} {a0 a1 a2 a3 a4 a5 a6 : IV} : runD Φ 7 n b [a0, a1, a2, a3, a4, a5, a6] = rnK [a0, a1, a2, a3, a4, a5, a6] (b Φ (lkOf [a0, a1, a2, a3, a4, a5, a6]) (some a0 :: some a1 :: some a2 :: some a3 :: some a4 :: some a5 :: some a6 :: List.replicate (n - 7) none)) := v_run rfl
def fnK (iv : IV) (q : Option (List IV)) : Option (IV × List IV) := q.bind fun l => some (iv, l)
theorem v_run1 {ivs : List IV} : rnK ivs (some (.ret iv, env)) = fnK iv (finals env 0 ivs) := rfl
theorem v_run2 {ivs : List IV} : rnK ivs (some (.nx, env)) = fnK (.d .non) (finals env 0 ivs) := rfl
theorem v_fnK {l : List IV} : fnK iv (some l) = some (iv, l) := rfl
def fiA (env : Env) (i : Nat) (iv : IV) (q : Option (List IV)) : Option (List IV) := q.bind fun l => if isOwn iv then (match env[i]? with
    | some (some iv') => some (iv' :: l)
    | _ => none) else some (iv :: l)
theorem v_fi0 : finals env i [] = some [] := rfl
theorem v_fi {ivs : List IV} : finals env i (iv :: ivs) = fiA env i iv (finals env (i + 1) ivs) := rfl
def fiB (l : List IV) (q : Option (Option IV)) : Option (List IV) := match q with
    | some (some iv') => some (iv' :: l)
    | _ => none
theorem v_fi1 {l : List IV} : fiA env i (.d x) (some l) = some (.d x :: l) := rfl
theorem v_fi2 {l : List IV} : fiA env i (.own xs) (some l) = fiB l (env[i]?) := rfl
theorem v_fi3 {l : List IV} : fiB l (some (some iv)) = some (iv :: l) := rfl
end
def lkK (q : Option IV) : Bool := match q with
  | some iv => isOwn iv
  | none => false
theorem v_lk {ivs : List IV} {i : Nat} : lkOf ivs i = lkK (ivs[i]?) := rfl
theorem v_lk0 : lkK none = false := rfl
theorem v_lk1 {x : D} : lkK (some (.d x)) = false := rfl
theorem v_lk2 {xs : List D} : lkK (some (.own xs)) = true := rfl
theorem v_isL1 {xs : List D} : isListIV (.own xs) = true := rfl
theorem v_isL2 {xs : List D} : isListIV (.d (.lst xs)) = true := rfl
theorem v_isS {s : Str} : isStrIV (.d (.str s)) = true := rfl
section
variable {i j k : Int} {x y z : D} {xs ys : List D} {s t : Str} {b c : Bool}
theorem w_1 {f : IV → Option IV} {v : IV} : p1 f [v] = (f v).bind fun r => some (r, [v]) := rfl
theorem w_2 {f : IV → IV → Option IV} {v w : IV} : p2 f [v, w] = (f v w).bind fun r => some (r, [v, w]) := rfl
theorem w_3 {f : IV → IV → IV → Option IV} {v w u : IV} : p3 f [v, w, u] = (f v w u).bind fun r => some (r, [v, w, u]) := rfl
theorem w_m1 {f : List D → Option (IV × List D)} : m1 f [.own xs] = (f xs).bind fun r => some (r.1, [.own r.2]) := rfl
theorem w_m2 {f : List D → IV → Option (IV × List D)} {v : IV} : m2 f [.own xs, v] = (f xs v).bind fun r => some (r.1, [.own r.2, v]) := rfl
theorem w_m3 {f : List D → IV → IV → Option (IV × List D)} {v w : IV} : m3 f [.own xs, v, w] = (f xs v w).bind fun r => some (r.1, [.own r.2, v, w]) := rfl
theorem w_add : addIV (.d (.int i)) (.d (.int j)) = some (.d (.int (i + j))) := rfl
theorem w_sub : subIV (.d (.int i)) (.d (.int j)) = some (.d (.int (i - j))) := rfl
theorem w_mod (h : 0 < j) : modIV (.d (.int i)) (.d (.int j)) = some (.d (.int (i % j))) := by
  show ((if 0 < j then some (D.int (i % j)) else none).bind fun z => some (IV.d z)) = _
  rw [if_pos h]; rfl
theorem w_fdiv (h : 0 < j) (h2 : j < 10 ^ 100) : fdivIV (.d (.int i)) (.d (.int j)) = some (.d (.int (i / j))) := by
  show ((if 0 < j ∧ j < 10 ^ 100 then some (D.int (i / j)) else none).bind fun z => some (IV.d z)) = _
  rw [if_pos ⟨h, h2⟩]; rfl
theorem w_pow (h0 : 0 ≤ j) (h1 : j ≤ 1000) (h2 : -9223372036854775808 ≤ i) (h3 : i ≤ 9223372036854775807) : powIV (.d (.int i)) (.d (.int j)) = some (.d (.int (i ^ j.toNat))) := by
  show ((if 0 ≤ j ∧ j ≤ 1000 ∧ i.natAbs < 2 ^ 64 then some (D.int (i ^ j.toNat)) else none).bind fun z => some (IV.d z)) = _
  rw [if_pos ⟨h0, h1, by omega⟩]; rfl
theorem w_mulR (h2 : -9223372036854775808 ≤ j) (h3 : j ≤ 9223372036854775807) : mulQ (.d (.int i)) (.d (.int j)) = some (.d (.int (i * j))) := by
  show (if i.natAbs < 2 ^ 64 ∨ j.natAbs < 2 ^ 64 then some (IV.d (.int (i * j))) else none) = _
  rw [if_pos (.inr (by omega))]
theorem w_mulL (h2 : -9223372036854775808 ≤ i) (h3 : i ≤ 9223372036854775807) : mulQ (.d (.int i)) (.d (.int j)) = some (.d (.int (i * j))) := by
  show (if i.natAbs < 2 ^ 64 ∨ j.natAbs < 2 ^ 64 then some (IV.d (.int (i * j))) else none) = _
  rw [if_pos (.inl (by omega))]
theorem w_tupA (h : xs.length + ys.length ≤ 1000000) : addIV (.d (.tup xs)) (.d (.tup ys)) = some (.d (.tup (xs ++ ys))) := by
  show (if xs.length + ys.length ≤ lim then some (IV.d (.tup (xs ++ ys))) else none) = _
  exact if_pos h
theorem w_strA (h : s.length + t.length ≤ 1000000) : addIV (.d (.str s)) (.d (.str t)) = some (.d (.str (s ++ t))) := by
  show (if s.length + t.length ≤ lim then some (IV.d (.str (s ++ t))) else none) = _
  exact if_pos h
theorem w_ownA (h : xs.length + ys.length ≤ 1000000) : addIV (.own xs) (.own ys) = some (.own (xs ++ ys)) := by
  show (if xs.length + ys.length ≤ lim then some (IV.own (xs ++ ys)) else none) = _
  exact if_pos h
theorem w_gt : gtIV (.d (.int i)) (.d (.int j)) = some (.d (.bl (decide (j < i)))) := rfl
theorem w_ge : geIV (.d (.int i)) (.d (.int j)) = some (.d (.bl (decide (j ≤ i)))) := rfl
theorem w_lt : ltIV (.d (.int i)) (.d (.int j)) = some (.d (.bl (decide (i < j)))) := rfl
theorem w_le : leIV (.d (.int i)) (.d (.int j)) = some (.d (.bl (decide (i ≤ j)))) := rfl
theorem w_ixL : idxIV (.d (.lst xs)) (.d (.int i)) = (L2.atI xs i).bind fun z => some (.d z) := rfl
theorem w_ixO : idxIV (.own xs) (.d (.int i)) = (L2.atI xs i).bind fun z => some (.d z) := rfl
theorem w_ixT : idxIV (.d (.tup xs)) (.d (.int i)) = (L2.atI xs i).bind fun z => some (.d z) := rfl
theorem w_lenL : lenIV (.d (.lst xs)) = some (.d (.int xs.length)) := rfl
theorem w_lenO : lenIV (.own xs) = some (.d (.int xs.length)) := rfl
theorem w_lenT : lenIV (.d (.tup xs)) = some (.d (.int xs.length)) := rfl
theorem w_tupL : tupIV (.d (.lst xs)) = some (.d (.tup xs)) := rfl
theorem w_tupO : tupIV (.own xs) = some (.d (.tup xs)) := rfl
theorem w_tupT : tupIV (.d (.tup xs)) = some (.d (.tup xs)) := rfl
theorem w_set : setP [.d z, .own xs, .d (.int k)] = (L2.ixN xs.length k).bind fun j => some (.d .non, [.d z, .own (xs.set j z), .d (.int k)]) := rfl
theorem atI_nat {α : Type} {xs : List α} {k : Nat} : L2.atI xs (k : Int) = xs[k]? := by
  unfold L2.atI L2.ixN
  rw [if_pos (Int.natCast_nonneg k)]
  by_cases h : k < xs.length
  · rw [if_pos (by omega)]; rfl
  · rw [if_neg (by omega), List.getElem?_eq_none (by omega)]; rfl
theorem atI_int {α : Type} {xs : List α} {k : Int} (h : 0 ≤ k) : L2.atI xs k = xs[k.toNat]? := by
  obtain ⟨n, rfl⟩ := Int.eq_ofNat_of_zero_le h
  rw [atI_nat]; rfl
theorem w_set0 {x : D} : setP [.d z, .own (x :: xs), .d (.int 0)] = some (.d .non, [.d z, .own (z :: xs), .d (.int 0)]) := by
  rw [w_set, L2.ixN, if_pos (by omega), if_pos (by simp only [List.length_cons]; omega)]; rfl
theorem w_set1 {x y : D} : setP [.d z, .own (x :: y :: xs), .d (.int 1)] = some (.d .non, [.d z, .own (x :: z :: xs), .d (.int 1)]) := by
  rw [w_set, L2.ixN, if_pos (by omega), if_pos (by simp only [List.length_cons]; omega)]; rfl
theorem w_i0 {α : Type} {xs : List α} : L2.atI xs 0 = xs[0]? := atI_nat (k := 0)
theorem w_i1 {α : Type} {xs : List α} : L2.atI xs 1 = xs[1]? := atI_nat (k := 1)
theorem w_i2 {α : Type} {xs : List α} : L2.atI xs 2 = xs[2]? := atI_nat (k := 2)
theorem w_i3 {α : Type} {xs : List α} : L2.atI xs 3 = xs[3]? := atI_nat (k := 3)
theorem w_i4 {α : Type} {xs : List α} : L2.atI xs 4 = xs[4]? := atI_nat (k := 4)
theorem w_i5 {α : Type} {xs : List α} : L2.atI xs 5 = xs[5]? := atI_nat (k := 5)
theorem w_i6 {α : Type} {xs : List α} : L2.atI xs 6 = xs[6]? := atI_nat (k := 6)
theorem w_app (h : xs.length < 1000000) : appP xs (.d z) = some (.d .non, xs ++ [z]) := by
  show (if xs.length < lim then some (IV.d .non, xs ++ [z]) else none) = _
  exact if_pos h
theorem w_tup : pTup [] = some (.d (.tup []), []) := rfl
theorem w_tup1 : pTup [.d x] = some (.d (.tup [x]), [.d x]) := rfl
theorem w_tup2 : pTup [.d x, .d y] = some (.d (.tup [x, y]), [.d x, .d y]) := rfl
theorem w_tup3 : pTup [.d x, .d y, .d z] = some (.d (.tup [x, y, z]), [.d x, .d y, .d z]) := rfl
theorem w_tup4 {u : D} : pTup [.d x, .d y, .d z, .d u] = some (.d (.tup [x, y, z, u]), [.d x, .d y, .d z, .d u]) := rfl
theorem w_tup5 {u v : D} : pTup [.d x, .d y, .d z, .d u, .d v] = some (.d (.tup [x, y, z, u, v]), [.d x, .d y, .d z, .d u, .d v]) := rfl
theorem w_tup6 {u v w : D} : pTup [.d x, .d y, .d z, .d u, .d v, .d w] = some (.d (.tup [x, y, z, u, v, w]), [.d x, .d y, .d z, .d u, .d v, .d w]) := rfl
theorem w_lst : pLst [] = some (.own [], []) := rfl
theorem w_lst1 : pLst [.d x] = some (.own [x], [.d x]) := rfl
theorem w_lst2 : pLst [.d x, .d y] = some (.own [x, y], [.d x, .d y]) := rfl
theorem w_lst3 : pLst [.d x, .d y, .d z] = some (.own [x, y, z], [.d x, .d y, .d z]) := rfl
theorem w_lst4 {u : D} : pLst [.d x, .d y, .d z, .d u] = some (.own [x, y, z, u], [.d x, .d y, .d z, .d u]) := rfl
theorem w_lst5 {u v : D} : pLst [.d x, .d y, .d z, .d u, .d v] = some (.own [x, y, z, u, v], [.d x, .d y, .d z, .d u, .d v]) := rfl
theorem w_isN1 : isIV false (.d x) (.d .non) = some (.d (.bl (isNon (.d x)))) := rfl
theorem w_isN2 : isIV true (.d x) (.d .non) = some (.d (.bl (!isNon (.d x)))) := rfl
theorem w_min2 : min2 (.d (.int i)) (.d (.int j)) = some (.d (.int (if j < i then j else i))) := rfl
theorem w_max2 : max2 (.d (.int i)) (.d (.int j)) = some (.d (.int (if j > i then j else i))) := rfl
theorem w_neg : negIV (.d (.int i)) = some (.d (.int (-i))) := rfl
theorem w_intB : intIV (.d (.bl b)) = some (.d (.int (if b then 1 else 0))) := rfl
theorem w_intI : intIV (.d (.int i)) = some (.d (.int i)) := rfl
end
def flR (I : Env → Prop) (R : Fl → Env → Prop) (fl : Fl) (e : Env) : Prop := match fl with
  | .nx => I e
  | .ct => I e
  | .bk => R .nx e
  | .ret v => R (.ret v) e
  | .ex c g x => R (.ex c g x) e
def flC (t : Tgt) (b : SDen) (Φ : Fenv) (lk : LK) (xs : List D) (r : Fl × Env) : Option (Fl × Env) := match r.1 with
  | .nx => forL t b Φ lk xs r.2
  | .ct => forL t b Φ lk xs r.2
  | .bk => some (.nx, r.2)
  | f => some (f, r.2)
def asK (b : SDen) (Φ : Fenv) (lk : LK) (q : Option Env) : Option (Fl × Env) := q.bind fun e => b Φ lk e
theorem v_asK {b : SDen} {Φ : Fenv} {lk : LK} {e : Env} : asK b Φ lk (some e) = b Φ lk e := rfl
theorem forL_gen {t : Tgt} {b : SDen} {Φ : Fenv} {lk : LK} (I : Nat → Env → Prop) (R : Fl → Env → Prop) : ∀ (xs : List D) (k : Nat) (env : Env), I k env →
    (∀ i x e, xs[i]? = some x → I (k + i) e → ∃ fl e2, asK b Φ lk (asgT lk t x e) = some (fl, e2) ∧ flR (I (k + i + 1)) R fl e2) →
    (∀ e, I (k + xs.length) e → R .nx e) → ∃ fl e', forL t b Φ lk xs env = some (fl, e') ∧ R fl e'
  | [], k, env, h0, _, hd => ⟨.nx, env, rfl, hd env h0⟩
  | x :: xs, k, env, h0, st, hd => by
    obtain ⟨fl, e2, a2, a3⟩ := st 0 x env rfl h0
    have rest : I (k + 1) e2 → ∃ fl e', forL t b Φ lk xs e2 = some (fl, e') ∧ R fl e' := fun h => forL_gen I R xs (k + 1) e2 h
      (fun i y e q h => by
        have := st (i + 1) y e (by simpa using q) (by rw [show k + (i + 1) = k + 1 + i by omega]; exact h)
        rw [show k + (i + 1) + 1 = k + 1 + i + 1 by omega] at this
        exact this) (fun e h => hd e (by rw [List.length_cons, show k + (xs.length + 1) = k + 1 + xs.length by omega]; exact h))
    have ev : forL t b Φ lk (x :: xs) env = flC t b Φ lk xs (fl, e2) := by
      obtain ⟨e1, a1, a2⟩ := Option.bind_eq_some_iff.mp a2
      show (asgT lk t x env).bind _ = _
      rw [a1]
      show (b Φ lk e1).bind _ = _
      rw [a2]
      cases fl <;> rfl
    rw [ev]
    cases fl with
    | nx => exact rest a3
    | ct => exact rest a3
    | bk => exact ⟨_, _, rfl, a3⟩
    | ret v => exact ⟨_, _, rfl, a3⟩
    | ex c g x => exact ⟨_, _, rfl, a3⟩
def cpC (vs : List Nat) (q : Option (IV × Env)) : Option (Option D × Env) := q.bind fun r => (r.1.asD).bind fun z => some (some z, wipeE r.2 vs)
def cpB (el : Den) (vs : List Nat) (Φ : Fenv) (q : Option (Bool × Env)) : Option (Option D × Env) := q.bind fun r => if r.1 then cpC vs (dFz el Φ r.2) else some (none, wipeE r.2 vs)
def cpA (tt : TDen) (el : Den) (vs : List Nat) (Φ : Fenv) (q : Option Env) : Option (Option D × Env) := q.bind fun e => cpB el vs Φ (tt Φ e)
section
variable {tt : TDen} {el : Den} {vs : List Nat} {Φ : Fenv} {e : Env}
theorem v_cpA : cpA tt el vs Φ (some e) = cpB el vs Φ (tt Φ e) := rfl
theorem v_cpB1 : cpB el vs Φ (some (true, e)) = cpC vs (dFz el Φ e) := rfl
theorem v_cpB2 : cpB el vs Φ (some (false, e)) = some (none, wipeE e vs) := rfl
theorem v_cpC {z : D} : cpC vs (some (.d z, e)) = some (some z, wipeE e vs) := rfl
theorem v_wipe0 : wipeE e [] = e := rfl
theorem v_wipe1 {i : Nat} {is : List Nat} : wipeE e (i :: is) = (wipeE e is).set i none := rfl
end
theorem compL_gen {t : Tgt} {tt : TDen} {el : Den} {vs : List Nat} {Φ : Fenv} (I : Nat → Env → List D → Prop) : ∀ (xs : List D) (k : Nat) (env : Env) (acc : List D), acc.length + xs.length ≤ 1000000 → I k env acc →
    (∀ i x e acc, xs[i]? = some x → I (k + i) e acc → ∃ oz e2, cpA tt el vs Φ (asgT (lkC vs) t x e) = some (oz, e2) ∧ I (k + i + 1) e2 (acc ++ oz.toList)) →
    ∃ ys e', compL t tt el vs Φ xs env acc = some (ys, e') ∧ I (k + xs.length) e' ys
  | [], k, env, acc, _, h0, _ => ⟨acc, env, rfl, h0⟩
  | x :: xs, k, env, acc, hl, h0, st => by
    obtain ⟨oz, e2, a2, a3⟩ := st 0 x env acc rfl h0
    rw [List.length_cons] at hl
    have rest : ∀ env acc, acc.length + xs.length ≤ 1000000 → I (k + 1) env acc → ∃ ys e', compL t tt el vs Φ xs env acc = some (ys, e') ∧ I (k + (xs.length + 1)) e' ys := fun env acc hl h => by
      have := compL_gen (t := t) (tt := tt) (el := el) (vs := vs) (Φ := Φ) I xs (k + 1) env acc hl h (fun i y e acc q h => by
        have := st (i + 1) y e acc (by simpa using q) (by rw [show k + (i + 1) = k + 1 + i by omega]; exact h)
        rw [show k + (i + 1) + 1 = k + 1 + i + 1 by omega] at this
        exact this)
      rw [show k + 1 + xs.length = k + (xs.length + 1) by omega] at this
      exact this
    rw [List.length_cons]
    obtain ⟨e1, b1, a2⟩ := Option.bind_eq_some_iff.mp a2
    obtain ⟨⟨c, e3⟩, b2, a2⟩ := Option.bind_eq_some_iff.mp a2
    have ev : compL t tt el vs Φ (x :: xs) env acc = if c then (dFz el Φ e3).bind fun r => (r.1.asD).bind fun z => if acc.length < lim then compL t tt el vs Φ xs (wipeE r.2 vs) (acc ++ [z]) else none
        else compL t tt el vs Φ xs (wipeE e3 vs) acc := by
      show (asgT (lkC vs) t x env).bind _ = _
      rw [b1]
      show (tt Φ e1).bind _ = _
      rw [b2]
      rfl
    rw [ev]
    cases c with
    | false =>
      have a2 : some ((none : Option D), wipeE e3 vs) = some (oz, e2) := a2
      cases a2
      rw [if_neg (by simp)]
      refine rest _ _ (by omega) ?_
      rw [show acc ++ (none : Option D).toList = acc by simp] at a3
      exact a3
    | true =>
      have a2 : cpC vs (dFz el Φ e3) = some (oz, e2) := a2
      obtain ⟨⟨iv, e4⟩, b3, a2⟩ := Option.bind_eq_some_iff.mp a2
      obtain ⟨z, b4, a2⟩ := Option.bind_eq_some_iff.mp a2
      cases a2
      rw [if_pos rfl, b3]
      have hlt : acc.length < lim := by unfold lim; omega
      have e : (Option.bind (some (iv, e4)) fun r => (r.1.asD).bind fun z => if acc.length < lim then compL t tt el vs Φ xs (wipeE r.2 vs) (acc ++ [z]) else none) = compL t tt el vs Φ xs (wipeE e4 vs) (acc ++ [z]) := by
        show (iv.asD).bind _ = _
        rw [b4]
        show (if acc.length < lim then _ else none) = _
        rw [if_pos hlt]
      rw [e]
      exact rest _ _ (by simp only [List.length_append, List.length_cons, List.length_nil]; omega) a3
theorem v_asg {lk : LK} {i : Nat} {x : D} {env : Env} : asgT lk (.nm i) x env = if lk i then none else some (env.set i (some (.d x))) := rfl
theorem v_asgT {lk : LK} {is : List Nat} {xs : List D} {env : Env} : asgT lk (.tp is) (.tup xs) env = setT lk is xs env := rfl
theorem v_lkC1 {i : Nat} : lkC [i] i = false := by simp [lkC]
theorem v_lkC2a {i j : Nat} : lkC [i, j] i = false := by simp [lkC]
theorem v_lkC2b {i j : Nat} : lkC [i, j] j = false := by simp [lkC]
theorem v_lkC3 {i j k : Nat} : lkC [i, j, k] k = false := by simp [lkC]
theorem v_back0 {e0 e : Env} : backE e0 e [] = e := rfl
theorem v_back1 {e0 e : Env} {v : Nat} {vs : List Nat} : backE e0 e (v :: vs) = (backE e0 e vs).set v ((e0[v]?).bind id) := rfl
section
variable {i j : Int} {s t : Str} {x y : D}
theorem w_eqI : eqIV (.d (.int i)) (.d (.int j)) = some (.d (.bl (decide (i = j)))) := by
  have e : (PyData.eqv (PyData.int i) (PyData.int j)) = decide (i = j) := by unfold PyData.eqv; rfl
  show (if cmpOk (.int i) && cmpOk (.int j) then some (IV.d (.bl (PyData.eqv (.int i) (.int j)))) else none) = _
  rw [e, if_pos (by simp [cmpOk, okD, toPy, PyData.depth])]
theorem w_neI : neIV (.d (.int i)) (.d (.int j)) = some (.d (.bl (!decide (i = j)))) := by
  have e : (PyData.eqv (PyData.int i) (PyData.int j)) = decide (i = j) := by unfold PyData.eqv; rfl
  show (if cmpOk (.int i) && cmpOk (.int j) then some (IV.d (.bl (!PyData.eqv (.int i) (.int j)))) else none) = _
  rw [e, if_pos (by simp [cmpOk, okD, toPy, PyData.depth])]
theorem w_eqS : eqIV (.d (.str s)) (.d (.str t)) = some (.d (.bl (decide (s = t)))) := by
  have e : (PyData.eqv (PyData.str s) (PyData.str t)) = decide (s = t) := by unfold PyData.eqv; rfl
  show (if cmpOk (.str s) && cmpOk (.str t) then some (IV.d (.bl (PyData.eqv (.str s) (.str t)))) else none) = _
  rw [e, if_pos (by simp [cmpOk, okD, toPy, PyData.depth])]
theorem w_neS : neIV (.d (.str s)) (.d (.str t)) = some (.d (.bl (!decide (s = t)))) := by
  have e : (PyData.eqv (PyData.str s) (PyData.str t)) = decide (s = t) := by unfold PyData.eqv; rfl
  show (if cmpOk (.str s) && cmpOk (.str t) then some (IV.d (.bl (!PyData.eqv (.str s) (.str t)))) else none) = _
  rw [e, if_pos (by simp [cmpOk, okD, toPy, PyData.depth])]
end
theorem w_ixS {s : Str} {i : Int} (h : s.length ≤ 1000000) : idxIV (.d (.str s)) (.d (.int i)) = (L2.atI s.cps.toList i).bind fun c => some (.d (.str ⟨#[c]⟩)) := by
  show (if s.length ≤ lim then (L2.atI s.cps.toList i).bind fun c => some (IV.d (.str ⟨#[c]⟩)) else none) = _
  exact if_pos h
theorem w_lenS {s : Str} (h : s.length ≤ 1000000) : lenIV (.d (.str s)) = some (.d (.int s.length)) := by
  show (if s.length ≤ lim then some (IV.d (.int s.length)) else none) = _
  exact if_pos h
theorem w_slS {s : Str} {lo hi : Option Int} (h : s.length ≤ 1000000) : slIV (.d (.str s)) lo hi = some (.d (.str (L2.cutS s lo hi))) := by
  show (if s.length ≤ lim then some (IV.d (.str (L2.cutS s lo hi))) else none) = _
  exact if_pos h
theorem w_slL {xs : List D} {lo hi : Option Int} : slIV (.d (.lst xs)) lo hi = some (.own (cutL xs lo hi)) := rfl
theorem w_slO {xs : List D} {lo hi : Option Int} : slIV (.own xs) lo hi = some (.own (cutL xs lo hi)) := rfl
theorem w_slT {xs : List D} {lo hi : Option Int} : slIV (.d (.tup xs)) lo hi = some (.d (.tup (cutL xs lo hi))) := rfl
theorem w_slNN {x : IV} : slNN x = slIV x none none := rfl
theorem w_slNH {x : IV} {j : Int} : slNH x (.d (.int j)) = slIV x none (some j) := rfl
theorem w_slLN {x : IV} {j : Int} : slLN x (.d (.int j)) = slIV x (some j) none := rfl
theorem w_slLH {x : IV} {i j : Int} : slLH x (.d (.int i)) (.d (.int j)) = slIV x (some i) (some j) := rfl
theorem w_revP {xs : List D} : revP xs = some (.d .non, xs.reverse) := rfl
theorem w_mulT {xs : List D} {k : Int} (h1 : k ≤ 1000) (h2 : -1000 ≤ k) (h3 : xs.length ≤ 1000) (h4 : xs.isEmpty = false) : mulQ (.d (.tup xs)) (.d (.int k)) = some (.d (.tup (repL k xs))) := by
  show (if k ≤ 1000 ∧ -1000 ≤ k ∧ xs.length ≤ 1000 ∧ xs.isEmpty = false then some (IV.d (.tup (repL k xs))) else none) = _
  exact if_pos ⟨h1, h2, h3, h4⟩
theorem w_mulSt {s : Str} {k : Int} (h1 : k ≤ 1000) (h2 : -1000 ≤ k) (h3 : s.length ≤ 1000) : mulQ (.d (.str s)) (.d (.int k)) = some (.d (.str (mulS s k))) := by
  show (if k ≤ 1000 ∧ -1000 ≤ k ∧ s.length ≤ 1000 then some (IV.d (.str (mulS s k))) else none) = _
  exact if_pos ⟨h1, h2, h3⟩
local macro_rules | `(tactic| walk_at "ev") => `(tactic| simp (disch := first | assumption | omega) only [v_asg, v_asgT, v_asK, v_cpA, v_cpB1, v_cpB2, v_cpC, v_wipe0, v_wipe1, v_back0, v_back1, v_lkC1, v_lkC2a, v_lkC2b, v_lkC3, Int.reduceEq, Int.reduceLT, Int.reduceLE, Int.reduceNe, Int.reduceAdd, Int.reduceMul, Int.reduceSub, decide_true, decide_false, eq_self, w_eqI, w_neI, w_eqS, w_neS, w_ixS, w_lenS, w_slS, w_slL, w_slO, w_slT, w_slNN, w_slNH, w_slLN, w_slLH, w_revP, w_mulSt, ↓v_run_1, ↓v_run_2, ↓v_run_3, ↓v_run_4, ↓v_run_5, ↓v_run_6, ↓v_run_7, Nat.reduceSub, Nat.reduceAdd, List.reduceReplicate, v_run1, v_run2, v_fnK, v_fi0, ↓v_fi, v_fi1, v_fi2, v_fi3, List.getElem?_cons_zero, List.getElem?_cons_succ, List.set_cons_zero, List.set_cons_succ, Option.bind_some, Option.bind_none, id_eq, ↓v_seq, v_seq1, v_seq2, v_seq3, v_seq4, ↓v_skip, ↓v_bk, ↓v_ct, ↓v_set, v_set1, ↓v_if, v_if1, v_if2, ↓v_ex, v_ex1, ↓v_ret, v_ret1, ↓v_retN, ↓v_retNm, v_retNm1, v_retNm2, ↓v_setT, v_setT1, v_nx, v_sT0, v_sT1, ↓v_for, v_for1, ↓v_while, ↓v_C, ↓v_nm, v_nm1, v_nm2, ↓v_oNm, v_oNm1, v_oNm2, ↓v_oV, v_oV1, ↓v_fz, v_fz1, v_fz2, v_ev0, ↓v_ev, v_ev1, v_ev2, ↓v_pr, ↓v_call, v_pr0, v_pr1, v_pr2, v_pr3, v_drK, v_dr0, v_dr, v_dr1, v_dr2, v_de1, v_de2, v_wbK, v_wb0, v_wb1, v_wb2, ↓v_met, v_drO, ↓v_tV, v_tV1, ↓v_tand, v_tand1, v_tand2, ↓v_tor, v_tor1, v_tor2, ↓v_tnot, v_tnot1, ↓v_tyes, ↓v_and, v_and1, v_and2, ↓v_or, v_or1, v_or2, ↓v_not, v_not1, ↓v_dif, v_dif1, v_dif2, ↓v_iS, v_iS1, v_iS2, v_iS3, ↓v_iR1, v_iR11, ↓v_iE, v_iE1, ↓v_iR2, v_iR21, v_iR22, ↓v_iZ, v_iZ1, v_iZ2, v_iZ3, ↓v_ch, v_ch1, v_ch2, v_ch3, ↓v_cm, v_cm1, v_cm2, v_lk, v_lk0, v_lk1, v_lk2, v_prg, v_plB0, v_plB1, v_plB2, v_noPl0, v_noPl1, v_noPl2, Bool.and_true, Bool.true_and, Bool.and_self, Bool.not_false, Bool.not_true, Nat.reduceBEq, v_isL1, v_isL2, v_isS, v_met1, List.getElem?_nil, if_true, if_false, Bool.false_eq_true, w_1, w_2, w_3, w_m1, w_m2, w_m3, w_add, w_sub, w_mod, w_fdiv, w_pow, w_mulR, w_mulL, w_tupA, w_strA, w_ownA, Int.reducePow, Int.reduceToNat, w_gt, w_ge, w_lt, w_le, w_ixL, w_ixO, w_ixT, w_lenL, w_lenO, w_lenT, w_tupL, w_tupO, w_tupT, w_set0, w_set1, w_neg, w_intB, w_intI, w_i0, w_i1, w_i2, w_i3, w_i4, w_i5, w_i6, w_app, w_tup, w_tup1, w_tup2, w_tup3, w_tup4, w_tup5, w_tup6, w_lst, w_lst1, w_lst2, w_lst3, w_lst4, w_lst5, w_isN1, w_isN2, w_min2, w_max2, List.length_cons, List.length_nil])
local macro_rules | `(tactic| walk_at "evh") => `(tactic| simp (disch := first | assumption | omega) only [*, decide_true, decide_false, v_asg, v_asgT, v_asK, v_cpA, v_cpB1, v_cpB2, v_cpC, v_wipe0, v_wipe1, v_back0, v_back1, v_lkC1, v_lkC2a, v_lkC2b, v_lkC3, Int.reduceEq, Int.reduceLT, Int.reduceLE, Int.reduceNe, Int.reduceAdd, Int.reduceMul, Int.reduceSub, decide_true, decide_false, eq_self, w_eqI, w_neI, w_eqS, w_neS, w_ixS, w_lenS, w_slS, w_slL, w_slO, w_slT, w_slNN, w_slNH, w_slLN, w_slLH, w_revP, w_mulSt, ↓v_run_1, ↓v_run_2, ↓v_run_3, ↓v_run_4, ↓v_run_5, ↓v_run_6, ↓v_run_7, Nat.reduceSub, Nat.reduceAdd, List.reduceReplicate, v_run1, v_run2, v_fnK, v_fi0, ↓v_fi, v_fi1, v_fi2, v_fi3, List.getElem?_cons_zero, List.getElem?_cons_succ, List.set_cons_zero, List.set_cons_succ, Option.bind_some, Option.bind_none, id_eq, ↓v_seq, v_seq1, v_seq2, v_seq3, v_seq4, ↓v_skip, ↓v_bk, ↓v_ct, ↓v_set, v_set1, ↓v_if, v_if1, v_if2, ↓v_ex, v_ex1, ↓v_ret, v_ret1, ↓v_retN, ↓v_retNm, v_retNm1, v_retNm2, ↓v_setT, v_setT1, v_nx, v_sT0, v_sT1, ↓v_for, v_for1, ↓v_while, ↓v_C, ↓v_nm, v_nm1, v_nm2, ↓v_oNm, v_oNm1, v_oNm2, ↓v_oV, v_oV1, ↓v_fz, v_fz1, v_fz2, v_ev0, ↓v_ev, v_ev1, v_ev2, ↓v_pr, ↓v_call, v_pr0, v_pr1, v_pr2, v_pr3, v_drK, v_dr0, v_dr, v_dr1, v_dr2, v_de1, v_de2, v_wbK, v_wb0, v_wb1, v_wb2, ↓v_met, v_drO, ↓v_tV, v_tV1, ↓v_tand, v_tand1, v_tand2, ↓v_tor, v_tor1, v_tor2, ↓v_tnot, v_tnot1, ↓v_tyes, ↓v_and, v_and1, v_and2, ↓v_or, v_or1, v_or2, ↓v_not, v_not1, ↓v_dif, v_dif1, v_dif2, ↓v_iS, v_iS1, v_iS2, v_iS3, ↓v_iR1, v_iR11, ↓v_iE, v_iE1, ↓v_iR2, v_iR21, v_iR22, ↓v_iZ, v_iZ1, v_iZ2, v_iZ3, ↓v_ch, v_ch1, v_ch2, v_ch3, ↓v_cm, v_cm1, v_cm2, v_lk, v_lk0, v_lk1, v_lk2, v_prg, v_plB0, v_plB1, v_plB2, v_noPl0, v_noPl1, v_noPl2, Bool.and_true, Bool.true_and, Bool.and_self, Bool.not_false, Bool.not_true, Nat.reduceBEq, v_isL1, v_isL2, v_isS, v_met1, List.getElem?_nil, if_true, if_false, Bool.false_eq_true, w_1, w_2, w_3, w_m1, w_m2, w_m3, w_add, w_sub, w_mod, w_fdiv, w_pow, w_mulR, w_mulL, w_tupA, w_strA, w_ownA, Int.reducePow, Int.reduceToNat, w_gt, w_ge, w_lt, w_le, w_ixL, w_ixO, w_ixT, w_lenL, w_lenO, w_lenT, w_tupL, w_tupO, w_tupT, w_set0, w_set1, w_neg, w_intB, w_intI, w_i0, w_i1, w_i2, w_i3, w_i4, w_i5, w_i6, w_app, w_tup, w_tup1, w_tup2, w_tup3, w_tup4, w_tup5, w_tup6, w_lst, w_lst1, w_lst2, w_lst3, w_lst4, w_lst5, w_isN1, w_isN2, w_min2, w_max2, List.length_cons, List.length_nil])
def b_law_take : SDen := sSeq (sEx (dPrim setP [oV (dFz (dPrim (p2 addIV) [oV (dPrim (p2 idxIV) [oNm 0, oV (dC (.int 1))]), oV (dC (.int 1))])), oNm 0, oV (dC (.int 1))])) (sSeq (sIf (tdV (dPrim (p2 gtIV) [oV (dPrim (p2 idxIV)
  [oNm 0, oV (dC (.int 0))]), oV (dPrim (p2 powIV) [oV (dC (.int 10)), oV (dC (.int 18))])])) (sSeq (sSet 2 (dPrim (p2 subIV) [oV (dPrim (p2 idxIV) [oNm 0, oV (dC (.int 0))]), oV (dPrim (p2 powIV) [oV (dC (.int 10)), oV (dC
  (.int 18))])])) (sSeq (sEx (dPrim setP [oV (dFz (dPrim (p2 addIV) [oV (dPrim (p2 powIV) [oV (dC (.int 10)), oV (dC (.int 18))]), oV (dPrim (p2 fdivIV) [oNm 2, oNm 1])])), oNm 0, oV (dC (.int 0))])) (sSeq (sRet (dPrim (p2
  modIV) [oNm 2, oNm 1])) (sSkip)))) (sSkip)) (sSeq (sSet 3 (dPrim (p2 modIV) [oV (dPrim (p2 addIV) [oV (dPrim (p2 addIV) [oV (dPrim (p2 mulQ) [oV (dPrim (p2 idxIV) [oNm 0, oV (dC (.int 0))]), oV (dC (.int 48271))]), oV (dPrim
  (p2 mulQ) [oV (dPrim (p2 mulQ) [oV (dC (.int 7919)), oV (dPrim (p2 idxIV) [oNm 0, oV (dC (.int 1))])]), oV (dPrim (p2 idxIV) [oNm 0, oV (dC (.int 1))])])]), oV (dC (.int 11))]), oV (dC (.int 2147483629))])) (sSeq (sSet 3
  (dPrim (p2 modIV) [oV (dPrim (p2 addIV) [oV (dPrim (p2 addIV) [oV (dPrim (p2 mulQ) [oNm 3, oNm 3]), oV (dPrim (p2 mulQ) [oV (dC (.int 69621)), oV (dPrim (p2 idxIV) [oNm 0, oV (dC (.int 1))])])]), oV (dC (.int 7))]), oV (dC
  (.int 2147483587))])) (sSeq (sRet (dPrim (p2 modIV) [oV (dPrim (p2 fdivIV) [oNm 3, oV (dC (.int 5))]), oNm 1])) (sSkip)))))
def tR (a c b : Int) : Int := if 1000000000000000000 < a then (a - 1000000000000000000) % b else
  ((((a * 48271 + 7919 * (c + 1) * (c + 1) + 11) % 2147483629) * ((a * 48271 + 7919 * (c + 1) * (c + 1) + 11) % 2147483629) + 69621 * (c + 1) + 7) % 2147483587) / 5 % b
def tA (a b : Int) : Int := if 1000000000000000000 < a then 1000000000000000000 + (a - 1000000000000000000) / b else a
theorem tR_nn {a c b : Int} (h : 0 < b) : 0 ≤ tR a c b := by
  unfold tR
  split
  · exact Int.emod_nonneg _ (by omega)
  · exact Int.emod_nonneg _ (by omega)
theorem tR_lt {a c b : Int} (h : 0 < b) : tR a c b < b := by
  unfold tR
  split
  · exact Int.emod_lt_of_pos _ h
  · exact Int.emod_lt_of_pos _ h
abbrev row (a c : Int) : IV := .own [.int a, .int c]
/-- the promise of _law_take -/
abbrev TakeS (Φ : Fenv) : Prop := ∀ a c b : Int, 0 < b → b < 10 ^ 100 → 0 ≤ c → c < 2 ^ 60 → Φ "_law_take" [.own [.int a, .int c], .d (.int b)] = some (.d (.int (tR a c b)), [.own [.int (tA a b), .int (c + 1)], .d (.int b)])
theorem take_run {Φ : Fenv} {a c b : Int} (hb : 0 < b) (hb2 : b < 10 ^ 100) (hc : 0 ≤ c) (hc2 : c < 2 ^ 60) :
    runD Φ 2 4 b_law_take [.own [.int a, .int c], .d (.int b)] = some (.d (.int (tR a c b)), [.own [.int (tA a b), .int (c + 1)], .d (.int b)]) := by
  unfold b_law_take
  by_cases h : (1000000000000000000 : Int) < a
  · walk_at "evh"
    simp only [tR, tA, if_pos h]
  · walk_at "evh"
    simp only [tR, tA, if_neg h]
/-- some of the days -/
def Days (n : Nat) (xs : List Int) : Prop := xs.Pairwise (· < ·) ∧ ∀ x ∈ xs, 0 ≤ x ∧ x < n
def sg (s : Str) : List Nat := s.cps.toList
theorem sg_ext {s t : Str} (h : sg s = sg t) : s = t := by
  obtain ⟨⟨a⟩⟩ := s
  obtain ⟨⟨b⟩⟩ := t
  have h : a = b := h
  rw [h]
theorem sg_len (s : Str) : s.length = (sg s).length := by
  show s.cps.size = _
  simp [sg]
theorem sg_app (s t : Str) : sg (s ++ t) = sg s ++ sg t := by
  show (s.cps ++ t.cps).toList = _
  simp [sg]
theorem sg_mk (l : List Nat) : sg ⟨l.toArray⟩ = l := rfl
theorem sg_one (c : Nat) : sg ⟨#[c]⟩ = [c] := rfl
theorem sg_to {s : Str} {k : Int} (h : 0 ≤ k) : sg (L2.cutS s none (some k)) = (sg s).take k.toNat := by
  obtain ⟨n, rfl⟩ := Int.eq_ofNat_of_zero_le h
  unfold L2.cutS
  rw [sg_mk, HT.sIx_none, HT.sIx_nat, List.drop_zero, sg_len]
  show (sg s).take _ = (sg s).take _
  rw [List.take_eq_take_iff]
  omega
theorem sg_from {s : Str} {k : Int} (h : 0 ≤ k) : sg (L2.cutS s (some k) none) = (sg s).drop k.toNat := by
  obtain ⟨n, rfl⟩ := Int.eq_ofNat_of_zero_le h
  unfold L2.cutS
  rw [sg_mk, HT.sIx_none, HT.sIx_nat, sg_len]
  show ((sg s).drop (min n (sg s).length)).take _ = (sg s).drop n
  rw [List.take_of_length_le (by rw [List.length_drop]; omega)]
  by_cases h : n ≤ (sg s).length
  · rw [Nat.min_eq_left h]
  · rw [List.drop_eq_nil_of_le (by omega), List.drop_eq_nil_of_le (by omega)]
theorem sg_join0 : ∀ zs : List Str, sg (Str.join (Str.ofString "") zs) = (zs.map sg).flatten
  | [] => rfl
  | [x] => by simp [Str.join]
  | x :: y :: r => by
    have ih := sg_join0 (y :: r)
    show sg (x ++ Str.ofString "" ++ Str.join (Str.ofString "") (y :: r)) = _
    rw [sg_app, sg_app, ih, show sg (Str.ofString "") = [] from rfl, List.append_nil]
    simp
theorem w_join {a : Str} {zs : List Str} (h : (zs.map (·.length)).sum + zs.length * a.length ≤ 1000000) : joinIV (.d (.str a)) (.own (zs.map D.str)) = some (.d (.str (Str.join a zs))) := by
  show (asStrs (zs.map D.str)).bind _ = _
  rw [asStrs_map]
  show (if (zs.map (·.length)).sum + zs.length * a.length ≤ lim then some (IV.d (.str (Str.join a zs))) else none) = _
  exact if_pos h
theorem sum_ones : ∀ cs : List Nat, (cs.map fun _ => 1).sum = cs.length
  | [] => rfl
  | c :: cs => by
    rw [List.map_cons, List.sum_cons, sum_ones cs, List.length_cons]; omega
def nameOk (z : Str) : Prop := 1 ≤ (sg z).length ∧ (sg z).length ≤ 8 ∧ ∀ c ∈ sg z, 97 ≤ c ∧ c ≤ 122
def dayD (p : Int × Int) : D := .tup [.int p.1, .int p.2]
def dayOk (u : Int) (p : Int × Int) : Prop := 0 ≤ p.2 ∧ p.2 ≤ p.1 ∧ p.1 ≤ 19 * u
theorem tR_bd (a c : Int) {b : Int} (h : 0 < b) : 0 ≤ tR a c b ∧ tR a c b < b := ⟨tR_nn h, tR_lt h⟩
structure Place where
  name : Str
  rent : Int
  shut : List Int
structure Player where
  name : Str
  pay : Int
  hold : Int
  run : Int
  away : List Int
structure Scene where
  name : Str
  place : Str
  len : Int
  word : Str
  cast : List Str
def intsD (xs : List Int) : D := .tup (xs.map D.int)
def strsD (xs : List Str) : D := .tup (xs.map D.str)
def Place.d (p : Place) : D := .tup [.str p.name, .int p.rent, intsD p.shut]
def Player.d (p : Player) : D := .tup [.str p.name, .int p.pay, .int p.hold, .int p.run, intsD p.away]
def Scene.d (p : Scene) : D := .tup [.str p.name, .str p.place, .int p.len, .str p.word, strsD p.cast]
theorem x_Place0 {p : Place} : idxIV (.d p.d) (.d (.int 0)) = some (.d (.str p.name)) := rfl
theorem x_Place1 {p : Place} : idxIV (.d p.d) (.d (.int 1)) = some (.d (.int p.rent)) := rfl
theorem x_Place2 {p : Place} : idxIV (.d p.d) (.d (.int 2)) = some (.d (intsD p.shut)) := rfl
theorem x_Player0 {p : Player} : idxIV (.d p.d) (.d (.int 0)) = some (.d (.str p.name)) := rfl
theorem x_Player1 {p : Player} : idxIV (.d p.d) (.d (.int 1)) = some (.d (.int p.pay)) := rfl
theorem x_Player2 {p : Player} : idxIV (.d p.d) (.d (.int 2)) = some (.d (.int p.hold)) := rfl
theorem x_Player3 {p : Player} : idxIV (.d p.d) (.d (.int 3)) = some (.d (.int p.run)) := rfl
theorem x_Player4 {p : Player} : idxIV (.d p.d) (.d (.int 4)) = some (.d (intsD p.away)) := rfl
theorem x_Scene0 {p : Scene} : idxIV (.d p.d) (.d (.int 0)) = some (.d (.str p.name)) := rfl
theorem x_Scene1 {p : Scene} : idxIV (.d p.d) (.d (.int 1)) = some (.d (.str p.place)) := rfl
theorem x_Scene2 {p : Scene} : idxIV (.d p.d) (.d (.int 2)) = some (.d (.int p.len)) := rfl
theorem x_Scene3 {p : Scene} : idxIV (.d p.d) (.d (.int 3)) = some (.d (.str p.word)) := rfl
theorem x_Scene4 {p : Scene} : idxIV (.d p.d) (.d (.int 4)) = some (.d (strsD p.cast)) := rfl
local macro_rules | `(tactic| walk_at "ev") => `(tactic| simp (disch := first | assumption | omega) only [x_Place0, x_Place1, x_Place2, x_Player0, x_Player1, x_Player2, x_Player3, x_Player4, x_Scene0, x_Scene1, x_Scene2, x_Scene3, x_Scene4, v_asg, v_asgT, v_asK, v_cpA, v_cpB1, v_cpB2, v_cpC, v_wipe0, v_wipe1, v_back0, v_back1, v_lkC1, v_lkC2a, v_lkC2b, v_lkC3, Int.reduceEq, Int.reduceLT, Int.reduceLE, Int.reduceNe, Int.reduceAdd, Int.reduceMul, Int.reduceSub, decide_true, decide_false, eq_self, w_eqI, w_neI, w_eqS, w_neS, w_ixS, w_lenS, w_slS, w_slL, w_slO, w_slT, w_slNN, w_slNH, w_slLN, w_slLH, w_revP, w_mulSt, ↓v_run_1, ↓v_run_2, ↓v_run_3, ↓v_run_4, ↓v_run_5, ↓v_run_6, ↓v_run_7, Nat.reduceSub, Nat.reduceAdd, List.reduceReplicate, v_run1, v_run2, v_fnK, v_fi0, ↓v_fi, v_fi1, v_fi2, v_fi3, List.getElem?_cons_zero, List.getElem?_cons_succ, List.set_cons_zero, List.set_cons_succ, Option.bind_some, Option.bind_none, id_eq, ↓v_seq, v_seq1, v_seq2, v_seq3, v_seq4, ↓v_skip, ↓v_bk, ↓v_ct, ↓v_set, v_set1, ↓v_if, v_if1, v_if2, ↓v_ex, v_ex1, ↓v_ret, v_ret1, ↓v_retN, ↓v_retNm, v_retNm1, v_retNm2, ↓v_setT, v_setT1, v_nx, v_sT0, v_sT1, ↓v_for, v_for1, ↓v_while, ↓v_C, ↓v_nm, v_nm1, v_nm2, ↓v_oNm, v_oNm1, v_oNm2, ↓v_oV, v_oV1, ↓v_fz, v_fz1, v_fz2, v_ev0, ↓v_ev, v_ev1, v_ev2, ↓v_pr, ↓v_call, v_pr0, v_pr1, v_pr2, v_pr3, v_drK, v_dr0, v_dr, v_dr1, v_dr2, v_de1, v_de2, v_wbK, v_wb0, v_wb1, v_wb2, ↓v_met, v_drO, ↓v_tV, v_tV1, ↓v_tand, v_tand1, v_tand2, ↓v_tor, v_tor1, v_tor2, ↓v_tnot, v_tnot1, ↓v_tyes, ↓v_and, v_and1, v_and2, ↓v_or, v_or1, v_or2, ↓v_not, v_not1, ↓v_dif, v_dif1, v_dif2, ↓v_iS, v_iS1, v_iS2, v_iS3, ↓v_iR1, v_iR11, ↓v_iE, v_iE1, ↓v_iR2, v_iR21, v_iR22, ↓v_iZ, v_iZ1, v_iZ2, v_iZ3, ↓v_ch, v_ch1, v_ch2, v_ch3, ↓v_cm, v_cm1, v_cm2, v_lk, v_lk0, v_lk1, v_lk2, v_prg, v_plB0, v_plB1, v_plB2, v_noPl0, v_noPl1, v_noPl2, Bool.and_true, Bool.true_and, Bool.and_self, Bool.not_false, Bool.not_true, Nat.reduceBEq, v_isL1, v_isL2, v_isS, v_met1, List.getElem?_nil, if_true, if_false, Bool.false_eq_true, w_1, w_2, w_3, w_m1, w_m2, w_m3, w_add, w_sub, w_mod, w_fdiv, w_pow, w_mulR, w_mulL, w_tupA, w_strA, w_ownA, Int.reducePow, Int.reduceToNat, w_gt, w_ge, w_lt, w_le, w_ixL, w_ixO, w_ixT, w_lenL, w_lenO, w_lenT, w_tupL, w_tupO, w_tupT, w_set0, w_set1, w_neg, w_intB, w_intI, w_i0, w_i1, w_i2, w_i3, w_i4, w_i5, w_i6, w_app, w_tup, w_tup1, w_tup2, w_tup3, w_tup4, w_tup5, w_tup6, w_lst, w_lst1, w_lst2, w_lst3, w_lst4, w_lst5, w_isN1, w_isN2, w_min2, w_max2, List.length_cons, List.length_nil])
local macro_rules | `(tactic| walk_at "evh") => `(tactic| simp (disch := first | assumption | omega) only [*, x_Place0, x_Place1, x_Place2, x_Player0, x_Player1, x_Player2, x_Player3, x_Player4, x_Scene0, x_Scene1, x_Scene2, x_Scene3, x_Scene4, v_asg, v_asgT, v_asK, v_cpA, v_cpB1, v_cpB2, v_cpC, v_wipe0, v_wipe1, v_back0, v_back1, v_lkC1, v_lkC2a, v_lkC2b, v_lkC3, Int.reduceEq, Int.reduceLT, Int.reduceLE, Int.reduceNe, Int.reduceAdd, Int.reduceMul, Int.reduceSub, decide_true, decide_false, eq_self, w_eqI, w_neI, w_eqS, w_neS, w_ixS, w_lenS, w_slS, w_slL, w_slO, w_slT, w_slNN, w_slNH, w_slLN, w_slLH, w_revP, w_mulSt, ↓v_run_1, ↓v_run_2, ↓v_run_3, ↓v_run_4, ↓v_run_5, ↓v_run_6, ↓v_run_7, Nat.reduceSub, Nat.reduceAdd, List.reduceReplicate, v_run1, v_run2, v_fnK, v_fi0, ↓v_fi, v_fi1, v_fi2, v_fi3, List.getElem?_cons_zero, List.getElem?_cons_succ, List.set_cons_zero, List.set_cons_succ, Option.bind_some, Option.bind_none, id_eq, ↓v_seq, v_seq1, v_seq2, v_seq3, v_seq4, ↓v_skip, ↓v_bk, ↓v_ct, ↓v_set, v_set1, ↓v_if, v_if1, v_if2, ↓v_ex, v_ex1, ↓v_ret, v_ret1, ↓v_retN, ↓v_retNm, v_retNm1, v_retNm2, ↓v_setT, v_setT1, v_nx, v_sT0, v_sT1, ↓v_for, v_for1, ↓v_while, ↓v_C, ↓v_nm, v_nm1, v_nm2, ↓v_oNm, v_oNm1, v_oNm2, ↓v_oV, v_oV1, ↓v_fz, v_fz1, v_fz2, v_ev0, ↓v_ev, v_ev1, v_ev2, ↓v_pr, ↓v_call, v_pr0, v_pr1, v_pr2, v_pr3, v_drK, v_dr0, v_dr, v_dr1, v_dr2, v_de1, v_de2, v_wbK, v_wb0, v_wb1, v_wb2, ↓v_met, v_drO, ↓v_tV, v_tV1, ↓v_tand, v_tand1, v_tand2, ↓v_tor, v_tor1, v_tor2, ↓v_tnot, v_tnot1, ↓v_tyes, ↓v_and, v_and1, v_and2, ↓v_or, v_or1, v_or2, ↓v_not, v_not1, ↓v_dif, v_dif1, v_dif2, ↓v_iS, v_iS1, v_iS2, v_iS3, ↓v_iR1, v_iR11, ↓v_iE, v_iE1, ↓v_iR2, v_iR21, v_iR22, ↓v_iZ, v_iZ1, v_iZ2, v_iZ3, ↓v_ch, v_ch1, v_ch2, v_ch3, ↓v_cm, v_cm1, v_cm2, v_lk, v_lk0, v_lk1, v_lk2, v_prg, v_plB0, v_plB1, v_plB2, v_noPl0, v_noPl1, v_noPl2, Bool.and_true, Bool.true_and, Bool.and_self, Bool.not_false, Bool.not_true, Nat.reduceBEq, v_isL1, v_isL2, v_isS, v_met1, List.getElem?_nil, if_true, if_false, Bool.false_eq_true, w_1, w_2, w_3, w_m1, w_m2, w_m3, w_add, w_sub, w_mod, w_fdiv, w_pow, w_mulR, w_mulL, w_tupA, w_strA, w_ownA, Int.reducePow, Int.reduceToNat, w_gt, w_ge, w_lt, w_le, w_ixL, w_ixO, w_ixT, w_lenL, w_lenO, w_lenT, w_tupL, w_tupO, w_tupT, w_set0, w_set1, w_neg, w_intB, w_intI, w_i0, w_i1, w_i2, w_i3, w_i4, w_i5, w_i6, w_app, w_tup, w_tup1, w_tup2, w_tup3, w_tup4, w_tup5, w_tup6, w_lst, w_lst1, w_lst2, w_lst3, w_lst4, w_lst5, w_isN1, w_isN2, w_min2, w_max2, List.length_cons, List.length_nil])
def Place.ok (n : Nat) (p : Place) : Prop := nameOk p.name ∧ 0 ≤ p.rent ∧ p.rent < 10 ^ 60 ∧ Days n p.shut
def Player.ok (n : Nat) (p : Player) : Prop := nameOk p.name ∧ 0 ≤ p.pay ∧ p.pay < 10 ^ 60 ∧ 0 ≤ p.hold ∧ p.hold ≤ p.pay ∧ 1 ≤ p.run ∧ p.run ≤ 8 ∧ Days n p.away
def wordOk (w : Str) : Prop := w = "any" ∨ w = "sun" ∨ w = "moon"
def Scene.ok (u : Int) (pl : List Place) (py : List Player) (s : Scene) : Prop := nameOk s.name ∧ s.place ∈ pl.map (·.name) ∧ u ≤ s.len ∧ s.len ≤ 6 * u ∧ wordOk s.word ∧ s.cast.Nodup ∧ ∀ x ∈ s.cast, x ∈ py.map (·.name)
structure Book where
  crew : Int
  move : Int
  days : List (Int × Int)
  places : List Place
  players : List Player
  scenes : List Scene
def Book.d (b : Book) : D := .tup [.int b.crew, .int b.move, .tup (b.days.map dayD), .tup (b.places.map Place.d), .tup (b.players.map Player.d), .tup (b.scenes.map Scene.d)]
structure Book.ok (md ms : Nat) (b : Book) : Prop where
  unit : ∃ u : Int, 1 ≤ u ∧ u ≤ 10000000000 ∧ 0 ≤ b.move ∧ b.move ≤ 2 * u ∧ (∀ z ∈ b.days, dayOk u z) ∧ ∀ s ∈ b.scenes, s.ok u b.places b.players
  crew : 0 ≤ b.crew ∧ b.crew < 10 ^ 60
  nd : 1 ≤ b.days.length ∧ b.days.length ≤ md
  np : b.places.length ≤ 6
  pn : (b.places.map (·.name)).Nodup
  pl : ∀ z ∈ b.places, z.ok b.days.length
  nq : b.players.length ≤ 6
  qn : (b.players.map (·.name)).Nodup
  py : ∀ z ∈ b.players, z.ok b.days.length
  ns : b.scenes.length ≤ ms
  sn : (b.scenes.map (·.name)).Nodup
section
variable {xs : List D} {i : Int} {s : Str} {b : Bool}
theorem y_tt : isiIV (.d (.tup xs)) (.d (.ty "tuple")) = some (.d (.bl true)) := by rfl
theorem y_ti : isiIV (.d (.tup xs)) (.d (.ty "int")) = some (.d (.bl false)) := by rfl
theorem y_tb : isiIV (.d (.tup xs)) (.d (.ty "bool")) = some (.d (.bl false)) := by rfl
theorem y_ts : isiIV (.d (.tup xs)) (.d (.ty "str")) = some (.d (.bl false)) := by rfl
theorem y_tl : isiIV (.d (.tup xs)) (.d (.ty "list")) = some (.d (.bl false)) := by rfl
theorem y_it : isiIV (.d (.int i)) (.d (.ty "tuple")) = some (.d (.bl false)) := by rfl
theorem y_ii : isiIV (.d (.int i)) (.d (.ty "int")) = some (.d (.bl true)) := by rfl
theorem y_ib : isiIV (.d (.int i)) (.d (.ty "bool")) = some (.d (.bl false)) := by rfl
theorem y_is : isiIV (.d (.int i)) (.d (.ty "str")) = some (.d (.bl false)) := by rfl
theorem y_il : isiIV (.d (.int i)) (.d (.ty "list")) = some (.d (.bl false)) := by rfl
theorem y_st : isiIV (.d (.str s)) (.d (.ty "tuple")) = some (.d (.bl false)) := by rfl
theorem y_si : isiIV (.d (.str s)) (.d (.ty "int")) = some (.d (.bl false)) := by rfl
theorem y_sb : isiIV (.d (.str s)) (.d (.ty "bool")) = some (.d (.bl false)) := by rfl
theorem y_ss : isiIV (.d (.str s)) (.d (.ty "str")) = some (.d (.bl true)) := by rfl
theorem y_bt : isiIV (.d (.bl b)) (.d (.ty "tuple")) = some (.d (.bl false)) := by rfl
theorem y_bi : isiIV (.d (.bl b)) (.d (.ty "int")) = some (.d (.bl true)) := by rfl
theorem y_bb : isiIV (.d (.bl b)) (.d (.ty "bool")) = some (.d (.bl true)) := by rfl
theorem y_bs : isiIV (.d (.bl b)) (.d (.ty "str")) = some (.d (.bl false)) := by rfl
theorem y_nt : isiIV (.d .non) (.d (.ty "tuple")) = some (.d (.bl false)) := by rfl
theorem y_ni : isiIV (.d .non) (.d (.ty "int")) = some (.d (.bl false)) := by rfl
theorem y_nb : isiIV (.d .non) (.d (.ty "bool")) = some (.d (.bl false)) := by rfl
theorem y_ns : isiIV (.d .non) (.d (.ty "str")) = some (.d (.bl false)) := by rfl
theorem y_ll : isiIV (.d (.lst xs)) (.d (.ty "list")) = some (.d (.bl true)) := by rfl
theorem y_ol : isiIV (.own xs) (.d (.ty "list")) = some (.d (.bl true)) := by rfl
theorem y_nn : isNon (.d .non) = true := rfl
theorem y_n1 : isNon (.d (.int i)) = false := rfl
theorem y_n2 : isNon (.d (.str s)) = false := rfl
theorem y_n3 : isNon (.d (.tup xs)) = false := rfl
theorem y_n4 : isNon (.d (.bl b)) = false := rfl
theorem y_mul1 {x : D} {k : Int} (h1 : k ≤ 1000) (h2 : -1000 ≤ k) : mulQ (.d (.tup [x])) (.d (.int k)) = some (.d (.tup (List.replicate k.toNat x))) := by
  rw [w_mulT h1 h2 (by simp) rfl]
  congr 3
  unfold repL
  generalize k.toNat = n
  induction n with
  | zero => rfl
  | succ n ih => rw [List.replicate_succ, List.flatten_cons, ih, List.replicate_succ]; rfl
end
theorem y_all {bs : List Bool} : allIV (.own (bs.map D.bl)) = some (.d (.bl (bs.all id))) := by
  show (asBls (bs.map D.bl)).bind _ = _
  rw [asBls_map]; rfl
theorem y_any {bs : List Bool} : anyIV (.own (bs.map D.bl)) = some (.d (.bl (bs.any id))) := by
  show (asBls (bs.map D.bl)).bind _ = _
  rw [asBls_map]; rfl
theorem y_sum {ns : List Int} : sumIV (.own (ns.map D.int)) = some (.d (.int ns.sum)) := by
  show (asInts (ns.map D.int)).bind _ = _
  rw [asInts_map]; rfl
theorem x_Book0 {p : Book} : idxIV (.d p.d) (.d (.int 0)) = some (.d (.int p.crew)) := rfl
theorem x_Book1 {p : Book} : idxIV (.d p.d) (.d (.int 1)) = some (.d (.int p.move)) := rfl
theorem x_Book2 {p : Book} : idxIV (.d p.d) (.d (.int 2)) = some (.d (.tup (p.days.map dayD))) := rfl
theorem x_Book3 {p : Book} : idxIV (.d p.d) (.d (.int 3)) = some (.d (.tup (p.places.map Place.d))) := rfl
theorem x_Book4 {p : Book} : idxIV (.d p.d) (.d (.int 4)) = some (.d (.tup (p.players.map Player.d))) := rfl
theorem x_Book5 {p : Book} : idxIV (.d p.d) (.d (.int 5)) = some (.d (.tup (p.scenes.map Scene.d))) := rfl
local macro_rules | `(tactic| walk_at "ev") => `(tactic| simp (disch := first | assumption | omega) only [x_Place0, x_Place1, x_Place2, x_Player0, x_Player1, x_Player2, x_Player3, x_Player4, x_Scene0, x_Scene1, x_Scene2, x_Scene3, x_Scene4, y_tt, y_ti, y_tb, y_ts, y_tl, y_it, y_ii, y_ib, y_is, y_il, y_st, y_si, y_sb, y_ss, y_bt, y_bi, y_bb, y_bs, y_nt, y_ni, y_nb, y_ns, y_ll, y_ol, y_nn, y_n1, y_n2, y_n3, y_n4, y_mul1, y_all, y_any, y_sum, x_Book0, x_Book1, x_Book2, x_Book3, x_Book4, x_Book5, v_asg, v_asgT, v_asK, v_cpA, v_cpB1, v_cpB2, v_cpC, v_wipe0, v_wipe1, v_back0, v_back1, v_lkC1, v_lkC2a, v_lkC2b, v_lkC3, Int.reduceEq, Int.reduceLT, Int.reduceLE, Int.reduceNe, Int.reduceAdd, Int.reduceMul, Int.reduceSub, decide_true, decide_false, eq_self, w_eqI, w_neI, w_eqS, w_neS, w_ixS, w_lenS, w_slS, w_slL, w_slO, w_slT, w_slNN, w_slNH, w_slLN, w_slLH, w_revP, w_mulSt, ↓v_run_1, ↓v_run_2, ↓v_run_3, ↓v_run_4, ↓v_run_5, ↓v_run_6, ↓v_run_7, Nat.reduceSub, Nat.reduceAdd, List.reduceReplicate, v_run1, v_run2, v_fnK, v_fi0, ↓v_fi, v_fi1, v_fi2, v_fi3, List.getElem?_cons_zero, List.getElem?_cons_succ, List.set_cons_zero, List.set_cons_succ, Option.bind_some, Option.bind_none, id_eq, ↓v_seq, v_seq1, v_seq2, v_seq3, v_seq4, ↓v_skip, ↓v_bk, ↓v_ct, ↓v_set, v_set1, ↓v_if, v_if1, v_if2, ↓v_ex, v_ex1, ↓v_ret, v_ret1, ↓v_retN, ↓v_retNm, v_retNm1, v_retNm2, ↓v_setT, v_setT1, v_nx, v_sT0, v_sT1, ↓v_for, v_for1, ↓v_while,   ↓v_C, ↓v_nm, v_nm1, v_nm2, ↓v_oNm, v_oNm1, v_oNm2, ↓v_oV, v_oV1, ↓v_fz, v_fz1, v_fz2, v_ev0, ↓v_ev, v_ev1, v_ev2, ↓v_pr, ↓v_call, v_pr0, v_pr1, v_pr2, v_pr3, v_drK, v_dr0, v_dr, v_dr1, v_dr2, v_de1, v_de2, v_wbK, v_wb0, v_wb1, v_wb2, ↓v_met, v_drO, ↓v_tV, v_tV1,   ↓v_tand, v_tand1, v_tand2, ↓v_tor, v_tor1, v_tor2, ↓v_tnot, v_tnot1, ↓v_tyes, ↓v_and, v_and1, v_and2, ↓v_or, v_or1, v_or2, ↓v_not, v_not1, ↓v_dif, v_dif1, v_dif2, ↓v_iS, v_iS1, v_iS2, v_iS3, ↓v_iR1, v_iR11, ↓v_iE, v_iE1, ↓v_iR2, v_iR21, v_iR22, ↓v_iZ, v_iZ1, v_iZ2, v_iZ3, ↓v_ch, v_ch1, v_ch2, v_ch3, ↓v_cm, v_cm1, v_cm2, v_lk, v_lk0, v_lk1, v_lk2, v_prg, v_plB0, v_plB1, v_plB2, v_noPl0, v_noPl1, v_noPl2, Bool.and_true, Bool.true_and, Bool.and_self, Bool.not_false, Bool.not_true, Nat.reduceBEq, v_isL1, v_isL2, v_isS, v_met1, List.getElem?_nil, if_true, if_false, Bool.false_eq_true,   w_1, w_2, w_3, w_m1, w_m2, w_m3, w_add, w_sub, w_mod, w_fdiv, w_pow, w_mulR, w_mulL, w_tupA, w_strA, w_ownA, Int.reducePow, Int.reduceToNat, w_gt, w_ge, w_lt, w_le, w_ixL, w_ixO, w_ixT, w_lenL, w_lenO, w_lenT, w_tupL, w_tupO, w_tupT, w_set0, w_set1, w_neg, w_intB, w_intI, w_i0, w_i1, w_i2, w_i3, w_i4, w_i5, w_i6, w_app, w_tup, w_tup1, w_tup2, w_tup3, w_tup4, w_tup5, w_tup6,   w_lst, w_lst1, w_lst2, w_lst3, w_lst4, w_lst5, w_isN1, w_isN2, w_min2, w_max2, List.length_cons, List.length_nil])
local macro_rules | `(tactic| walk_at "evh") => `(tactic| simp (disch := first | assumption | omega) only [*, x_Place0, x_Place1, x_Place2, x_Player0, x_Player1, x_Player2, x_Player3, x_Player4, x_Scene0, x_Scene1, x_Scene2, x_Scene3, x_Scene4, y_tt, y_ti, y_tb, y_ts, y_tl, y_it, y_ii, y_ib, y_is, y_il, y_st, y_si, y_sb, y_ss, y_bt, y_bi, y_bb, y_bs, y_nt, y_ni, y_nb, y_ns, y_ll, y_ol, y_nn, y_n1, y_n2, y_n3, y_n4, y_mul1, y_all, y_any, y_sum, x_Book0, x_Book1, x_Book2, x_Book3, x_Book4, x_Book5, v_asg, v_asgT, v_asK, v_cpA, v_cpB1, v_cpB2, v_cpC, v_wipe0, v_wipe1, v_back0, v_back1, v_lkC1, v_lkC2a, v_lkC2b, v_lkC3, Int.reduceEq, Int.reduceLT, Int.reduceLE, Int.reduceNe, Int.reduceAdd, Int.reduceMul, Int.reduceSub, decide_true, decide_false, eq_self, w_eqI, w_neI, w_eqS, w_neS, w_ixS, w_lenS, w_slS, w_slL, w_slO, w_slT, w_slNN, w_slNH, w_slLN, w_slLH, w_revP, w_mulSt, ↓v_run_1, ↓v_run_2, ↓v_run_3, ↓v_run_4, ↓v_run_5, ↓v_run_6, ↓v_run_7, Nat.reduceSub, Nat.reduceAdd, List.reduceReplicate, v_run1, v_run2, v_fnK, v_fi0, ↓v_fi, v_fi1, v_fi2, v_fi3, List.getElem?_cons_zero, List.getElem?_cons_succ, List.set_cons_zero, List.set_cons_succ, Option.bind_some, Option.bind_none, id_eq, ↓v_seq, v_seq1, v_seq2, v_seq3, v_seq4, ↓v_skip, ↓v_bk, ↓v_ct, ↓v_set, v_set1, ↓v_if, v_if1, v_if2, ↓v_ex, v_ex1, ↓v_ret, v_ret1, ↓v_retN, ↓v_retNm, v_retNm1, v_retNm2, ↓v_setT, v_setT1, v_nx, v_sT0, v_sT1, ↓v_for, v_for1, ↓v_while,   ↓v_C, ↓v_nm, v_nm1, v_nm2, ↓v_oNm, v_oNm1, v_oNm2, ↓v_oV, v_oV1, ↓v_fz, v_fz1, v_fz2, v_ev0, ↓v_ev, v_ev1, v_ev2, ↓v_pr, ↓v_call, v_pr0, v_pr1, v_pr2, v_pr3, v_drK, v_dr0, v_dr, v_dr1, v_dr2, v_de1, v_de2, v_wbK, v_wb0, v_wb1, v_wb2, ↓v_met, v_drO, ↓v_tV, v_tV1,   ↓v_tand, v_tand1, v_tand2, ↓v_tor, v_tor1, v_tor2, ↓v_tnot, v_tnot1, ↓v_tyes, ↓v_and, v_and1, v_and2, ↓v_or, v_or1, v_or2, ↓v_not, v_not1, ↓v_dif, v_dif1, v_dif2, ↓v_iS, v_iS1, v_iS2, v_iS3, ↓v_iR1, v_iR11, ↓v_iE, v_iE1, ↓v_iR2, v_iR21, v_iR22, ↓v_iZ, v_iZ1, v_iZ2, v_iZ3, ↓v_ch, v_ch1, v_ch2, v_ch3, ↓v_cm, v_cm1, v_cm2, v_lk, v_lk0, v_lk1, v_lk2, v_prg, v_plB0, v_plB1, v_plB2, v_noPl0, v_noPl1, v_noPl2, Bool.and_true, Bool.true_and, Bool.and_self, Bool.not_false, Bool.not_true, Nat.reduceBEq, v_isL1, v_isL2, v_isS, v_met1, List.getElem?_nil, if_true, if_false, Bool.false_eq_true,   w_1, w_2, w_3, w_m1, w_m2, w_m3, w_add, w_sub, w_mod, w_fdiv, w_pow, w_mulR, w_mulL, w_tupA, w_strA, w_ownA, Int.reducePow, Int.reduceToNat, w_gt, w_ge, w_lt, w_le, w_ixL, w_ixO, w_ixT, w_lenL, w_lenO, w_lenT, w_tupL, w_tupO, w_tupT, w_set0, w_set1, w_neg, w_intB, w_intI, w_i0, w_i1, w_i2, w_i3, w_i4, w_i5, w_i6, w_app, w_tup, w_tup1, w_tup2, w_tup3, w_tup4, w_tup5, w_tup6,   w_lst, w_lst1, w_lst2, w_lst3, w_lst4, w_lst5, w_isN1, w_isN2, w_min2, w_max2, List.length_cons, List.length_nil])
def optD : Option Int → D
  | none => .non
  | some d => .int d
def caseD (c : List (Option Int)) : D := .tup (c.map optD)
theorem cut_to {xs : List D} {k : Nat} : cutL xs none (some (k : Int)) = xs.take k := by
  unfold cutL
  rw [HT.sIx_none, HT.sIx_nat, List.drop_zero, List.take_eq_take_iff]
  omega
mutual
def plainD : D → Bool
  | .non => true
  | .int _ => true
  | .str _ => true
  | .tup xs => plainDs xs
  | _ => false
def plainDs : List D → Bool
  | [] => true
  | x :: xs => plainD x && plainDs xs
end
mutual
def depD : D → Nat
  | .tup xs => depDs xs + 1
  | _ => 0
def depDs : List D → Nat
  | [] => 0
  | x :: xs => max (depD x) (depDs xs)
end
mutual
theorem plain_ok : ∀ x : D, plainD x = true → okD x = true ∧ (toPy x).depth = depD x
  | .non, _ => ⟨rfl, by simp [toPy, PyData.depth, depD]⟩
  | .int _, _ => ⟨rfl, by simp [toPy, PyData.depth, depD]⟩
  | .str _, _ => ⟨rfl, by simp [toPy, PyData.depth, depD]⟩
  | .tup xs, h => by
    obtain ⟨a, b⟩ := plains_ok xs h
    exact ⟨a, by rw [toPy, PyData.depth, b, depD]⟩
  | .bl _, h => by cases h
  | .lst _, h => by cases h
  | .ins _, h => by cases h
  | .fn _, h => by cases h
  | .cls _, h => by cases h
  | .ty _, h => by cases h
  | .lam _ _ _ _, h => by cases h
theorem plains_ok : ∀ xs : List D, plainDs xs = true → okDs xs = true ∧ PyData.depthAll (toPys xs) = depDs xs
  | [], _ => ⟨rfl, by simp [toPys, PyData.depthAll, depDs]⟩
  | x :: xs, h => by
    obtain ⟨h1, h2⟩ := Bool.and_eq_true_iff.mp (show (plainD x && plainDs xs) = true from h)
    obtain ⟨a1, a2⟩ := plain_ok x h1
    obtain ⟨b1, b2⟩ := plains_ok xs h2
    exact ⟨by show (okD x && okDs xs) = true; rw [a1, b1]; rfl, by rw [toPys, PyData.depthAll, a2, b2, depDs]⟩
end
theorem cmp_plain {x : D} (h : plainD x = true) (hd : depD x ≤ 64) : cmpOk x = true := by
  obtain ⟨a, b⟩ := plain_ok x h
  unfold cmpOk
  rw [a, b, decide_eq_true hd]; rfl
theorem strs_plain : ∀ xs : List Str, plainDs (xs.map D.str) = true ∧ depDs (xs.map D.str) = 0
  | [] => ⟨rfl, rfl⟩
  | x :: xs => by
    obtain ⟨a, b⟩ := strs_plain xs
    exact ⟨a, by show max 0 (depDs (xs.map D.str)) = 0; rw [b]; rfl⟩
theorem ints_plain : ∀ xs : List Int, plainDs (xs.map D.int) = true ∧ depDs (xs.map D.int) = 0
  | [] => ⟨rfl, rfl⟩
  | x :: xs => by
    obtain ⟨a, b⟩ := ints_plain xs
    exact ⟨a, by show max 0 (depDs (xs.map D.int)) = 0; rw [b]; rfl⟩
theorem map_plain {α : Type} {f : α → D} {n : Nat} (h : ∀ x, plainD (f x) = true ∧ depD (f x) ≤ n) : ∀ xs : List α, plainDs (xs.map f) = true ∧ depDs (xs.map f) ≤ n
  | [] => ⟨rfl, Nat.zero_le _⟩
  | x :: xs => by
    obtain ⟨a, b⟩ := map_plain h xs
    obtain ⟨c, d⟩ := h x
    exact ⟨by show (plainD (f x) && plainDs (xs.map f)) = true; rw [a, c]; rfl, by show max (depD (f x)) (depDs (xs.map f)) ≤ n; omega⟩
theorem scene_plain (s : Scene) : plainD s.d = true ∧ depD s.d ≤ 2 := by
  obtain ⟨a, b⟩ := strs_plain s.cast
  refine ⟨?_, ?_⟩
  · show (true && (true && (true && (true && (plainDs (s.cast.map D.str) && true))))) = true
    rw [a]; rfl
  · show max 0 (max 0 (max 0 (max 0 (max (depDs (s.cast.map D.str) + 1) 0)))) + 1 ≤ 2
    rw [b]; decide
mutual
theorem eqv_self : ∀ x : D, plainD x = true → PyData.eqv (toPy x) (toPy x) = true
  | .non, _ => by simp [toPy, PyData.eqv]
  | .int _, _ => by simp [toPy, PyData.eqv]
  | .str _, _ => by simp [toPy, PyData.eqv]
  | .tup xs, h => by
    rw [toPy, PyData.eqv]
    exact eqvs_self xs h
  | .bl _, h => by cases h
  | .lst _, h => by cases h
  | .ins _, h => by cases h
  | .fn _, h => by cases h
  | .cls _, h => by cases h
  | .ty _, h => by cases h
  | .lam _ _ _ _, h => by cases h
theorem eqvs_self : ∀ xs : List D, plainDs xs = true → PyData.eqvAll (toPys xs) (toPys xs) = true
  | [], _ => by simp [toPys, PyData.eqvAll]
  | x :: xs, h => by
    obtain ⟨h1, h2⟩ := Bool.and_eq_true_iff.mp (show (plainD x && plainDs xs) = true from h)
    rw [toPys, PyData.eqvAll, eqv_self x h1, eqvs_self xs h2]; rfl
end
theorem eq_self_ {x : D} (h : plainD x = true) (hd : depD x ≤ 64) : eqIV (.d x) (.d x) = some (.d (.bl true)) := by
  show (if cmpOk x && cmpOk x then some (IV.d (.bl (PyData.eqv (toPy x) (toPy x)))) else none) = _
  rw [cmp_plain h hd, eqv_self x h]; rfl
theorem ne_self_ {x : D} (h : plainD x = true) (hd : depD x ≤ 64) : neIV (.d x) (.d x) = some (.d (.bl false)) := by
  show (if cmpOk x && cmpOk x then some (IV.d (.bl (!PyData.eqv (toPy x) (toPy x)))) else none) = _
  rw [cmp_plain h hd, eqv_self x h]; rfl
theorem day_plain (p : Int × Int) : plainD (dayD p) = true ∧ depD (dayD p) ≤ 2 := ⟨rfl, by show max 0 (max 0 0) + 1 ≤ 2; decide⟩
theorem place_plain (p : Place) : plainD p.d = true ∧ depD p.d ≤ 2 := by
  obtain ⟨a, b⟩ := ints_plain p.shut
  refine ⟨?_, ?_⟩
  · show (true && (true && (plainDs (p.shut.map D.int) && true))) = true
    rw [a]; rfl
  · show max 0 (max 0 (max (depDs (p.shut.map D.int) + 1) 0)) + 1 ≤ 2
    rw [b]; decide
theorem player_plain (p : Player) : plainD p.d = true ∧ depD p.d ≤ 2 := by
  obtain ⟨a, b⟩ := ints_plain p.away
  refine ⟨?_, ?_⟩
  · show (true && (true && (true && (true && (plainDs (p.away.map D.int) && true))))) = true
    rw [a]; rfl
  · show max 0 (max 0 (max 0 (max 0 (max (depDs (p.away.map D.int) + 1) 0)))) + 1 ≤ 2
    rw [b]; decide
theorem book_plain (b : Book) : plainD b.d = true ∧ depD b.d ≤ 4 := by
  obtain ⟨a1, a2⟩ := map_plain day_plain b.days
  obtain ⟨b1, b2⟩ := map_plain place_plain b.places
  obtain ⟨c1, c2⟩ := map_plain player_plain b.players
  obtain ⟨d1, d2⟩ := map_plain scene_plain b.scenes
  refine ⟨?_, ?_⟩
  · show (true && (true && (plainDs (b.days.map dayD) && (plainDs (b.places.map Place.d) && (plainDs (b.players.map Player.d) && (plainDs (b.scenes.map Scene.d) && true)))))) = true
    rw [a1, b1, c1, d1]; rfl
  · show max 0 (max 0 (max (depDs (b.days.map dayD) + 1) (max (depDs (b.places.map Place.d) + 1) (max (depDs (b.players.map Player.d) + 1) (max (depDs (b.scenes.map Scene.d) + 1) 0))))) + 1 ≤ 4
    omega
theorem eq_book (b : Book) : eqIV (.d b.d) (.d b.d) = some (.d (.bl true)) := eq_self_ (book_plain b).1 (by have := (book_plain b).2; omega)
theorem ne_book (b : Book) : neIV (.d b.d) (.d b.d) = some (.d (.bl false)) := ne_self_ (book_plain b).1 (by have := (book_plain b).2; omega)
local macro_rules | `(tactic| walk_at "ev") => `(tactic| simp (disch := first | assumption | omega | (simp only [List.length_cons, List.length_nil, List.length_map]; omega)) only [x_Place0, x_Place1, x_Place2, x_Player0, x_Player1, x_Player2, x_Player3, x_Player4, x_Scene0, x_Scene1, x_Scene2, x_Scene3, x_Scene4, y_tt, y_ti, y_tb, y_ts, y_tl, y_it, y_ii, y_ib, y_is, y_il, y_st, y_si, y_sb, y_ss, y_bt, y_bi, y_bb, y_bs, y_nt, y_ni, y_nb, y_ns, y_ll, y_ol, y_nn, y_n1, y_n2, y_n3, y_n4, y_mul1, y_all, y_any, y_sum, x_Book0, x_Book1, x_Book2, x_Book3, x_Book4, x_Book5, List.cons_append, List.nil_append, eq_book, ne_book, v_asg, v_asgT, v_asK, v_cpA, v_cpB1, v_cpB2, v_cpC, v_wipe0, v_wipe1, v_back0, v_back1, v_lkC1, v_lkC2a, v_lkC2b, v_lkC3, Int.reduceEq, Int.reduceLT, Int.reduceLE, Int.reduceNe, Int.reduceAdd, Int.reduceMul, Int.reduceSub, decide_true, decide_false, eq_self, w_eqI, w_neI, w_eqS, w_neS, w_ixS, w_lenS, w_slS, w_slL, w_slO, w_slT, w_slNN, w_slNH, w_slLN, w_slLH, w_revP, w_mulSt, ↓v_run_1, ↓v_run_2, ↓v_run_3, ↓v_run_4, ↓v_run_5, ↓v_run_6, ↓v_run_7, Nat.reduceSub, Nat.reduceAdd, List.reduceReplicate, v_run1, v_run2, v_fnK, v_fi0, ↓v_fi, v_fi1, v_fi2, v_fi3, List.getElem?_cons_zero, List.getElem?_cons_succ, List.set_cons_zero, List.set_cons_succ, Option.bind_some, Option.bind_none, id_eq, ↓v_seq, v_seq1, v_seq2, v_seq3, v_seq4, ↓v_skip, ↓v_bk, ↓v_ct, ↓v_set, v_set1, ↓v_if, v_if1, v_if2, ↓v_ex, v_ex1, ↓v_ret, v_ret1, ↓v_retN, ↓v_retNm, v_retNm1, v_retNm2, ↓v_setT, v_setT1, v_nx, v_sT0, v_sT1, ↓v_for, v_for1, ↓v_while,   ↓v_C, ↓v_nm, v_nm1, v_nm2, ↓v_oNm, v_oNm1, v_oNm2, ↓v_oV, v_oV1, ↓v_fz, v_fz1, v_fz2, v_ev0, ↓v_ev, v_ev1, v_ev2, ↓v_pr, ↓v_call, v_pr0, v_pr1, v_pr2, v_pr3, v_drK, v_dr0, v_dr, v_dr1, v_dr2, v_de1, v_de2, v_wbK, v_wb0, v_wb1, v_wb2, ↓v_met, v_drO, ↓v_tV, v_tV1,   ↓v_tand, v_tand1, v_tand2, ↓v_tor, v_tor1, v_tor2, ↓v_tnot, v_tnot1, ↓v_tyes, ↓v_and, v_and1, v_and2, ↓v_or, v_or1, v_or2, ↓v_not, v_not1, ↓v_dif, v_dif1, v_dif2, ↓v_iS, v_iS1, v_iS2, v_iS3, ↓v_iR1, v_iR11, ↓v_iE, v_iE1, ↓v_iR2, v_iR21, v_iR22, ↓v_iZ, v_iZ1, v_iZ2, v_iZ3, ↓v_ch, v_ch1, v_ch2, v_ch3, ↓v_cm, v_cm1, v_cm2, v_lk, v_lk0, v_lk1, v_lk2, v_prg, v_plB0, v_plB1, v_plB2, v_noPl0, v_noPl1, v_noPl2, Bool.and_true, Bool.true_and, Bool.and_self, Bool.not_false, Bool.not_true, Nat.reduceBEq, v_isL1, v_isL2, v_isS, v_met1, List.getElem?_nil, if_true, if_false, Bool.false_eq_true,   w_1, w_2, w_3, w_m1, w_m2, w_m3, w_add, w_sub, w_mod, w_fdiv, w_pow, w_mulR, w_mulL, w_tupA, w_strA, w_ownA, Int.reducePow, Int.reduceToNat, w_gt, w_ge, w_lt, w_le, w_ixL, w_ixO, w_ixT, w_lenL, w_lenO, w_lenT, w_tupL, w_tupO, w_tupT, w_set0, w_set1, w_neg, w_intB, w_intI, w_i0, w_i1, w_i2, w_i3, w_i4, w_i5, w_i6, w_app, w_tup, w_tup1, w_tup2, w_tup3, w_tup4, w_tup5, w_tup6,   w_lst, w_lst1, w_lst2, w_lst3, w_lst4, w_lst5, w_isN1, w_isN2, w_min2, w_max2, List.length_cons, List.length_nil])
local macro_rules | `(tactic| walk_at "evh") => `(tactic| simp (disch := first | assumption | omega | (simp only [List.length_cons, List.length_nil, List.length_map]; omega)) only [*, x_Place0, x_Place1, x_Place2, x_Player0, x_Player1, x_Player2, x_Player3, x_Player4, x_Scene0, x_Scene1, x_Scene2, x_Scene3, x_Scene4, y_tt, y_ti, y_tb, y_ts, y_tl, y_it, y_ii, y_ib, y_is, y_il, y_st, y_si, y_sb, y_ss, y_bt, y_bi, y_bb, y_bs, y_nt, y_ni, y_nb, y_ns, y_ll, y_ol, y_nn, y_n1, y_n2, y_n3, y_n4, y_mul1, y_all, y_any, y_sum, x_Book0, x_Book1, x_Book2, x_Book3, x_Book4, x_Book5, List.cons_append, List.nil_append, eq_book, ne_book, v_asg, v_asgT, v_asK, v_cpA, v_cpB1, v_cpB2, v_cpC, v_wipe0, v_wipe1, v_back0, v_back1, v_lkC1, v_lkC2a, v_lkC2b, v_lkC3, Int.reduceEq, Int.reduceLT, Int.reduceLE, Int.reduceNe, Int.reduceAdd, Int.reduceMul, Int.reduceSub, decide_true, decide_false, eq_self, w_eqI, w_neI, w_eqS, w_neS, w_ixS, w_lenS, w_slS, w_slL, w_slO, w_slT, w_slNN, w_slNH, w_slLN, w_slLH, w_revP, w_mulSt, ↓v_run_1, ↓v_run_2, ↓v_run_3, ↓v_run_4, ↓v_run_5, ↓v_run_6, ↓v_run_7, Nat.reduceSub, Nat.reduceAdd, List.reduceReplicate, v_run1, v_run2, v_fnK, v_fi0, ↓v_fi, v_fi1, v_fi2, v_fi3, List.getElem?_cons_zero, List.getElem?_cons_succ, List.set_cons_zero, List.set_cons_succ, Option.bind_some, Option.bind_none, id_eq, ↓v_seq, v_seq1, v_seq2, v_seq3, v_seq4, ↓v_skip, ↓v_bk, ↓v_ct, ↓v_set, v_set1, ↓v_if, v_if1, v_if2, ↓v_ex, v_ex1, ↓v_ret, v_ret1, ↓v_retN, ↓v_retNm, v_retNm1, v_retNm2, ↓v_setT, v_setT1, v_nx, v_sT0, v_sT1, ↓v_for, v_for1, ↓v_while,   ↓v_C, ↓v_nm, v_nm1, v_nm2, ↓v_oNm, v_oNm1, v_oNm2, ↓v_oV, v_oV1, ↓v_fz, v_fz1, v_fz2, v_ev0, ↓v_ev, v_ev1, v_ev2, ↓v_pr, ↓v_call, v_pr0, v_pr1, v_pr2, v_pr3, v_drK, v_dr0, v_dr, v_dr1, v_dr2, v_de1, v_de2, v_wbK, v_wb0, v_wb1, v_wb2, ↓v_met, v_drO, ↓v_tV, v_tV1,   ↓v_tand, v_tand1, v_tand2, ↓v_tor, v_tor1, v_tor2, ↓v_tnot, v_tnot1, ↓v_tyes, ↓v_and, v_and1, v_and2, ↓v_or, v_or1, v_or2, ↓v_not, v_not1, ↓v_dif, v_dif1, v_dif2, ↓v_iS, v_iS1, v_iS2, v_iS3, ↓v_iR1, v_iR11, ↓v_iE, v_iE1, ↓v_iR2, v_iR21, v_iR22, ↓v_iZ, v_iZ1, v_iZ2, v_iZ3, ↓v_ch, v_ch1, v_ch2, v_ch3, ↓v_cm, v_cm1, v_cm2, v_lk, v_lk0, v_lk1, v_lk2, v_prg, v_plB0, v_plB1, v_plB2, v_noPl0, v_noPl1, v_noPl2, Bool.and_true, Bool.true_and, Bool.and_self, Bool.not_false, Bool.not_true, Nat.reduceBEq, v_isL1, v_isL2, v_isS, v_met1, List.getElem?_nil, if_true, if_false, Bool.false_eq_true,   w_1, w_2, w_3, w_m1, w_m2, w_m3, w_add, w_sub, w_mod, w_fdiv, w_pow, w_mulR, w_mulL, w_tupA, w_strA, w_ownA, Int.reducePow, Int.reduceToNat, w_gt, w_ge, w_lt, w_le, w_ixL, w_ixO, w_ixT, w_lenL, w_lenO, w_lenT, w_tupL, w_tupO, w_tupT, w_set0, w_set1, w_neg, w_intB, w_intI, w_i0, w_i1, w_i2, w_i3, w_i4, w_i5, w_i6, w_app, w_tup, w_tup1, w_tup2, w_tup3, w_tup4, w_tup5, w_tup6,   w_lst, w_lst1, w_lst2, w_lst3, w_lst4, w_lst5, w_isN1, w_isN2, w_min2, w_max2, List.length_cons, List.length_nil])
/-- a fact put by -/
def Hid (p : Prop) : Prop := p
def CaseOk (b : Book) (c : List (Option Int)) : Prop := c.length = b.scenes.length ∧ ∀ d : Int, some d ∈ c → 0 ≤ d ∧ d < b.days.length
theorem zip_maps {α β : Type} {f : α → D} {g : β → D} : ∀ (xs : List α) (ys : List β), zipD (xs.map f) (ys.map g) = (xs.zip ys).map fun p => .tup [f p.1, g p.2]
  | [], _ => by simp [zipD]
  | x :: xs, [] => by simp [zipD]
  | x :: xs, y :: ys => by
    show D.tup [f x, g y] :: zipD (xs.map f) (ys.map g) = _
    rw [zip_maps xs ys]; rfl
theorem z_eqO {o : Option Int} {d : Int} : eqIV (.d (optD o)) (.d (.int d)) = some (.d (.bl (decide (o = some d)))) := by
  cases o with
  | some e =>
    show eqIV (.d (.int e)) (.d (.int d)) = _
    rw [w_eqI]; simp
  | none =>
    show (if cmpOk .non && cmpOk (.int d) then some (IV.d (.bl (PyData.eqv .none (.int d)))) else none) = _
    have e : PyData.eqv .none (.int d) = false := by unfold PyData.eqv; rfl
    rw [e, if_pos (by simp [cmpOk, okD, toPy, PyData.depth])]; rfl
theorem z_nonO {o : Option Int} : isNon (.d (optD o)) = o.isNone := by cases o <;> rfl
theorem eqD_str {a b : Str} : eqD (.str a) (.str b) = decide (a = b) := by
  show PyData.eqv (.str a) (.str b) = _
  unfold PyData.eqv; rfl
theorem eqD_int {a b : Int} : eqD (.int a) (.int b) = decide (a = b) := by
  show PyData.eqv (.int a) (.int b) = _
  unfold PyData.eqv; rfl
theorem inD_strs {a : Str} (zs : List Str) : inD (.str a) (zs.map D.str) = decide (a ∈ zs) := by
  unfold inD
  rw [List.any_map]
  rw [Bool.eq_iff_iff, List.any_eq_true, decide_eq_true_eq]
  constructor
  · rintro ⟨z, hz, e⟩
    have e : eqD (.str z) (.str a) = true := e
    rw [eqD_str, decide_eq_true_eq] at e
    rw [← e]; exact hz
  · intro h
    exact ⟨a, h, by show eqD (.str a) (.str a) = true; rw [eqD_str]; simp⟩
theorem inD_ints {a : Int} (zs : List Int) : inD (.int a) (zs.map D.int) = decide (a ∈ zs) := by
  unfold inD
  rw [List.any_map]
  rw [Bool.eq_iff_iff, List.any_eq_true, decide_eq_true_eq]
  constructor
  · rintro ⟨z, hz, e⟩
    have e : eqD (.int z) (.int a) = true := e
    rw [eqD_int, decide_eq_true_eq] at e
    rw [← e]; exact hz
  · intro h
    exact ⟨a, h, by show eqD (.int a) (.int a) = true; rw [eqD_int]; simp⟩
theorem flat_strs (zs : List Str) : (zs.map D.str).all flatD = true := by simp [List.all_eq_true, flatD]
theorem flat_ints (zs : List Int) : (zs.map D.int).all flatD = true := by simp [List.all_eq_true, flatD]
theorem z_inS {neg : Bool} {a : Str} {zs : List Str} : inIV neg (.d (.str a)) (.d (strsD zs)) = some (.d (.bl (if neg then !decide (a ∈ zs) else decide (a ∈ zs)))) := by
  show ((if flatD (.str a) && (zs.map D.str).all flatD then some (inD (.str a) (zs.map D.str)) else none).bind _) = _
  rw [flat_strs, inD_strs]; rfl
theorem z_inI {neg : Bool} {a : Int} {zs : List Int} : inIV neg (.d (.int a)) (.own (zs.map D.int)) = some (.d (.bl (if neg then !decide (a ∈ zs) else decide (a ∈ zs)))) := by
  show ((if flatD (.int a) && (zs.map D.int).all flatD then some (inD (.int a) (zs.map D.int)) else deepIn (.int a) (zs.map D.int)).bind _) = _
  rw [flat_ints, inD_ints]; rfl
theorem z_inIT {neg : Bool} {a : Int} {zs : List Int} : inIV neg (.d (.int a)) (.d (intsD zs)) = some (.d (.bl (if neg then !decide (a ∈ zs) else decide (a ∈ zs)))) := by
  show ((if flatD (.int a) && (zs.map D.int).all flatD then some (inD (.int a) (zs.map D.int)) else none).bind _) = _
  rw [flat_ints, inD_ints]; rfl
theorem z_sort {zs : List Int} : sortIV (.own (zs.map D.int)) = some (.own ((sortI zs).map D.int)) := by
  show (match asInts (zs.map D.int) with
    | some ns => some (IV.own ((sortI ns).map D.int))
    | none => sortZ (zs.map D.int)) = _
  rw [asInts_map]
abbrev Pairs := List (Scene × Option Int)
def addDay (Q : Scene → Bool) (acc : List Int) (p : Scene × Option Int) : List Int := match p.2 with
  | some d => if Q p.1 && !decide (d ∈ acc) then acc ++ [d] else acc
  | none => acc
def daysOf (Q : Scene → Bool) (ps : Pairs) : List Int := ps.foldl (addDay Q) []
local macro_rules | `(tactic| walk_at "ev") => `(tactic| simp (disch := first | assumption | omega | (simp only [List.length_cons, List.length_nil, List.length_map]; omega)) only [x_Place0, x_Place1, x_Place2, x_Player0, x_Player1, x_Player2, x_Player3, x_Player4, x_Scene0, x_Scene1, x_Scene2, x_Scene3, x_Scene4, y_tt, y_ti, y_tb, y_ts, y_tl, y_it, y_ii, y_ib, y_is, y_il, y_st, y_si, y_sb, y_ss, y_bt, y_bi, y_bb, y_bs, y_nt, y_ni, y_nb, y_ns, y_ll, y_ol, y_nn, y_n1, y_n2, y_n3, y_n4, y_mul1, y_all, y_any, y_sum, x_Book0, x_Book1, x_Book2, x_Book3, x_Book4, x_Book5, List.cons_append, List.nil_append, eq_book, ne_book, z_eqO, z_nonO, z_inS, z_inI, z_inIT, z_sort, zip_maps, v_asg, v_asgT, v_asK, v_cpA, v_cpB1, v_cpB2, v_cpC, v_wipe0, v_wipe1, v_back0, v_back1, v_lkC1, v_lkC2a, v_lkC2b, v_lkC3, Int.reduceEq, Int.reduceLT, Int.reduceLE, Int.reduceNe, Int.reduceAdd, Int.reduceMul, Int.reduceSub, decide_true, decide_false, eq_self, w_eqI, w_neI, w_eqS, w_neS, w_ixS, w_lenS, w_slS, w_slL, w_slO, w_slT, w_slNN, w_slNH, w_slLN, w_slLH, w_revP, w_mulSt, ↓v_run_1, ↓v_run_2, ↓v_run_3, ↓v_run_4, ↓v_run_5, ↓v_run_6, ↓v_run_7, Nat.reduceSub, Nat.reduceAdd, List.reduceReplicate, v_run1, v_run2, v_fnK, v_fi0, ↓v_fi, v_fi1, v_fi2, v_fi3, List.getElem?_cons_zero, List.getElem?_cons_succ, List.set_cons_zero, List.set_cons_succ, Option.bind_some, Option.bind_none, id_eq, ↓v_seq, v_seq1, v_seq2, v_seq3, v_seq4, ↓v_skip, ↓v_bk, ↓v_ct, ↓v_set, v_set1, ↓v_if, v_if1, v_if2, ↓v_ex, v_ex1, ↓v_ret, v_ret1, ↓v_retN, ↓v_retNm, v_retNm1, v_retNm2, ↓v_setT, v_setT1, v_nx, v_sT0, v_sT1, ↓v_for, v_for1, ↓v_while,   ↓v_C, ↓v_nm, v_nm1, v_nm2, ↓v_oNm, v_oNm1, v_oNm2, ↓v_oV, v_oV1, ↓v_fz, v_fz1, v_fz2, v_ev0, ↓v_ev, v_ev1, v_ev2, ↓v_pr, ↓v_call, v_pr0, v_pr1, v_pr2, v_pr3, v_drK, v_dr0, v_dr, v_dr1, v_dr2, v_de1, v_de2, v_wbK, v_wb0, v_wb1, v_wb2, ↓v_met, v_drO, ↓v_tV, v_tV1,   ↓v_tand, v_tand1, v_tand2, ↓v_tor, v_tor1, v_tor2, ↓v_tnot, v_tnot1, ↓v_tyes, ↓v_and, v_and1, v_and2, ↓v_or, v_or1, v_or2, ↓v_not, v_not1, ↓v_dif, v_dif1, v_dif2, ↓v_iS, v_iS1, v_iS2, v_iS3, ↓v_iR1, v_iR11, ↓v_iE, v_iE1, ↓v_iR2, v_iR21, v_iR22, ↓v_iZ, v_iZ1, v_iZ2, v_iZ3, ↓v_ch, v_ch1, v_ch2, v_ch3, ↓v_cm, v_cm1, v_cm2, v_lk, v_lk0, v_lk1, v_lk2, v_prg, v_plB0, v_plB1, v_plB2, v_noPl0, v_noPl1, v_noPl2, Bool.and_true, Bool.true_and, Bool.and_self, Bool.not_false, Bool.not_true, Nat.reduceBEq, v_isL1, v_isL2, v_isS, v_met1, List.getElem?_nil, if_true, if_false, Bool.false_eq_true,   w_1, w_2, w_3, w_m1, w_m2, w_m3, w_add, w_sub, w_mod, w_fdiv, w_pow, w_mulR, w_mulL, w_tupA, w_strA, w_ownA, Int.reducePow, Int.reduceToNat, w_gt, w_ge, w_lt, w_le, w_ixL, w_ixO, w_ixT, w_lenL, w_lenO, w_lenT, w_tupL, w_tupO, w_tupT, w_set0, w_set1, w_neg, w_intB, w_intI, w_i0, w_i1, w_i2, w_i3, w_i4, w_i5, w_i6, w_app, w_tup, w_tup1, w_tup2, w_tup3, w_tup4, w_tup5, w_tup6,   w_lst, w_lst1, w_lst2, w_lst3, w_lst4, w_lst5, w_isN1, w_isN2, w_min2, w_max2, List.length_cons, List.length_nil])
local macro_rules | `(tactic| walk_at "evh") => `(tactic| simp (disch := first | assumption | omega | (simp only [List.length_cons, List.length_nil, List.length_map]; omega)) only [*, x_Place0, x_Place1, x_Place2, x_Player0, x_Player1, x_Player2, x_Player3, x_Player4, x_Scene0, x_Scene1, x_Scene2, x_Scene3, x_Scene4, y_tt, y_ti, y_tb, y_ts, y_tl, y_it, y_ii, y_ib, y_is, y_il, y_st, y_si, y_sb, y_ss, y_bt, y_bi, y_bb, y_bs, y_nt, y_ni, y_nb, y_ns, y_ll, y_ol, y_nn, y_n1, y_n2, y_n3, y_n4, y_mul1, y_all, y_any, y_sum, x_Book0, x_Book1, x_Book2, x_Book3, x_Book4, x_Book5, List.cons_append, List.nil_append, eq_book, ne_book, z_eqO, z_nonO, z_inS, z_inI, z_inIT, z_sort, zip_maps, v_asg, v_asgT, v_asK, v_cpA, v_cpB1, v_cpB2, v_cpC, v_wipe0, v_wipe1, v_back0, v_back1, v_lkC1, v_lkC2a, v_lkC2b, v_lkC3, Int.reduceEq, Int.reduceLT, Int.reduceLE, Int.reduceNe, Int.reduceAdd, Int.reduceMul, Int.reduceSub, decide_true, decide_false, eq_self, w_eqI, w_neI, w_eqS, w_neS, w_ixS, w_lenS, w_slS, w_slL, w_slO, w_slT, w_slNN, w_slNH, w_slLN, w_slLH, w_revP, w_mulSt, ↓v_run_1, ↓v_run_2, ↓v_run_3, ↓v_run_4, ↓v_run_5, ↓v_run_6, ↓v_run_7, Nat.reduceSub, Nat.reduceAdd, List.reduceReplicate, v_run1, v_run2, v_fnK, v_fi0, ↓v_fi, v_fi1, v_fi2, v_fi3, List.getElem?_cons_zero, List.getElem?_cons_succ, List.set_cons_zero, List.set_cons_succ, Option.bind_some, Option.bind_none, id_eq, ↓v_seq, v_seq1, v_seq2, v_seq3, v_seq4, ↓v_skip, ↓v_bk, ↓v_ct, ↓v_set, v_set1, ↓v_if, v_if1, v_if2, ↓v_ex, v_ex1, ↓v_ret, v_ret1, ↓v_retN, ↓v_retNm, v_retNm1, v_retNm2, ↓v_setT, v_setT1, v_nx, v_sT0, v_sT1, ↓v_for, v_for1, ↓v_while,   ↓v_C, ↓v_nm, v_nm1, v_nm2, ↓v_oNm, v_oNm1, v_oNm2, ↓v_oV, v_oV1, ↓v_fz, v_fz1, v_fz2, v_ev0, ↓v_ev, v_ev1, v_ev2, ↓v_pr, ↓v_call, v_pr0, v_pr1, v_pr2, v_pr3, v_drK, v_dr0, v_dr, v_dr1, v_dr2, v_de1, v_de2, v_wbK, v_wb0, v_wb1, v_wb2, ↓v_met, v_drO, ↓v_tV, v_tV1,   ↓v_tand, v_tand1, v_tand2, ↓v_tor, v_tor1, v_tor2, ↓v_tnot, v_tnot1, ↓v_tyes, ↓v_and, v_and1, v_and2, ↓v_or, v_or1, v_or2, ↓v_not, v_not1, ↓v_dif, v_dif1, v_dif2, ↓v_iS, v_iS1, v_iS2, v_iS3, ↓v_iR1, v_iR11, ↓v_iE, v_iE1, ↓v_iR2, v_iR21, v_iR22, ↓v_iZ, v_iZ1, v_iZ2, v_iZ3, ↓v_ch, v_ch1, v_ch2, v_ch3, ↓v_cm, v_cm1, v_cm2, v_lk, v_lk0, v_lk1, v_lk2, v_prg, v_plB0, v_plB1, v_plB2, v_noPl0, v_noPl1, v_noPl2, Bool.and_true, Bool.true_and, Bool.and_self, Bool.not_false, Bool.not_true, Nat.reduceBEq, v_isL1, v_isL2, v_isS, v_met1, List.getElem?_nil, if_true, if_false, Bool.false_eq_true,   w_1, w_2, w_3, w_m1, w_m2, w_m3, w_add, w_sub, w_mod, w_fdiv, w_pow, w_mulR, w_mulL, w_tupA, w_strA, w_ownA, Int.reducePow, Int.reduceToNat, w_gt, w_ge, w_lt, w_le, w_ixL, w_ixO, w_ixT, w_lenL, w_lenO, w_lenT, w_tupL, w_tupO, w_tupT, w_set0, w_set1, w_neg, w_intB, w_intI, w_i0, w_i1, w_i2, w_i3, w_i4, w_i5, w_i6, w_app, w_tup, w_tup1, w_tup2, w_tup3, w_tup4, w_tup5, w_tup6,   w_lst, w_lst1, w_lst2, w_lst3, w_lst4, w_lst5, w_isN1, w_isN2, w_min2, w_max2, List.length_cons, List.length_nil])
/-- the scenes on a day -/
def there (b : Book) (c : List (Option Int)) (d : Int) : List Scene := ((b.scenes.zip c).filter fun p => decide (p.2 = some d)).map (·.1)
def atPlace (p : Place) (s : Scene) : Bool := decide (s.place = p.name)
def plays (z : Str) (s : Scene) : Bool := decide (z ∈ s.cast)
def calledF (b : Book) (c : List (Option Int)) (z : Str) : List Int := sortI (daysOf (plays z) (b.scenes.zip c))
theorem x_ints {xs : List Int} {i : Int} : idxIV (.d (intsD xs)) (.d (.int i)) = (L2.atI (xs.map D.int) i).bind fun z => some (.d z) := rfl
theorem x_intsL {xs : List Int} : lenIV (.d (intsD xs)) = some (.d (.int xs.length)) := by
  show some (IV.d (.int ((xs.map D.int).length : Nat))) = _
  rw [List.length_map]
theorem x_strsL {xs : List Str} : lenIV (.d (strsD xs)) = some (.d (.int xs.length)) := by
  show some (IV.d (.int ((xs.map D.str).length : Nat))) = _
  rw [List.length_map]
theorem atI_last {α : Type} {xs : List α} : L2.atI xs (-1) = xs.getLast? := by
  unfold L2.atI L2.ixN
  rw [if_neg (by omega), List.getLast?_eq_getElem?]
  by_cases h : xs.length = 0
  · rw [if_neg (by omega), List.getElem?_eq_none (by omega)]; rfl
  · rw [if_pos (by omega)]
    show xs[(-1 + (xs.length : Int)).toNat]? = _
    congr 1; omega
local macro_rules | `(tactic| walk_at "ev") => `(tactic| simp (disch := first | assumption | omega | (simp only [List.length_cons, List.length_nil, List.length_map]; omega)) only [x_Place0, x_Place1, x_Place2, x_Player0, x_Player1, x_Player2, x_Player3, x_Player4, x_Scene0, x_Scene1, x_Scene2, x_Scene3, x_Scene4, y_tt, y_ti, y_tb, y_ts, y_tl, y_it, y_ii, y_ib, y_is, y_il, y_st, y_si, y_sb, y_ss, y_bt, y_bi, y_bb, y_bs, y_nt, y_ni, y_nb, y_ns, y_ll, y_ol, y_nn, y_n1, y_n2, y_n3, y_n4, y_mul1, y_all, y_any, y_sum, x_Book0, x_Book1, x_Book2, x_Book3, x_Book4, x_Book5, List.cons_append, List.nil_append, eq_book, ne_book, z_eqO, z_nonO, z_inS, z_inI, z_inIT, z_sort, zip_maps, x_ints, x_intsL, x_strsL, atI_last, v_asg, v_asgT, v_asK, v_cpA, v_cpB1, v_cpB2, v_cpC, v_wipe0, v_wipe1, v_back0, v_back1, v_lkC1, v_lkC2a, v_lkC2b, v_lkC3, Int.reduceEq, Int.reduceLT, Int.reduceLE, Int.reduceNe, Int.reduceAdd, Int.reduceMul, Int.reduceSub, decide_true, decide_false, eq_self, w_eqI, w_neI, w_eqS, w_neS, w_ixS, w_lenS, w_slS, w_slL, w_slO, w_slT, w_slNN, w_slNH, w_slLN, w_slLH, w_revP, w_mulSt, ↓v_run_1, ↓v_run_2, ↓v_run_3, ↓v_run_4, ↓v_run_5, ↓v_run_6, ↓v_run_7, Nat.reduceSub, Nat.reduceAdd, List.reduceReplicate, v_run1, v_run2, v_fnK, v_fi0, ↓v_fi, v_fi1, v_fi2, v_fi3, List.getElem?_cons_zero, List.getElem?_cons_succ, List.set_cons_zero, List.set_cons_succ, Option.bind_some, Option.bind_none, id_eq, ↓v_seq, v_seq1, v_seq2, v_seq3, v_seq4, ↓v_skip, ↓v_bk, ↓v_ct, ↓v_set, v_set1, ↓v_if, v_if1, v_if2, ↓v_ex, v_ex1, ↓v_ret, v_ret1, ↓v_retN, ↓v_retNm, v_retNm1, v_retNm2, ↓v_setT, v_setT1, v_nx, v_sT0, v_sT1, ↓v_for, v_for1, ↓v_while,   ↓v_C, ↓v_nm, v_nm1, v_nm2, ↓v_oNm, v_oNm1, v_oNm2, ↓v_oV, v_oV1, ↓v_fz, v_fz1, v_fz2, v_ev0, ↓v_ev, v_ev1, v_ev2, ↓v_pr, ↓v_call, v_pr0, v_pr1, v_pr2, v_pr3, v_drK, v_dr0, v_dr, v_dr1, v_dr2, v_de1, v_de2, v_wbK, v_wb0, v_wb1, v_wb2, ↓v_met, v_drO, ↓v_tV, v_tV1,   ↓v_tand, v_tand1, v_tand2, ↓v_tor, v_tor1, v_tor2, ↓v_tnot, v_tnot1, ↓v_tyes, ↓v_and, v_and1, v_and2, ↓v_or, v_or1, v_or2, ↓v_not, v_not1, ↓v_dif, v_dif1, v_dif2, ↓v_iS, v_iS1, v_iS2, v_iS3, ↓v_iR1, v_iR11, ↓v_iE, v_iE1, ↓v_iR2, v_iR21, v_iR22, ↓v_iZ, v_iZ1, v_iZ2, v_iZ3, ↓v_ch, v_ch1, v_ch2, v_ch3, ↓v_cm, v_cm1, v_cm2, v_lk, v_lk0, v_lk1, v_lk2, v_prg, v_plB0, v_plB1, v_plB2, v_noPl0, v_noPl1, v_noPl2, Bool.and_true, Bool.true_and, Bool.and_self, Bool.not_false, Bool.not_true, Nat.reduceBEq, v_isL1, v_isL2, v_isS, v_met1, List.getElem?_nil, if_true, if_false, Bool.false_eq_true,   w_1, w_2, w_3, w_m1, w_m2, w_m3, w_add, w_sub, w_mod, w_fdiv, w_pow, w_mulR, w_mulL, w_tupA, w_strA, w_ownA, Int.reducePow, Int.reduceToNat, w_gt, w_ge, w_lt, w_le, w_ixL, w_ixO, w_ixT, w_lenL, w_lenO, w_lenT, w_tupL, w_tupO, w_tupT, w_set0, w_set1, w_neg, w_intB, w_intI, w_i0, w_i1, w_i2, w_i3, w_i4, w_i5, w_i6, w_app, w_tup, w_tup1, w_tup2, w_tup3, w_tup4, w_tup5, w_tup6,   w_lst, w_lst1, w_lst2, w_lst3, w_lst4, w_lst5, w_isN1, w_isN2, w_min2, w_max2, List.length_cons, List.length_nil])
local macro_rules | `(tactic| walk_at "evh") => `(tactic| simp (disch := first | assumption | omega | (simp only [List.length_cons, List.length_nil, List.length_map]; omega)) only [*, x_Place0, x_Place1, x_Place2, x_Player0, x_Player1, x_Player2, x_Player3, x_Player4, x_Scene0, x_Scene1, x_Scene2, x_Scene3, x_Scene4, y_tt, y_ti, y_tb, y_ts, y_tl, y_it, y_ii, y_ib, y_is, y_il, y_st, y_si, y_sb, y_ss, y_bt, y_bi, y_bb, y_bs, y_nt, y_ni, y_nb, y_ns, y_ll, y_ol, y_nn, y_n1, y_n2, y_n3, y_n4, y_mul1, y_all, y_any, y_sum, x_Book0, x_Book1, x_Book2, x_Book3, x_Book4, x_Book5, List.cons_append, List.nil_append, eq_book, ne_book, z_eqO, z_nonO, z_inS, z_inI, z_inIT, z_sort, zip_maps, x_ints, x_intsL, x_strsL, atI_last, v_asg, v_asgT, v_asK, v_cpA, v_cpB1, v_cpB2, v_cpC, v_wipe0, v_wipe1, v_back0, v_back1, v_lkC1, v_lkC2a, v_lkC2b, v_lkC3, Int.reduceEq, Int.reduceLT, Int.reduceLE, Int.reduceNe, Int.reduceAdd, Int.reduceMul, Int.reduceSub, decide_true, decide_false, eq_self, w_eqI, w_neI, w_eqS, w_neS, w_ixS, w_lenS, w_slS, w_slL, w_slO, w_slT, w_slNN, w_slNH, w_slLN, w_slLH, w_revP, w_mulSt, ↓v_run_1, ↓v_run_2, ↓v_run_3, ↓v_run_4, ↓v_run_5, ↓v_run_6, ↓v_run_7, Nat.reduceSub, Nat.reduceAdd, List.reduceReplicate, v_run1, v_run2, v_fnK, v_fi0, ↓v_fi, v_fi1, v_fi2, v_fi3, List.getElem?_cons_zero, List.getElem?_cons_succ, List.set_cons_zero, List.set_cons_succ, Option.bind_some, Option.bind_none, id_eq, ↓v_seq, v_seq1, v_seq2, v_seq3, v_seq4, ↓v_skip, ↓v_bk, ↓v_ct, ↓v_set, v_set1, ↓v_if, v_if1, v_if2, ↓v_ex, v_ex1, ↓v_ret, v_ret1, ↓v_retN, ↓v_retNm, v_retNm1, v_retNm2, ↓v_setT, v_setT1, v_nx, v_sT0, v_sT1, ↓v_for, v_for1, ↓v_while,   ↓v_C, ↓v_nm, v_nm1, v_nm2, ↓v_oNm, v_oNm1, v_oNm2, ↓v_oV, v_oV1, ↓v_fz, v_fz1, v_fz2, v_ev0, ↓v_ev, v_ev1, v_ev2, ↓v_pr, ↓v_call, v_pr0, v_pr1, v_pr2, v_pr3, v_drK, v_dr0, v_dr, v_dr1, v_dr2, v_de1, v_de2, v_wbK, v_wb0, v_wb1, v_wb2, ↓v_met, v_drO, ↓v_tV, v_tV1,   ↓v_tand, v_tand1, v_tand2, ↓v_tor, v_tor1, v_tor2, ↓v_tnot, v_tnot1, ↓v_tyes, ↓v_and, v_and1, v_and2, ↓v_or, v_or1, v_or2, ↓v_not, v_not1, ↓v_dif, v_dif1, v_dif2, ↓v_iS, v_iS1, v_iS2, v_iS3, ↓v_iR1, v_iR11, ↓v_iE, v_iE1, ↓v_iR2, v_iR21, v_iR22, ↓v_iZ, v_iZ1, v_iZ2, v_iZ3, ↓v_ch, v_ch1, v_ch2, v_ch3, ↓v_cm, v_cm1, v_cm2, v_lk, v_lk0, v_lk1, v_lk2, v_prg, v_plB0, v_plB1, v_plB2, v_noPl0, v_noPl1, v_noPl2, Bool.and_true, Bool.true_and, Bool.and_self, Bool.not_false, Bool.not_true, Nat.reduceBEq, v_isL1, v_isL2, v_isS, v_met1, List.getElem?_nil, if_true, if_false, Bool.false_eq_true,   w_1, w_2, w_3, w_m1, w_m2, w_m3, w_add, w_sub, w_mod, w_fdiv, w_pow, w_mulR, w_mulL, w_tupA, w_strA, w_ownA, Int.reducePow, Int.reduceToNat, w_gt, w_ge, w_lt, w_le, w_ixL, w_ixO, w_ixT, w_lenL, w_lenO, w_lenT, w_tupL, w_tupO, w_tupT, w_set0, w_set1, w_neg, w_intB, w_intI, w_i0, w_i1, w_i2, w_i3, w_i4, w_i5, w_i6, w_app, w_tup, w_tup1, w_tup2, w_tup3, w_tup4, w_tup5, w_tup6,   w_lst, w_lst1, w_lst2, w_lst3, w_lst4, w_lst5, w_isN1, w_isN2, w_min2, w_max2, List.length_cons, List.length_nil])
theorem inD_opts {a : Int} (c : List (Option Int)) : inD (.int a) (c.map optD) = decide (some a ∈ c) := by
  unfold inD
  rw [List.any_map]
  rw [Bool.eq_iff_iff, List.any_eq_true, decide_eq_true_eq]
  have key : ∀ o : Option Int, eqD (optD o) (.int a) = decide (o = some a) := fun o => by
    cases o with
    | none => show PyData.eqv .none (.int a) = _; unfold PyData.eqv; rfl
    | some d => show eqD (.int d) (.int a) = _; rw [eqD_int]; simp
  constructor
  · rintro ⟨z, hz, e⟩
    have e : eqD (optD z) (.int a) = true := e
    rw [key, decide_eq_true_eq] at e
    rw [← e]; exact hz
  · intro h
    exact ⟨some a, h, by show eqD (optD (some a)) (.int a) = true; rw [key]; simp⟩
theorem flat_opts (c : List (Option Int)) : (c.map optD).all flatD = true := by
  rw [List.all_eq_true]
  intro x hx
  obtain ⟨o, _, rfl⟩ := List.mem_map.mp hx
  cases o <;> rfl
theorem z_inO {neg : Bool} {a : Int} {c : List (Option Int)} : inIV neg (.d (.int a)) (.d (caseD c)) = some (.d (.bl (if neg then !decide (some a ∈ c) else decide (some a ∈ c)))) := by
  show ((if flatD (.int a) && (c.map optD).all flatD then some (inD (.int a) (c.map optD)) else none).bind _) = _
  rw [flat_opts, inD_opts]; rfl
local macro_rules | `(tactic| walk_at "ev") => `(tactic| simp (disch := first | assumption | omega | (simp only [List.length_cons, List.length_nil, List.length_map]; omega)) only [x_Place0, x_Place1, x_Place2, x_Player0, x_Player1, x_Player2, x_Player3, x_Player4, x_Scene0, x_Scene1, x_Scene2, x_Scene3, x_Scene4, y_tt, y_ti, y_tb, y_ts, y_tl, y_it, y_ii, y_ib, y_is, y_il, y_st, y_si, y_sb, y_ss, y_bt, y_bi, y_bb, y_bs, y_nt, y_ni, y_nb, y_ns, y_ll, y_ol, y_nn, y_n1, y_n2, y_n3, y_n4, y_mul1, y_all, y_any, y_sum, x_Book0, x_Book1, x_Book2, x_Book3, x_Book4, x_Book5, List.cons_append, List.nil_append, eq_book, ne_book, z_eqO, z_nonO, z_inS, z_inI, z_inIT, z_sort, zip_maps, x_ints, x_intsL, x_strsL, atI_last, z_inO, v_asg, v_asgT, v_asK, v_cpA, v_cpB1, v_cpB2, v_cpC, v_wipe0, v_wipe1, v_back0, v_back1, v_lkC1, v_lkC2a, v_lkC2b, v_lkC3, Int.reduceEq, Int.reduceLT, Int.reduceLE, Int.reduceNe, Int.reduceAdd, Int.reduceMul, Int.reduceSub, decide_true, decide_false, eq_self, w_eqI, w_neI, w_eqS, w_neS, w_ixS, w_lenS, w_slS, w_slL, w_slO, w_slT, w_slNN, w_slNH, w_slLN, w_slLH, w_revP, w_mulSt, ↓v_run_1, ↓v_run_2, ↓v_run_3, ↓v_run_4, ↓v_run_5, ↓v_run_6, ↓v_run_7, Nat.reduceSub, Nat.reduceAdd, List.reduceReplicate, v_run1, v_run2, v_fnK, v_fi0, ↓v_fi, v_fi1, v_fi2, v_fi3, List.getElem?_cons_zero, List.getElem?_cons_succ, List.set_cons_zero, List.set_cons_succ, Option.bind_some, Option.bind_none, id_eq, ↓v_seq, v_seq1, v_seq2, v_seq3, v_seq4, ↓v_skip, ↓v_bk, ↓v_ct, ↓v_set, v_set1, ↓v_if, v_if1, v_if2, ↓v_ex, v_ex1, ↓v_ret, v_ret1, ↓v_retN, ↓v_retNm, v_retNm1, v_retNm2, ↓v_setT, v_setT1, v_nx, v_sT0, v_sT1, ↓v_for, v_for1, ↓v_while,   ↓v_C, ↓v_nm, v_nm1, v_nm2, ↓v_oNm, v_oNm1, v_oNm2, ↓v_oV, v_oV1, ↓v_fz, v_fz1, v_fz2, v_ev0, ↓v_ev, v_ev1, v_ev2, ↓v_pr, ↓v_call, v_pr0, v_pr1, v_pr2, v_pr3, v_drK, v_dr0, v_dr, v_dr1, v_dr2, v_de1, v_de2, v_wbK, v_wb0, v_wb1, v_wb2, ↓v_met, v_drO, ↓v_tV, v_tV1,   ↓v_tand, v_tand1, v_tand2, ↓v_tor, v_tor1, v_tor2, ↓v_tnot, v_tnot1, ↓v_tyes, ↓v_and, v_and1, v_and2, ↓v_or, v_or1, v_or2, ↓v_not, v_not1, ↓v_dif, v_dif1, v_dif2, ↓v_iS, v_iS1, v_iS2, v_iS3, ↓v_iR1, v_iR11, ↓v_iE, v_iE1, ↓v_iR2, v_iR21, v_iR22, ↓v_iZ, v_iZ1, v_iZ2, v_iZ3, ↓v_ch, v_ch1, v_ch2, v_ch3, ↓v_cm, v_cm1, v_cm2, v_lk, v_lk0, v_lk1, v_lk2, v_prg, v_plB0, v_plB1, v_plB2, v_noPl0, v_noPl1, v_noPl2, Bool.and_true, Bool.true_and, Bool.and_self, Bool.not_false, Bool.not_true, Nat.reduceBEq, v_isL1, v_isL2, v_isS, v_met1, List.getElem?_nil, if_true, if_false, Bool.false_eq_true,   w_1, w_2, w_3, w_m1, w_m2, w_m3, w_add, w_sub, w_mod, w_fdiv, w_pow, w_mulR, w_mulL, w_tupA, w_strA, w_ownA, Int.reducePow, Int.reduceToNat, w_gt, w_ge, w_lt, w_le, w_ixL, w_ixO, w_ixT, w_lenL, w_lenO, w_lenT, w_tupL, w_tupO, w_tupT, w_set0, w_set1, w_neg, w_intB, w_intI, w_i0, w_i1, w_i2, w_i3, w_i4, w_i5, w_i6, w_app, w_tup, w_tup1, w_tup2, w_tup3, w_tup4, w_tup5, w_tup6,   w_lst, w_lst1, w_lst2, w_lst3, w_lst4, w_lst5, w_isN1, w_isN2, w_min2, w_max2, List.length_cons, List.length_nil])
local macro_rules | `(tactic| walk_at "evh") => `(tactic| simp (disch := first | assumption | omega | (simp only [List.length_cons, List.length_nil, List.length_map]; omega)) only [*, x_Place0, x_Place1, x_Place2, x_Player0, x_Player1, x_Player2, x_Player3, x_Player4, x_Scene0, x_Scene1, x_Scene2, x_Scene3, x_Scene4, y_tt, y_ti, y_tb, y_ts, y_tl, y_it, y_ii, y_ib, y_is, y_il, y_st, y_si, y_sb, y_ss, y_bt, y_bi, y_bb, y_bs, y_nt, y_ni, y_nb, y_ns, y_ll, y_ol, y_nn, y_n1, y_n2, y_n3, y_n4, y_mul1, y_all, y_any, y_sum, x_Book0, x_Book1, x_Book2, x_Book3, x_Book4, x_Book5, List.cons_append, List.nil_append, eq_book, ne_book, z_eqO, z_nonO, z_inS, z_inI, z_inIT, z_sort, zip_maps, x_ints, x_intsL, x_strsL, atI_last, z_inO, v_asg, v_asgT, v_asK, v_cpA, v_cpB1, v_cpB2, v_cpC, v_wipe0, v_wipe1, v_back0, v_back1, v_lkC1, v_lkC2a, v_lkC2b, v_lkC3, Int.reduceEq, Int.reduceLT, Int.reduceLE, Int.reduceNe, Int.reduceAdd, Int.reduceMul, Int.reduceSub, decide_true, decide_false, eq_self, w_eqI, w_neI, w_eqS, w_neS, w_ixS, w_lenS, w_slS, w_slL, w_slO, w_slT, w_slNN, w_slNH, w_slLN, w_slLH, w_revP, w_mulSt, ↓v_run_1, ↓v_run_2, ↓v_run_3, ↓v_run_4, ↓v_run_5, ↓v_run_6, ↓v_run_7, Nat.reduceSub, Nat.reduceAdd, List.reduceReplicate, v_run1, v_run2, v_fnK, v_fi0, ↓v_fi, v_fi1, v_fi2, v_fi3, List.getElem?_cons_zero, List.getElem?_cons_succ, List.set_cons_zero, List.set_cons_succ, Option.bind_some, Option.bind_none, id_eq, ↓v_seq, v_seq1, v_seq2, v_seq3, v_seq4, ↓v_skip, ↓v_bk, ↓v_ct, ↓v_set, v_set1, ↓v_if, v_if1, v_if2, ↓v_ex, v_ex1, ↓v_ret, v_ret1, ↓v_retN, ↓v_retNm, v_retNm1, v_retNm2, ↓v_setT, v_setT1, v_nx, v_sT0, v_sT1, ↓v_for, v_for1, ↓v_while,   ↓v_C, ↓v_nm, v_nm1, v_nm2, ↓v_oNm, v_oNm1, v_oNm2, ↓v_oV, v_oV1, ↓v_fz, v_fz1, v_fz2, v_ev0, ↓v_ev, v_ev1, v_ev2, ↓v_pr, ↓v_call, v_pr0, v_pr1, v_pr2, v_pr3, v_drK, v_dr0, v_dr, v_dr1, v_dr2, v_de1, v_de2, v_wbK, v_wb0, v_wb1, v_wb2, ↓v_met, v_drO, ↓v_tV, v_tV1,   ↓v_tand, v_tand1, v_tand2, ↓v_tor, v_tor1, v_tor2, ↓v_tnot, v_tnot1, ↓v_tyes, ↓v_and, v_and1, v_and2, ↓v_or, v_or1, v_or2, ↓v_not, v_not1, ↓v_dif, v_dif1, v_dif2, ↓v_iS, v_iS1, v_iS2, v_iS3, ↓v_iR1, v_iR11, ↓v_iE, v_iE1, ↓v_iR2, v_iR21, v_iR22, ↓v_iZ, v_iZ1, v_iZ2, v_iZ3, ↓v_ch, v_ch1, v_ch2, v_ch3, ↓v_cm, v_cm1, v_cm2, v_lk, v_lk0, v_lk1, v_lk2, v_prg, v_plB0, v_plB1, v_plB2, v_noPl0, v_noPl1, v_noPl2, Bool.and_true, Bool.true_and, Bool.and_self, Bool.not_false, Bool.not_true, Nat.reduceBEq, v_isL1, v_isL2, v_isS, v_met1, List.getElem?_nil, if_true, if_false, Bool.false_eq_true,   w_1, w_2, w_3, w_m1, w_m2, w_m3, w_add, w_sub, w_mod, w_fdiv, w_pow, w_mulR, w_mulL, w_tupA, w_strA, w_ownA, Int.reducePow, Int.reduceToNat, w_gt, w_ge, w_lt, w_le, w_ixL, w_ixO, w_ixT, w_lenL, w_lenO, w_lenT, w_tupL, w_tupO, w_tupT, w_set0, w_set1, w_neg, w_intB, w_intI, w_i0, w_i1, w_i2, w_i3, w_i4, w_i5, w_i6, w_app, w_tup, w_tup1, w_tup2, w_tup3, w_tup4, w_tup5, w_tup6,   w_lst, w_lst1, w_lst2, w_lst3, w_lst4, w_lst5, w_isN1, w_isN2, w_min2, w_max2, List.length_cons, List.length_nil])
def usedF (b : Book) (c : List (Option Int)) : List Int := ((List.range b.days.length).filter fun k : Nat => decide (some (k : Int) ∈ c)).map fun k : Nat => (k : Int)
/-- the rows of a bill -/
inductive BR where
  | crew
  | place (p : Place)
  | player (p : Player)
def rentN (b : Book) (c : List (Option Int)) (p : Place) : Nat := (daysOf (atPlace p) (b.scenes.zip c)).length
def payRow (p : Player) (ds : List Int) : List Int := match ds with
  | [] => [0, 0, 0]
  | f :: r => [((f :: r).length : Nat), (f :: r).getLast (by simp) - f + 1 - ((f :: r).length : Nat), p.pay * ((f :: r).length : Nat) + p.hold * ((f :: r).getLast (by simp) - f + 1 - ((f :: r).length : Nat))]
def BR.d (b : Book) (c : List (Option Int)) : BR → D
  | .crew => .tup [.str (Str.ofString "crew"), .int (usedF b c).length, .int ((usedF b c).length * b.crew)]
  | .place p => .tup [.str (Str.ofString "place"), .str p.name, .int (rentN b c p), .int (rentN b c p * p.rent)]
  | .player p => .tup (.str (Str.ofString "player") :: .str p.name :: (payRow p (calledF b c p.name)).map D.int)
def setJ (env : Env) : List (Nat × Option IV) → Env
  | [] => env
  | p :: ps => setJ (env.set p.1 p.2) ps
theorem setJ_nil {env : Env} : setJ env [] = env := rfl
theorem setJ_cons {env : Env} {i : Nat} {x : Option IV} {ps : List (Nat × Option IV)} : setJ env ((i, x) :: ps) = setJ (env.set i x) ps := rfl
def kp (e : Env) (junk : List Nat) : List (Nat × Option IV) := junk.map fun j => (j, (e[j]?).bind id)
def jk (v : Nat → Option IV) (junk : List Nat) : List (Nat × Option IV) := junk.map fun j => (j, v j)
theorem jk_nil {v : Nat → Option IV} : jk v [] = [] := rfl
theorem jk_cons {v : Nat → Option IV} {j : Nat} {js : List Nat} : jk v (j :: js) = (j, v j) :: jk v js := rfl
section
variable {α σ : Type} {t : Tgt} {b : SDen} {Φ : Fenv} {lk : LK} {xs : List D} {env : Env} {q : Option (Fl × Env)}
/-- a loop that runs through or returns -/
theorem for_gen (hq : forL t b Φ lk xs env = q) (g : α → D) (ys : List α) (hx : xs = ys.map g) (ups : σ → List (Nat × Option IV)) (junk : List Nat) (I : Nat → σ → Prop) (Z : IV → Prop) (s0 : σ) (h0 : I 0 s0)
    (e0 : env = setJ env (ups s0 ++ kp env junk))
    (st : ∀ i y s v, ys[i]? = some y → I i s → ∃ fl e2, asK b Φ lk (asgT lk t (g y) (setJ env (ups s ++ jk v junk))) = some (fl, e2) ∧ ((fl = .nx ∧ ∃ s', I (i + 1) s' ∧ e2 = setJ env (ups s' ++ kp e2 junk)) ∨ ∃ iv, fl = .ret iv ∧ Z iv)) :
    (∃ s v, q = some (.nx, setJ env (ups s ++ jk v junk)) ∧ I ys.length s) ∨ ∃ iv e2, q = some (.ret iv, e2) ∧ Z iv := by
  subst hx
  obtain ⟨fl, e', a, c⟩ := forL_gen (t := t) (b := b) (Φ := Φ) (lk := lk) (fun i e => ∃ s v, e = setJ env (ups s ++ jk v junk) ∧ I i s)
    (fun fl e => (fl = .nx ∧ ∃ s v, e = setJ env (ups s ++ jk v junk) ∧ I ys.length s) ∨ ∃ iv, fl = .ret iv ∧ Z iv) (ys.map g) 0 env ⟨s0, _, e0, h0⟩ (fun i x e hi h => by
      obtain ⟨s, v, rfl, h⟩ := h
      rw [List.getElem?_map] at hi
      obtain ⟨y, hy, rfl⟩ := Option.map_eq_some_iff.mp hi
      rw [Nat.zero_add] at h
      obtain ⟨fl, e2, c1, c2⟩ := st i y s v hy h
      refine ⟨fl, e2, c1, ?_⟩
      rcases c2 with ⟨rfl, s', h1, h2⟩ | ⟨iv, rfl, hz⟩
      · exact ⟨s', _, h2, by rw [Nat.zero_add]; exact h1⟩
      · exact .inr ⟨iv, rfl, hz⟩) (fun e h => by
      obtain ⟨s, v, rfl, h⟩ := h
      rw [Nat.zero_add, List.length_map] at h
      exact .inl ⟨rfl, s, v, rfl, h⟩)
  rw [a] at hq
  rcases c with ⟨rfl, s, v, rfl, h⟩ | ⟨iv, rfl, hz⟩
  · exact .inl ⟨s, v, hq.symm, h⟩
  · exact .inr ⟨iv, e', hq.symm, hz⟩
/-- a loop that runs through -/
theorem for_at (hq : forL t b Φ lk xs env = q) (g : α → D) (ys : List α) (hx : xs = ys.map g) (ups : σ → List (Nat × Option IV)) (junk : List Nat) (I : Nat → σ → Prop) (s0 : σ) (h0 : I 0 s0)
    (e0 : env = setJ env (ups s0 ++ kp env junk))
    (st : ∀ i y s v, ys[i]? = some y → I i s → ∃ e2, asK b Φ lk (asgT lk t (g y) (setJ env (ups s ++ jk v junk))) = some (.nx, e2) ∧ ∃ s', I (i + 1) s' ∧ e2 = setJ env (ups s' ++ kp e2 junk)) :
    ∃ s v, q = some (.nx, setJ env (ups s ++ jk v junk)) ∧ I ys.length s := by
  rcases for_gen hq g ys hx ups junk I (fun _ => False) s0 h0 e0 (fun i y s v hy h => by
    obtain ⟨e2, c1, c2⟩ := st i y s v hy h
    exact ⟨.nx, e2, c1, .inl ⟨rfl, c2⟩⟩) with h | ⟨_, _, _, h⟩
  · exact h
  · exact h.elim
theorem fold_take {stp : σ → α → σ} {ys : List α} {i : Nat} {y : α} {s0 : σ} (h : ys[i]? = some y) : (ys.take (i + 1)).foldl stp s0 = stp ((ys.take i).foldl stp s0) y := by
  rw [List.take_succ, h, List.foldl_append]; rfl
/-- a loop that gathers -/
theorem for_fold (hq : forL t b Φ lk xs env = q) (g : α → D) (ys : List α) (hx : xs = ys.map g) (ups : σ → List (Nat × Option IV)) (junk : List Nat) (stp : σ → α → σ) (s0 : σ)
    (e0 : env = setJ env (ups s0 ++ kp env junk))
    (st : ∀ i y v s, ys[i]? = some y → s = (ys.take i).foldl stp s0 → ∃ e2, asK b Φ lk (asgT lk t (g y) (setJ env (ups s ++ jk v junk))) = some (.nx, e2) ∧ e2 = setJ env (ups (stp s y) ++ kp e2 junk)) :
    ∃ v, q = some (.nx, setJ env (ups (ys.foldl stp s0) ++ jk v junk)) := by
  obtain ⟨s, v, e, h⟩ := for_at hq g ys hx ups junk (fun i s => s = (ys.take i).foldl stp s0) s0 rfl e0 (fun i y s v hy h => by
    obtain ⟨e2, c1, c2⟩ := st i y v s hy h
    refine ⟨e2, c1, _, ?_, c2⟩
    rw [fold_take hy, h])
  rw [List.take_length] at h
  exact ⟨v, by rw [e, h]⟩
/-- a loop that changes nothing but what is put by -/
theorem for_unit (hq : forL t b Φ lk xs env = q) (g : α → D) (ys : List α) (hx : xs = ys.map g) (junk : List Nat)
    (e0 : env = setJ env (kp env junk))
    (st : ∀ y ∈ ys, ∀ v, ∃ e2, asK b Φ lk (asgT lk t (g y) (setJ env (jk v junk))) = some (.nx, e2) ∧ e2 = setJ env (kp e2 junk)) :
    ∃ v, q = some (.nx, setJ env (jk v junk)) :=
  for_fold hq g ys hx (fun _ : Unit => []) junk (fun s _ => s) () e0 fun _ y v _ hy _ => st y (List.mem_of_getElem? hy) v
end
section
variable {α σ : Type} {t : Tgt} {tt : TDen} {el : Den} {vs : List Nat} {Φ : Fenv} {xs acc : List D} {env : Env} {q : Option (List D × Env)}
theorem comp_at (hq : compL t tt el vs Φ xs env acc = q) (g : α → D) (ys : List α) (hx : xs = ys.map g) (p : α → Bool) (f : α → D) (hl : acc.length + ys.length ≤ 1000000)
    (h1 : ∀ y ∈ ys, p y = true → cpA tt el vs Φ (asgT (lkC vs) t (g y) env) = some (some (f y), env))
    (h2 : ∀ y ∈ ys, p y = false → cpA tt el vs Φ (asgT (lkC vs) t (g y) env) = some (none, env)) : q = some (acc ++ (ys.filter p).map f, env) := by
  subst hx
  obtain ⟨zs, e', a, b, c⟩ := compL_gen (t := t) (tt := tt) (el := el) (vs := vs) (Φ := Φ) (fun k e ac => e = env ∧ ac = acc ++ ((ys.take k).filter p).map f) (ys.map g) 0 env acc (by rw [List.length_map]; exact hl) ⟨rfl, by simp⟩ (fun k x e ac hi h => by
    obtain ⟨rfl, rfl⟩ := h
    rw [List.getElem?_map] at hi
    obtain ⟨y, hy, rfl⟩ := Option.map_eq_some_iff.mp hi
    have hm := List.mem_of_getElem? hy
    have tk : ys.take (0 + k + 1) = ys.take (0 + k) ++ [y] := by
      rw [Nat.zero_add, List.take_succ, hy]; rfl
    cases hp : p y with
    | true =>
      refine ⟨some (f y), e, h1 y hm hp, rfl, ?_⟩
      rw [tk, List.filter_append, List.map_append, List.append_assoc]
      simp [hp]
    | false =>
      refine ⟨none, e, h2 y hm hp, rfl, ?_⟩
      rw [tk, List.filter_append, List.map_append]
      simp [hp])
  rw [← hq, a, b, c, Nat.zero_add, List.length_map, List.take_length]
theorem comp_all (hq : compL t tt el vs Φ xs env acc = q) (g : α → D) (ys : List α) (hx : xs = ys.map g) (f : α → D) (hl : acc.length + ys.length ≤ 1000000)
    (h1 : ∀ y ∈ ys, cpA tt el vs Φ (asgT (lkC vs) t (g y) env) = some (some (f y), env)) : q = some (acc ++ ys.map f, env) := by
  have := comp_at hq g ys hx (fun _ => true) f hl (fun y hy _ => h1 y hy) (fun y _ h => by cases h)
  rw [this, List.filter_eq_self.mpr (by simp)]
/-- a comprehension that draws -/
theorem comp_st (hq : compL t tt el vs Φ xs env acc = q) (g : α → D) (ys : List α) (hx : xs = ys.map g) (ups : σ → List (Nat × Option IV)) (junk : List Nat) (I : Nat → σ → List D → Prop) (s0 : σ) (h0 : I 0 s0 acc) (hl : acc.length + ys.length ≤ 1000000)
    (e0 : env = setJ env (ups s0 ++ kp env junk))
    (st : ∀ i y s v ac, ys[i]? = some y → I i s ac → ∃ oz e2, cpA tt el vs Φ (asgT (lkC vs) t (g y) (setJ env (ups s ++ jk v junk))) = some (oz, e2) ∧ ∃ s', I (i + 1) s' (ac ++ oz.toList) ∧ e2 = setJ env (ups s' ++ kp e2 junk)) :
    ∃ zs s v, q = some (zs, setJ env (ups s ++ jk v junk)) ∧ I ys.length s zs := by
  subst hx
  obtain ⟨zs, e', a, s, v, b, c⟩ := compL_gen (t := t) (tt := tt) (el := el) (vs := vs) (Φ := Φ) (fun k e ac => ∃ s v, e = setJ env (ups s ++ jk v junk) ∧ I k s ac) (ys.map g) 0 env acc (by rw [List.length_map]; exact hl) ⟨s0, _, e0, h0⟩ (fun k x e ac hi h => by
    obtain ⟨s, v, rfl, h⟩ := h
    rw [List.getElem?_map] at hi
    obtain ⟨y, hy, rfl⟩ := Option.map_eq_some_iff.mp hi
    rw [Nat.zero_add] at h
    obtain ⟨oz, e2, c1, s', c2, c3⟩ := st k y s v ac hy h
    exact ⟨oz, e2, c1, s', _, c3, by rw [Nat.zero_add]; exact c2⟩)
  rw [Nat.zero_add, List.length_map] at c
  exact ⟨zs, s, v, by rw [← hq, a, b], c⟩
end
theorem rangeD_nat (n : Nat) : rangeD 0 n = (List.range n).map fun k : Nat => D.int (k : Int) := by
  rw [rangeD]
  exact List.map_congr_left fun k _ => by rw [Int.zero_add]
theorem rangeD_int (n : Nat) : rangeD 0 ((n : Nat) : Int).toNat = (List.range n).map fun k : Nat => D.int (k : Int) := by
  rw [Int.toNat_natCast, rangeD_nat]
local macro_rules | `(tactic| walk_at "ev") => `(tactic| simp (disch := first | assumption | omega | (simp only [List.length_cons, List.length_nil, List.length_map]; omega)) only [setJ_nil, setJ_cons, jk_nil, jk_cons, List.append_nil, x_Place0, x_Place1, x_Place2, x_Player0, x_Player1, x_Player2, x_Player3, x_Player4, x_Scene0, x_Scene1, x_Scene2, x_Scene3, x_Scene4, y_tt, y_ti, y_tb, y_ts, y_tl, y_it, y_ii, y_ib, y_is, y_il, y_st, y_si, y_sb, y_ss, y_bt, y_bi, y_bb, y_bs, y_nt, y_ni, y_nb, y_ns, y_ll, y_ol, y_nn, y_n1, y_n2, y_n3, y_n4, y_mul1, y_all, y_any, y_sum, x_Book0, x_Book1, x_Book2, x_Book3, x_Book4, x_Book5, List.cons_append, List.nil_append, eq_book, ne_book, z_eqO, z_nonO, z_inS, z_inI, z_inIT, z_sort, zip_maps, x_ints, x_intsL, x_strsL, atI_last, z_inO, v_asg, v_asgT, v_asK, v_cpA, v_cpB1, v_cpB2, v_cpC, v_wipe0, v_wipe1, v_back0, v_back1, v_lkC1, v_lkC2a, v_lkC2b, v_lkC3, Int.reduceEq, Int.reduceLT, Int.reduceLE, Int.reduceNe, Int.reduceAdd, Int.reduceMul, Int.reduceSub, decide_true, decide_false, eq_self, w_eqI, w_neI, w_eqS, w_neS, w_ixS, w_lenS, w_slS, w_slL, w_slO, w_slT, w_slNN, w_slNH, w_slLN, w_slLH, w_revP, w_mulSt, ↓v_run_1, ↓v_run_2, ↓v_run_3, ↓v_run_4, ↓v_run_5, ↓v_run_6, ↓v_run_7, Nat.reduceSub, Nat.reduceAdd, List.reduceReplicate, v_run1, v_run2, v_fnK, v_fi0, ↓v_fi, v_fi1, v_fi2, v_fi3, List.getElem?_cons_zero, List.getElem?_cons_succ, List.set_cons_zero, List.set_cons_succ, Option.bind_some, Option.bind_none, id_eq, ↓v_seq, v_seq1, v_seq2, v_seq3, v_seq4, ↓v_skip, ↓v_bk, ↓v_ct, ↓v_set, v_set1, ↓v_if, v_if1, v_if2, ↓v_ex, v_ex1, ↓v_ret, v_ret1, ↓v_retN, ↓v_retNm, v_retNm1, v_retNm2, ↓v_setT, v_setT1, v_nx, v_sT0, v_sT1, ↓v_for, v_for1, ↓v_while,   ↓v_C, ↓v_nm, v_nm1, v_nm2, ↓v_oNm, v_oNm1, v_oNm2, ↓v_oV, v_oV1, ↓v_fz, v_fz1, v_fz2, v_ev0, ↓v_ev, v_ev1, v_ev2, ↓v_pr, ↓v_call, v_pr0, v_pr1, v_pr2, v_pr3, v_drK, v_dr0, v_dr, v_dr1, v_dr2, v_de1, v_de2, v_wbK, v_wb0, v_wb1, v_wb2, ↓v_met, v_drO, ↓v_tV, v_tV1,   ↓v_tand, v_tand1, v_tand2, ↓v_tor, v_tor1, v_tor2, ↓v_tnot, v_tnot1, ↓v_tyes, ↓v_and, v_and1, v_and2, ↓v_or, v_or1, v_or2, ↓v_not, v_not1, ↓v_dif, v_dif1, v_dif2, ↓v_iS, v_iS1, v_iS2, v_iS3, ↓v_iR1, v_iR11, ↓v_iE, v_iE1, ↓v_iR2, v_iR21, v_iR22, ↓v_iZ, v_iZ1, v_iZ2, v_iZ3, ↓v_ch, v_ch1, v_ch2, v_ch3, ↓v_cm, v_cm1, v_cm2, v_lk, v_lk0, v_lk1, v_lk2, v_prg, v_plB0, v_plB1, v_plB2, v_noPl0, v_noPl1, v_noPl2, Bool.and_true, Bool.true_and, Bool.and_self, Bool.not_false, Bool.not_true, Nat.reduceBEq, v_isL1, v_isL2, v_isS, v_met1, List.getElem?_nil, if_true, if_false, Bool.false_eq_true,   w_1, w_2, w_3, w_m1, w_m2, w_m3, w_add, w_sub, w_mod, w_fdiv, w_pow, w_mulR, w_mulL, w_tupA, w_strA, w_ownA, Int.reducePow, Int.reduceToNat, w_gt, w_ge, w_lt, w_le, w_ixL, w_ixO, w_ixT, w_lenL, w_lenO, w_lenT, w_tupL, w_tupO, w_tupT, w_set0, w_set1, w_neg, w_intB, w_intI, w_i0, w_i1, w_i2, w_i3, w_i4, w_i5, w_i6, w_app, w_tup, w_tup1, w_tup2, w_tup3, w_tup4, w_tup5, w_tup6,   w_lst, w_lst1, w_lst2, w_lst3, w_lst4, w_lst5, w_isN1, w_isN2, w_min2, w_max2, List.length_cons, List.length_nil])
local macro_rules | `(tactic| walk_at "evh") => `(tactic| simp (disch := first | assumption | omega | (simp only [List.length_cons, List.length_nil, List.length_map]; omega)) only [*, setJ_nil, setJ_cons, jk_nil, jk_cons, List.append_nil, x_Place0, x_Place1, x_Place2, x_Player0, x_Player1, x_Player2, x_Player3, x_Player4, x_Scene0, x_Scene1, x_Scene2, x_Scene3, x_Scene4, y_tt, y_ti, y_tb, y_ts, y_tl, y_it, y_ii, y_ib, y_is, y_il, y_st, y_si, y_sb, y_ss, y_bt, y_bi, y_bb, y_bs, y_nt, y_ni, y_nb, y_ns, y_ll, y_ol, y_nn, y_n1, y_n2, y_n3, y_n4, y_mul1, y_all, y_any, y_sum, x_Book0, x_Book1, x_Book2, x_Book3, x_Book4, x_Book5, List.cons_append, List.nil_append, eq_book, ne_book, z_eqO, z_nonO, z_inS, z_inI, z_inIT, z_sort, zip_maps, x_ints, x_intsL, x_strsL, atI_last, z_inO, v_asg, v_asgT, v_asK, v_cpA, v_cpB1, v_cpB2, v_cpC, v_wipe0, v_wipe1, v_back0, v_back1, v_lkC1, v_lkC2a, v_lkC2b, v_lkC3, Int.reduceEq, Int.reduceLT, Int.reduceLE, Int.reduceNe, Int.reduceAdd, Int.reduceMul, Int.reduceSub, decide_true, decide_false, eq_self, w_eqI, w_neI, w_eqS, w_neS, w_ixS, w_lenS, w_slS, w_slL, w_slO, w_slT, w_slNN, w_slNH, w_slLN, w_slLH, w_revP, w_mulSt, ↓v_run_1, ↓v_run_2, ↓v_run_3, ↓v_run_4, ↓v_run_5, ↓v_run_6, ↓v_run_7, Nat.reduceSub, Nat.reduceAdd, List.reduceReplicate, v_run1, v_run2, v_fnK, v_fi0, ↓v_fi, v_fi1, v_fi2, v_fi3, List.getElem?_cons_zero, List.getElem?_cons_succ, List.set_cons_zero, List.set_cons_succ, Option.bind_some, Option.bind_none, id_eq, ↓v_seq, v_seq1, v_seq2, v_seq3, v_seq4, ↓v_skip, ↓v_bk, ↓v_ct, ↓v_set, v_set1, ↓v_if, v_if1, v_if2, ↓v_ex, v_ex1, ↓v_ret, v_ret1, ↓v_retN, ↓v_retNm, v_retNm1, v_retNm2, ↓v_setT, v_setT1, v_nx, v_sT0, v_sT1, ↓v_for, v_for1, ↓v_while,   ↓v_C, ↓v_nm, v_nm1, v_nm2, ↓v_oNm, v_oNm1, v_oNm2, ↓v_oV, v_oV1, ↓v_fz, v_fz1, v_fz2, v_ev0, ↓v_ev, v_ev1, v_ev2, ↓v_pr, ↓v_call, v_pr0, v_pr1, v_pr2, v_pr3, v_drK, v_dr0, v_dr, v_dr1, v_dr2, v_de1, v_de2, v_wbK, v_wb0, v_wb1, v_wb2, ↓v_met, v_drO, ↓v_tV, v_tV1,   ↓v_tand, v_tand1, v_tand2, ↓v_tor, v_tor1, v_tor2, ↓v_tnot, v_tnot1, ↓v_tyes, ↓v_and, v_and1, v_and2, ↓v_or, v_or1, v_or2, ↓v_not, v_not1, ↓v_dif, v_dif1, v_dif2, ↓v_iS, v_iS1, v_iS2, v_iS3, ↓v_iR1, v_iR11, ↓v_iE, v_iE1, ↓v_iR2, v_iR21, v_iR22, ↓v_iZ, v_iZ1, v_iZ2, v_iZ3, ↓v_ch, v_ch1, v_ch2, v_ch3, ↓v_cm, v_cm1, v_cm2, v_lk, v_lk0, v_lk1, v_lk2, v_prg, v_plB0, v_plB1, v_plB2, v_noPl0, v_noPl1, v_noPl2, Bool.and_true, Bool.true_and, Bool.and_self, Bool.not_false, Bool.not_true, Nat.reduceBEq, v_isL1, v_isL2, v_isS, v_met1, List.getElem?_nil, if_true, if_false, Bool.false_eq_true,   w_1, w_2, w_3, w_m1, w_m2, w_m3, w_add, w_sub, w_mod, w_fdiv, w_pow, w_mulR, w_mulL, w_tupA, w_strA, w_ownA, Int.reducePow, Int.reduceToNat, w_gt, w_ge, w_lt, w_le, w_ixL, w_ixO, w_ixT, w_lenL, w_lenO, w_lenT, w_tupL, w_tupO, w_tupT, w_set0, w_set1, w_neg, w_intB, w_intI, w_i0, w_i1, w_i2, w_i3, w_i4, w_i5, w_i6, w_app, w_tup, w_tup1, w_tup2, w_tup3, w_tup4, w_tup5, w_tup6,   w_lst, w_lst1, w_lst2, w_lst3, w_lst4, w_lst5, w_isN1, w_isN2, w_min2, w_max2, List.length_cons, List.length_nil])
/-- all that is laid in the one is laid so in the other -/
def CaseLe (c c' : List (Option Int)) : Prop := c.length = c'.length ∧ ∀ (i : Nat) (d : Int), c[i]? = some (some d) → c'[i]? = some (some d)
theorem CaseLe.refl (c : List (Option Int)) : CaseLe c c := ⟨rfl, fun _ _ h => h⟩
theorem CaseLe.mem {c c' : List (Option Int)} (h : CaseLe c c') {d : Int} (hm : some d ∈ c) : some d ∈ c' := by
  obtain ⟨i, hi⟩ := List.getElem?_of_mem hm
  exact List.mem_of_getElem? (h.2 i d hi)
theorem CaseLe.zip {c c' : List (Option Int)} (h : CaseLe c c') {ss : List Scene} {s : Scene} {d : Int} (hm : (s, some d) ∈ ss.zip c) : (s, some d) ∈ ss.zip c' := by
  obtain ⟨i, hi⟩ := List.getElem?_of_mem hm
  rw [List.getElem?_zip_eq_some] at hi
  refine List.mem_of_getElem? (i := i) ?_
  rw [List.getElem?_zip_eq_some]
  exact ⟨hi.1, h.2 i d hi.2⟩
theorem CaseLe.set {c : List (Option Int)} {s : Nat} {d : Int} (h : c[s]? = some none ∨ c[s]? = some (some d)) : CaseLe c (c.set s (some d)) := by
  have hs : s < c.length := by
    rcases h with h | h <;> exact (List.getElem?_eq_some_iff.mp h).1
  refine ⟨by simp, fun i e he => ?_⟩
  by_cases hi : s = i
  · subst hi
    rw [he] at h
    rw [List.getElem?_set_self hs]
    rcases h with h | h
    · cases h
    · exact h.symm
  · rw [List.getElem?_set_ne hi]; exact he
theorem CaseOk.set {b : Book} {c : List (Option Int)} (h : CaseOk b c) {s : Nat} {o : Option Int} (ho : ∀ d, o = some d → 0 ≤ d ∧ d < b.days.length) : CaseOk b (c.set s o) := by
  refine ⟨by rw [List.length_set]; exact h.1, fun d hd => ?_⟩
  rcases List.mem_or_eq_of_mem_set hd with hd | hd
  · exact h.2 d hd
  · exact ho d hd.symm
theorem CaseOk.none (b : Book) : CaseOk b (List.replicate b.scenes.length none) := ⟨by simp, fun d hd => by simp at hd⟩
theorem w_ins {xs : List D} {k : Int} {z : D} (h : xs.length < 1000000) (h0 : 0 ≤ k) (h1 : k < 1000000) : insP xs (.d (.int k)) (.d z) = some (.d .non, xs.take k.toNat ++ [z] ++ xs.drop k.toNat) := by
  show (if xs.length < lim ∧ 0 ≤ k ∧ k < 1000000 then some (IV.d .non, xs.take k.toNat ++ [z] ++ xs.drop k.toNat) else none) = _
  exact if_pos ⟨h, h0, h1⟩
local macro_rules | `(tactic| walk_at "ev") => `(tactic| simp (disch := first | assumption | omega | (simp only [List.length_cons, List.length_nil, List.length_map]; omega)) only [w_ins, setJ_nil, setJ_cons, jk_nil, jk_cons, List.append_nil, x_Place0, x_Place1, x_Place2, x_Player0, x_Player1, x_Player2, x_Player3, x_Player4, x_Scene0, x_Scene1, x_Scene2, x_Scene3, x_Scene4, y_tt, y_ti, y_tb, y_ts, y_tl, y_it, y_ii, y_ib, y_is, y_il, y_st, y_si, y_sb, y_ss, y_bt, y_bi, y_bb, y_bs, y_nt, y_ni, y_nb, y_ns, y_ll, y_ol, y_nn, y_n1, y_n2, y_n3, y_n4, y_mul1, y_all, y_any, y_sum, x_Book0, x_Book1, x_Book2, x_Book3, x_Book4, x_Book5, List.cons_append, List.nil_append, eq_book, ne_book, z_eqO, z_nonO, z_inS, z_inI, z_inIT, z_sort, zip_maps, x_ints, x_intsL, x_strsL, atI_last, z_inO, v_asg, v_asgT, v_asK, v_cpA, v_cpB1, v_cpB2, v_cpC, v_wipe0, v_wipe1, v_back0, v_back1, v_lkC1, v_lkC2a, v_lkC2b, v_lkC3, Int.reduceEq, Int.reduceLT, Int.reduceLE, Int.reduceNe, Int.reduceAdd, Int.reduceMul, Int.reduceSub, decide_true, decide_false, eq_self, w_eqI, w_neI, w_eqS, w_neS, w_ixS, w_lenS, w_slS, w_slL, w_slO, w_slT, w_slNN, w_slNH, w_slLN, w_slLH, w_revP, w_mulSt, ↓v_run_1, ↓v_run_2, ↓v_run_3, ↓v_run_4, ↓v_run_5, ↓v_run_6, ↓v_run_7, Nat.reduceSub, Nat.reduceAdd, List.reduceReplicate, v_run1, v_run2, v_fnK, v_fi0, ↓v_fi, v_fi1, v_fi2, v_fi3, List.getElem?_cons_zero, List.getElem?_cons_succ, List.set_cons_zero, List.set_cons_succ, Option.bind_some, Option.bind_none, id_eq, ↓v_seq, v_seq1, v_seq2, v_seq3, v_seq4, ↓v_skip, ↓v_bk, ↓v_ct, ↓v_set, v_set1, ↓v_if, v_if1, v_if2, ↓v_ex, v_ex1, ↓v_ret, v_ret1, ↓v_retN, ↓v_retNm, v_retNm1, v_retNm2, ↓v_setT, v_setT1, v_nx, v_sT0, v_sT1, ↓v_for, v_for1, ↓v_while,   ↓v_C, ↓v_nm, v_nm1, v_nm2, ↓v_oNm, v_oNm1, v_oNm2, ↓v_oV, v_oV1, ↓v_fz, v_fz1, v_fz2, v_ev0, ↓v_ev, v_ev1, v_ev2, ↓v_pr, ↓v_call, v_pr0, v_pr1, v_pr2, v_pr3, v_drK, v_dr0, v_dr, v_dr1, v_dr2, v_de1, v_de2, v_wbK, v_wb0, v_wb1, v_wb2, ↓v_met, v_drO, ↓v_tV, v_tV1,   ↓v_tand, v_tand1, v_tand2, ↓v_tor, v_tor1, v_tor2, ↓v_tnot, v_tnot1, ↓v_tyes, ↓v_and, v_and1, v_and2, ↓v_or, v_or1, v_or2, ↓v_not, v_not1, ↓v_dif, v_dif1, v_dif2, ↓v_iS, v_iS1, v_iS2, v_iS3, ↓v_iR1, v_iR11, ↓v_iE, v_iE1, ↓v_iR2, v_iR21, v_iR22, ↓v_iZ, v_iZ1, v_iZ2, v_iZ3, ↓v_ch, v_ch1, v_ch2, v_ch3, ↓v_cm, v_cm1, v_cm2, v_lk, v_lk0, v_lk1, v_lk2, v_prg, v_plB0, v_plB1, v_plB2, v_noPl0, v_noPl1, v_noPl2, Bool.and_true, Bool.true_and, Bool.and_self, Bool.not_false, Bool.not_true, Nat.reduceBEq, v_isL1, v_isL2, v_isS, v_met1, List.getElem?_nil, if_true, if_false, Bool.false_eq_true,   w_1, w_2, w_3, w_m1, w_m2, w_m3, w_add, w_sub, w_mod, w_fdiv, w_pow, w_mulR, w_mulL, w_tupA, w_strA, w_ownA, Int.reducePow, Int.reduceToNat, w_gt, w_ge, w_lt, w_le, w_ixL, w_ixO, w_ixT, w_lenL, w_lenO, w_lenT, w_tupL, w_tupO, w_tupT, w_set0, w_set1, w_neg, w_intB, w_intI, w_i0, w_i1, w_i2, w_i3, w_i4, w_i5, w_i6, w_app, w_tup, w_tup1, w_tup2, w_tup3, w_tup4, w_tup5, w_tup6,   w_lst, w_lst1, w_lst2, w_lst3, w_lst4, w_lst5, w_isN1, w_isN2, w_min2, w_max2, List.length_cons, List.length_nil])
local macro_rules | `(tactic| walk_at "evh") => `(tactic| simp (disch := first | assumption | omega | (simp only [List.length_cons, List.length_nil, List.length_map]; omega)) only [*, w_ins, setJ_nil, setJ_cons, jk_nil, jk_cons, List.append_nil, x_Place0, x_Place1, x_Place2, x_Player0, x_Player1, x_Player2, x_Player3, x_Player4, x_Scene0, x_Scene1, x_Scene2, x_Scene3, x_Scene4, y_tt, y_ti, y_tb, y_ts, y_tl, y_it, y_ii, y_ib, y_is, y_il, y_st, y_si, y_sb, y_ss, y_bt, y_bi, y_bb, y_bs, y_nt, y_ni, y_nb, y_ns, y_ll, y_ol, y_nn, y_n1, y_n2, y_n3, y_n4, y_mul1, y_all, y_any, y_sum, x_Book0, x_Book1, x_Book2, x_Book3, x_Book4, x_Book5, List.cons_append, List.nil_append, eq_book, ne_book, z_eqO, z_nonO, z_inS, z_inI, z_inIT, z_sort, zip_maps, x_ints, x_intsL, x_strsL, atI_last, z_inO, v_asg, v_asgT, v_asK, v_cpA, v_cpB1, v_cpB2, v_cpC, v_wipe0, v_wipe1, v_back0, v_back1, v_lkC1, v_lkC2a, v_lkC2b, v_lkC3, Int.reduceEq, Int.reduceLT, Int.reduceLE, Int.reduceNe, Int.reduceAdd, Int.reduceMul, Int.reduceSub, decide_true, decide_false, eq_self, w_eqI, w_neI, w_eqS, w_neS, w_ixS, w_lenS, w_slS, w_slL, w_slO, w_slT, w_slNN, w_slNH, w_slLN, w_slLH, w_revP, w_mulSt, ↓v_run_1, ↓v_run_2, ↓v_run_3, ↓v_run_4, ↓v_run_5, ↓v_run_6, ↓v_run_7, Nat.reduceSub, Nat.reduceAdd, List.reduceReplicate, v_run1, v_run2, v_fnK, v_fi0, ↓v_fi, v_fi1, v_fi2, v_fi3, List.getElem?_cons_zero, List.getElem?_cons_succ, List.set_cons_zero, List.set_cons_succ, Option.bind_some, Option.bind_none, id_eq, ↓v_seq, v_seq1, v_seq2, v_seq3, v_seq4, ↓v_skip, ↓v_bk, ↓v_ct, ↓v_set, v_set1, ↓v_if, v_if1, v_if2, ↓v_ex, v_ex1, ↓v_ret, v_ret1, ↓v_retN, ↓v_retNm, v_retNm1, v_retNm2, ↓v_setT, v_setT1, v_nx, v_sT0, v_sT1, ↓v_for, v_for1, ↓v_while,   ↓v_C, ↓v_nm, v_nm1, v_nm2, ↓v_oNm, v_oNm1, v_oNm2, ↓v_oV, v_oV1, ↓v_fz, v_fz1, v_fz2, v_ev0, ↓v_ev, v_ev1, v_ev2, ↓v_pr, ↓v_call, v_pr0, v_pr1, v_pr2, v_pr3, v_drK, v_dr0, v_dr, v_dr1, v_dr2, v_de1, v_de2, v_wbK, v_wb0, v_wb1, v_wb2, ↓v_met, v_drO, ↓v_tV, v_tV1,   ↓v_tand, v_tand1, v_tand2, ↓v_tor, v_tor1, v_tor2, ↓v_tnot, v_tnot1, ↓v_tyes, ↓v_and, v_and1, v_and2, ↓v_or, v_or1, v_or2, ↓v_not, v_not1, ↓v_dif, v_dif1, v_dif2, ↓v_iS, v_iS1, v_iS2, v_iS3, ↓v_iR1, v_iR11, ↓v_iE, v_iE1, ↓v_iR2, v_iR21, v_iR22, ↓v_iZ, v_iZ1, v_iZ2, v_iZ3, ↓v_ch, v_ch1, v_ch2, v_ch3, ↓v_cm, v_cm1, v_cm2, v_lk, v_lk0, v_lk1, v_lk2, v_prg, v_plB0, v_plB1, v_plB2, v_noPl0, v_noPl1, v_noPl2, Bool.and_true, Bool.true_and, Bool.and_self, Bool.not_false, Bool.not_true, Nat.reduceBEq, v_isL1, v_isL2, v_isS, v_met1, List.getElem?_nil, if_true, if_false, Bool.false_eq_true,   w_1, w_2, w_3, w_m1, w_m2, w_m3, w_add, w_sub, w_mod, w_fdiv, w_pow, w_mulR, w_mulL, w_tupA, w_strA, w_ownA, Int.reducePow, Int.reduceToNat, w_gt, w_ge, w_lt, w_le, w_ixL, w_ixO, w_ixT, w_lenL, w_lenO, w_lenT, w_tupL, w_tupO, w_tupT, w_set0, w_set1, w_neg, w_intB, w_intI, w_i0, w_i1, w_i2, w_i3, w_i4, w_i5, w_i6, w_app, w_tup, w_tup1, w_tup2, w_tup3, w_tup4, w_tup5, w_tup6,   w_lst, w_lst1, w_lst2, w_lst3, w_lst4, w_lst5, w_isN1, w_isN2, w_min2, w_max2, List.length_cons, List.length_nil])
section
variable {Φ : Fenv} {env : Env} {c : Str} {tbl : List (Str × Str)} {o : ODen} {ds : List ODen} {xs ys : List D}
theorem v_new : dNew c Φ env = some (.d (.ins c), env) := rfl
def mIK (m : Str) (tbl : List (Str × Str)) (o : ODen) (ds : List ODen) (Φ : Fenv) (env : Env) (q : Option Str) : Option (IV × Env) := q.bind fun c => (tbl.lookup c).bind fun key => dMeth (isInsIV c m) (Φ key) o ds Φ env
theorem v_metI {m : Str} : dMethI m tbl o ds Φ env = mIK m tbl o ds Φ env (insC (drO (o Φ env))) := rfl
theorem v_insC : insC (some (.d (.ins c))) = some c := rfl
theorem v_mIK {m : Str} : mIK m tbl o ds Φ env (some c) = (tbl.lookup c).bind fun key => dMeth (isInsIV c m) (Φ key) o ds Φ env := rfl
theorem v_isIns {m : Str} : isInsIV c m (.d (.ins c)) = true := beq_self_eq_true c
theorem w_lstA (h : xs.length + ys.length ≤ 1000000) : addIV (.d (.lst xs)) (.own ys) = some (.own (xs ++ ys)) := by
  show (if xs.length + ys.length ≤ lim then some (IV.own (xs ++ ys)) else none) = _
  exact if_pos h
theorem w_lstB (h : xs.length + ys.length ≤ 1000000) : addIV (.own xs) (.d (.lst ys)) = some (.own (xs ++ ys)) := by
  show (if xs.length + ys.length ≤ lim then some (IV.own (xs ++ ys)) else none) = _
  exact if_pos h
theorem w_lstC (h : xs.length + ys.length ≤ 1000000) : addIV (.d (.lst xs)) (.d (.lst ys)) = some (.own (xs ++ ys)) := by
  show (if xs.length + ys.length ≤ lim then some (IV.own (xs ++ ys)) else none) = _
  exact if_pos h
theorem w_mulO {k : Int} (h1 : k ≤ 1000) (h2 : -1000 ≤ k) (h3 : xs.length ≤ 1000) : mulQ (.own xs) (.d (.int k)) = some (.own (repL k xs)) := by
  show (if k ≤ 1000 ∧ -1000 ≤ k ∧ xs.length ≤ 1000 then some (IV.own (repL k xs)) else none) = _
  exact if_pos ⟨h1, h2, h3⟩
end
theorem w_min1 {ns : List Int} : min1 (.own (ns.map D.int)) = (minOf ns).bind fun m => some (.d (.int m)) := by
  show (asInts (ns.map D.int)).bind _ = _
  rw [asInts_map]; rfl
/-- a day, or none, among days -/
def oIn (o : Option Int) (zs : List Int) : Bool := match o with
  | some d => decide (d ∈ zs)
  | none => false
theorem z_inOI {neg : Bool} {o : Option Int} {zs : List Int} : inIV neg (.d (optD o)) (.d (intsD zs)) = some (.d (.bl (if neg then !oIn o zs else oIn o zs))) := by
  cases o with
  | some d => exact z_inIT
  | none =>
    show ((if flatD .non && (zs.map D.int).all flatD then some (inD .non (zs.map D.int)) else none).bind _) = _
    rw [flat_ints]
    have : inD .non (zs.map D.int) = false := by
      unfold inD
      rw [List.any_map, List.any_eq_false]
      intro z _
      show ¬ eqD (.int z) .non = true
      show ¬ PyData.eqv (.int z) .none = true
      unfold PyData.eqv
      simp
    rw [this]; rfl
theorem v_iSI {xs : List Int} {env : Env} : seqIK (some (.d (intsD xs), env)) = some (xs.map D.int, env) := rfl
theorem v_iSS {xs : List Str} {env : Env} : seqIK (some (.d (strsD xs), env)) = some (xs.map D.str, env) := rfl
theorem v_iSC {c : List (Option Int)} {env : Env} : seqIK (some (.d (caseD c), env)) = some (c.map optD, env) := rfl
theorem v_iZC {xs : List D} {c : List (Option Int)} {env : Env} : zB (.d (.tup xs)) (some (.d (caseD c), env)) = some (zipD xs (c.map optD), env) := rfl
theorem v_iZD {xs : List D} {c : List (Option Int)} {env : Env} : zB (.d (caseD c)) (some (.d (.tup xs), env)) = some (zipD (c.map optD) xs, env) := rfl
theorem z_inIL {neg : Bool} {a : Int} {zs : List Int} : inIV neg (.d (.int a)) (.d (.lst (zs.map D.int))) = some (.d (.bl (if neg then !decide (a ∈ zs) else decide (a ∈ zs)))) := by
  show ((if flatD (.int a) && (zs.map D.int).all flatD then some (inD (.int a) (zs.map D.int)) else deepIn (.int a) (zs.map D.int)).bind _) = _
  rw [flat_ints, inD_ints]; rfl
theorem z_inSO {neg : Bool} {a : Str} {zs : List Str} : inIV neg (.d (.str a)) (.own (zs.map D.str)) = some (.d (.bl (if neg then !decide (a ∈ zs) else decide (a ∈ zs)))) := by
  show ((if flatD (.str a) && (zs.map D.str).all flatD then some (inD (.str a) (zs.map D.str)) else deepIn (.str a) (zs.map D.str)).bind _) = _
  rw [flat_strs, inD_strs]; rfl
theorem z_inSL {neg : Bool} {a : Str} {zs : List Str} : inIV neg (.d (.str a)) (.d (.lst (zs.map D.str))) = some (.d (.bl (if neg then !decide (a ∈ zs) else decide (a ∈ zs)))) := by
  show ((if flatD (.str a) && (zs.map D.str).all flatD then some (inD (.str a) (zs.map D.str)) else deepIn (.str a) (zs.map D.str)).bind _) = _
  rw [flat_strs, inD_strs]; rfl
local macro_rules | `(tactic| walk_at "ev") => `(tactic| simp (disch := first | assumption | omega | (simp only [List.length_cons, List.length_nil, List.length_map]; omega)) only [z_inIL, z_inSO, z_inSL, v_iSI, v_iSS, v_iSC, v_iZC, v_iZ4, v_iZ5, v_iZD, ↓v_new, ↓v_metI, v_insC, v_mIK, v_isIns, w_lstA, w_lstB, w_lstC, w_mulO, w_min1, z_inOI, w_ins, setJ_nil, setJ_cons, jk_nil, jk_cons, List.append_nil, x_Place0, x_Place1, x_Place2, x_Player0, x_Player1, x_Player2, x_Player3, x_Player4, x_Scene0, x_Scene1, x_Scene2, x_Scene3, x_Scene4, y_tt, y_ti, y_tb, y_ts, y_tl, y_it, y_ii, y_ib, y_is, y_il, y_st, y_si, y_sb, y_ss, y_bt, y_bi, y_bb, y_bs, y_nt, y_ni, y_nb, y_ns, y_ll, y_ol, y_nn, y_n1, y_n2, y_n3, y_n4, y_mul1, y_all, y_any, y_sum, x_Book0, x_Book1, x_Book2, x_Book3, x_Book4, x_Book5, List.cons_append, List.nil_append, eq_book, ne_book, z_eqO, z_nonO, z_inS, z_inI, z_inIT, z_sort, zip_maps, x_ints, x_intsL, x_strsL, atI_last, z_inO, v_asg, v_asgT, v_asK, v_cpA, v_cpB1, v_cpB2, v_cpC, v_wipe0, v_wipe1, v_back0, v_back1, v_lkC1, v_lkC2a, v_lkC2b, v_lkC3, Int.reduceEq, Int.reduceLT, Int.reduceLE, Int.reduceNe, Int.reduceAdd, Int.reduceMul, Int.reduceSub, decide_true, decide_false, eq_self, w_eqI, w_neI, w_eqS, w_neS, w_ixS, w_lenS, w_slS, w_slL, w_slO, w_slT, w_slNN, w_slNH, w_slLN, w_slLH, w_revP, w_mulSt, ↓v_run_1, ↓v_run_2, ↓v_run_3, ↓v_run_4, ↓v_run_5, ↓v_run_6, ↓v_run_7, Nat.reduceSub, Nat.reduceAdd, List.reduceReplicate, v_run1, v_run2, v_fnK, v_fi0, ↓v_fi, v_fi1, v_fi2, v_fi3, List.getElem?_cons_zero, List.getElem?_cons_succ, List.set_cons_zero, List.set_cons_succ, Option.bind_some, Option.bind_none, id_eq, ↓v_seq, v_seq1, v_seq2, v_seq3, v_seq4, ↓v_skip, ↓v_bk, ↓v_ct, ↓v_set, v_set1, ↓v_if, v_if1, v_if2, ↓v_ex, v_ex1, ↓v_ret, v_ret1, ↓v_retN, ↓v_retNm, v_retNm1, v_retNm2, ↓v_setT, v_setT1, v_nx, v_sT0, v_sT1, ↓v_for, v_for1, ↓v_while,   ↓v_C, ↓v_nm, v_nm1, v_nm2, ↓v_oNm, v_oNm1, v_oNm2, ↓v_oV, v_oV1, ↓v_fz, v_fz1, v_fz2, v_ev0, ↓v_ev, v_ev1, v_ev2, ↓v_pr, ↓v_call, v_pr0, v_pr1, v_pr2, v_pr3, v_drK, v_dr0, v_dr, v_dr1, v_dr2, v_de1, v_de2, v_wbK, v_wb0, v_wb1, v_wb2, ↓v_met, v_drO, ↓v_tV, v_tV1,   ↓v_tand, v_tand1, v_tand2, ↓v_tor, v_tor1, v_tor2, ↓v_tnot, v_tnot1, ↓v_tyes, ↓v_and, v_and1, v_and2, ↓v_or, v_or1, v_or2, ↓v_not, v_not1, ↓v_dif, v_dif1, v_dif2, ↓v_iS, v_iS1, v_iS2, v_iS3, ↓v_iR1, v_iR11, ↓v_iE, v_iE1, ↓v_iR2, v_iR21, v_iR22, ↓v_iZ, v_iZ1, v_iZ2, v_iZ3, ↓v_ch, v_ch1, v_ch2, v_ch3, ↓v_cm, v_cm1, v_cm2, v_lk, v_lk0, v_lk1, v_lk2, v_prg, v_plB0, v_plB1, v_plB2, v_noPl0, v_noPl1, v_noPl2, Bool.and_true, Bool.true_and, Bool.and_self, Bool.not_false, Bool.not_true, Nat.reduceBEq, v_isL1, v_isL2, v_isS, v_met1, List.getElem?_nil, if_true, if_false, Bool.false_eq_true,   w_1, w_2, w_3, w_m1, w_m2, w_m3, w_add, w_sub, w_mod, w_fdiv, w_pow, w_mulR, w_mulL, w_tupA, w_strA, w_ownA, Int.reducePow, Int.reduceToNat, w_gt, w_ge, w_lt, w_le, w_ixL, w_ixO, w_ixT, w_lenL, w_lenO, w_lenT, w_tupL, w_tupO, w_tupT, w_set0, w_set1, w_neg, w_intB, w_intI, w_i0, w_i1, w_i2, w_i3, w_i4, w_i5, w_i6, w_app, w_tup, w_tup1, w_tup2, w_tup3, w_tup4, w_tup5, w_tup6,   w_lst, w_lst1, w_lst2, w_lst3, w_lst4, w_lst5, w_isN1, w_isN2, w_min2, w_max2, List.length_cons, List.length_nil])
local macro_rules | `(tactic| walk_at "evh") => `(tactic| simp (disch := first | assumption | omega | (simp only [List.length_cons, List.length_nil, List.length_map]; omega)) only [*, z_inIL, z_inSO, z_inSL, v_iSI, v_iSS, v_iSC, v_iZC, v_iZ4, v_iZ5, v_iZD, ↓v_new, ↓v_metI, v_insC, v_mIK, v_isIns, w_lstA, w_lstB, w_lstC, w_mulO, w_min1, z_inOI, w_ins, setJ_nil, setJ_cons, jk_nil, jk_cons, List.append_nil, x_Place0, x_Place1, x_Place2, x_Player0, x_Player1, x_Player2, x_Player3, x_Player4, x_Scene0, x_Scene1, x_Scene2, x_Scene3, x_Scene4, y_tt, y_ti, y_tb, y_ts, y_tl, y_it, y_ii, y_ib, y_is, y_il, y_st, y_si, y_sb, y_ss, y_bt, y_bi, y_bb, y_bs, y_nt, y_ni, y_nb, y_ns, y_ll, y_ol, y_nn, y_n1, y_n2, y_n3, y_n4, y_mul1, y_all, y_any, y_sum, x_Book0, x_Book1, x_Book2, x_Book3, x_Book4, x_Book5, List.cons_append, List.nil_append, eq_book, ne_book, z_eqO, z_nonO, z_inS, z_inI, z_inIT, z_sort, zip_maps, x_ints, x_intsL, x_strsL, atI_last, z_inO, v_asg, v_asgT, v_asK, v_cpA, v_cpB1, v_cpB2, v_cpC, v_wipe0, v_wipe1, v_back0, v_back1, v_lkC1, v_lkC2a, v_lkC2b, v_lkC3, Int.reduceEq, Int.reduceLT, Int.reduceLE, Int.reduceNe, Int.reduceAdd, Int.reduceMul, Int.reduceSub, decide_true, decide_false, eq_self, w_eqI, w_neI, w_eqS, w_neS, w_ixS, w_lenS, w_slS, w_slL, w_slO, w_slT, w_slNN, w_slNH, w_slLN, w_slLH, w_revP, w_mulSt, ↓v_run_1, ↓v_run_2, ↓v_run_3, ↓v_run_4, ↓v_run_5, ↓v_run_6, ↓v_run_7, Nat.reduceSub, Nat.reduceAdd, List.reduceReplicate, v_run1, v_run2, v_fnK, v_fi0, ↓v_fi, v_fi1, v_fi2, v_fi3, List.getElem?_cons_zero, List.getElem?_cons_succ, List.set_cons_zero, List.set_cons_succ, Option.bind_some, Option.bind_none, id_eq, ↓v_seq, v_seq1, v_seq2, v_seq3, v_seq4, ↓v_skip, ↓v_bk, ↓v_ct, ↓v_set, v_set1, ↓v_if, v_if1, v_if2, ↓v_ex, v_ex1, ↓v_ret, v_ret1, ↓v_retN, ↓v_retNm, v_retNm1, v_retNm2, ↓v_setT, v_setT1, v_nx, v_sT0, v_sT1, ↓v_for, v_for1, ↓v_while,   ↓v_C, ↓v_nm, v_nm1, v_nm2, ↓v_oNm, v_oNm1, v_oNm2, ↓v_oV, v_oV1, ↓v_fz, v_fz1, v_fz2, v_ev0, ↓v_ev, v_ev1, v_ev2, ↓v_pr, ↓v_call, v_pr0, v_pr1, v_pr2, v_pr3, v_drK, v_dr0, v_dr, v_dr1, v_dr2, v_de1, v_de2, v_wbK, v_wb0, v_wb1, v_wb2, ↓v_met, v_drO, ↓v_tV, v_tV1,   ↓v_tand, v_tand1, v_tand2, ↓v_tor, v_tor1, v_tor2, ↓v_tnot, v_tnot1, ↓v_tyes, ↓v_and, v_and1, v_and2, ↓v_or, v_or1, v_or2, ↓v_not, v_not1, ↓v_dif, v_dif1, v_dif2, ↓v_iS, v_iS1, v_iS2, v_iS3, ↓v_iR1, v_iR11, ↓v_iE, v_iE1, ↓v_iR2, v_iR21, v_iR22, ↓v_iZ, v_iZ1, v_iZ2, v_iZ3, ↓v_ch, v_ch1, v_ch2, v_ch3, ↓v_cm, v_cm1, v_cm2, v_lk, v_lk0, v_lk1, v_lk2, v_prg, v_plB0, v_plB1, v_plB2, v_noPl0, v_noPl1, v_noPl2, Bool.and_true, Bool.true_and, Bool.and_self, Bool.not_false, Bool.not_true, Nat.reduceBEq, v_isL1, v_isL2, v_isS, v_met1, List.getElem?_nil, if_true, if_false, Bool.false_eq_true,   w_1, w_2, w_3, w_m1, w_m2, w_m3, w_add, w_sub, w_mod, w_fdiv, w_pow, w_mulR, w_mulL, w_tupA, w_strA, w_ownA, Int.reducePow, Int.reduceToNat, w_gt, w_ge, w_lt, w_le, w_ixL, w_ixO, w_ixT, w_lenL, w_lenO, w_lenT, w_tupL, w_tupO, w_tupT, w_set0, w_set1, w_neg, w_intB, w_intI, w_i0, w_i1, w_i2, w_i3, w_i4, w_i5, w_i6, w_app, w_tup, w_tup1, w_tup2, w_tup3, w_tup4, w_tup5, w_tup6,   w_lst, w_lst1, w_lst2, w_lst3, w_lst4, w_lst5, w_isN1, w_isN2, w_min2, w_max2, List.length_cons, List.length_nil])
inductive Rsn where
  | shut (z : Str) (d : Int)
  | away (z : Str) (d : Int)
  | full (d : Int)
  | tired (z : Str) (d : Int)
def Rsn.d : Rsn → D
  | .shut z d => .tup [.str (Str.ofString "shut"), .str z, .int d]
  | .away z d => .tup [.str (Str.ofString "away"), .str z, .int d]
  | .full d => .tup [.str (Str.ofString "full"), .int d]
  | .tired z d => .tup [.str (Str.ofString "tired"), .str z, .int d]
def optS : Option Str → D
  | none => .non
  | some z => .str z
theorem z_nonS {o : Option Str} : isNon (.d (optS o)) = o.isNone := by cases o <;> rfl
def spotD (p : Str × Int × Int) : D := .tup [.str p.1, .int p.2.1, .int p.2.2]
theorem x_spot0 {p : Str × Int × Int} : idxIV (.d (spotD p)) (.d (.int 0)) = some (.d (.str p.1)) := rfl
theorem x_spot1 {p : Str × Int × Int} : idxIV (.d (spotD p)) (.d (.int 1)) = some (.d (.int p.2.1)) := rfl
theorem x_spot2 {p : Str × Int × Int} : idxIV (.d (spotD p)) (.d (.int 2)) = some (.d (.int p.2.2)) := rfl
theorem x_day0 {p : Int × Int} : idxIV (.d (dayD p)) (.d (.int 0)) = some (.d (.int p.1)) := rfl
theorem x_day1 {p : Int × Int} : idxIV (.d (dayD p)) (.d (.int 1)) = some (.d (.int p.2)) := rfl
theorem v_setDay {is : List Nat} {lk : LK} {p : Int × Int} {env : Env} : setTK is lk (some (.d (dayD p), env)) = nxK (setT lk is [.int p.1, .int p.2] env) := rfl
theorem w_lstT {xs : List D} : lstIV (.d (.tup xs)) = some (.own xs) := rfl
theorem w_lstO {xs : List D} : lstIV (.own xs) = some (.own xs) := rfl
theorem w_lstL {xs : List D} : lstIV (.d (.lst xs)) = some (.own xs) := rfl
theorem w_popAt {xs : List D} {k : Int} (h0 : 0 ≤ k) (h1 : k < 1000000) : popAtP xs (.d (.int k)) = (xs[k.toNat]?).bind fun z => some (.d z, xs.eraseIdx k.toNat) := by
  show (if 0 ≤ k ∧ k < 1000000 then (xs[k.toNat]?).bind fun z => some (IV.d z, xs.eraseIdx k.toNat) else none) = _
  exact if_pos ⟨h0, h1⟩
theorem w_tupC {xs : List D} {c : List (Option Int)} : tupIV (.d (caseD c)) = some (.d (caseD c)) := rfl
theorem x_caseL {c : List (Option Int)} : lenIV (.d (caseD c)) = some (.d (.int c.length)) := by
  show lenIV (.d (.tup (c.map optD))) = _
  rw [w_lenT, List.length_map]
local macro_rules | `(tactic| walk_at "ev") => `(tactic| simp (disch := first | assumption | omega | (simp only [List.length_cons, List.length_nil, List.length_map]; omega)) only [Option.isNone_some, Option.isNone_none, z_nonS, x_spot0, x_spot1, x_spot2, x_day0, x_day1, v_setDay, w_lstT, w_lstO, w_lstL, w_popAt, w_tupC, x_caseL, z_inIL, z_inSO, z_inSL, v_iSI, v_iSS, v_iSC, v_iZC, v_iZ4, v_iZ5, v_iZD, ↓v_new, ↓v_metI, v_insC, v_mIK, v_isIns, w_lstA, w_lstB, w_lstC, w_mulO, w_min1, z_inOI, w_ins, setJ_nil, setJ_cons, jk_nil, jk_cons, List.append_nil, x_Place0, x_Place1, x_Place2, x_Player0, x_Player1, x_Player2, x_Player3, x_Player4, x_Scene0, x_Scene1, x_Scene2, x_Scene3, x_Scene4, y_tt, y_ti, y_tb, y_ts, y_tl, y_it, y_ii, y_ib, y_is, y_il, y_st, y_si, y_sb, y_ss, y_bt, y_bi, y_bb, y_bs, y_nt, y_ni, y_nb, y_ns, y_ll, y_ol, y_nn, y_n1, y_n2, y_n3, y_n4, y_mul1, y_all, y_any, y_sum, x_Book0, x_Book1, x_Book2, x_Book3, x_Book4, x_Book5, List.cons_append, List.nil_append, eq_book, ne_book, z_eqO, z_nonO, z_inS, z_inI, z_inIT, z_sort, zip_maps, x_ints, x_intsL, x_strsL, atI_last, z_inO, v_asg, v_asgT, v_asK, v_cpA, v_cpB1, v_cpB2, v_cpC, v_wipe0, v_wipe1, v_back0, v_back1, v_lkC1, v_lkC2a, v_lkC2b, v_lkC3, Int.reduceEq, Int.reduceLT, Int.reduceLE, Int.reduceNe, Int.reduceAdd, Int.reduceMul, Int.reduceSub, decide_true, decide_false, eq_self, w_eqI, w_neI, w_eqS, w_neS, w_ixS, w_lenS, w_slS, w_slL, w_slO, w_slT, w_slNN, w_slNH, w_slLN, w_slLH, w_revP, w_mulSt, ↓v_run_1, ↓v_run_2, ↓v_run_3, ↓v_run_4, ↓v_run_5, ↓v_run_6, ↓v_run_7, Nat.reduceSub, Nat.reduceAdd, List.reduceReplicate, v_run1, v_run2, v_fnK, v_fi0, ↓v_fi, v_fi1, v_fi2, v_fi3, List.getElem?_cons_zero, List.getElem?_cons_succ, List.set_cons_zero, List.set_cons_succ, Option.bind_some, Option.bind_none, id_eq, ↓v_seq, v_seq1, v_seq2, v_seq3, v_seq4, ↓v_skip, ↓v_bk, ↓v_ct, ↓v_set, v_set1, ↓v_if, v_if1, v_if2, ↓v_ex, v_ex1, ↓v_ret, v_ret1, ↓v_retN, ↓v_retNm, v_retNm1, v_retNm2, ↓v_setT, v_setT1, v_nx, v_sT0, v_sT1, ↓v_for, v_for1, ↓v_while,   ↓v_C, ↓v_nm, v_nm1, v_nm2, ↓v_oNm, v_oNm1, v_oNm2, ↓v_oV, v_oV1, ↓v_fz, v_fz1, v_fz2, v_ev0, ↓v_ev, v_ev1, v_ev2, ↓v_pr, ↓v_call, v_pr0, v_pr1, v_pr2, v_pr3, v_drK, v_dr0, v_dr, v_dr1, v_dr2, v_de1, v_de2, v_wbK, v_wb0, v_wb1, v_wb2, ↓v_met, v_drO, ↓v_tV, v_tV1,   ↓v_tand, v_tand1, v_tand2, ↓v_tor, v_tor1, v_tor2, ↓v_tnot, v_tnot1, ↓v_tyes, ↓v_and, v_and1, v_and2, ↓v_or, v_or1, v_or2, ↓v_not, v_not1, ↓v_dif, v_dif1, v_dif2, ↓v_iS, v_iS1, v_iS2, v_iS3, ↓v_iR1, v_iR11, ↓v_iE, v_iE1, ↓v_iR2, v_iR21, v_iR22, ↓v_iZ, v_iZ1, v_iZ2, v_iZ3, ↓v_ch, v_ch1, v_ch2, v_ch3, ↓v_cm, v_cm1, v_cm2, v_lk, v_lk0, v_lk1, v_lk2, v_prg, v_plB0, v_plB1, v_plB2, v_noPl0, v_noPl1, v_noPl2, Bool.and_true, Bool.true_and, Bool.and_self, Bool.not_false, Bool.not_true, Nat.reduceBEq, v_isL1, v_isL2, v_isS, v_met1, List.getElem?_nil, if_true, if_false, Bool.false_eq_true,   w_1, w_2, w_3, w_m1, w_m2, w_m3, w_add, w_sub, w_mod, w_fdiv, w_pow, w_mulR, w_mulL, w_tupA, w_strA, w_ownA, Int.reducePow, Int.reduceToNat, w_gt, w_ge, w_lt, w_le, w_ixL, w_ixO, w_ixT, w_lenL, w_lenO, w_lenT, w_tupL, w_tupO, w_tupT, w_set0, w_set1, w_neg, w_intB, w_intI, w_i0, w_i1, w_i2, w_i3, w_i4, w_i5, w_i6, w_app, w_tup, w_tup1, w_tup2, w_tup3, w_tup4, w_tup5, w_tup6,   w_lst, w_lst1, w_lst2, w_lst3, w_lst4, w_lst5, w_isN1, w_isN2, w_min2, w_max2, List.length_cons, List.length_nil])
local macro_rules | `(tactic| walk_at "evh") => `(tactic| simp (disch := first | assumption | omega | (simp only [List.length_cons, List.length_nil, List.length_map]; omega)) only [*, Option.isNone_some, Option.isNone_none, z_nonS, x_spot0, x_spot1, x_spot2, x_day0, x_day1, v_setDay, w_lstT, w_lstO, w_lstL, w_popAt, w_tupC, x_caseL, z_inIL, z_inSO, z_inSL, v_iSI, v_iSS, v_iSC, v_iZC, v_iZ4, v_iZ5, v_iZD, ↓v_new, ↓v_metI, v_insC, v_mIK, v_isIns, w_lstA, w_lstB, w_lstC, w_mulO, w_min1, z_inOI, w_ins, setJ_nil, setJ_cons, jk_nil, jk_cons, List.append_nil, x_Place0, x_Place1, x_Place2, x_Player0, x_Player1, x_Player2, x_Player3, x_Player4, x_Scene0, x_Scene1, x_Scene2, x_Scene3, x_Scene4, y_tt, y_ti, y_tb, y_ts, y_tl, y_it, y_ii, y_ib, y_is, y_il, y_st, y_si, y_sb, y_ss, y_bt, y_bi, y_bb, y_bs, y_nt, y_ni, y_nb, y_ns, y_ll, y_ol, y_nn, y_n1, y_n2, y_n3, y_n4, y_mul1, y_all, y_any, y_sum, x_Book0, x_Book1, x_Book2, x_Book3, x_Book4, x_Book5, List.cons_append, List.nil_append, eq_book, ne_book, z_eqO, z_nonO, z_inS, z_inI, z_inIT, z_sort, zip_maps, x_ints, x_intsL, x_strsL, atI_last, z_inO, v_asg, v_asgT, v_asK, v_cpA, v_cpB1, v_cpB2, v_cpC, v_wipe0, v_wipe1, v_back0, v_back1, v_lkC1, v_lkC2a, v_lkC2b, v_lkC3, Int.reduceEq, Int.reduceLT, Int.reduceLE, Int.reduceNe, Int.reduceAdd, Int.reduceMul, Int.reduceSub, decide_true, decide_false, eq_self, w_eqI, w_neI, w_eqS, w_neS, w_ixS, w_lenS, w_slS, w_slL, w_slO, w_slT, w_slNN, w_slNH, w_slLN, w_slLH, w_revP, w_mulSt, ↓v_run_1, ↓v_run_2, ↓v_run_3, ↓v_run_4, ↓v_run_5, ↓v_run_6, ↓v_run_7, Nat.reduceSub, Nat.reduceAdd, List.reduceReplicate, v_run1, v_run2, v_fnK, v_fi0, ↓v_fi, v_fi1, v_fi2, v_fi3, List.getElem?_cons_zero, List.getElem?_cons_succ, List.set_cons_zero, List.set_cons_succ, Option.bind_some, Option.bind_none, id_eq, ↓v_seq, v_seq1, v_seq2, v_seq3, v_seq4, ↓v_skip, ↓v_bk, ↓v_ct, ↓v_set, v_set1, ↓v_if, v_if1, v_if2, ↓v_ex, v_ex1, ↓v_ret, v_ret1, ↓v_retN, ↓v_retNm, v_retNm1, v_retNm2, ↓v_setT, v_setT1, v_nx, v_sT0, v_sT1, ↓v_for, v_for1, ↓v_while,   ↓v_C, ↓v_nm, v_nm1, v_nm2, ↓v_oNm, v_oNm1, v_oNm2, ↓v_oV, v_oV1, ↓v_fz, v_fz1, v_fz2, v_ev0, ↓v_ev, v_ev1, v_ev2, ↓v_pr, ↓v_call, v_pr0, v_pr1, v_pr2, v_pr3, v_drK, v_dr0, v_dr, v_dr1, v_dr2, v_de1, v_de2, v_wbK, v_wb0, v_wb1, v_wb2, ↓v_met, v_drO, ↓v_tV, v_tV1,   ↓v_tand, v_tand1, v_tand2, ↓v_tor, v_tor1, v_tor2, ↓v_tnot, v_tnot1, ↓v_tyes, ↓v_and, v_and1, v_and2, ↓v_or, v_or1, v_or2, ↓v_not, v_not1, ↓v_dif, v_dif1, v_dif2, ↓v_iS, v_iS1, v_iS2, v_iS3, ↓v_iR1, v_iR11, ↓v_iE, v_iE1, ↓v_iR2, v_iR21, v_iR22, ↓v_iZ, v_iZ1, v_iZ2, v_iZ3, ↓v_ch, v_ch1, v_ch2, v_ch3, ↓v_cm, v_cm1, v_cm2, v_lk, v_lk0, v_lk1, v_lk2, v_prg, v_plB0, v_plB1, v_plB2, v_noPl0, v_noPl1, v_noPl2, Bool.and_true, Bool.true_and, Bool.and_self, Bool.not_false, Bool.not_true, Nat.reduceBEq, v_isL1, v_isL2, v_isS, v_met1, List.getElem?_nil, if_true, if_false, Bool.false_eq_true,   w_1, w_2, w_3, w_m1, w_m2, w_m3, w_add, w_sub, w_mod, w_fdiv, w_pow, w_mulR, w_mulL, w_tupA, w_strA, w_ownA, Int.reducePow, Int.reduceToNat, w_gt, w_ge, w_lt, w_le, w_ixL, w_ixO, w_ixT, w_lenL, w_lenO, w_lenT, w_tupL, w_tupO, w_tupT, w_set0, w_set1, w_neg, w_intB, w_intI, w_i0, w_i1, w_i2, w_i3, w_i4, w_i5, w_i6, w_app, w_tup, w_tup1, w_tup2, w_tup3, w_tup4, w_tup5, w_tup6,   w_lst, w_lst1, w_lst2, w_lst3, w_lst4, w_lst5, w_isN1, w_isN2, w_min2, w_max2, List.length_cons, List.length_nil])
/-- a day of the book -/
def DayAt (b : Book) (d : Int) (p : Int × Int) : Prop := 0 ≤ d ∧ d < b.days.length ∧ b.days[d.toNat]? = some p
theorem DayAt.of {b : Book} {d : Int} (h0 : 0 ≤ d) (h1 : d < b.days.length) : ∃ p, DayAt b d p := ⟨b.days[d.toNat]'(by omega), h0, h1, List.getElem?_eq_getElem _⟩
inductive Slp where
  | late (z : Str)
  | long (z : Str)
def Slp.d : Slp → D
  | .late z => .tup [.str (Str.ofString "late"), .str z]
  | .long z => .tup [.str (Str.ofString "long"), .str z]
local macro_rules | `(tactic| walk_at "ev") => `(tactic| simp (disch := first | assumption | omega | (simp only [List.length_cons, List.length_nil, List.length_map]; omega)) only [Int.cast_ofNat_Int, Int.natCast_zero, Option.isNone_some, Option.isNone_none, z_nonS, x_spot0, x_spot1, x_spot2, x_day0, x_day1, v_setDay, w_lstT, w_lstO, w_lstL, w_popAt, w_tupC, x_caseL, z_inIL, z_inSO, z_inSL, v_iSI, v_iSS, v_iSC, v_iZC, v_iZ4, v_iZ5, v_iZD, ↓v_new, ↓v_metI, v_insC, v_mIK, v_isIns, w_lstA, w_lstB, w_lstC, w_mulO, w_min1, z_inOI, w_ins, setJ_nil, setJ_cons, jk_nil, jk_cons, List.append_nil, x_Place0, x_Place1, x_Place2, x_Player0, x_Player1, x_Player2, x_Player3, x_Player4, x_Scene0, x_Scene1, x_Scene2, x_Scene3, x_Scene4, y_tt, y_ti, y_tb, y_ts, y_tl, y_it, y_ii, y_ib, y_is, y_il, y_st, y_si, y_sb, y_ss, y_bt, y_bi, y_bb, y_bs, y_nt, y_ni, y_nb, y_ns, y_ll, y_ol, y_nn, y_n1, y_n2, y_n3, y_n4, y_mul1, y_all, y_any, y_sum, x_Book0, x_Book1, x_Book2, x_Book3, x_Book4, x_Book5, List.cons_append, List.nil_append, eq_book, ne_book, z_eqO, z_nonO, z_inS, z_inI, z_inIT, z_sort, zip_maps, x_ints, x_intsL, x_strsL, atI_last, z_inO, v_asg, v_asgT, v_asK, v_cpA, v_cpB1, v_cpB2, v_cpC, v_wipe0, v_wipe1, v_back0, v_back1, v_lkC1, v_lkC2a, v_lkC2b, v_lkC3, Int.reduceEq, Int.reduceLT, Int.reduceLE, Int.reduceNe, Int.reduceAdd, Int.reduceMul, Int.reduceSub, decide_true, decide_false, eq_self, w_eqI, w_neI, w_eqS, w_neS, w_ixS, w_lenS, w_slS, w_slL, w_slO, w_slT, w_slNN, w_slNH, w_slLN, w_slLH, w_revP, w_mulSt, ↓v_run_1, ↓v_run_2, ↓v_run_3, ↓v_run_4, ↓v_run_5, ↓v_run_6, ↓v_run_7, Nat.reduceSub, Nat.reduceAdd, List.reduceReplicate, v_run1, v_run2, v_fnK, v_fi0, ↓v_fi, v_fi1, v_fi2, v_fi3, List.getElem?_cons_zero, List.getElem?_cons_succ, List.set_cons_zero, List.set_cons_succ, Option.bind_some, Option.bind_none, id_eq, ↓v_seq, v_seq1, v_seq2, v_seq3, v_seq4, ↓v_skip, ↓v_bk, ↓v_ct, ↓v_set, v_set1, ↓v_if, v_if1, v_if2, ↓v_ex, v_ex1, ↓v_ret, v_ret1, ↓v_retN, ↓v_retNm, v_retNm1, v_retNm2, ↓v_setT, v_setT1, v_nx, v_sT0, v_sT1, ↓v_for, v_for1, ↓v_while,   ↓v_C, ↓v_nm, v_nm1, v_nm2, ↓v_oNm, v_oNm1, v_oNm2, ↓v_oV, v_oV1, ↓v_fz, v_fz1, v_fz2, v_ev0, ↓v_ev, v_ev1, v_ev2, ↓v_pr, ↓v_call, v_pr0, v_pr1, v_pr2, v_pr3, v_drK, v_dr0, v_dr, v_dr1, v_dr2, v_de1, v_de2, v_wbK, v_wb0, v_wb1, v_wb2, ↓v_met, v_drO, ↓v_tV, v_tV1,   ↓v_tand, v_tand1, v_tand2, ↓v_tor, v_tor1, v_tor2, ↓v_tnot, v_tnot1, ↓v_tyes, ↓v_and, v_and1, v_and2, ↓v_or, v_or1, v_or2, ↓v_not, v_not1, ↓v_dif, v_dif1, v_dif2, ↓v_iS, v_iS1, v_iS2, v_iS3, ↓v_iR1, v_iR11, ↓v_iE, v_iE1, ↓v_iR2, v_iR21, v_iR22, ↓v_iZ, v_iZ1, v_iZ2, v_iZ3, ↓v_ch, v_ch1, v_ch2, v_ch3, ↓v_cm, v_cm1, v_cm2, v_lk, v_lk0, v_lk1, v_lk2, v_prg, v_plB0, v_plB1, v_plB2, v_noPl0, v_noPl1, v_noPl2, Bool.and_true, Bool.true_and, Bool.and_self, Bool.not_false, Bool.not_true, Nat.reduceBEq, v_isL1, v_isL2, v_isS, v_met1, List.getElem?_nil, if_true, if_false, Bool.false_eq_true,   w_1, w_2, w_3, w_m1, w_m2, w_m3, w_add, w_sub, w_mod, w_fdiv, w_pow, w_mulR, w_mulL, w_tupA, w_strA, w_ownA, Int.reducePow, Int.reduceToNat, w_gt, w_ge, w_lt, w_le, w_ixL, w_ixO, w_ixT, w_lenL, w_lenO, w_lenT, w_tupL, w_tupO, w_tupT, w_set0, w_set1, w_neg, w_intB, w_intI, w_i0, w_i1, w_i2, w_i3, w_i4, w_i5, w_i6, w_app, w_tup, w_tup1, w_tup2, w_tup3, w_tup4, w_tup5, w_tup6,   w_lst, w_lst1, w_lst2, w_lst3, w_lst4, w_lst5, w_isN1, w_isN2, w_min2, w_max2, List.length_cons, List.length_nil])
local macro_rules | `(tactic| walk_at "evh") => `(tactic| simp (disch := first | assumption | omega | (simp only [List.length_cons, List.length_nil, List.length_map]; omega)) only [*, Int.cast_ofNat_Int, Int.natCast_zero, Option.isNone_some, Option.isNone_none, z_nonS, x_spot0, x_spot1, x_spot2, x_day0, x_day1, v_setDay, w_lstT, w_lstO, w_lstL, w_popAt, w_tupC, x_caseL, z_inIL, z_inSO, z_inSL, v_iSI, v_iSS, v_iSC, v_iZC, v_iZ4, v_iZ5, v_iZD, ↓v_new, ↓v_metI, v_insC, v_mIK, v_isIns, w_lstA, w_lstB, w_lstC, w_mulO, w_min1, z_inOI, w_ins, setJ_nil, setJ_cons, jk_nil, jk_cons, List.append_nil, x_Place0, x_Place1, x_Place2, x_Player0, x_Player1, x_Player2, x_Player3, x_Player4, x_Scene0, x_Scene1, x_Scene2, x_Scene3, x_Scene4, y_tt, y_ti, y_tb, y_ts, y_tl, y_it, y_ii, y_ib, y_is, y_il, y_st, y_si, y_sb, y_ss, y_bt, y_bi, y_bb, y_bs, y_nt, y_ni, y_nb, y_ns, y_ll, y_ol, y_nn, y_n1, y_n2, y_n3, y_n4, y_mul1, y_all, y_any, y_sum, x_Book0, x_Book1, x_Book2, x_Book3, x_Book4, x_Book5, List.cons_append, List.nil_append, eq_book, ne_book, z_eqO, z_nonO, z_inS, z_inI, z_inIT, z_sort, zip_maps, x_ints, x_intsL, x_strsL, atI_last, z_inO, v_asg, v_asgT, v_asK, v_cpA, v_cpB1, v_cpB2, v_cpC, v_wipe0, v_wipe1, v_back0, v_back1, v_lkC1, v_lkC2a, v_lkC2b, v_lkC3, Int.reduceEq, Int.reduceLT, Int.reduceLE, Int.reduceNe, Int.reduceAdd, Int.reduceMul, Int.reduceSub, decide_true, decide_false, eq_self, w_eqI, w_neI, w_eqS, w_neS, w_ixS, w_lenS, w_slS, w_slL, w_slO, w_slT, w_slNN, w_slNH, w_slLN, w_slLH, w_revP, w_mulSt, ↓v_run_1, ↓v_run_2, ↓v_run_3, ↓v_run_4, ↓v_run_5, ↓v_run_6, ↓v_run_7, Nat.reduceSub, Nat.reduceAdd, List.reduceReplicate, v_run1, v_run2, v_fnK, v_fi0, ↓v_fi, v_fi1, v_fi2, v_fi3, List.getElem?_cons_zero, List.getElem?_cons_succ, List.set_cons_zero, List.set_cons_succ, Option.bind_some, Option.bind_none, id_eq, ↓v_seq, v_seq1, v_seq2, v_seq3, v_seq4, ↓v_skip, ↓v_bk, ↓v_ct, ↓v_set, v_set1, ↓v_if, v_if1, v_if2, ↓v_ex, v_ex1, ↓v_ret, v_ret1, ↓v_retN, ↓v_retNm, v_retNm1, v_retNm2, ↓v_setT, v_setT1, v_nx, v_sT0, v_sT1, ↓v_for, v_for1, ↓v_while,   ↓v_C, ↓v_nm, v_nm1, v_nm2, ↓v_oNm, v_oNm1, v_oNm2, ↓v_oV, v_oV1, ↓v_fz, v_fz1, v_fz2, v_ev0, ↓v_ev, v_ev1, v_ev2, ↓v_pr, ↓v_call, v_pr0, v_pr1, v_pr2, v_pr3, v_drK, v_dr0, v_dr, v_dr1, v_dr2, v_de1, v_de2, v_wbK, v_wb0, v_wb1, v_wb2, ↓v_met, v_drO, ↓v_tV, v_tV1,   ↓v_tand, v_tand1, v_tand2, ↓v_tor, v_tor1, v_tor2, ↓v_tnot, v_tnot1, ↓v_tyes, ↓v_and, v_and1, v_and2, ↓v_or, v_or1, v_or2, ↓v_not, v_not1, ↓v_dif, v_dif1, v_dif2, ↓v_iS, v_iS1, v_iS2, v_iS3, ↓v_iR1, v_iR11, ↓v_iE, v_iE1, ↓v_iR2, v_iR21, v_iR22, ↓v_iZ, v_iZ1, v_iZ2, v_iZ3, ↓v_ch, v_ch1, v_ch2, v_ch3, ↓v_cm, v_cm1, v_cm2, v_lk, v_lk0, v_lk1, v_lk2, v_prg, v_plB0, v_plB1, v_plB2, v_noPl0, v_noPl1, v_noPl2, Bool.and_true, Bool.true_and, Bool.and_self, Bool.not_false, Bool.not_true, Nat.reduceBEq, v_isL1, v_isL2, v_isS, v_met1, List.getElem?_nil, if_true, if_false, Bool.false_eq_true,   w_1, w_2, w_3, w_m1, w_m2, w_m3, w_add, w_sub, w_mod, w_fdiv, w_pow, w_mulR, w_mulL, w_tupA, w_strA, w_ownA, Int.reducePow, Int.reduceToNat, w_gt, w_ge, w_lt, w_le, w_ixL, w_ixO, w_ixT, w_lenL, w_lenO, w_lenT, w_tupL, w_tupO, w_tupT, w_set0, w_set1, w_neg, w_intB, w_intI, w_i0, w_i1, w_i2, w_i3, w_i4, w_i5, w_i6, w_app, w_tup, w_tup1, w_tup2, w_tup3, w_tup4, w_tup5, w_tup6,   w_lst, w_lst1, w_lst2, w_lst3, w_lst4, w_lst5, w_isN1, w_isN2, w_min2, w_max2, List.length_cons, List.length_nil])
/-- the same book but for its days -/
def Capped (b : Book) (ds : List (Int × Int)) : Prop := (∀ m : Int, 10 ^ 12 - 1 ≤ m → (∀ z ∈ b.days, z.1 ≤ m) → ∀ z ∈ ds, z.1 ≤ m) ∧ ((∀ z ∈ b.days, z.2 ≤ z.1) → ∀ z ∈ ds, z.2 ≤ z.1)
def SameBut (b b' : Book) : Prop := ∃ ds : List (Int × Int), (ds.length = b.days.length ∧ Capped b ds) ∧ b' = { b with days := ds }
theorem SameBut.refl (b : Book) : SameBut b b := ⟨b.days, ⟨rfl, fun m _ h => h, fun h => h⟩, rfl⟩
theorem w_shl1 {j : Nat} (h : j ≤ 1000) : shlIV (.d (.int 1)) (.d (.int (j : Int))) = some (.d (.int ((2 ^ j : Nat) : Int))) := by
  show ((if 0 ≤ (j : Int) ∧ (j : Int) ≤ 1000 ∧ (1 : Int).natAbs < 2 ^ 64 then some (D.int (1 * 2 ^ (j : Int).toNat)) else none).bind fun z => some (IV.d z)) = _
  rw [if_pos ⟨by omega, by omega, by decide⟩]
  simp
theorem w_shrN {S j : Nat} : shrIV (.d (.int (S : Int))) (.d (.int (j : Int))) = some (.d (.int ((S / 2 ^ j : Nat) : Int))) := by
  show ((if 0 ≤ (j : Int) then some (D.int ((S : Int) / 2 ^ (j : Int).toNat)) else none).bind fun z => some (IV.d z)) = _
  rw [if_pos (by omega)]
  simp
theorem w_and1 {m : Nat} : andIV (.d (.int (m : Int))) (.d (.int 1)) = some (.d (.int ((m % 2 : Nat) : Int))) := by
  show ((if 0 ≤ (m : Int) ∧ (1 : Int) = 1 then some (D.int ((m : Int) % 2)) else none).bind fun z => some (IV.d z)) = _
  rw [if_pos ⟨by omega, rfl⟩]
  simp
theorem w_revO {xs : List D} : revIV (.own xs) = some (.own xs.reverse) := rfl
theorem w_revL {xs : List D} : revIV (.d (.lst xs)) = some (.own xs.reverse) := rfl
local macro_rules | `(tactic| walk_at "ev") => `(tactic| simp (disch := first | assumption | omega | (simp only [List.length_cons, List.length_nil, List.length_map]; omega)) only [w_shl1, w_shrN, w_and1, w_revO, w_revL, Int.cast_ofNat_Int, Int.natCast_zero, Option.isNone_some, Option.isNone_none, z_nonS, x_spot0, x_spot1, x_spot2, x_day0, x_day1, v_setDay, w_lstT, w_lstO, w_lstL, w_popAt, w_tupC, x_caseL, z_inIL, z_inSO, z_inSL, v_iSI, v_iSS, v_iSC, v_iZC, v_iZ4, v_iZ5, v_iZD, ↓v_new, ↓v_metI, v_insC, v_mIK, v_isIns, w_lstA, w_lstB, w_lstC, w_mulO, w_min1, z_inOI, w_ins, setJ_nil, setJ_cons, jk_nil, jk_cons, List.append_nil, x_Place0, x_Place1, x_Place2, x_Player0, x_Player1, x_Player2, x_Player3, x_Player4, x_Scene0, x_Scene1, x_Scene2, x_Scene3, x_Scene4, y_tt, y_ti, y_tb, y_ts, y_tl, y_it, y_ii, y_ib, y_is, y_il, y_st, y_si, y_sb, y_ss, y_bt, y_bi, y_bb, y_bs, y_nt, y_ni, y_nb, y_ns, y_ll, y_ol, y_nn, y_n1, y_n2, y_n3, y_n4, y_mul1, y_all, y_any, y_sum, x_Book0, x_Book1, x_Book2, x_Book3, x_Book4, x_Book5, List.cons_append, List.nil_append, eq_book, ne_book, z_eqO, z_nonO, z_inS, z_inI, z_inIT, z_sort, zip_maps, x_ints, x_intsL, x_strsL, atI_last, z_inO, v_asg, v_asgT, v_asK, v_cpA, v_cpB1, v_cpB2, v_cpC, v_wipe0, v_wipe1, v_back0, v_back1, v_lkC1, v_lkC2a, v_lkC2b, v_lkC3, Int.reduceEq, Int.reduceLT, Int.reduceLE, Int.reduceNe, Int.reduceAdd, Int.reduceMul, Int.reduceSub, decide_true, decide_false, eq_self, w_eqI, w_neI, w_eqS, w_neS, w_ixS, w_lenS, w_slS, w_slL, w_slO, w_slT, w_slNN, w_slNH, w_slLN, w_slLH, w_revP, w_mulSt, ↓v_run_1, ↓v_run_2, ↓v_run_3, ↓v_run_4, ↓v_run_5, ↓v_run_6, ↓v_run_7, Nat.reduceSub, Nat.reduceAdd, List.reduceReplicate, v_run1, v_run2, v_fnK, v_fi0, ↓v_fi, v_fi1, v_fi2, v_fi3, List.getElem?_cons_zero, List.getElem?_cons_succ, List.set_cons_zero, List.set_cons_succ, Option.bind_some, Option.bind_none, id_eq, ↓v_seq, v_seq1, v_seq2, v_seq3, v_seq4, ↓v_skip, ↓v_bk, ↓v_ct, ↓v_set, v_set1, ↓v_if, v_if1, v_if2, ↓v_ex, v_ex1, ↓v_ret, v_ret1, ↓v_retN, ↓v_retNm, v_retNm1, v_retNm2, ↓v_setT, v_setT1, v_nx, v_sT0, v_sT1, ↓v_for, v_for1, ↓v_while,   ↓v_C, ↓v_nm, v_nm1, v_nm2, ↓v_oNm, v_oNm1, v_oNm2, ↓v_oV, v_oV1, ↓v_fz, v_fz1, v_fz2, v_ev0, ↓v_ev, v_ev1, v_ev2, ↓v_pr, ↓v_call, v_pr0, v_pr1, v_pr2, v_pr3, v_drK, v_dr0, v_dr, v_dr1, v_dr2, v_de1, v_de2, v_wbK, v_wb0, v_wb1, v_wb2, ↓v_met, v_drO, ↓v_tV, v_tV1,   ↓v_tand, v_tand1, v_tand2, ↓v_tor, v_tor1, v_tor2, ↓v_tnot, v_tnot1, ↓v_tyes, ↓v_and, v_and1, v_and2, ↓v_or, v_or1, v_or2, ↓v_not, v_not1, ↓v_dif, v_dif1, v_dif2, ↓v_iS, v_iS1, v_iS2, v_iS3, ↓v_iR1, v_iR11, ↓v_iE, v_iE1, ↓v_iR2, v_iR21, v_iR22, ↓v_iZ, v_iZ1, v_iZ2, v_iZ3, ↓v_ch, v_ch1, v_ch2, v_ch3, ↓v_cm, v_cm1, v_cm2, v_lk, v_lk0, v_lk1, v_lk2, v_prg, v_plB0, v_plB1, v_plB2, v_noPl0, v_noPl1, v_noPl2, Bool.and_true, Bool.true_and, Bool.and_self, Bool.not_false, Bool.not_true, Nat.reduceBEq, v_isL1, v_isL2, v_isS, v_met1, List.getElem?_nil, if_true, if_false, Bool.false_eq_true,   w_1, w_2, w_3, w_m1, w_m2, w_m3, w_add, w_sub, w_mod, w_fdiv, w_pow, w_mulR, w_mulL, w_tupA, w_strA, w_ownA, Int.reducePow, Int.reduceToNat, w_gt, w_ge, w_lt, w_le, w_ixL, w_ixO, w_ixT, w_lenL, w_lenO, w_lenT, w_tupL, w_tupO, w_tupT, w_set0, w_set1, w_neg, w_intB, w_intI, w_i0, w_i1, w_i2, w_i3, w_i4, w_i5, w_i6, w_app, w_tup, w_tup1, w_tup2, w_tup3, w_tup4, w_tup5, w_tup6,   w_lst, w_lst1, w_lst2, w_lst3, w_lst4, w_lst5, w_isN1, w_isN2, w_min2, w_max2, List.length_cons, List.length_nil])
local macro_rules | `(tactic| walk_at "evh") => `(tactic| simp (disch := first | assumption | omega | (simp only [List.length_cons, List.length_nil, List.length_map]; omega)) only [*, w_shl1, w_shrN, w_and1, w_revO, w_revL, Int.cast_ofNat_Int, Int.natCast_zero, Option.isNone_some, Option.isNone_none, z_nonS, x_spot0, x_spot1, x_spot2, x_day0, x_day1, v_setDay, w_lstT, w_lstO, w_lstL, w_popAt, w_tupC, x_caseL, z_inIL, z_inSO, z_inSL, v_iSI, v_iSS, v_iSC, v_iZC, v_iZ4, v_iZ5, v_iZD, ↓v_new, ↓v_metI, v_insC, v_mIK, v_isIns, w_lstA, w_lstB, w_lstC, w_mulO, w_min1, z_inOI, w_ins, setJ_nil, setJ_cons, jk_nil, jk_cons, List.append_nil, x_Place0, x_Place1, x_Place2, x_Player0, x_Player1, x_Player2, x_Player3, x_Player4, x_Scene0, x_Scene1, x_Scene2, x_Scene3, x_Scene4, y_tt, y_ti, y_tb, y_ts, y_tl, y_it, y_ii, y_ib, y_is, y_il, y_st, y_si, y_sb, y_ss, y_bt, y_bi, y_bb, y_bs, y_nt, y_ni, y_nb, y_ns, y_ll, y_ol, y_nn, y_n1, y_n2, y_n3, y_n4, y_mul1, y_all, y_any, y_sum, x_Book0, x_Book1, x_Book2, x_Book3, x_Book4, x_Book5, List.cons_append, List.nil_append, eq_book, ne_book, z_eqO, z_nonO, z_inS, z_inI, z_inIT, z_sort, zip_maps, x_ints, x_intsL, x_strsL, atI_last, z_inO, v_asg, v_asgT, v_asK, v_cpA, v_cpB1, v_cpB2, v_cpC, v_wipe0, v_wipe1, v_back0, v_back1, v_lkC1, v_lkC2a, v_lkC2b, v_lkC3, Int.reduceEq, Int.reduceLT, Int.reduceLE, Int.reduceNe, Int.reduceAdd, Int.reduceMul, Int.reduceSub, decide_true, decide_false, eq_self, w_eqI, w_neI, w_eqS, w_neS, w_ixS, w_lenS, w_slS, w_slL, w_slO, w_slT, w_slNN, w_slNH, w_slLN, w_slLH, w_revP, w_mulSt, ↓v_run_1, ↓v_run_2, ↓v_run_3, ↓v_run_4, ↓v_run_5, ↓v_run_6, ↓v_run_7, Nat.reduceSub, Nat.reduceAdd, List.reduceReplicate, v_run1, v_run2, v_fnK, v_fi0, ↓v_fi, v_fi1, v_fi2, v_fi3, List.getElem?_cons_zero, List.getElem?_cons_succ, List.set_cons_zero, List.set_cons_succ, Option.bind_some, Option.bind_none, id_eq, ↓v_seq, v_seq1, v_seq2, v_seq3, v_seq4, ↓v_skip, ↓v_bk, ↓v_ct, ↓v_set, v_set1, ↓v_if, v_if1, v_if2, ↓v_ex, v_ex1, ↓v_ret, v_ret1, ↓v_retN, ↓v_retNm, v_retNm1, v_retNm2, ↓v_setT, v_setT1, v_nx, v_sT0, v_sT1, ↓v_for, v_for1, ↓v_while,   ↓v_C, ↓v_nm, v_nm1, v_nm2, ↓v_oNm, v_oNm1, v_oNm2, ↓v_oV, v_oV1, ↓v_fz, v_fz1, v_fz2, v_ev0, ↓v_ev, v_ev1, v_ev2, ↓v_pr, ↓v_call, v_pr0, v_pr1, v_pr2, v_pr3, v_drK, v_dr0, v_dr, v_dr1, v_dr2, v_de1, v_de2, v_wbK, v_wb0, v_wb1, v_wb2, ↓v_met, v_drO, ↓v_tV, v_tV1,   ↓v_tand, v_tand1, v_tand2, ↓v_tor, v_tor1, v_tor2, ↓v_tnot, v_tnot1, ↓v_tyes, ↓v_and, v_and1, v_and2, ↓v_or, v_or1, v_or2, ↓v_not, v_not1, ↓v_dif, v_dif1, v_dif2, ↓v_iS, v_iS1, v_iS2, v_iS3, ↓v_iR1, v_iR11, ↓v_iE, v_iE1, ↓v_iR2, v_iR21, v_iR22, ↓v_iZ, v_iZ1, v_iZ2, v_iZ3, ↓v_ch, v_ch1, v_ch2, v_ch3, ↓v_cm, v_cm1, v_cm2, v_lk, v_lk0, v_lk1, v_lk2, v_prg, v_plB0, v_plB1, v_plB2, v_noPl0, v_noPl1, v_noPl2, Bool.and_true, Bool.true_and, Bool.and_self, Bool.not_false, Bool.not_true, Nat.reduceBEq, v_isL1, v_isL2, v_isS, v_met1, List.getElem?_nil, if_true, if_false, Bool.false_eq_true,   w_1, w_2, w_3, w_m1, w_m2, w_m3, w_add, w_sub, w_mod, w_fdiv, w_pow, w_mulR, w_mulL, w_tupA, w_strA, w_ownA, Int.reducePow, Int.reduceToNat, w_gt, w_ge, w_lt, w_le, w_ixL, w_ixO, w_ixT, w_lenL, w_lenO, w_lenT, w_tupL, w_tupO, w_tupT, w_set0, w_set1, w_neg, w_intB, w_intI, w_i0, w_i1, w_i2, w_i3, w_i4, w_i5, w_i6, w_app, w_tup, w_tup1, w_tup2, w_tup3, w_tup4, w_tup5, w_tup6,   w_lst, w_lst1, w_lst2, w_lst3, w_lst4, w_lst5, w_isN1, w_isN2, w_min2, w_max2, List.length_cons, List.length_nil])
theorem range_get {n j k : Nat} (h : (List.range n)[j]? = some k) : j < n ∧ k = j := by
  obtain ⟨h1, h2⟩ := List.getElem?_eq_some_iff.mp h
  rw [List.getElem_range] at h2
  rw [List.length_range] at h1
  exact ⟨h1, h2.symm⟩
def b_is_name_c1 : Den := dPrim (p2 (inIV false)) [oNm 1, oV (dC (.str ("abcdefghijklmnopqrstuvwxyz" : Str)))]
def b_is_name : SDen := sSeq (sIf (tdOr (tdV (dPrim (p2 eqIV) [oV (dPrim (p1 lenIV) [oNm 0]), oV (dC (.int 0))])) (tdV (dPrim (p2 gtIV) [oV (dPrim (p1 lenIV) [oNm 0]), oV (dC (.int 8))]))) (sSeq (sRet (dC (.bl false))) (sSkip))
  (sSkip)) (sSeq (sRet (dPrim (p1 allIV) [oV (dComp (itSeq (dNm 0)) (.nm 1) (tdYes) (b_is_name_c1) [1])])) (sSkip))
def b_number_in_c1 : Den := dPrim (p2 (inIV false)) [oNm 2, oV (dC (.str ("0123456789" : Str)))]
def b_number_in : SDen := sSeq (sIf (tdOr (tdV (dPrim (p2 eqIV) [oV (dPrim (p1 lenIV) [oNm 0]), oV (dC (.int 0))])) (tdV (dPrim (p2 gtIV) [oV (dPrim (p1 lenIV) [oNm 0]), oNm 1]))) (sSeq (sRet (dC .non)) (sSkip)) (sSkip)) (sSeq
  (sIf (tdAnd (tdV (dPrim (p2 eqIV) [oV (dPrim (p2 idxIV) [oNm 0, oV (dC (.int 0))]), oV (dC (.str ("0" : Str)))])) (tdV (dPrim (p2 gtIV) [oV (dPrim (p1 lenIV) [oNm 0]), oV (dC (.int 1))]))) (sSeq (sRet (dC .non)) (sSkip))
  (sSkip)) (sSeq (sIf (tdNot (tdV (dPrim (p1 allIV) [oV (dComp (itSeq (dNm 0)) (.nm 2) (tdYes) (b_number_in_c1) [2])]))) (sSeq (sRet (dC .non)) (sSkip)) (sSkip)) (sSeq (sRet (dPrim (p1 intIV) [oNm 0])) (sSkip))))
def b_law_text_c1 : Den := dPrim (p2 idxIV) [oNm 1, oV (dCall "_law_take" [oNm 0, oV (dPrim (p1 lenIV) [oNm 1])])]
def b_law_text : SDen := sSeq (sSet 1 (dPrim (p2 idxIV) [oV (dPrim pLst [oV (dFz (dC (.str ("abcdefghijklmnopqrstuvwxyz" : Str)))), oV (dFz (dC (.str ("0123456789" : Str)))), oV (dFz (dC (.str ("abz019 ._-+AZ'/:\x40[`{" :
  Str))))]), oV (dCall "_law_take" [oNm 0, oV (dC (.int 3))])])) (sSeq (sSet 2 (dPrim (p2 idxIV) [oV (dPrim pLst [oV (dFz (dCall "_law_take" [oNm 0, oV (dC (.int 10))])), oV (dFz (dPrim (p2 addIV) [oV (dC (.int 1)), oV (dCall
  "_law_take" [oNm 0, oV (dC (.int 3))])])), oV (dFz (dPrim (p2 addIV) [oV (dC (.int 55)), oV (dCall "_law_take" [oNm 0, oV (dC (.int 8))])]))]), oV (dCall "_law_take" [oNm 0, oV (dC (.int 3))])])) (sSeq (sSet 3 (dMeth isStrIV
  (p2 joinIV) (oV (dC (.str ("" : Str)))) [oV (dComp (itR1 (dNm 2)) (.nm 5) (tdYes) (b_law_text_c1) [5])])) (sSeq (sIf (tdAnd (tdV (dPrim (p2 eqIV) [oV (dCall "_law_take" [oNm 0, oV (dC (.int 3))]), oV (dC (.int 0))])) (tdV
  (dPrim (p2 neIV) [oNm 3, oV (dC (.str ("" : Str)))]))) (sSeq (sSet 4 (dCall "_law_take" [oNm 0, oV (dPrim (p1 lenIV) [oNm 3])])) (sSeq (sSet 3 (dPrim (p2 addIV) [oV (dPrim (p2 addIV) [oV (dPrim (p2 slNH) [oNm 3, oNm 4]),
  oV (dPrim (p2 idxIV) [oV (dC (.str ("0a- Z9._+" : Str))), oV (dCall "_law_take" [oNm 0, oV (dC (.int 9))])])]), oV (dPrim (p2 slLN) [oNm 3, oV (dPrim (p2 addIV) [oNm 4, oV (dC (.int 1))])])])) (sSkip))) (sSkip)) (sSeq (sIf
  (tdV (dPrim (p2 eqIV) [oV (dCall "_law_take" [oNm 0, oV (dC (.int 8))]), oV (dC (.int 0))])) (sSeq (sSet 3 (dPrim (p2 addIV) [oV (dC (.str ("0" : Str))), oNm 3])) (sSkip)) (sSkip)) (sSeq (sRetNm 3) (sSkip))))))
def b_law_value_l1 : SDen := sSeq (sSet 1 (dPrim (p2 addIV) [oV (dPrim (p2 mulQ) [oNm 1, oV (dC (.int 10))]), oV (dMeth isStrIV (p2 sindexIV) (oV (dC (.str ("0123456789" : Str)))) [oNm 2])])) (sSkip)
def b_law_value : SDen := sSeq (sSet 1 (dC (.int 0))) (sSeq (sFor (itSeq (dNm 0)) (.nm 2) (b_law_value_l1)) (sSeq (sRetNm 1) (sSkip)))
def b_law_t2 : TDen := tdV (dPrim (p2 (inIV false)) [oNm 9, oV (dC (.str ("abcdefghijklmnopqrstuvwxyz" : Str)))])
def b_law_c2 : Den := dNm 9
def b_law_t3 : TDen := tdV (dPrim (p2 (inIV false)) [oNm 9, oV (dC (.str ("0123456789" : Str)))])
def b_law_c3 : Den := dNm 9
def b_law_l1 : SDen := sSeq (sSet 2 (dPrim pLst [oV (dFz (dPrim (p2 idxIV) [oNm 0, oNm 1])), oV (dFz (dNm 1))])) (sSeq (sSet 3 (dCall "_law_text" [oNm 2])) (sSeq (sSet 4 (dCall "is_name" [oNm 3])) (sSeq (sSet 5 (dComp (itSeq
  (dNm 3)) (.nm 9) (b_law_t2) (b_law_c2) [9])) (sSeq (sIf (tdOr (tdNot (tdV (dPrim (p2 isiIV) [oNm 4, oV (dC (.ty "bool"))]))) (tdV (dPrim (p2 neIV) [oNm 4, oV (dAnd (dPrim (p2 eqIV) [oV (dPrim (p1 lenIV) [oNm 5]), oV (dPrim
  (p1 lenIV) [oNm 3])]) (dChain (fun i j => decide (i < j)) (fun i j => decide (i < j)) (dC (.int 0)) (dPrim (p1 lenIV) [oNm 3]) (dC (.int 9))))]))) (sSeq (sRet (dC (.bl false))) (sSkip)) (sSkip)) (sSeq (sSet 6 (dPrim (p2
  idxIV) [oV (dPrim pLst [oV (dFz (dC (.int 1))), oV (dFz (dC (.int 12))), oV (dFz (dC (.int 60))), oV (dFz (dPrim (p2 addIV) [oV (dC (.int 1)), oV (dCall "_law_take" [oNm 2, oV (dC (.int 60))])])), oV (dFz (dPrim (p2 max2)
  [oV (dC (.int 1)), oV (dPrim (p2 min2) [oV (dC (.int 60)), oV (dPrim (p1 lenIV) [oNm 3])])]))]), oV (dCall "_law_take" [oNm 2, oV (dC (.int 5))])])) (sSeq (sSet 7 (dComp (itSeq (dNm 3)) (.nm 9) (b_law_t3) (b_law_c3) [9]))
  (sSeq (sSet 8 (dC .non)) (sSeq (sIf (tdAnd (tdV (dPrim (p2 eqIV) [oV (dPrim (p1 lenIV) [oNm 7]), oV (dPrim (p1 lenIV) [oNm 3])])) (tdAnd (tdV (dChain (fun i j => decide (i < j)) (fun i j => decide (i ≤ j)) (dC (.int 0))
  (dPrim (p1 lenIV) [oNm 3]) (dNm 6))) (tdOr (tdV (dPrim (p2 eqIV) [oNm 3, oV (dC (.str ("0" : Str)))])) (tdV (dPrim (p2 neIV) [oV (dPrim (p2 idxIV) [oNm 3, oV (dC (.int 0))]), oV (dC (.str ("0" : Str)))]))))) (sSeq (sSet
  8 (dCall "_law_value" [oNm 3])) (sSkip)) (sSkip)) (sSeq (sSet 4 (dCall "number_in" [oNm 3, oNm 6])) (sSeq (sIf (tdOr (tdV (dPrim (p2 neIV) [oNm 4, oNm 8])) (tdAnd (tdV (dPrim (p2 (isIV true)) [oNm 8, oV (dC .non)])) (tdOr
  (tdNot (tdV (dPrim (p2 isiIV) [oNm 4, oV (dC (.ty "int"))]))) (tdV (dPrim (p2 isiIV) [oNm 4, oV (dC (.ty "bool"))]))))) (sSeq (sRet (dC (.bl false))) (sSkip)) (sSkip)) (sSkip)))))))))))
def b_law : SDen := sSeq (sFor (itR1 (dPrim (p1 lenIV) [oV (dPrim (p2 slNH) [oNm 0, oV (dC (.int 63))])])) (.nm 1) (b_law_l1)) (sSeq (sRet (dC (.bl true))) (sSkip))
theorem len_cuts {s : Str} {k : Int} (h : 0 ≤ k) (h2 : k < s.length) : (L2.cutS s none (some k)).length + (L2.cutS s (some (k + 1)) none).length + 1 = s.length := by
  rw [sg_len, sg_to h, sg_len, sg_from (by omega), List.length_take, List.length_drop]
  rw [sg_len] at h2 ⊢
  omega
theorem sign_at {s : Str} {r : Int} (h0 : 0 ≤ r) (h1 : r < s.length) : ∃ x, L2.atI s.cps.toList r = some x := by
  rw [atI_int h0]
  rw [sg_len] at h1
  exact ⟨_, List.getElem?_eq_getElem (show r.toNat < (sg s).length by omega)⟩
def txtS : List Str := ["abcdefghijklmnopqrstuvwxyz", "0123456789", "abz019 ._-+AZ'/:\x40[`{"]
theorem txt_lens : ∀ s ∈ txtS, 1 ≤ s.length ∧ s.length ≤ 26 := by decide +kernel
abbrev TextS (Φ : Fenv) : Prop := ∀ a c : Int, 0 ≤ c → c < 2 ^ 50 → ∃ (s : Str) (a' c' : Int), Φ "_law_text" [.own [.int a, .int c]] = some (.d (.str s), [.own [.int a', .int c']]) ∧ s.length ≤ 64 ∧ c ≤ c' ∧ c' ≤ c + 100
theorem text_run {Φ : Fenv} (ht : TakeS Φ) {a c : Int} (hc : 0 ≤ c) (hc2 : c < 2 ^ 50) : ∃ (s : Str) (a' c' : Int), runD Φ 1 6 b_law_text [.own [.int a, .int c]] = some (.d (.str s), [.own [.int a', .int c']]) ∧ s.length ≤ 64 ∧ c ≤ c' ∧ c' ≤ c + 100 := by
  have t1 := ht a c 3 (by omega) (by omega) (by omega) (by omega)
  obtain ⟨u1, u2⟩ := tR_bd a c (b := 3) (by omega)
  generalize tR a c 3 = w at *
  generalize tA a 3 = a1 at *
  obtain ⟨S, ix, hS⟩ : ∃ S : Str, L2.atI ([.str ("abcdefghijklmnopqrstuvwxyz" : Str), .str ("0123456789" : Str), .str ("abz019 ._-+AZ'/:\x40[`{" : Str)] : List D) w = some (.str S) ∧ S ∈ txtS := by
    rcases (show w = 0 ∨ w = 1 ∨ w = 2 by omega) with rfl | rfl | rfl
    · exact ⟨"abcdefghijklmnopqrstuvwxyz", by rfl, by simp [txtS]⟩
    · exact ⟨"0123456789", by rfl, by simp [txtS]⟩
    · exact ⟨"abz019 ._-+AZ'/:\x40[`{", by rfl, by simp [txtS]⟩
  obtain ⟨S1, S2⟩ := txt_lens S hS
  have t2 := ht a1 (c + 1) 10 (by omega) (by omega) (by omega) (by omega)
  obtain ⟨u3, u4⟩ := tR_bd a1 (c + 1) (b := 10) (by omega)
  generalize tR a1 (c + 1) 10 = w2 at *
  generalize tA a1 10 = a2 at *
  have t3 := ht a2 (c + 1 + 1) 3 (by omega) (by omega) (by omega) (by omega)
  obtain ⟨u5, u6⟩ := tR_bd a2 (c + 1 + 1) (b := 3) (by omega)
  generalize tR a2 (c + 1 + 1) 3 = w3 at *
  generalize tA a2 3 = a3 at *
  have t4 := ht a3 (c + 1 + 1 + 1) 8 (by omega) (by omega) (by omega) (by omega)
  obtain ⟨u7, u8⟩ := tR_bd a3 (c + 1 + 1 + 1) (b := 8) (by omega)
  generalize tR a3 (c + 1 + 1 + 1) 8 = w4 at *
  generalize tA a3 8 = a4 at *
  have t5 := ht a4 (c + 1 + 1 + 1 + 1) 3 (by omega) (by omega) (by omega) (by omega)
  obtain ⟨u9, u10⟩ := tR_bd a4 (c + 1 + 1 + 1 + 1) (b := 3) (by omega)
  generalize tR a4 (c + 1 + 1 + 1 + 1) 3 = w5 at *
  generalize tA a4 3 = a5 at *
  obtain ⟨z, iz, z1, z2⟩ : ∃ z : Int, L2.atI ([.int w2, .int (1 + w3), .int (55 + w4)] : List D) w5 = some (.int z) ∧ 0 ≤ z ∧ z ≤ 62 := by
    rcases (show w5 = 0 ∨ w5 = 1 ∨ w5 = 2 by omega) with rfl | rfl | rfl
    · exact ⟨_, rfl, by omega, by omega⟩
    · exact ⟨_, rfl, by omega, by omega⟩
    · exact ⟨_, rfl, by omega, by omega⟩
  obtain ⟨n, rfl⟩ : ∃ n : Nat, z = (n : Int) := ⟨z.toNat, by omega⟩
  generalize hc6 : c + 1 + 1 + 1 + 1 + 1 = c6 at *
  have hc7 : c6 ≤ c + 5 := by omega
  have hc8 : c + 5 ≤ c6 := by omega
  clear hc6
  have H : Hid (TakeS Φ) := ht
  clear ht u1 u2 u3 u4 u5 u6 u7 u8 u9 u10 hS
  unfold b_law_text
  walk_at "evh"
  generalize hq : compL _ _ _ _ _ _ _ _ = q
  obtain ⟨zs, s, v, rfl, cs, rfl, h1, h2, h3⟩ := comp_st hq (fun k : Nat => D.int (k : Int)) (List.range n) (rangeD_int _) (fun s : Int × Int => [(0, some (.own [.int s.1, .int s.2]))]) [] (fun i s ac => ∃ cs : List Nat, ac = cs.map (fun c => D.str ⟨#[c]⟩) ∧ cs.length = i ∧ c6 ≤ s.2 ∧ s.2 ≤ c6 + i) (a5, c6)
    ⟨[], rfl, rfl, by show c6 ≤ c6; omega, by show c6 ≤ c6 + ((0 : Nat) : Int); omega⟩ (by simp; omega) rfl (fun i k2 s v ac hk hI => by
      obtain ⟨hi, rfl⟩ := range_get hk
      obtain ⟨cs, rfl, h1, h2, h3⟩ := hI
      have tk := (show TakeS Φ from H) s.1 s.2 (S.length : Int) (by omega) (by omega) (by omega) (by omega)
      obtain ⟨u1, u2⟩ := tR_bd s.1 s.2 (b := (S.length : Int)) (by omega)
      obtain ⟨x, hx⟩ := sign_at (s := S) u1 u2
      clear hq hk t1 t2 t3 t4 t5 iz ix H u1 u2
      generalize tR s.1 s.2 (S.length : Int) = r at *
      unfold b_law_text_c1
      walk_at "evh"
      exact ⟨_, _, rfl, (tA s.1 (S.length : Int), s.2 + 1), ⟨cs ++ [x], by simp, by rw [List.length_append, h1]; rfl, by show c6 ≤ s.2 + 1; omega, by show s.2 + 1 ≤ c6 + ((k2 + 1 : Nat) : Int); omega⟩, rfl⟩)
  rw [List.length_range] at h1 h3
  have hj : ((cs.map fun c => (⟨#[c]⟩ : Str)).map (·.length)).sum + (cs.map fun c => (⟨#[c]⟩ : Str)).length * (Str.ofString "").length ≤ 1000000 := by
    have : ((cs.map fun c => (⟨#[c]⟩ : Str)).map (·.length)).sum = cs.length := by
      rw [List.map_map]
      exact sum_ones cs
    rw [this, show (Str.ofString "").length = 0 from rfl, h1]
    omega
  have hb := w_join hj
  rw [List.map_map] at hb
  replace hb : joinIV (.d (.str ("" : Str))) (.own (cs.map fun c => D.str ⟨#[c]⟩)) = some (.d (.str (Str.join (Str.ofString "") (cs.map fun c => (⟨#[c]⟩ : Str))))) := hb
  have lb : (Str.join (Str.ofString "") (cs.map fun c => (⟨#[c]⟩ : Str))).length = n := by
    rw [sg_len, sg_join0, List.map_map]
    show ((cs.map fun c => [c]).flatten).length = n
    rw [← h1]
    clear hj hb h1 h2 h3 hq
    induction cs with
    | nil => rfl
    | cons x xs ih => simp [ih]
  generalize Str.join (Str.ofString "") (cs.map fun c => (⟨#[c]⟩ : Str)) = T at *
  generalize cs.map (fun c => D.str ⟨#[c]⟩) = CS at *
  clear h1 hj hq
  subst lb
  obtain ⟨a6, c7⟩ := s
  replace h2 : c6 ≤ c7 := h2
  replace h3 : c7 ≤ c6 + (T.length : Int) := h3
  clear t1 t2 t3 t4 t5 iz ix
  have tk6 := (show TakeS Φ from H) a6 c7 3 (by omega) (by omega) (by omega) (by omega)
  generalize tR a6 c7 3 = r6 at *
  generalize tA a6 3 = a7 at *
  by_cases h6 : r6 = 0
  · have d6 : decide (r6 = 0) = true := decide_eq_true h6
    clear h6
    by_cases hT : T = ("" : Str)
    · have dT : decide (T = ("" : Str)) = true := decide_eq_true hT
      clear hT
      have lT2 : (T).length ≤ 62 := by omega
      have tk8 := (show TakeS Φ from H) a7 (c7 + 1) 8 (by omega) (by omega) (by omega) (by omega)
      generalize tR a7 (c7 + 1) 8 = r8 at *
      generalize tA a7 8 = a20 at *
      generalize hT2 : T = T2 at *
      clear hT2 H
      by_cases h8 : r8 = 0
      · have d8 : decide (r8 = 0) = true := decide_eq_true h8
        have l0 : (("0" : Str)).length = 1 := rfl
        have sa : addIV (.d (.str ("0" : Str))) (.d (.str T2)) = some (.d (.str (("0" : Str) ++ T2))) := w_strA (by omega)
        have la : (("0" : Str) ++ T2).length ≤ 64 := by rw [sg_len, sg_app, List.length_append, ← sg_len, ← sg_len]; omega
        generalize ("0" : Str) ++ T2 = T3 at *
        clear h8 l0
        walk_at "evh"
        exact ⟨T3, a20, (c7 + 1) + 1, rfl, la, by omega, by omega⟩
      · have d8 : decide (r8 = 0) = false := decide_eq_false h8
        clear h8
        walk_at "evh"
        exact ⟨T2, a20, (c7 + 1) + 1, rfl, by omega, by omega, by omega⟩
    · have dT : decide (T = ("" : Str)) = false := decide_eq_false hT
      have l1 : 1 ≤ T.length := by
        rcases Nat.eq_zero_or_pos T.length with z | z
        · exact absurd (sg_ext (by rw [List.length_eq_zero_iff.mp (show (sg T).length = 0 by rw [← sg_len]; exact z)]; rfl)) hT
        · exact z
      clear hT
      have tk9 := (show TakeS Φ from H) a7 (c7 + 1) (T.length : Int) (by omega) (by omega) (by omega) (by omega)
      obtain ⟨v1, v2⟩ := tR_bd a7 (c7 + 1) (b := (T.length : Int)) (by omega)
      generalize tR a7 (c7 + 1) (T.length : Int) = at_ at *
      generalize tA a7 (T.length : Int) = a10 at *
      have tk11 := (show TakeS Φ from H) a10 (c7 + 1 + 1) 9 (by omega) (by omega) (by omega) (by omega)
      obtain ⟨v3, v4⟩ := tR_bd a10 (c7 + 1 + 1) (b := 9) (by omega)
      generalize tR a10 (c7 + 1 + 1) 9 = r9 at *
      generalize tA a10 9 = a12 at *
      obtain ⟨x, hx⟩ := sign_at (s := ("0a- Z9._+" : Str)) v3 (by rw [show (("0a- Z9._+" : Str)).length = 9 from rfl]; omega)
      have cl := len_cuts v1 v2
      have lx : ((⟨#[x]⟩ : Str)).length = 1 := rfl
      have q1 : addIV (.d (.str (L2.cutS T none (some at_)))) (.d (.str ⟨#[x]⟩)) = some (.d (.str (L2.cutS T none (some at_) ++ ⟨#[x]⟩))) := w_strA (by omega)
      have lq : (L2.cutS T none (some at_) ++ (⟨#[x]⟩ : Str)).length = (L2.cutS T none (some at_)).length + 1 := by rw [sg_len, sg_app, List.length_append, ← sg_len, sg_one]; rfl
      have q2 : addIV (.d (.str (L2.cutS T none (some at_) ++ ⟨#[x]⟩))) (.d (.str (L2.cutS T (some (at_ + 1)) none))) = some (.d (.str (L2.cutS T none (some at_) ++ ⟨#[x]⟩ ++ L2.cutS T (some (at_ + 1)) none))) := w_strA (by omega)
      have lq2 : (L2.cutS T none (some at_) ++ (⟨#[x]⟩ : Str) ++ L2.cutS T (some (at_ + 1)) none).length ≤ 62 := by rw [sg_len, sg_app, List.length_append, ← sg_len, ← sg_len]; omega
      have l9 : (("0a- Z9._+" : Str)).length = 9 := rfl
      have lT2 : (L2.cutS T none (some at_) ++ (⟨#[x]⟩ : Str) ++ L2.cutS T (some (at_ + 1)) none).length ≤ 62 := lq2
      have tk8 := (show TakeS Φ from H) a12 (c7 + 1 + 1 + 1) 8 (by omega) (by omega) (by omega) (by omega)
      generalize tR a12 (c7 + 1 + 1 + 1) 8 = r8 at *
      generalize tA a12 8 = a20 at *
      generalize hT2 : L2.cutS T none (some at_) ++ (⟨#[x]⟩ : Str) ++ L2.cutS T (some (at_ + 1)) none = T2 at *
      clear hT2 H
      by_cases h8 : r8 = 0
      · have d8 : decide (r8 = 0) = true := decide_eq_true h8
        have l0 : (("0" : Str)).length = 1 := rfl
        have sa : addIV (.d (.str ("0" : Str))) (.d (.str T2)) = some (.d (.str (("0" : Str) ++ T2))) := w_strA (by omega)
        have la : (("0" : Str) ++ T2).length ≤ 64 := by rw [sg_len, sg_app, List.length_append, ← sg_len, ← sg_len]; omega
        generalize ("0" : Str) ++ T2 = T3 at *
        clear h8 l0
        walk_at "evh"
        exact ⟨T3, a20, (c7 + 1 + 1 + 1) + 1, rfl, la, by omega, by omega⟩
      · have d8 : decide (r8 = 0) = false := decide_eq_false h8
        clear h8
        walk_at "evh"
        exact ⟨T2, a20, (c7 + 1 + 1 + 1) + 1, rfl, by omega, by omega, by omega⟩
  · have d6 : decide (r6 = 0) = false := decide_eq_false h6
    clear h6
    have lT2 : (T).length ≤ 62 := by omega
    have tk8 := (show TakeS Φ from H) a7 (c7 + 1) 8 (by omega) (by omega) (by omega) (by omega)
    generalize tR a7 (c7 + 1) 8 = r8 at *
    generalize tA a7 8 = a20 at *
    generalize hT2 : T = T2 at *
    clear hT2 H
    by_cases h8 : r8 = 0
    · have d8 : decide (r8 = 0) = true := decide_eq_true h8
      have l0 : (("0" : Str)).length = 1 := rfl
      have sa : addIV (.d (.str ("0" : Str))) (.d (.str T2)) = some (.d (.str (("0" : Str) ++ T2))) := w_strA (by omega)
      have la : (("0" : Str) ++ T2).length ≤ 64 := by rw [sg_len, sg_app, List.length_append, ← sg_len, ← sg_len]; omega
      generalize ("0" : Str) ++ T2 = T3 at *
      clear h8 l0
      walk_at "evh"
      exact ⟨T3, a20, (c7 + 1) + 1, rfl, la, by omega, by omega⟩
    · have d8 : decide (r8 = 0) = false := decide_eq_false h8
      clear h8
      walk_at "evh"
      exact ⟨T2, a20, (c7 + 1) + 1, rfl, by omega, by omega, by omega⟩
def lettL : List Nat := sg ("abcdefghijklmnopqrstuvwxyz" : Str)
def figL : List Nat := sg ("0123456789" : Str)
def isNm (s : Str) : Bool := decide (1 ≤ s.length) && decide (s.length ≤ 8) && (sg s).all fun c => decide (c ∈ lettL)
abbrev IsNameS (Φ : Fenv) : Prop := ∀ s : Str, s.length ≤ 1000 → Φ "is_name" [.d (.str s)] = some (.d (.bl (isNm s)), [.d (.str s)])
theorem all_sgs (f : Nat → Bool) (cs : List Nat) : allIV (.own (cs.map fun c => D.bl (f c))) = some (.d (.bl (cs.all f))) := by
  have := y_all (bs := cs.map f)
  rw [List.map_map, List.all_map] at this
  exact this
theorem in_sign {c : Nat} {t : Str} : inIV false (.d (.str ⟨#[c]⟩)) (.d (.str t)) = some (.d (.bl (decide (c ∈ sg t)))) := rfl
theorem is_name_run {Φ : Fenv} {s : Str} (h : s.length ≤ 1000) : runD Φ 1 2 b_is_name [.d (.str s)] = some (.d (.bl (isNm s)), [.d (.str s)]) := by
  have sq : ∀ env, seqIK (some (.d (.str s), env)) = some ((sg s).map fun c => D.str ⟨#[c]⟩, env) := fun _ => rfl
  have al := all_sgs (fun c => decide (c ∈ lettL)) (sg s)
  unfold b_is_name
  by_cases h0 : s.length = 0
  · have d0 : decide ((s.length : Int) = 0) = true := decide_eq_true (by omega)
    have e : isNm s = false := by unfold isNm; rw [decide_eq_false (by omega)]; rfl
    rw [e]
    clear h0 e al sq
    walk_at "evh"
  · have d0 : decide ((s.length : Int) = 0) = false := decide_eq_false (by omega)
    by_cases h8 : s.length ≤ 8
    · have d8 : decide ((8 : Int) < (s.length : Int)) = false := decide_eq_false (by omega)
      have e : isNm s = (sg s).all fun c => decide (c ∈ lettL) := by unfold isNm; rw [decide_eq_true (by omega), decide_eq_true h8]; rfl
      rw [e]
      clear h0 e
      walk_at "evh"
      generalize hq : compL _ _ _ _ _ _ _ _ = q
      have e := comp_all hq (fun c : Nat => D.str ⟨#[c]⟩) (sg s) rfl (fun c => D.bl (decide (c ∈ lettL))) (by have := sg_len s; simp; omega) (fun c hc => by
        have i := in_sign (c := c) (t := ("abcdefghijklmnopqrstuvwxyz" : Str))
        have i2 : inIV false (.d (.str ⟨#[c]⟩)) (.d (.str ("abcdefghijklmnopqrstuvwxyz" : Str))) = some (.d (.bl (decide (c ∈ lettL)))) := i
        clear hq hc al sq i
        unfold b_is_name_c1
        walk_at "evh")
      rw [List.nil_append] at e
      rw [e]
      clear e hq
      walk_at "evh"
    · have d8 : decide ((8 : Int) < (s.length : Int)) = true := decide_eq_true (by omega)
      have e : isNm s = false := by unfold isNm; rw [decide_eq_false h8, Bool.and_false]; rfl
      rw [e]
      clear h0 e al sq
      walk_at "evh"
def fstZ (s : Str) : Bool := decide ((sg s)[0]? = some 48)
def numIn (s : Str) (m : Int) : Option Int := if s.length = 0 ∨ m < s.length then none else if fstZ s = true ∧ 1 < s.length then none else if ((sg s).all fun c => decide (c ∈ figL)) then some ((NumText.digitsVal (sg s) : Nat) : Int) else none
abbrev NumInS (Φ : Fenv) : Prop := ∀ (s : Str) (m : Int), s.length ≤ 600 → Φ "number_in" [.d (.str s), .d (.int m)] = some (.d (optD (numIn s m)), [.d (.str s), .d (.int m)])
theorem one_eq {c d : Nat} : decide ((⟨#[c]⟩ : Str) = (⟨#[d]⟩ : Str)) = decide (c = d) := by
  by_cases h : c = d
  · rw [h]; simp
  · rw [decide_eq_false h]
    exact decide_eq_false fun e => h (by
      have : sg (⟨#[c]⟩ : Str) = sg (⟨#[d]⟩ : Str) := by rw [e]
      rw [sg_one, sg_one] at this
      exact (List.cons.inj this).1)
theorem zero_one : ("0" : Str) = (⟨#[48]⟩ : Str) := by rfl
theorem fig_iff : ∀ c, c ∈ figL ↔ 48 ≤ c ∧ c ≤ 57 := by
  have e : figL = [48, 49, 50, 51, 52, 53, 54, 55, 56, 57] := by decide +kernel
  intro c
  rw [e]
  simp only [List.mem_cons, List.not_mem_nil, or_false]
  omega
theorem all_digits {s : Str} (h : ((sg s).all fun c => decide (c ∈ figL)) = true) : NumText.AllDigits (sg s) := fun c hc => (fig_iff c).mp (of_decide_eq_true (List.all_eq_true.mp h c hc))
theorem int_of_s {s : Str} (h : ((sg s).all fun c => decide (c ∈ figL)) = true) (h1 : s.length ≠ 0) (h2 : s.length ≤ 600) : intIV (.d (.str s)) = some (.d (.int ((NumText.digitsVal (sg s) : Nat) : Int))) := by
  have ne : sg s ≠ [] := fun z => h1 (by rw [sg_len, z]; rfl)
  show (if s.length ≤ 640 then (intText? s).bind fun n => some (IV.d (.int n)) else none) = _
  rw [if_pos (by omega), intText_digits (all_digits h) ne (by omega)]; rfl
theorem number_in_run {Φ : Fenv} {s : Str} {m : Int} (h : s.length ≤ 600) : runD Φ 2 3 b_number_in [.d (.str s), .d (.int m)] = some (.d (optD (numIn s m)), [.d (.str s), .d (.int m)]) := by
  have sq : ∀ env, seqIK (some (.d (.str s), env)) = some ((sg s).map fun c => D.str ⟨#[c]⟩, env) := fun _ => rfl
  have al := all_sgs (fun c => decide (c ∈ figL)) (sg s)
  have o0 : optD none = .non := rfl
  unfold b_number_in numIn
  by_cases h0 : s.length = 0
  · have d0 : decide ((s.length : Int) = 0) = true := decide_eq_true (by omega)
    rw [if_pos (.inl h0)]
    clear h0 al sq
    walk_at "evh"
  · have d0 : decide ((s.length : Int) = 0) = false := decide_eq_false (by omega)
    by_cases hm : m < (s.length : Int)
    · have d1 : decide (m < (s.length : Int)) = true := decide_eq_true hm
      rw [if_pos (.inr hm)]
      clear h0 hm al sq
      walk_at "evh"
    · have d1 : decide (m < (s.length : Int)) = false := decide_eq_false hm
      rw [if_neg (fun z => z.elim h0 hm)]
      obtain ⟨c0, hc0⟩ : ∃ c0, (sg s)[0]? = some c0 := ⟨_, List.getElem?_eq_getElem (by have := sg_len s; omega)⟩
      have a0 : L2.atI s.cps.toList 0 = some c0 := by rw [atI_int (Int.le_refl 0)]; exact hc0
      have fz : fstZ s = decide ((⟨#[c0]⟩ : Str) = ("0" : Str)) := by
        unfold fstZ
        rw [zero_one, one_eq, hc0]
        by_cases e : c0 = 48
        · rw [e]; simp
        · rw [decide_eq_false e]; exact decide_eq_false fun z => e (Option.some.inj z)
      by_cases hz : fstZ s = true ∧ 1 < s.length
      · have z1 : decide ((⟨#[c0]⟩ : Str) = ("0" : Str)) = true := fz ▸ hz.1
        have z2 : decide (1 < (s.length : Int)) = true := decide_eq_true (by omega)
        rw [if_pos hz]
        clear h0 hm hz fz hc0 al sq
        walk_at "evh"
      · rw [if_neg hz]
        have rest : rnK [.d (.str s), .d (.int m)] (seqK (sSeq (sIf (tdNot (tdV (dPrim (p1 allIV) [oV (dComp (itSeq (dNm 0)) (.nm 2) (tdYes) (b_number_in_c1) [2])]))) (sSeq (sRet (dC .non)) (sSkip)) (sSkip)) (sSeq (sRet (dPrim (p1 intIV) [oNm 0])) (sSkip))) Φ (lkOf [.d (.str s), .d (.int m)]) (some (.nx, [some (.d (.str s)), some (.d (.int m)), none]))) = some (.d (optD (if ((sg s).all fun c => decide (c ∈ figL)) then some ((NumText.digitsVal (sg s) : Nat) : Int) else none)), [.d (.str s), .d (.int m)]) := by
          have h0' : Hid (s.length ≠ 0) := h0
          have HA : Hid (allIV (.own ((sg s).map fun c => D.bl (decide (c ∈ figL)))) = some (.d (.bl ((sg s).all fun c => decide (c ∈ figL))))) := al
          clear hz fz hc0 hm h0 al
          walk_at "evh"
          generalize hq : compL _ _ _ _ _ _ _ _ = q
          have e := comp_all hq (fun c : Nat => D.str ⟨#[c]⟩) (sg s) rfl (fun c => D.bl (decide (c ∈ figL))) (by have := sg_len s; simp; omega) (fun c hc => by
            have i := in_sign (c := c) (t := ("0123456789" : Str))
            have i2 : inIV false (.d (.str ⟨#[c]⟩)) (.d (.str ("0123456789" : Str))) = some (.d (.bl (decide (c ∈ figL)))) := i
            clear hq hc sq i a0
            unfold b_number_in_c1
            walk_at "evh")
          rw [List.nil_append] at e
          rw [e]
          clear e hq
          have al := (show allIV (.own ((sg s).map fun c => D.bl (decide (c ∈ figL)))) = _ from HA)
          cases hA : (sg s).all fun c => decide (c ∈ figL) with
          | false =>
            rw [hA] at al
            clear hA sq a0 HA
            rw [if_neg (by simp)]
            walk_at "evh"
          | true =>
            rw [hA] at al
            have iv := int_of_s hA (show s.length ≠ 0 from h0') h
            have o1 : optD (some ((NumText.digitsVal (sg s) : Nat) : Int)) = .int ((NumText.digitsVal (sg s) : Nat) : Int) := rfl
            clear hA sq a0 HA h0'
            rw [if_pos rfl]
            walk_at "evh"
        obtain ⟨RST, hR⟩ : ∃ R, R = (sSeq (sIf (tdNot (tdV (dPrim (p1 allIV) [oV (dComp (itSeq (dNm 0)) (.nm 2) (tdYes) (b_number_in_c1) [2])]))) (sSeq (sRet (dC .non)) (sSkip)) (sSkip)) (sSeq (sRet (dPrim (p1 intIV) [oNm 0])) (sSkip))) := ⟨_, rfl⟩
        rw [← hR] at rest ⊢
        clear hR al sq
        generalize (if ((sg s).all fun c => decide (c ∈ figL)) = true then some ((NumText.digitsVal (sg s) : Nat) : Int) else none) = ZZ at *
        cases hz1 : decide ((⟨#[c0]⟩ : Str) = ("0" : Str)) with
        | false =>
          clear hz fz hc0 h0 hm
          walk_at "evh"
          exact rest
        | true =>
          have z2 : decide (1 < (s.length : Int)) = false := decide_eq_false fun z => hz ⟨fz.trans hz1, by omega⟩
          clear hz fz hc0 h0 hm
          walk_at "evh"
          exact rest
abbrev ValueS (Φ : Fenv) : Prop := ∀ s : Str, s.length ≤ 600 → ((sg s).all fun c => decide (c ∈ figL)) = true → Φ "_law_value" [.d (.str s)] = some (.d (.int ((NumText.digitsVal (sg s) : Nat) : Int)), [.d (.str s)])
theorem fig_index {c : Nat} (h : c ∈ figL) : sindexIV (.d (.str ("0123456789" : Str))) (.d (.str ⟨#[c]⟩)) = some (.d (.int ((c : Int) - 48))) := by
  have e : figL = [48, 49, 50, 51, 52, 53, 54, 55, 56, 57] := by decide +kernel
  rw [e] at h
  simp only [List.mem_cons, List.not_mem_nil, or_false] at h
  rcases h with rfl | rfl | rfl | rfl | rfl | rfl | rfl | rfl | rfl | rfl <;> kernel_rfl
theorem value_run {Φ : Fenv} {s : Str} (h : s.length ≤ 600) (hf : ((sg s).all fun c => decide (c ∈ figL)) = true) : runD Φ 1 3 b_law_value [.d (.str s)] = some (.d (.int ((NumText.digitsVal (sg s) : Nat) : Int)), [.d (.str s)]) := by
  have sq : ∀ env, seqIK (some (.d (.str s), env)) = some ((sg s).map fun c => D.str ⟨#[c]⟩, env) := fun _ => rfl
  have H : Hid (∀ c ∈ sg s, c ∈ figL) := fun c hc => of_decide_eq_true (List.all_eq_true.mp hf c hc)
  have fd := TL.fold_digits (sg s) 0 (all_digits hf)
  clear hf
  unfold b_law_value
  walk_at "evh"
  generalize hq : forL _ _ _ _ _ _ = q
  obtain ⟨v, rfl⟩ := for_fold hq (fun c : Nat => D.str ⟨#[c]⟩) (sg s) rfl (fun t : Int => [(1, some (.d (.int t)))]) [2] (fun (t : Int) (c : Nat) => t * 10 + ((c : Int) - 48)) 0 rfl (fun i c v t hy _ => by
    have fi := fig_index ((show ∀ c ∈ sg s, c ∈ figL from H) c (List.mem_of_getElem? hy))
    clear hq hy sq fd H
    unfold b_law_value_l1
    walk_at "evh"
    exact ⟨_, rfl, rfl⟩)
  have e : (sg s).foldl (fun (t : Int) (c : Nat) => t * 10 + ((c : Int) - 48)) 0 = ((NumText.digitsVal (sg s) : Nat) : Int) := fd
  rw [e]
  clear hq fd e sq H
  walk_at "evh"
theorem filt_all {p : Nat → Bool} : ∀ l : List Nat, decide (((l.filter p).length : Int) = (l.length : Int)) = l.all p
  | [] => rfl
  | x :: l => by
    have ih := filt_all (p := p) l
    have le := List.length_filter_le p l
    rw [List.filter_cons, List.all_cons]
    cases h : p x
    · rw [if_neg (by simp), Bool.false_and]
      exact decide_eq_false (by rw [List.length_cons]; omega)
    · rw [if_pos rfl, Bool.true_and, ← ih, List.length_cons, List.length_cons]
      by_cases q : (((l.filter p).length : Int) = (l.length : Int))
      · rw [decide_eq_true q]; exact decide_eq_true (by omega)
      · rw [decide_eq_false q]; exact decide_eq_false (by omega)
theorem nm_eq (s : Str) : isNm s = (((sg s).all fun c => decide (c ∈ lettL)) && (decide ((0 : Int) < (s.length : Int)) && decide ((s.length : Int) < 9))) := by
  unfold isNm
  have a1 : decide (1 ≤ s.length) = decide ((0 : Int) < (s.length : Int)) := by
    by_cases h : 1 ≤ s.length
    · rw [decide_eq_true h]; exact (decide_eq_true (by omega)).symm
    · rw [decide_eq_false h]; exact (decide_eq_false (by omega)).symm
  have a2 : decide (s.length ≤ 8) = decide ((s.length : Int) < 9) := by
    by_cases h : s.length ≤ 8
    · rw [decide_eq_true h]; exact (decide_eq_true (by omega)).symm
    · rw [decide_eq_false h]; exact (decide_eq_false (by omega)).symm
  rw [a1, a2, Bool.and_comm]
theorem ne_bls (z : Bool) : neIV (.d (.bl z)) (.d (.bl z)) = some (.d (.bl false)) := by
  have c : cmpOk (.bl z) = true := by cases z <;> decide +kernel
  have e : eqD (.bl z) (.bl z) = true := by cases z <;> decide +kernel
  show (if cmpOk (.bl z) && cmpOk (.bl z) then some (IV.d (.bl (!eqD (.bl z) (.bl z)))) else none) = _
  rw [c, e]; rfl
theorem ne_nons : neIV (.d .non) (.d .non) = some (.d (.bl false)) := by kernel_rfl
def b_law_l1_r9 : SDen := sSeq (sSet 4 (dCall "number_in" [oNm 3, oNm 6])) (sSeq (sIf (tdOr (tdV (dPrim (p2 neIV) [oNm 4, oNm 8])) (tdAnd (tdV (dPrim (p2 (isIV true)) [oNm 8, oV (dC .non)])) (tdOr (tdNot (tdV (dPrim (p2 isiIV) [oNm 4, oV (dC (.ty "int"))]))) (tdV (dPrim (p2 isiIV) [oNm 4, oV (dC (.ty "bool"))]))))) (sSeq (sRet (dC (.bl false))) (sSkip)) (sSkip)) (sSkip))
def b_law_l1_r7 : SDen := sSeq (sSet 8 (dC .non)) (sSeq (sIf (tdAnd (tdV (dPrim (p2 eqIV) [oV (dPrim (p1 lenIV) [oNm 7]), oV (dPrim (p1 lenIV) [oNm 3])])) (tdAnd (tdV (dChain (fun i j => decide (i < j)) (fun i j => decide (i ≤ j)) (dC (.int 0)) (dPrim (p1 lenIV) [oNm 3]) (dNm 6))) (tdOr (tdV (dPrim (p2 eqIV) [oNm 3, oV (dC (.str ("0" : Str)))])) (tdV (dPrim (p2 neIV) [oV (dPrim (p2 idxIV) [oNm 3, oV (dC (.int 0))]), oV (dC (.str ("0" : Str)))]))))) (sSeq (sSet 8 (dCall "_law_value" [oNm 3])) (sSkip)) (sSkip)) (b_law_l1_r9))
def b_law_l1_r5 : SDen := sSeq (sSet 6 (dPrim (p2 idxIV) [oV (dPrim pLst [oV (dFz (dC (.int 1))), oV (dFz (dC (.int 12))), oV (dFz (dC (.int 60))), oV (dFz (dPrim (p2 addIV) [oV (dC (.int 1)), oV (dCall "_law_take" [oNm 2, oV (dC (.int 60))])])), oV (dFz (dPrim (p2 max2) [oV (dC (.int 1)), oV (dPrim (p2 min2) [oV (dC (.int 60)), oV (dPrim (p1 lenIV) [oNm 3])])]))]), oV (dCall "_law_take" [oNm 2, oV (dC (.int 5))])])) (sSeq (sSet 7 (dComp (itSeq (dNm 3)) (.nm 9) (b_law_t3) (b_law_c3) [9])) (b_law_l1_r7))
theorem b_law_l1_e : b_law_l1 = sSeq (sSet 2 (dPrim pLst [oV (dFz (dPrim (p2 idxIV) [oNm 0, oNm 1])), oV (dFz (dNm 1))])) (sSeq (sSet 3 (dCall "_law_text" [oNm 2])) (sSeq (sSet 4 (dCall "is_name" [oNm 3])) (sSeq (sSet 5 (dComp (itSeq (dNm 3)) (.nm 9) (b_law_t2) (b_law_c2) [9])) (sSeq (sIf (tdOr (tdNot (tdV (dPrim (p2 isiIV) [oNm 4, oV (dC (.ty "bool"))]))) (tdV (dPrim (p2 neIV) [oNm 4, oV (dAnd (dPrim (p2 eqIV) [oV (dPrim (p1 lenIV) [oNm 5]), oV (dPrim (p1 lenIV) [oNm 3])]) (dChain (fun i j => decide (i < j)) (fun i j => decide (i < j)) (dC (.int 0)) (dPrim (p1 lenIV) [oNm 3]) (dC (.int 9))))]))) (sSeq (sRet (dC (.bl false))) (sSkip)) (sSkip)) (b_law_l1_r5))))) := rfl
abbrev LKs (ns : List Int) : LK := lkOf [.d (.lst (ns.map D.int))]
theorem r9_run {Φ : Fenv} {ns : List Int} {s : Str} {m : Int} {o : Option Int} (n2 : Φ "number_in" [.d (.str s), .d (.int m)] = some (.d (optD o), [.d (.str s), .d (.int m)])) {v0 v1 v2 v4 v5 v7 v9 : Option IV} :
    ∃ w4, b_law_l1_r9 Φ (LKs ns) [v0, v1, v2, some (.d (.str s)), v4, v5, some (.d (.int m)), v7, some (.d (optD o)), v9] = some (.nx, [v0, v1, v2, some (.d (.str s)), w4, v5, some (.d (.int m)), v7, some (.d (optD o)), v9]) := by
  unfold b_law_l1_r9
  cases o with
  | none =>
    have o0 : optD none = .non := rfl
    have nn := ne_nons
    have i0 : isNon (.d .non) = true := rfl
    walk_at "evh"
    exact ⟨_, rfl⟩
  | some d =>
    have o0 : optD (some d) = .int d := rfl
    have i0 : isNon (.d (.int d)) = false := rfl
    have i1 : isiIV (.d (.int d)) (.d (.ty "int")) = some (.d (.bl true)) := rfl
    have i2 : isiIV (.d (.int d)) (.d (.ty "bool")) = some (.d (.bl false)) := rfl
    have e1 : neIV (.d (.int d)) (.d (.int d)) = some (.d (.bl false)) := by rw [w_neI]; simp
    walk_at "evh"
    exact ⟨_, rfl⟩
theorem eq0_iff {s : Str} {c0 : Nat} (h : (sg s)[0]? = some c0) : decide (s = ("0" : Str)) = (decide (c0 = 48) && decide (s.length = 1)) := by
  rw [zero_one]
  by_cases e : s = (⟨#[48]⟩ : Str)
  · rw [decide_eq_true e]
    subst e
    rw [sg_one] at h
    cases h; rfl
  · rw [decide_eq_false e]
    by_cases e1 : c0 = 48
    · by_cases e2 : s.length = 1
      · exfalso
        refine e (sg_ext ?_)
        rw [sg_one]
        rw [sg_len] at e2
        obtain ⟨x, hx⟩ := List.length_eq_one_iff.mp e2
        rw [hx] at h ⊢
        cases h
        rw [e1]
      · rw [decide_eq_false e2, Bool.and_false]
    · rw [decide_eq_false e1, Bool.false_and]
theorem r7_run {Φ : Fenv} {ns : List Int} {s : Str} {m : Int} (hl : s.length ≤ 600) (n2 : Φ "number_in" [.d (.str s), .d (.int m)] = some (.d (optD (numIn s m)), [.d (.str s), .d (.int m)])) (n3 : ((sg s).all fun c => decide (c ∈ figL)) = true → Φ "_law_value" [.d (.str s)] = some (.d (.int ((NumText.digitsVal (sg s) : Nat) : Int)), [.d (.str s)])) {v0 v1 v2 v4 v5 v8 v9 : Option IV} :
    ∃ w4 w8, b_law_l1_r7 Φ (LKs ns) [v0, v1, v2, some (.d (.str s)), v4, v5, some (.d (.int m)), some (.own (((sg s).filter fun c => decide (c ∈ figL)).map fun c => D.str ⟨#[c]⟩)), v8, v9] = some (.nx, [v0, v1, v2, some (.d (.str s)), w4, v5, some (.d (.int m)), some (.own (((sg s).filter fun c => decide (c ∈ figL)).map fun c => D.str ⟨#[c]⟩)), w8, v9]) := by
  have ln2 : lenIV (.own (((sg s).filter fun c => decide (c ∈ figL)).map fun c => D.str ⟨#[c]⟩)) = some (.d (.int (((sg s).filter fun c => decide (c ∈ figL)).length : Int))) := by
    show some (IV.d (.int ((List.map _ _).length : Nat))) = _
    rw [List.length_map]
  have fb := filt_all (p := fun c => decide (c ∈ figL)) (sg s)
  rw [← sg_len] at fb
  have R : Hid (∀ v0 v1 v2 v4 v5 v7 v9 : Option IV, ∃ w4, b_law_l1_r9 Φ (LKs ns) [v0, v1, v2, some (.d (.str s)), v4, v5, some (.d (.int m)), v7, some (.d (optD (numIn s m))), v9] = some (.nx, [v0, v1, v2, some (.d (.str s)), w4, v5, some (.d (.int m)), v7, some (.d (optD (numIn s m))), v9])) := fun _ _ _ _ _ _ _ => r9_run n2
  clear n2
  generalize (((sg s).filter fun c => decide (c ∈ figL)).map fun c => D.str ⟨#[c]⟩) = FG at *
  generalize ((sg s).filter fun c => decide (c ∈ figL)).length = fl at *
  unfold b_law_l1_r7
  obtain ⟨r, hr⟩ : ∃ r, b_law_l1_r9 = r := ⟨_, rfl⟩
  rw [hr]
  rw [hr] at R
  clear hr
  have key : ∀ (x : D) (v7 : Option IV), x = optD (numIn s m) → ∃ w4 w8, r Φ (LKs ns) [v0, v1, v2, some (.d (.str s)), v4, v5, some (.d (.int m)), v7, some (.d x), v9] = some (.nx, [v0, v1, v2, some (.d (.str s)), w4, v5, some (.d (.int m)), v7, w8, v9]) := fun x v7 hx => by
    subst hx
    obtain ⟨w4, e⟩ := (show ∀ v0 v1 v2 v4 v5 v7 v9 : Option IV, _ from R) v0 v1 v2 v4 v5 v7 v9
    exact ⟨w4, _, e⟩
  have K : Hid (∀ (x : D) (v7 : Option IV), x = optD (numIn s m) → ∃ w4 w8, r Φ (LKs ns) [v0, v1, v2, some (.d (.str s)), v4, v5, some (.d (.int m)), v7, some (.d x), v9] = some (.nx, [v0, v1, v2, some (.d (.str s)), w4, v5, some (.d (.int m)), v7, w8, v9])) := key
  clear key R
  cases hA : (sg s).all fun c => decide (c ∈ figL) with
  | false =>
    have e : numIn s m = none := by unfold numIn; rw [hA]; simp
    rw [hA] at fb
    clear hA n3
    walk_at "evh"
    exact (show ∀ (x : D) (v7 : Option IV), _ from K) _ _ (by rw [e]; rfl)
  | true =>
    rw [hA] at fb
    by_cases h0 : s.length = 0
    · have e : numIn s m = none := by unfold numIn; rw [if_pos (.inl h0)]
      have d0 : decide ((0 : Int) < (s.length : Int)) = false := decide_eq_false (by omega)
      clear hA n3 h0
      walk_at "evh"
      exact (show ∀ (x : D) (v7 : Option IV), _ from K) _ _ (by rw [e]; rfl)
    · have d0 : decide ((0 : Int) < (s.length : Int)) = true := decide_eq_true (by omega)
      by_cases hm : m < (s.length : Int)
      · have e : numIn s m = none := by unfold numIn; rw [if_pos (.inr hm)]
        have d1 : decide ((s.length : Int) ≤ m) = false := decide_eq_false (by omega)
        clear hA n3 h0 hm
        walk_at "evh"
        exact (show ∀ (x : D) (v7 : Option IV), _ from K) _ _ (by rw [e]; rfl)
      · have d1 : decide ((s.length : Int) ≤ m) = true := decide_eq_true (by omega)
        have n4 := n3 hA
        obtain ⟨c0, hc0⟩ : ∃ c0, (sg s)[0]? = some c0 := ⟨_, List.getElem?_eq_getElem (by have := sg_len s; omega)⟩
        have a0 : L2.atI s.cps.toList 0 = some c0 := by rw [atI_int (Int.le_refl 0)]; exact hc0
        have q0 := eq0_iff hc0
        have q1 : decide ((⟨#[c0]⟩ : Str) = ("0" : Str)) = decide (c0 = 48) := by rw [zero_one, one_eq]
        have q2 : fstZ s = decide (c0 = 48) := by
          unfold fstZ
          rw [hc0]
          by_cases e : c0 = 48
          · rw [e]; simp
          · rw [decide_eq_false e]; exact decide_eq_false fun z => e (Option.some.inj z)
        by_cases hz : c0 = 48
        · rw [decide_eq_true hz] at q0 q1 q2
          by_cases h1 : s.length = 1
          · have e : numIn s m = some ((NumText.digitsVal (sg s) : Nat) : Int) := by
              unfold numIn
              rw [if_neg (fun z => z.elim h0 hm), if_neg (by omega), hA, if_pos rfl]
            rw [decide_eq_true h1] at q0
            replace q0 : decide (s = ("0" : Str)) = true := q0
            clear hA n3 h0 hm q2 hc0 hz h1
            walk_at "evh"
            exact (show ∀ (x : D) (v7 : Option IV), _ from K) _ _ (by rw [e]; rfl)
          · have e : numIn s m = none := by
              unfold numIn
              rw [if_neg (fun z => z.elim h0 hm), if_pos ⟨q2, by omega⟩]
            rw [decide_eq_false h1] at q0
            replace q0 : decide (s = ("0" : Str)) = false := q0
            clear hA n3 h0 hm q2 hc0 hz h1
            walk_at "evh"
            exact (show ∀ (x : D) (v7 : Option IV), _ from K) _ _ (by rw [e]; rfl)
        · rw [decide_eq_false hz] at q0 q1 q2
          have e : numIn s m = some ((NumText.digitsVal (sg s) : Nat) : Int) := by
            unfold numIn
            rw [if_neg (fun z => z.elim h0 hm), if_neg (fun z => by rw [q2] at z; cases z.1), hA, if_pos rfl]
          replace q0 : decide (s = ("0" : Str)) = false := q0
          clear hA n3 h0 hm q2 hc0 hz
          walk_at "evh"
          exact (show ∀ (x : D) (v7 : Option IV), _ from K) _ _ (by rw [e]; rfl)
theorem r5_run {Φ : Fenv} (ht : TakeS Φ) {ns : List Int} {s : Str} (hl : s.length ≤ 64) (hnu : NumInS Φ) (hva : ValueS Φ) {a1 c1 : Int} (h0 : 0 ≤ c1) (h1 : c1 < 2 ^ 55) {v0 v1 v4 v5 v6 v7 v8 v9 : Option IV} :
    ∃ w2 w4 w6 w7 w8 w9, b_law_l1_r5 Φ (LKs ns) [v0, v1, some (.own [.int a1, .int c1]), some (.d (.str s)), v4, v5, v6, v7, v8, v9] = some (.nx, [v0, v1, w2, some (.d (.str s)), w4, v5, w6, w7, w8, w9]) := by
  have t1 := ht a1 c1 60 (by omega) (by omega) (by omega) (by omega)
  obtain ⟨u1, u2⟩ := tR_bd a1 c1 (b := 60) (by omega)
  generalize tR a1 c1 60 = r1 at *
  generalize tA a1 60 = a2 at *
  have t2 := ht a2 (c1 + 1) 5 (by omega) (by omega) (by omega) (by omega)
  obtain ⟨u3, u4⟩ := tR_bd a2 (c1 + 1) (b := 5) (by omega)
  generalize tR a2 (c1 + 1) 5 = r2 at *
  generalize tA a2 5 = a3 at *
  generalize hM2 : (if (s.length : Int) < 60 then (s.length : Int) else 60) = M2
  generalize hM1 : (if M2 > 1 then M2 else (1 : Int)) = M1
  have mn : min2 (.d (.int 60)) (.d (.int (s.length : Int))) = some (.d (.int M2)) := by rw [← hM2]; rfl
  have mx : max2 (.d (.int 1)) (.d (.int M2)) = some (.d (.int M1)) := by rw [← hM1]; rfl
  obtain ⟨m, im⟩ : ∃ m : Int, L2.atI ([.int 1, .int 12, .int 60, .int (1 + r1), .int M1] : List D) r2 = some (.int m) := by
    rcases (show r2 = 0 ∨ r2 = 1 ∨ r2 = 2 ∨ r2 = 3 ∨ r2 = 4 by omega) with rfl | rfl | rfl | rfl | rfl <;> exact ⟨_, rfl⟩
  have R : Hid (∀ v0 v1 v2 v4 v5 v8 v9 : Option IV, ∃ w4 w8, b_law_l1_r7 Φ (LKs ns) [v0, v1, v2, some (.d (.str s)), v4, v5, some (.d (.int m)), some (.own (((sg s).filter fun c => decide (c ∈ figL)).map fun c => D.str ⟨#[c]⟩)), v8, v9] = some (.nx, [v0, v1, v2, some (.d (.str s)), w4, v5, some (.d (.int m)), some (.own (((sg s).filter fun c => decide (c ∈ figL)).map fun c => D.str ⟨#[c]⟩)), w8, v9])) :=
    fun _ _ _ _ _ _ _ => r7_run (by omega) (hnu s m (by omega)) (hva s (by omega))
  have sq : ∀ env, seqIK (some (.d (.str s), env)) = some ((sg s).map fun c => D.str ⟨#[c]⟩, env) := fun _ => rfl
  clear ht hnu hva u1 u2 u3 u4 hM1 hM2 h0 h1
  unfold b_law_l1_r5
  obtain ⟨r, hr⟩ : ∃ r, b_law_l1_r7 = r := ⟨_, rfl⟩
  rw [hr]
  rw [hr] at R
  clear hr
  walk_at "evh"
  generalize hq : compL _ _ _ _ _ _ _ _ = q
  have e := comp_at hq (fun c : Nat => D.str ⟨#[c]⟩) (sg s) rfl (fun c => decide (c ∈ figL)) (fun c => D.str ⟨#[c]⟩) (by have := sg_len s; simp; omega) (fun c hc hp => by
    have i := in_sign (c := c) (t := ("0123456789" : Str))
    have i2 : inIV false (.d (.str ⟨#[c]⟩)) (.d (.str ("0123456789" : Str))) = some (.d (.bl (decide (c ∈ figL)))) := i
    rw [show decide (c ∈ figL) = true from hp] at i2
    clear hq hc hp i R sq t1 t2 im mn mx
    unfold b_law_t3 b_law_c3
    walk_at "evh") (fun c hc hp => by
    have i := in_sign (c := c) (t := ("0123456789" : Str))
    have i2 : inIV false (.d (.str ⟨#[c]⟩)) (.d (.str ("0123456789" : Str))) = some (.d (.bl (decide (c ∈ figL)))) := i
    rw [show decide (c ∈ figL) = false from hp] at i2
    clear hq hc hp i R sq t1 t2 im mn mx
    unfold b_law_t3
    walk_at "evh")
  rw [List.nil_append] at e
  rw [e]
  clear e hq sq t1 t2 im mn mx
  walk_at "evh"
  obtain ⟨w4, w8, e⟩ := (show ∀ v0 v1 v2 v4 v5 v8 v9 : Option IV, _ from R) v0 v1 (some (.own [.int a3, .int (c1 + 1 + 1)])) v4 v5 v8 v9
  exact ⟨_, _, _, _, _, _, e⟩
theorem l1_run {Φ : Fenv} (ht : TakeS Φ) (htx : TextS Φ) (hnm : IsNameS Φ) (hnu : NumInS Φ) (hva : ValueS Φ) (ns : List Int) (k : Nat) (hk : k < 63) (hk2 : k < ns.length) {v2 v3 v4 v5 v6 v7 v8 v9 : Option IV} :
    ∃ w2 w3 w4 w5 w6 w7 w8 w9, asK b_law_l1 Φ (LKs ns) (some [some (.d (.lst (ns.map D.int))), some (.d (.int (k : Int))), v2, v3, v4, v5, v6, v7, v8, v9]) = some (.nx, [some (.d (.lst (ns.map D.int))), some (.d (.int (k : Int))), w2, w3, w4, w5, w6, w7, w8, w9]) := by
  have ix : L2.atI (ns.map D.int) (k : Int) = some (.int ns[k]) := by rw [atI_nat, List.getElem?_map, List.getElem?_eq_getElem hk2]; rfl
  obtain ⟨s, a1, c1, x1, x2, x3, x4⟩ := htx ns[k] (k : Int) (by omega) (by omega)
  have n1 := hnm s (by omega)
  generalize ns[k] = a at *
  have sq : ∀ env, seqIK (some (.d (.str s), env)) = some ((sg s).map fun c => D.str ⟨#[c]⟩, env) := fun _ => rfl
  have nz := nm_eq s
  have R : Hid (∀ v0 v1 v4 v5 v6 v7 v8 v9 : Option IV, ∃ w2 w4 w6 w7 w8 w9, b_law_l1_r5 Φ (LKs ns) [v0, v1, some (.own [.int a1, .int c1]), some (.d (.str s)), v4, v5, v6, v7, v8, v9] = some (.nx, [v0, v1, w2, some (.d (.str s)), w4, v5, w6, w7, w8, w9])) := fun _ _ _ _ _ _ _ _ => r5_run ht x2 hnu hva (by omega) (by omega)
  have ln : lenIV (.own (((sg s).filter fun c => decide (c ∈ lettL)).map fun c => D.str ⟨#[c]⟩)) = some (.d (.int (((sg s).filter fun c => decide (c ∈ lettL)).length : Int))) := by
    show some (IV.d (.int ((List.map _ _).length : Nat))) = _
    rw [List.length_map]
  have fa := filt_all (p := fun c => decide (c ∈ lettL)) (sg s)
  rw [← sg_len] at fa
  have eb := ne_bls
  have ib : ∀ z : Bool, isiIV (.d (.bl z)) (.d (.ty "bool")) = some (.d (.bl true)) := fun _ => rfl
  clear ht htx hnm hnu hva x3 x4 hk hk2
  rw [v_asK, b_law_l1_e]
  obtain ⟨r, hr⟩ : ∃ r, b_law_l1_r5 = r := ⟨_, rfl⟩
  rw [hr]
  rw [hr] at R
  clear hr
  generalize isNm s = nm at *
  have NZ : Hid (nm = _) := nz
  clear nz
  walk_at "evh"
  generalize hq : compL _ _ _ _ _ _ _ _ = q
  have e := comp_at hq (fun c : Nat => D.str ⟨#[c]⟩) (sg s) rfl (fun c => decide (c ∈ lettL)) (fun c => D.str ⟨#[c]⟩) (by have := sg_len s; simp; omega) (fun c hc hp => by
    have i := in_sign (c := c) (t := ("abcdefghijklmnopqrstuvwxyz" : Str))
    have i2 : inIV false (.d (.str ⟨#[c]⟩)) (.d (.str ("abcdefghijklmnopqrstuvwxyz" : Str))) = some (.d (.bl (decide (c ∈ lettL)))) := i
    rw [show decide (c ∈ lettL) = true from hp] at i2
    clear hq hc hp i R sq x1 n1 ln fa ix
    unfold b_law_t2 b_law_c2
    walk_at "evh") (fun c hc hp => by
    have i := in_sign (c := c) (t := ("abcdefghijklmnopqrstuvwxyz" : Str))
    have i2 : inIV false (.d (.str ⟨#[c]⟩)) (.d (.str ("abcdefghijklmnopqrstuvwxyz" : Str))) = some (.d (.bl (decide (c ∈ lettL)))) := i
    rw [show decide (c ∈ lettL) = false from hp] at i2
    clear hq hc hp i R sq x1 n1 ln fa ix
    unfold b_law_t2
    walk_at "evh")
  rw [List.nil_append] at e
  rw [e]
  clear e hq sq x1 n1 ix
  generalize ((sg s).filter fun c => decide (c ∈ lettL)).map (fun c => D.str ⟨#[c]⟩) = LT at *
  generalize ((sg s).filter fun c => decide (c ∈ lettL)).length = fl at *
  have fin : ∀ v4 v5 v9 : Option IV, ∃ w2 w3 w4 w5 w6 w7 w8 w9, r Φ (LKs ns) [some (.d (.lst (ns.map D.int))), some (.d (.int (k : Int))), some (.own [.int a1, .int c1]), some (.d (.str s)), v4, v5, v6, v7, v8, v9] = some (.nx, [some (.d (.lst (ns.map D.int))), some (.d (.int (k : Int))), w2, w3, w4, w5, w6, w7, w8, w9]) := fun v4 v5 v9 => by
    obtain ⟨w2, w4, w6, w7, w8, w9, e⟩ := (show ∀ v0 v1 v4 v5 v6 v7 v8 v9 : Option IV, _ from R) (some (.d (.lst (ns.map D.int)))) (some (.d (.int (k : Int)))) v4 v5 v6 v7 v8 v9
    exact ⟨_, _, _, _, _, _, _, _, e⟩
  have FIN : Hid _ := fin
  clear fin R
  have nz := (show nm = (((sg s).all fun c => decide (c ∈ lettL)) && (decide ((0 : Int) < (s.length : Int)) && decide ((s.length : Int) < 9))) from NZ)
  clear NZ
  cases hA : (sg s).all fun c => decide (c ∈ lettL) with
  | false =>
    rw [hA] at fa nz
    rw [Bool.false_and] at nz
    subst nz
    clear hA
    walk_at "evh"
    exact (show ∀ v4 v5 v9 : Option IV, _ from FIN) _ _ _
  | true =>
    rw [hA] at fa nz
    rw [Bool.true_and] at nz
    clear hA
    cases h0 : decide ((0 : Int) < (s.length : Int)) with
    | false =>
      rw [h0, Bool.false_and] at nz
      subst nz
      walk_at "evh"
      exact (show ∀ v4 v5 v9 : Option IV, _ from FIN) _ _ _
    | true =>
      rw [h0, Bool.true_and] at nz
      cases h9 : decide ((s.length : Int) < 9) with
      | false =>
        rw [h9] at nz
        subst nz
        walk_at "evh"
        exact (show ∀ v4 v5 v9 : Option IV, _ from FIN) _ _ _
      | true =>
        rw [h9] at nz
        subst nz
        walk_at "evh"
        exact (show ∀ v4 v5 v9 : Option IV, _ from FIN) _ _ _
theorem law_run {Φ : Fenv} (ht : TakeS Φ) (htx : TextS Φ) (hnm : IsNameS Φ) (hnu : NumInS Φ) (hva : ValueS Φ) (ns : List Int) : ∃ out, runD Φ 1 10 b_law [.d (.lst (ns.map D.int))] = some (.d (.bl true), out) := by
  have H : Hid (TakeS Φ ∧ TextS Φ ∧ IsNameS Φ ∧ NumInS Φ ∧ ValueS Φ) := ⟨ht, htx, hnm, hnu, hva⟩
  clear ht htx hnm hnu hva
  have sl : slNH (.d (.lst (ns.map D.int))) (.d (.int 63)) = some (.own ((ns.take 63).map D.int)) := by
    show some (IV.own (cutL (ns.map D.int) none (some 63))) = _
    rw [show (63 : Int) = ((63 : Nat) : Int) from rfl, cut_to, List.map_take]
  have ln : lenIV (.own ((ns.take 63).map D.int)) = some (.d (.int ((ns.take 63).length : Int))) := by
    show some (IV.d (.int ((List.map _ _).length : Nat))) = _
    rw [List.length_map]
  have tl : (ns.take 63).length ≤ 63 := by rw [List.length_take]; omega
  have tl2 : (ns.take 63).length ≤ ns.length := by rw [List.length_take]; omega
  generalize (ns.take 63).length = n at *
  generalize (ns.take 63).map D.int = T at *
  unfold b_law
  walk_at "evh"
  generalize hq : forL _ _ _ _ _ _ = q
  obtain ⟨v, rfl⟩ := for_unit hq (fun k : Nat => D.int (k : Int)) (List.range n) (rangeD_int _) [1, 2, 3, 4, 5, 6, 7, 8, 9] (by rfl) (fun k hk v => by
    have hk := List.mem_range.mp hk
    obtain ⟨ht, htx, hnm, hnu, hva⟩ := (show TakeS Φ ∧ TextS Φ ∧ IsNameS Φ ∧ NumInS Φ ∧ ValueS Φ from H)
    obtain ⟨w2, w3, w4, w5, w6, w7, w8, w9, e⟩ := l1_run ht htx hnm hnu hva ns k (by omega) (by omega) (v2 := v 2) (v3 := v 3) (v4 := v 4) (v5 := v 5) (v6 := v 6) (v7 := v 7) (v8 := v 8) (v9 := v 9)
    exact ⟨_, e, rfl⟩)
  clear hq H sl ln
  walk_at "evh"
  exact ⟨_, rfl⟩
end SD
namespace SD
open PySem
theorem l_law_take : look T "_law_take" = some (b_law_take, 2, 4) := by kernel_rfl
theorem l_law_text : look T "_law_text" = some (b_law_text, 1, 6) := by kernel_rfl
theorem l_is_name : look T "is_name" = some (b_is_name, 1, 2) := by kernel_rfl
theorem l_number_in : look T "number_in" = some (b_number_in, 2, 3) := by kernel_rfl
theorem l_law_value : look T "_law_value" = some (b_law_value, 1, 3) := by kernel_rfl
theorem l_law : look T "law" = some (b_law, 1, 10) := by kernel_rfl
theorem S_TakeS (k : Nat) : TakeS (denF T (k + 1)) := by
  unfold TakeS
  intros
  rw [look_eq l_law_take k]
  apply take_run  <;> first | assumption | rfl | decide +kernel
theorem S_TextS (k : Nat) : TextS (denF T (k + 2)) := by
  unfold TextS
  intros
  rw [look_eq l_law_text (k + 1)]
  apply text_run (S_TakeS (k + 0)) <;> first | assumption | rfl | decide +kernel
theorem S_IsNameS (k : Nat) : IsNameS (denF T (k + 1)) := by
  unfold IsNameS
  intros
  rw [look_eq l_is_name k]
  apply is_name_run  <;> first | assumption | rfl | decide +kernel
theorem S_NumInS (k : Nat) : NumInS (denF T (k + 1)) := by
  unfold NumInS
  intros
  rw [look_eq l_number_in k]
  apply number_in_run  <;> first | assumption | rfl | decide +kernel
theorem S_ValueS (k : Nat) : ValueS (denF T (k + 1)) := by
  unfold ValueS
  intros
  rw [look_eq l_law_value k]
  apply value_run  <;> first | assumption | rfl | decide +kernel
theorem law_true : ∀ ns : List Int, ns.length ≤ 63 → ∃ out, denF T 3 "law" [.d (.lst (ns.map D.int))] = some (.d (.bl true), out) := fun ns hns => by
  rw [look_eq l_law 2]
  exact law_run (S_TakeS 1) (S_TextS 0) (S_IsNameS 1) (S_NumInS 1) (S_ValueS 1) ns
end SD
namespace Hd
open PySem PySem.Spec PyProof.Rows L2
theorem chk1 : SD.T.ds.all SD.okDef = true := by decide +kernel
theorem chk2 : SD.T.gl.all SD.okGl = true := by decide +kernel
theorem chk3 : ∃ d, SD.T.ds.find? (fun d' => d'.qual == ("law" : Str)) = some d ∧ d.at_ = (("law" : Str), none) ∧ d.name = ("law" : Str) ∧ SD.parsOf d = (["_law_script"] : List Str) := ⟨_, by rfl, by decide +kernel, by decide +kernel, by decide +kernel⟩
theorem chk4 : SD.okMs SD.T = true := by decide +kernel
theorem chk5 : SD.okFs SD.T = true := by decide +kernel
theorem chk6 : SD.T.ds.find? (fun d' => d'.qual == SD.keyL) = none := by rfl
theorem chk7 : SD.okXs SD.T = true := by decide +kernel
end Hd
open PySem PySem.W PySem.Calls PyProof.Rows
theorem PySem.Challenge.cw_shootdays_k02_names_and_numbers_holds : PySem.Challenge.rw_shootdays_k02_names_and_numbers.Holds := by
  w_on; o_law
  refine HandSHeadRun.head_any (r := Hd.R) (q := view Hd.R.prog [10]) (H := Hd.hk) (ob := Hd.ob) (M := 6000) (loose := Hd.loose) (d := HandSHeadRun.topDef Hd.R.prog 10) (kwd := []) Hd.ob_is
    (by kernel_rfl) (fun s => by kernel_rfl) Hd.run (by kernel_rfl) (by kernel_rfl) (by kernel_rfl) (by rfl) (by first | assumption | decide +kernel) (by decide +kernel) ⟨rfl, rfl, rfl, rfl, rfl, by decide +kernel⟩ ?hw ?hc
  case hw => w_witness2
  case hc =>
    refine SD.walk_of (l := PySem.Challenge.rw_shootdays_k02_names_and_numbers) (n := 63) (k := 3 + 2) (x := "_law_script") (CX := fun w => L2.CX (PySem.W.OpenLaw.prog PySem.Challenge.rw_shootdays_k02_names_and_numbers) w) rfl (by decide) (by kernel_rfl) ⟨rfl, by decide, by decide⟩ ?F (fun _ _ _ _ _ z => SD.no_CX z)
    intro w mg fa h Y G hmg0
    have hmg : mg ("law" : PySem.Str) = some (.ref fa) := by
      have e : (HandSHeadRun.topDef Hd.R.prog 10).name = ("law" : PySem.Str) := by kernel_rfl
      rw [← e]
      exact hmg0
    obtain ⟨d, hd, hat, hnm, hp⟩ := Hd.chk3
    exact SD.law_end Y G hmg Hd.chk1 Hd.chk2 Hd.chk4 Hd.chk5 Hd.chk7 Hd.chk6 hd hat hnm hp SD.law_true
