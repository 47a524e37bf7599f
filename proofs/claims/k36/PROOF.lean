import PyProof.Rows.All
import Wide.All
import OpenK.AllK
import Wide.FinOn
import HandS.ForMost
import HandS.IsInst
import HandS.TupAny
import HandS.WideBits
import HandS.TupLe
import HandS.Flow
import HandS.Deep
import HandS.Style
import HandS.TupLen
import KE.KTupSum
import PyProof.PureStr
import PyProof.StrOps
import HandS.ExcCtx
import HandS.Rev
import HandS.Zip
import KE.GoesEnum
import KE.GoesMore
import HandS.DictComp
import HandS.Codes
import KE.SortData
import HandS.Small
import HandS.EndBits
import HandS.Conv
import HandS.ExcInit
import HandS.ExcInitHot
import HandS.ExcIs
import HandS.ExcField
import HandS.HotCalls
import KE.KExcIs
import KE.DataMinMax
import HandS.SortKw
import HandS.Iter
import KE.DataCmp
import HandS.Flt
import HandS.TupMul
import HandS.Hot
import PySem.Challenge.RW_donebytwo_k36_behind_beside_turned
set_option Elab.async false
set_option linter.all false
set_option maxRecDepth 100000
set_option maxHeartbeats 1000000
/-! DL, part a: plain data, how a heap bears it, how a frame bears an environment -/
namespace DL
open PySem L2

/-- plain data; a list, a dict is the frame's own (false) or never changed again (true); scr: a list that is only read, it may be an object of the module -/
inductive D where
  | non | bl (b : Bool) | int (i : Int) | str (s : Str)
  | tup (ds : List D)
  | lst (fz : Bool) (ds : List D)
  | scr (ds : List D)
  | dcK (fz : Bool) (ks : List Key) (ds : List D)
  | dcT (fz : Bool) (ks : List (List Key)) (ds : List D)
  /-- an exception that is handled: at a, its dict at dd, its class by its name x, its fields -/
  | exo (a dd : Addr) (x : Str) (ns : List Str) (ds : List D)

/-- a list that nobody changes -/
def FzL (K : PySem.W.Frag) (H : Hp) (a : Addr) (xs : List V) : Prop :=
  (∃ o, H a = some (.frz o (.lst xs))) ∨
    ∃ (o : Obj) (its : Array Value) (n : Nat), K.lookup a = some o ∧ o.cls = .type "list" ∧ o.dict = none ∧ o.data = .seq its n ∧ its.size ≤ sizeLine ∧ Vals xs its.toList
theorem FzL.sq {K : PySem.W.Frag} {H : Hp} {a : Addr} {xs : List V} (h : FzL K H a xs) : SqL K H a xs := by
  rcases h with ⟨o, h⟩ | h
  · exact .inl (.inr ⟨o, h⟩)
  · exact .inr h

mutual
def RI (K : PySem.W.Frag) (H : Hp) : D → V → Prop
  | .non, v => v = .non
  | .bl b, v => v = .bl b
  | .int i, v => v = .int i
  | .str s, v => v = .str s
  | .tup ds, v => ∃ a xs, v = .ref a ∧ H a = some (.tup xs) ∧ RIs K H ds xs
  | .lst fz ds, v => fz = true ∧ ∃ a o xs, v = .ref a ∧ H a = some (.frz o (.lst xs)) ∧ RIs K H ds xs
  | .scr ds, v => ∃ a xs, v = .ref a ∧ FzL K H a xs ∧ RIs K H ds xs
  | .dcK fz ks ds, v => fz = true ∧ ∃ a o xs, v = .ref a ∧ H a = some (.frz o (.dK (ks.zip xs))) ∧ ks.length = xs.length ∧ RIs K H ds xs
  | .dcT fz ks ds, v => fz = true ∧ ∃ a o xs, v = .ref a ∧ H a = some (.frz o (.dT (ks.zip xs))) ∧ ks.length = xs.length ∧ RIs K H ds xs
  | .exo a dd _ ns ds, v => ∃ xs, v = .ref a ∧ H dd = some (.xd (ns.zip xs)) ∧ ns.length = xs.length ∧ RIs K H ds xs
def RIs (K : PySem.W.Frag) (H : Hp) : List D → List V → Prop
  | [], vs => vs = []
  | d :: ds, vs => ∃ x xs, vs = x :: xs ∧ RI K H d x ∧ RIs K H ds xs
end
mutual
/-- .. with the addresses of what may still be changed -/
def RO (K : PySem.W.Frag) (H : Hp) : D → V → List Addr → Prop
  | .non, v, fp => fp = [] ∧ v = .non
  | .bl b, v, fp => fp = [] ∧ v = .bl b
  | .int i, v, fp => fp = [] ∧ v = .int i
  | .str s, v, fp => fp = [] ∧ v = .str s
  | .tup ds, v, fp => fp = [] ∧ RI K H (.tup ds) v
  | .scr ds, v, fp => fp = [] ∧ RI K H (.scr ds) v
  | .lst fz ds, v, fp => (fz = true ∧ fp = [] ∧ RI K H (.lst fz ds) v) ∨ (fz = false ∧ ∃ a xs f, v = .ref a ∧ fp = a :: f ∧ H a = some (.lst xs) ∧ ROs K H ds xs f)
  | .dcK fz ks ds, v, fp => (fz = true ∧ fp = [] ∧ RI K H (.dcK fz ks ds) v) ∨ (fz = false ∧ ∃ a xs f, v = .ref a ∧ fp = a :: f ∧ H a = some (.dK (ks.zip xs)) ∧ ks.length = xs.length ∧ ROs K H ds xs f)
  | .dcT fz ks ds, v, fp => (fz = true ∧ fp = [] ∧ RI K H (.dcT fz ks ds) v) ∨ (fz = false ∧ ∃ a xs f, v = .ref a ∧ fp = a :: f ∧ H a = some (.dT (ks.zip xs)) ∧ ks.length = xs.length ∧ ROs K H ds xs f)
  | .exo a dd c ns ds, v, fp => fp = [] ∧ RI K H (.exo a dd c ns ds) v
def ROs (K : PySem.W.Frag) (H : Hp) : List D → List V → List Addr → Prop
  | [], vs, fp => vs = [] ∧ fp = []
  | d :: ds, vs, fp => ∃ x xs f f', vs = x :: xs ∧ fp = f ++ f' ∧ RO K H d x f ∧ ROs K H ds xs f'
end
/-- nothing in it may be changed -/
def isImm : D → Bool
  | .lst fz _ => fz
  | .dcK fz _ _ => fz
  | .dcT fz _ _ => fz
  | _ => true

/-- what never changes stays -/
def ImmExt (H H' : Hp) : Prop := (∀ a xs, H a = some (.tup xs) → H' a = some (.tup xs)) ∧ (∀ a o u, H a = some (.frz o u) → H' a = some (.frz o u)) ∧ ∀ a fs, H a = some (.xd fs) → H' a = some (.xd fs)
theorem ImmExt.refl (H : Hp) : ImmExt H H := ⟨fun _ _ h => h, fun _ _ _ h => h, fun _ _ h => h⟩
theorem ImmExt.trans {H H1 H2 : Hp} (a : ImmExt H H1) (b : ImmExt H1 H2) : ImmExt H H2 := ⟨fun c xs h => b.1 c xs (a.1 c xs h), fun c o u h => b.2.1 c o u (a.2.1 c o u h), fun c fs h => b.2.2 c fs (a.2.2 c fs h)⟩
theorem ImmExt.of_same {H H' : Hp} (e : Same H H') : ImmExt H H' := ⟨fun _ _ h => e _ _ h, fun _ _ _ h => e _ _ h, fun _ _ h => e _ _ h⟩
section
variable {K : PySem.W.Frag} {H H' : Hp}
theorem FzL.mono (e : ImmExt H H') {a : Addr} {xs : List V} (h : FzL K H a xs) : FzL K H' a xs := by
  rcases h with ⟨o, h⟩ | h
  · exact .inl ⟨o, e.2.1 _ _ _ h⟩
  · exact .inr h
mutual
theorem RI.mono (e : ImmExt H H') : ∀ (d : D) (v : V), RI K H d v → RI K H' d v
  | .non, _, h => h
  | .bl _, _, h => h
  | .int _, _, h => h
  | .str _, _, h => h
  | .tup ds, _, ⟨a, xs, h1, h2, h3⟩ => ⟨a, xs, h1, e.1 _ _ h2, RIs.mono e ds xs h3⟩
  | .lst _ ds, _, ⟨z, a, o, xs, h1, h2, h3⟩ => ⟨z, a, o, xs, h1, e.2.1 _ _ _ h2, RIs.mono e ds xs h3⟩
  | .scr ds, _, ⟨a, xs, h1, h2, h3⟩ => ⟨a, xs, h1, h2.mono e, RIs.mono e ds xs h3⟩
  | .dcK _ _ ds, _, ⟨z, a, o, xs, h1, h2, h4, h3⟩ => ⟨z, a, o, xs, h1, e.2.1 _ _ _ h2, h4, RIs.mono e ds xs h3⟩
  | .dcT _ _ ds, _, ⟨z, a, o, xs, h1, h2, h4, h3⟩ => ⟨z, a, o, xs, h1, e.2.1 _ _ _ h2, h4, RIs.mono e ds xs h3⟩
  | .exo _ _ _ _ ds, _, ⟨xs, h1, h2, h4, h3⟩ => ⟨xs, h1, e.2.2 _ _ h2, h4, RIs.mono e ds xs h3⟩
theorem RIs.mono (e : ImmExt H H') : ∀ (ds : List D) (vs : List V), RIs K H ds vs → RIs K H' ds vs
  | [], _, h => h
  | d :: ds, _, ⟨x, xs, h1, h2, h3⟩ => ⟨x, xs, h1, RI.mono e d x h2, RIs.mono e ds xs h3⟩
end
mutual
theorem RO.mono (e : ImmExt H H') : ∀ (d : D) (v : V) (fp : List Addr), (∀ a ∈ fp, H' a = H a) → RO K H d v fp → RO K H' d v fp
  | .non, _, _, _, h => h
  | .bl _, _, _, _, h => h
  | .int _, _, _, _, h => h
  | .str _, _, _, _, h => h
  | .tup ds, v, _, _, ⟨h0, h⟩ => ⟨h0, RI.mono e _ v h⟩
  | .scr ds, v, _, _, ⟨h0, h⟩ => ⟨h0, RI.mono e _ v h⟩
  | .exo _ _ _ _ _, v, _, _, ⟨h0, h⟩ => ⟨h0, RI.mono e _ v h⟩
  | .lst fz ds, v, fp, hf, h => by
    rcases h with ⟨z, h0, h⟩ | ⟨z, a, xs, f, h1, h2, h3, h4⟩
    · exact .inl ⟨z, h0, RI.mono e _ v h⟩
    · refine .inr ⟨z, a, xs, f, h1, h2, ?_, ROs.mono e ds xs f (fun b hb => hf b (by rw [h2]; exact List.mem_cons_of_mem _ hb)) h4⟩
      rw [hf a (by rw [h2]; exact List.mem_cons_self)]; exact h3
  | .dcK fz ks ds, v, fp, hf, h => by
    rcases h with ⟨z, h0, h⟩ | ⟨z, a, xs, f, h1, h2, h3, h5, h4⟩
    · exact .inl ⟨z, h0, RI.mono e _ v h⟩
    · refine .inr ⟨z, a, xs, f, h1, h2, ?_, h5, ROs.mono e ds xs f (fun b hb => hf b (by rw [h2]; exact List.mem_cons_of_mem _ hb)) h4⟩
      rw [hf a (by rw [h2]; exact List.mem_cons_self)]; exact h3
  | .dcT fz ks ds, v, fp, hf, h => by
    rcases h with ⟨z, h0, h⟩ | ⟨z, a, xs, f, h1, h2, h3, h5, h4⟩
    · exact .inl ⟨z, h0, RI.mono e _ v h⟩
    · refine .inr ⟨z, a, xs, f, h1, h2, ?_, h5, ROs.mono e ds xs f (fun b hb => hf b (by rw [h2]; exact List.mem_cons_of_mem _ hb)) h4⟩
      rw [hf a (by rw [h2]; exact List.mem_cons_self)]; exact h3
theorem ROs.mono (e : ImmExt H H') : ∀ (ds : List D) (vs : List V) (fp : List Addr), (∀ a ∈ fp, H' a = H a) → ROs K H ds vs fp → ROs K H' ds vs fp
  | [], _, _, _, h => h
  | d :: ds, _, fp, hf, ⟨x, xs, f, f', h1, h2, h3, h4⟩ =>
    ⟨x, xs, f, f', h1, h2, RO.mono e d x f (fun b hb => hf b (by rw [h2]; exact List.mem_append_left _ hb)) h3, ROs.mono e ds xs f' (fun b hb => hf b (by rw [h2]; exact List.mem_append_right _ hb)) h4⟩
end
/-- what may be changed is there, and is a list or a dict -/
def Live (H : Hp) (a : Addr) : Prop := ∃ o, H a = some o ∧ Mut (some o)
mutual
theorem RO.live : ∀ (d : D) (v : V) (fp : List Addr), RO K H d v fp → ∀ a ∈ fp, Live H a
  | .non, _, _, h, a, m => by rw [h.1] at m; cases m
  | .bl _, _, _, h, a, m => by rw [h.1] at m; cases m
  | .int _, _, _, h, a, m => by rw [h.1] at m; cases m
  | .str _, _, _, h, a, m => by rw [h.1] at m; cases m
  | .tup ds, v, _, h, a, m => by rw [h.1] at m; cases m
  | .scr ds, v, _, h, a, m => by rw [h.1] at m; cases m
  | .exo _ _ _ _ _, v, _, h, a, m => by rw [h.1] at m; cases m
  | .lst fz ds, v, fp, h, a, m => by
    rcases h with ⟨z, h0, h⟩ | ⟨z, b, xs, f, h1, h2, h3, h4⟩
    · rw [h0] at m; cases m
    · rw [h2] at m
      rcases List.mem_cons.mp m with rfl | m
      · exact ⟨_, h3, trivial⟩
      · exact ROs.live ds xs f h4 a m
  | .dcK fz ks ds, v, fp, h, a, m => by
    rcases h with ⟨z, h0, h⟩ | ⟨z, b, xs, f, h1, h2, h3, h5, h4⟩
    · rw [h0] at m; cases m
    · rw [h2] at m
      rcases List.mem_cons.mp m with rfl | m
      · exact ⟨_, h3, trivial⟩
      · exact ROs.live ds xs f h4 a m
  | .dcT fz ks ds, v, fp, h, a, m => by
    rcases h with ⟨z, h0, h⟩ | ⟨z, b, xs, f, h1, h2, h3, h5, h4⟩
    · rw [h0] at m; cases m
    · rw [h2] at m
      rcases List.mem_cons.mp m with rfl | m
      · exact ⟨_, h3, trivial⟩
      · exact ROs.live ds xs f h4 a m
theorem ROs.live : ∀ (ds : List D) (vs : List V) (fp : List Addr), ROs K H ds vs fp → ∀ a ∈ fp, Live H a
  | [], _, _, h, a, m => by rw [h.2] at m; cases m
  | d :: ds, _, fp, ⟨x, xs, f, f', h1, h2, h3, h4⟩, a, m => by
    rw [h2] at m
    rcases List.mem_append.mp m with m | m
    · exact RO.live d x f h3 a m
    · exact ROs.live ds xs f' h4 a m
end
/-- what may not be changed has no addresses -/
theorem RO.imm {d : D} {v : V} {fp : List Addr} (h : RO K H d v fp) (hd : isImm d = true) : fp = [] ∧ RI K H d v := by
  cases d with
  | non => exact h
  | bl b => exact h
  | int i => exact h
  | str s => exact h
  | tup ds => exact h
  | scr ds => exact h
  | exo _ _ _ _ _ => exact h
  | lst fz ds =>
    rcases h with ⟨z, h0, h⟩ | ⟨z, _⟩
    · exact ⟨h0, h⟩
    · have : fz = true := hd
      rw [this] at z; cases z
  | dcK fz ks ds =>
    rcases h with ⟨z, h0, h⟩ | ⟨z, _⟩
    · exact ⟨h0, h⟩
    · have : fz = true := hd
      rw [this] at z; cases z
  | dcT fz ks ds =>
    rcases h with ⟨z, h0, h⟩ | ⟨z, _⟩
    · exact ⟨h0, h⟩
    · have : fz = true := hd
      rw [this] at z; cases z
theorem RI.isImm {d : D} {v : V} (h : RI K H d v) : isImm d = true := by
  cases d with
  | lst fz ds => exact h.1
  | dcK fz ks ds => exact h.1
  | dcT fz ks ds => exact h.1
  | _ => rfl
theorem RI.ro {d : D} {v : V} (h : RI K H d v) : RO K H d v [] := by
  cases d with
  | non => exact ⟨rfl, h⟩
  | bl b => exact ⟨rfl, h⟩
  | int i => exact ⟨rfl, h⟩
  | str s => exact ⟨rfl, h⟩
  | tup ds => exact ⟨rfl, h⟩
  | scr ds => exact ⟨rfl, h⟩
  | exo _ _ _ _ _ => exact ⟨rfl, h⟩
  | lst fz ds => exact .inl ⟨h.1, rfl, h⟩
  | dcK fz ks ds => exact .inl ⟨h.1, rfl, h⟩
  | dcT fz ks ds => exact .inl ⟨h.1, rfl, h⟩
theorem RIs.ros : ∀ {ds : List D} {vs : List V}, RIs K H ds vs → ROs K H ds vs []
  | [], _, h => ⟨h, rfl⟩
  | d :: ds, _, ⟨x, xs, h1, h2, h3⟩ => ⟨x, xs, [], [], h1, rfl, h2.ro, h3.ros⟩
theorem ROs.imms : ∀ {ds : List D} {vs : List V} {fp : List Addr}, ROs K H ds vs fp → ds.all isImm = true → fp = [] ∧ RIs K H ds vs
  | [], _, _, h, _ => ⟨h.2, h.1⟩
  | d :: ds, _, fp, ⟨x, xs, f, f', h1, h2, h3, h4⟩, ha => by
    rw [List.all_cons, Bool.and_eq_true] at ha
    obtain ⟨e1, r1⟩ := h3.imm ha.1
    obtain ⟨e2, r2⟩ := h4.imms ha.2
    subst e1; subst e2
    exact ⟨by rw [h2]; rfl, x, xs, h1, r1, r2⟩
theorem RIs.length : ∀ {ds : List D} {vs : List V}, RIs K H ds vs → vs.length = ds.length
  | [], _, h => by rw [h]; rfl
  | d :: ds, _, ⟨x, xs, h1, h2, h3⟩ => by rw [h1, List.length_cons, List.length_cons, h3.length]
theorem ROs.length : ∀ {ds : List D} {vs : List V} {fp : List Addr}, ROs K H ds vs fp → vs.length = ds.length
  | [], _, _, h => by rw [h.1]; rfl
  | d :: ds, _, _, ⟨x, xs, f, f', h1, h2, h3, h4⟩ => by rw [h1, List.length_cons, List.length_cons, h4.length]
theorem RIs.get : ∀ {ds : List D} {vs : List V} {i : Nat} {d : D}, RIs K H ds vs → ds[i]? = some d → ∃ x, vs[i]? = some x ∧ RI K H d x
  | [], _, _, _, _, e => by simp at e
  | d :: ds, _, 0, d', ⟨x, xs, h1, h2, h3⟩, e => by
    have e' : d = d' := by simpa using e
    subst e'
    exact ⟨x, by rw [h1]; rfl, h2⟩
  | d :: ds, _, i + 1, d', ⟨x, xs, h1, h2, h3⟩, e => by
    obtain ⟨y, e1, r⟩ := h3.get (i := i) (by simpa using e)
    exact ⟨y, by rw [h1]; simpa using e1, r⟩
theorem RIs.app : ∀ {ds es : List D} {vs us : List V}, RIs K H ds vs → RIs K H es us → RIs K H (ds ++ es) (vs ++ us)
  | [], _, _, _, h, h' => by rw [show _ = [] from h]; exact h'
  | d :: ds, _, _, _, ⟨x, xs, h1, h2, h3⟩, h' => by
    rw [h1]
    exact ⟨x, xs ++ _, rfl, h2, h3.app h'⟩
theorem RIs.take : ∀ (n : Nat) {ds : List D} {vs : List V}, RIs K H ds vs → RIs K H (ds.take n) (vs.take n)
  | 0, _, _, _ => rfl
  | n + 1, [], _, h => by rw [show _ = [] from h]; exact rfl
  | n + 1, d :: ds, _, ⟨x, xs, h1, h2, h3⟩ => by
    rw [h1]
    exact ⟨x, xs.take n, rfl, h2, h3.take n⟩
theorem RIs.drop : ∀ (n : Nat) {ds : List D} {vs : List V}, RIs K H ds vs → RIs K H (ds.drop n) (vs.drop n)
  | 0, _, _, h => h
  | n + 1, [], _, h => by rw [show _ = [] from h]; exact rfl
  | n + 1, d :: ds, _, ⟨x, xs, h1, h2, h3⟩ => by
    rw [h1]
    exact h3.drop n
theorem RIs.all_imm : ∀ {ds : List D} {vs : List V}, RIs K H ds vs → ds.all DL.isImm = true
  | [], _, _ => rfl
  | d :: ds, _, ⟨x, xs, h1, h2, h3⟩ => by rw [List.all_cons, h2.isImm, h3.all_imm]; rfl
/-- what of a list may be read whether it is changed later or not -/
theorem ROs.get : ∀ {ds : List D} {vs : List V} {fp : List Addr} {i : Nat} {d : D}, ROs K H ds vs fp → ds[i]? = some d → ∃ x f, vs[i]? = some x ∧ RO K H d x f ∧ ∀ a ∈ f, a ∈ fp
  | [], _, _, _, _, _, e => by simp at e
  | d :: ds, _, _, 0, d', ⟨x, xs, f, f', h1, h2, h3, h4⟩, e => by
    have e' : d = d' := by simpa using e
    subst e'
    exact ⟨x, f, by rw [h1]; rfl, h3, fun a m => by rw [h2]; exact List.mem_append_left _ m⟩
  | d :: ds, _, _, i + 1, d', ⟨x, xs, f, f', h1, h2, h3, h4⟩, e => by
    obtain ⟨y, g, e1, r, m⟩ := h4.get (i := i) (by simpa using e)
    exact ⟨y, g, by rw [h1]; simpa using e1, r, fun a ma => by rw [h2]; exact List.mem_append_right _ (m a ma)⟩
end

/-! ### the frame -/
abbrev Env := List (Option D)
def SR (K : PySem.W.Frag) (H : Hp) : Env → L2.St → List Addr → Prop
  | [], σ, fp => σ = [] ∧ fp = []
  | none :: e, σ, fp => ∃ x σ', σ = x :: σ' ∧ SR K H e σ' fp
  | some d :: e, σ, fp => ∃ v σ' f f', σ = some v :: σ' ∧ fp = f ++ f' ∧ RO K H d v f ∧ SR K H e σ' f'
section
variable {K : PySem.W.Frag} {H H' : Hp}
theorem SR.mono (e : ImmExt H H') : ∀ {env : Env} {σ : L2.St} {fp : List Addr}, (∀ a ∈ fp, H' a = H a) → SR K H env σ fp → SR K H' env σ fp
  | [], _, _, _, h => h
  | none :: env, _, _, hf, ⟨x, σ', h1, h2⟩ => ⟨x, σ', h1, h2.mono e hf⟩
  | some d :: env, _, _, hf, ⟨v, σ', f, f', h1, h2, h3, h4⟩ =>
    ⟨v, σ', f, f', h1, h2, RO.mono e d v f (fun b hb => hf b (by rw [h2]; exact List.mem_append_left _ hb)) h3, h4.mono e fun b hb => hf b (by rw [h2]; exact List.mem_append_right _ hb)⟩
theorem SR.live : ∀ {env : Env} {σ : L2.St} {fp : List Addr}, SR K H env σ fp → ∀ a ∈ fp, Live H a
  | [], _, _, h, a, m => by rw [h.2] at m; cases m
  | none :: env, _, _, ⟨x, σ', h1, h2⟩, a, m => h2.live a m
  | some d :: env, _, _, ⟨v, σ', f, f', h1, h2, h3, h4⟩, a, m => by
    rw [h2] at m
    rcases List.mem_append.mp m with m | m
    · exact RO.live d v f h3 a m
    · exact h4.live a m
theorem SR.length : ∀ {env : Env} {σ : L2.St} {fp : List Addr}, SR K H env σ fp → σ.length = env.length
  | [], _, _, h => by rw [h.1]; rfl
  | none :: env, _, _, ⟨x, σ', h1, h2⟩ => by rw [h1, List.length_cons, List.length_cons, h2.length]
  | some d :: env, _, _, ⟨v, σ', f, f', h1, h2, h3, h4⟩ => by rw [h1, List.length_cons, List.length_cons, h4.length]
/-- a slot taken out, and put back with other data and another value -/
theorem SR.at : ∀ {env : Env} {σ : L2.St} {fp : List Addr} {i : Nat} {d : D}, SR K H env σ fp → env[i]? = some (some d) →
    ∃ v pre f post, σ[i]? = some (some v) ∧ fp = pre ++ (f ++ post) ∧ RO K H d v f ∧
      (∀ (H' : Hp) (d' : D) (v' : V) (f' : List Addr), ImmExt H H' → (∀ a, a ∈ pre ∨ a ∈ post → H' a = H a) → RO K H' d' v' f' → SR K H' (env.set i (some d')) (σ.set i (some v')) (pre ++ (f' ++ post))) ∧
      (∀ (H' : Hp) (x : Option V), ImmExt H H' → (∀ a, a ∈ pre ∨ a ∈ post → H' a = H a) → SR K H' (env.set i none) (σ.set i x) (pre ++ post))
  | [], _, _, _, _, _, e => by simp at e
  | none :: env, _, _, 0, _, _, e => by simp at e
  | some d0 :: env, σ, fp, 0, d, ⟨v, σ', f, f', h1, h2, h3, h4⟩, e => by
    have e' : d0 = d := by simpa using e
    subst e'
    refine ⟨v, [], f, f', by rw [h1]; rfl, by simpa using h2, h3, fun H' d' v' g e k r => ?_, fun H' x e k => ?_⟩
    · rw [h1]
      exact ⟨v', σ', g, f', rfl, rfl, r, h4.mono e fun a m => k a (.inr m)⟩
    · rw [h1]
      exact ⟨x, σ', rfl, h4.mono e fun a m => k a (.inr m)⟩
  | none :: env, σ, fp, i + 1, d, ⟨x, σ', h1, h2⟩, e => by
    obtain ⟨v, pre, f, post, e1, e2, r, p1, p2⟩ := h2.at (i := i) (d := d) (by simpa using e)
    refine ⟨v, pre, f, post, by rw [h1]; simpa using e1, e2, r, fun H' d' v' g e k r => ?_, fun H' y e k => ?_⟩
    · rw [h1]
      exact ⟨x, σ'.set i (some v'), rfl, p1 H' d' v' g e k r⟩
    · rw [h1]
      exact ⟨x, σ'.set i y, rfl, p2 H' y e k⟩
  | some d0 :: env, σ, fp, i + 1, d, ⟨v0, σ', f0, f', h1, h2, h3, h4⟩, e => by
    obtain ⟨v, pre, f, post, e1, e2, r, p1, p2⟩ := h4.at (i := i) (d := d) (by simpa using e)
    refine ⟨v, f0 ++ pre, f, post, by rw [h1]; simpa using e1, by rw [h2, e2, List.append_assoc], r, fun H' d' v' g e k r => ?_, fun H' y e k => ?_⟩
    · rw [h1]
      exact ⟨v0, σ'.set i (some v'), f0, pre ++ (g ++ post), rfl, by rw [List.append_assoc], RO.mono e d0 v0 f0 (fun a m => k a (.inl (List.mem_append_left _ m))) h3, p1 H' d' v' g e (fun a m => k a (m.imp (List.mem_append_right _) id)) r⟩
    · rw [h1]
      exact ⟨v0, σ'.set i y, f0, pre ++ post, rfl, by rw [List.append_assoc], RO.mono e d0 v0 f0 (fun a m => k a (.inl (List.mem_append_left _ m))) h3, p2 H' y e fun a m => k a (m.imp (List.mem_append_right _) id)⟩
/-- a slot that holds nothing known is filled -/
theorem SR.put : ∀ {env : Env} {σ : L2.St} {fp : List Addr} {i : Nat}, SR K H env σ fp → i < env.length →
    ∃ pre f post, fp = pre ++ (f ++ post) ∧ (∀ (d' : D) (v' : V) (f' : List Addr), RO K H d' v' f' → SR K H (env.set i (some d')) (σ.set i (some v')) (pre ++ (f' ++ post))) ∧
      ∀ x, SR K H (env.set i none) (σ.set i x) (pre ++ post)
  | [], _, _, _, _, e => absurd e (Nat.not_lt_zero _)
  | none :: env, σ, fp, 0, ⟨x, σ', h1, h2⟩, _ => by
    refine ⟨[], [], fp, rfl, fun d' v' g r => ?_, fun y => ?_⟩
    · rw [h1]; exact ⟨v', σ', g, fp, rfl, rfl, r, h2⟩
    · rw [h1]; exact ⟨y, σ', rfl, h2⟩
  | some d0 :: env, σ, fp, 0, ⟨v, σ', f, f', h1, h2, h3, h4⟩, _ => by
    refine ⟨[], f, f', h2, fun d' v' g r => ?_, fun y => ?_⟩
    · rw [h1]; exact ⟨v', σ', g, f', rfl, rfl, r, h4⟩
    · rw [h1]; exact ⟨y, σ', rfl, h4⟩
  | none :: env, σ, fp, i + 1, ⟨x, σ', h1, h2⟩, e => by
    obtain ⟨pre, f, post, e2, p1, p2⟩ := h2.put (i := i) (by simpa using e)
    refine ⟨pre, f, post, e2, fun d' v' g r => ?_, fun y => ?_⟩
    · rw [h1]; exact ⟨x, _, rfl, p1 d' v' g r⟩
    · rw [h1]; exact ⟨x, _, rfl, p2 y⟩
  | some d0 :: env, σ, fp, i + 1, ⟨v0, σ', f0, f', h1, h2, h3, h4⟩, e => by
    obtain ⟨pre, f, post, e2, p1, p2⟩ := h4.put (i := i) (by simpa using e)
    refine ⟨f0 ++ pre, f, post, by rw [h2, e2, List.append_assoc], fun d' v' g r => ?_, fun y => ?_⟩
    · rw [h1]; exact ⟨v0, _, f0, _, rfl, by rw [List.append_assoc], h3, p1 d' v' g r⟩
    · rw [h1]; exact ⟨v0, _, f0, _, rfl, by rw [List.append_assoc], h3, p2 y⟩
end

/-- how a heap goes on: what is not ours stays, what is ours is ours already or new -/
structure Evo (fp : List Addr) (H : Hp) (fp' : List Addr) (H' : Hp) : Prop where
  keep : ∀ a o, H a = some o → a ∉ fp → H' a = some o
  own : ∀ a ∈ fp', a ∈ fp ∨ H a = none
  imm : ImmExt H H'
theorem Evo.refl (fp : List Addr) (H : Hp) : Evo fp H fp H := ⟨fun _ _ h _ => h, fun _ m => .inl m, ImmExt.refl H⟩
theorem Evo.trans {f0 f1 f2 : List Addr} {H0 H1 H2 : Hp} (a : Evo f0 H0 f1 H1) (b : Evo f1 H1 f2 H2) : Evo f0 H0 f2 H2 where
  keep := fun c o h n => b.keep c o (a.keep c o h n) fun m => (a.own c m).elim n fun z => by rw [h] at z; cases z
  own := fun c m => by
    rcases b.own c m with m | z
    · exact a.own c m
    · by_cases hc : c ∈ f0
      · exact .inl hc
      · refine .inr ?_
        cases q : H0 c with
        | none => rfl
        | some o => rw [a.keep c o q hc] at z; cases z
  imm := a.imm.trans b.imm
/-- fewer addresses are ours behind it -/
theorem Evo.sub {f0 f1 f2 : List Addr} {H0 H1 : Hp} (a : Evo f0 H0 f1 H1) (h : ∀ c ∈ f2, c ∈ f1) : Evo f0 H0 f2 H1 := ⟨a.keep, fun c m => a.own c (h c m), a.imm⟩
/-- beside others that stay -/
theorem Evo.side {f0 f1 g : List Addr} {H0 H1 : Hp} (a : Evo f0 H0 f1 H1) : Evo (g ++ f0) H0 (g ++ f1) H1 where
  keep := fun c o h n => a.keep c o h fun m => n (List.mem_append_right _ m)
  own := fun c m => by
    rcases List.mem_append.mp m with m | m
    · exact .inl (List.mem_append_left _ m)
    · exact (a.own c m).imp (List.mem_append_right _) id
  imm := a.imm
theorem Evo.of_same {fp fr : List Addr} {H H' : Hp} (e : Same H H') (hf : ∀ a ∈ fr, H a = none) : Evo fp H (fr ++ fp) H' :=
  ⟨fun a o h _ => e a o h, fun a m => (List.mem_append.mp m).elim (fun z => .inr (hf a z)) .inl, .of_same e⟩
theorem same_eq {K : PySem.W.Frag} {H H' : Hp} (e : Same H H') {fp : List Addr} (l : ∀ a ∈ fp, Live H a) : ∀ a ∈ fp, H' a = H a := fun a m => by
  obtain ⟨o, h, _⟩ := l a m
  rw [h]
  exact e a o h
/-- what stands beside what is changed stands -/
theorem Evo.stay {fp fp' : List Addr} {H H' : Hp} (e : Evo fp H fp' H') {g : List Addr} (l : ∀ a ∈ g, Live H a) (n : ∀ a ∈ g, a ∉ fp) : ∀ a ∈ g, H' a = H a := fun a m => by
  obtain ⟨o, h, _⟩ := l a m
  rw [h]
  exact e.keep a o h (n a m)
theorem Evo.apart {fp fp' : List Addr} {H H' : Hp} (e : Evo fp H fp' H') {g : List Addr} (l : ∀ a ∈ g, Live H a) (n : ∀ a ∈ g, a ∉ fp) : ∀ a ∈ g, a ∉ fp' := fun a m m' => by
  rcases e.own a m' with z | z
  · exact n a m z
  · obtain ⟨o, h, _⟩ := l a m
    rw [h] at z; cases z
end DL

set_option maxHeartbeats 1000000
/-! DL, part b: judgements; what an expression means, and why the machine does so -/
namespace DL
open PySem L2

abbrev PSm := Env → Option D
abbrev ESm := Env → Option (D × Env)
abbrev TPm := Env → Option Bool
abbrev TSm := Env → Option (Bool × Env)
abbrev APm := Env → Option (List D)
abbrev ASm := Env → Option (List D × Env)

def Fresh (fr : List Addr) (H : Hp) : Prop := fr.Nodup ∧ ∀ a ∈ fr, H a = none
theorem Fresh.nil {H : Hp} : Fresh [] H := ⟨List.nodup_nil, fun _ m => nomatch m⟩
theorem Fresh.one {H : Hp} {p : Addr} (h : H p = none) : Fresh [p] H := ⟨List.nodup_cons.mpr ⟨fun m => (nomatch m), List.nodup_nil⟩, fun a m => by
  have e : a = p := by simpa using m
  rw [e]; exact h⟩
theorem Fresh.back {fr : List Addr} {H H' : Hp} (e : Same H H') (h : Fresh fr H') : Fresh fr H := ⟨h.1, fun a m => e.free (h.2 a m)⟩
/-- what is wanted of a value that is data d -/
def Res (own : Bool) (K : PySem.W.Frag) (H : Hp) (d : D) (Q : VK) : Prop := ∀ v H' fr, Same H H' → RO K H' d v fr → (own = true → Fresh fr H) → Q v H'
section
variable {own : Bool} {K : PySem.W.Frag} {H H' : Hp} {d : D} {Q : VK}
theorem Res.imm {v : V} (h : Res own K H d Q) (r : RI K H d v) : Q v H := h v H [] (Same.refl H) r.ro fun _ => .nil
theorem Res.int {i : Int} (h : Res own K H (.int i) Q) : Q (.int i) H := h.imm (v := .int i) rfl
theorem Res.bl {b : Bool} (h : Res own K H (.bl b) Q) : Q (.bl b) H := h.imm (v := .bl b) rfl
theorem Res.str {s : Str} (h : Res own K H (.str s) Q) : Q (.str s) H := h.imm (v := .str s) rfl
theorem same_new {p : Addr} {o : HO} (hp : H p = none) : Same H (upd H p o) := fun a u e => by
  rw [upd_ne (ne_of_none e hp)]; exact e
theorem Res.tup {ds : List D} {xs : List V} {p : Addr} (h : Res own K H (.tup ds) Q) (r : RIs K H ds xs) (hp : H p = none) : Q (.ref p) (upd H p (.tup xs)) :=
  h _ _ [] (same_new hp) ⟨rfl, p, xs, rfl, upd_same, RIs.mono (.of_same (same_new hp)) _ _ r⟩ fun _ => .nil
theorem Res.lst {ds : List D} {xs : List V} {p : Addr} (h : Res own K H (.lst false ds) Q) (r : RIs K H ds xs) (hp : H p = none) : Q (.ref p) (upd H p (.lst xs)) :=
  h _ _ [p] (same_new hp) (.inr ⟨rfl, p, xs, [], rfl, rfl, upd_same, (RIs.mono (.of_same (same_new hp)) _ _ r).ros⟩) fun _ => .one hp
end

/-- an expression without effects: what it is by the environment; own: it is new, or it never changes -/
def DB (own : Bool) (X : Cx) (e : Expr) (f : PSm) : Prop := ∃ t : TE, PE X e t ∧ ∀ (σ : L2.St) (H : Hp) (env : Env) (fp : List Addr) (d : D), SR X.K H env σ fp → fp.Nodup → f env = some d → ∀ Q : VK, Res own X.K H d Q → t σ H Q
/-- any expression: the value is our own, the environment may have changed -/
def EQ (K : PySem.W.Frag) (σ : L2.St) (H : Hp) (fp : List Addr) (d : D) (env' : Env) (Q : VK) : Prop :=
  ∀ v H' fr fp', Evo fp H (fr ++ fp') H' → SR K H' env' σ fp' → RO K H' d v fr → (fr ++ fp').Nodup → Q v H'
def DE (X : Cx) (e : Expr) (f : ESm) : Prop := ∃ t : TE, PE X e t ∧ ∀ (σ : L2.St) (H : Hp) (env env' : Env) (fp : List Addr) (d : D), SR X.K H env σ fp → fp.Nodup → f env = some (d, env') → ∀ Q : VK, EQ X.K σ H fp d env' Q → t σ H Q
/-- tests -/
def DTP (X : Cx) (e : Expr) (f : TPm) : Prop := ∃ t : TT, PT X e t ∧ ∀ (σ : L2.St) (H : Hp) (env : Env) (fp : List Addr) (b : Bool), SR X.K H env σ fp → fp.Nodup → f env = some b → ∀ Q : Bool → Hp → Prop, (∀ H', Same H H' → Q b H') → t σ H Q
def TQ (K : PySem.W.Frag) (σ : L2.St) (H : Hp) (fp : List Addr) (b : Bool) (env' : Env) (Q : Bool → Hp → Prop) : Prop :=
  ∀ H' fp', Evo fp H fp' H' → SR K H' env' σ fp' → fp'.Nodup → Q b H'
def DT (X : Cx) (e : Expr) (f : TSm) : Prop := ∃ t : TT, PT X e t ∧ ∀ (σ : L2.St) (H : Hp) (env env' : Env) (fp : List Addr) (b : Bool), SR X.K H env σ fp → fp.Nodup → f env = some (b, env') → ∀ Q : Bool → Hp → Prop, TQ X.K σ H fp b env' Q → t σ H Q
/-- argument lists -/
def DAP (own : Bool) (X : Cx) (es : List Expr) (f : APm) : Prop := ∃ t : TA, PA X es t ∧ ∀ (σ : L2.St) (H : Hp) (env : Env) (fp : List Addr) (ds : List D), SR X.K H env σ fp → fp.Nodup → f env = some ds → ∀ Q : List V → Hp → Prop,
  (∀ vs H' fr, Same H H' → ROs X.K H' ds vs fr → (own = true → Fresh fr H) → Q vs H') → t σ H Q
def AQ (K : PySem.W.Frag) (σ : L2.St) (H : Hp) (fp : List Addr) (ds : List D) (env' : Env) (Q : List V → Hp → Prop) : Prop :=
  ∀ vs H' fr fp', Evo fp H (fr ++ fp') H' → SR K H' env' σ fp' → ROs K H' ds vs fr → (fr ++ fp').Nodup → Q vs H'
def DA (X : Cx) (es : List Expr) (f : ASm) : Prop := ∃ t : TA, PA X es t ∧ ∀ (σ : L2.St) (H : Hp) (env env' : Env) (fp : List Addr) (ds : List D), SR X.K H env σ fp → fp.Nodup → f env = some (ds, env') → ∀ Q : List V → Hp → Prop, AQ X.K σ H fp ds env' Q → t σ H Q

section
variable {own : Bool} {X : Cx} {K : PySem.W.Frag} {H H' : Hp} {env env' : Env} {σ : L2.St} {fp fr : List Addr}
theorem SR.same (h : SR K H env σ fp) (e : Same H H') : SR K H' env σ fp := h.mono (.of_same e) (same_eq (K := K) e h.live)
theorem fresh_app (h : SR K H env σ fp) (nd : fp.Nodup) (f : Fresh fr H) : (fr ++ fp).Nodup :=
  List.nodup_append.mpr ⟨f.1, nd, fun a m b m' e => by
    subst e
    obtain ⟨o, z, _⟩ := h.live a m'
    rw [f.2 a m] at z; cases z⟩
/-- without effects: as any expression -/
def eP (f : PSm) : ESm := fun env => (f env).map fun d => (d, env)
theorem de_pure {e : Expr} {f : PSm} (h : DB true X e f) : DE X e (eP f) := by
  obtain ⟨t, p, h⟩ := h
  refine ⟨t, p, fun σ H env env' fp d s nd hf Q q => ?_⟩
  unfold eP at hf
  cases e1 : f env with
  | none => rw [e1] at hf; cases hf
  | some d' =>
    rw [e1] at hf
    cases hf
    refine h σ H env fp _ s nd e1 Q fun v H' fr sm r fo => ?_
    have fo := fo rfl
    exact q v H' fr fp (.of_same sm fo.2) (s.same sm) r (fresh_app s nd fo)
/-- what never changes may be taken for new -/
def pOwn (f : PSm) : PSm := fun env => (f env).bind fun d => if isImm d = true then some d else none
theorem db_own {e : Expr} {f : PSm} (h : DB false X e f) : DB true X e (pOwn f) := by
  obtain ⟨t, p, h⟩ := h
  refine ⟨t, p, fun σ H env fp d s nd hf Q q => ?_⟩
  unfold pOwn at hf
  cases e1 : f env with
  | none => rw [e1] at hf; cases hf
  | some d' =>
    rw [e1] at hf
    have hf : (if isImm d' = true then some d' else none) = some d := hf
    by_cases hi : isImm d' = true
    · rw [if_pos hi] at hf
      cases hf
      refine h σ H env fp _ s nd e1 Q fun v H' fr sm r fo => ?_
      obtain ⟨z, r'⟩ := r.imm hi
      subst z
      exact q v H' [] sm r fun _ => .nil
    · rw [if_neg hi] at hf; cases hf
theorem db_any {e : Expr} {f : PSm} (h : DB true X e f) : DB false X e f := by
  obtain ⟨t, p, h⟩ := h
  exact ⟨t, p, fun σ H env fp d s nd hf Q q => h σ H env fp d s nd hf Q fun v H' fr sm r fo => q v H' fr sm r fun z => nomatch z⟩
def tP (f : TPm) : TSm := fun env => (f env).map fun b => (b, env)
theorem dt_pure {e : Expr} {f : TPm} (h : DTP X e f) : DT X e (tP f) := by
  obtain ⟨t, p, h⟩ := h
  refine ⟨t, p, fun σ H env env' fp d s nd hf Q q => ?_⟩
  unfold tP at hf
  cases e1 : f env with
  | none => rw [e1] at hf; cases hf
  | some d' =>
    rw [e1] at hf
    cases hf
    exact h σ H env fp _ s nd e1 Q fun H' sm => q H' fp ⟨fun a o h _ => sm a o h, fun _ m => .inl m, .of_same sm⟩ (s.same sm) nd

/-! ### names, constants -/
def pVar (i : Nat) : PSm := fun env => (env[i]?).join
theorem db_var {e : Expr} (i : Nat) (h : PE X e (tVar i)) : DB false X e (pVar i) := by
  refine ⟨_, h, fun σ H env fp d s nd hf Q q => ?_⟩
  unfold pVar at hf
  have hf' : env[i]? = some (some d) := by
    cases e1 : env[i]? with
    | none => rw [e1] at hf; cases hf
    | some o => rw [e1] at hf; cases o with
      | none => cases hf
      | some d' => cases hf; rfl
  obtain ⟨v, pre, f, post, e1, _, r, _⟩ := s.at hf'
  exact ⟨v, e1, q v H f (Same.refl H) r fun z => nomatch z⟩
def pC (d : D) : PSm := fun _ => some d
theorem db_c {e : Expr} {v : V} {d : D} (h : PE X e (tC v)) (r : ∀ K H, RI K H d v) : DB true X e (pC d) :=
  ⟨_, h, fun σ H env fp d' s nd hf Q q => by cases hf; exact q.imm (r _ _)⟩
theorem db_int {i : Int} {j pos} : DB true X (.Constant (.int i) j pos) (pC (.int i)) := db_c pe_int fun _ _ => rfl
theorem db_bl {b : Bool} {j pos} : DB true X (.Constant (.bool b) j pos) (pC (.bl b)) := db_c pe_bl fun _ _ => rfl
theorem db_non {j pos} : DB true X (.Constant .none j pos) (pC .non) := db_c pe_non fun _ _ => rfl
theorem db_str {x : Str} {j pos} : DB true X (.Constant (.str x) j pos) (pC (.str x)) := db_c pe_str fun _ _ => rfl
/-- a module's constant int -/
theorem db_gint {x : Str} {i : Int} {pos : Pos} (hg : Gl X x) (hm : ∃ t, X.mg x = some (.int i t)) (hd : (x == ("__debug__" : Str)) = false := by decide) : DB true X (.Name x pos) (pC (.int i)) := by
  obtain ⟨t, hm⟩ := hm
  exact db_c (v := .int i) (pe_glob hg hm ⟨t, rfl⟩ hd) fun _ _ => rfl
/-- a slot's value taken for good -/
def eMove (i : Nat) : ESm := fun env => match env[i]? with
  | some (some d) => some (d, if isImm d = true then env else env.set i none)
  | _ => none
theorem de_move {e : Expr} (i : Nat) (h : PE X e (tVar i)) : DE X e (eMove i) := by
  refine ⟨_, h, fun σ H env env' fp d s nd hf Q q => ?_⟩
  unfold eMove at hf
  cases e1 : env[i]? with
  | none => rw [e1] at hf; cases hf
  | some o =>
    rw [e1] at hf
    cases o with
    | none => cases hf
    | some d' =>
      have hf : some (d', if isImm d' = true then env else env.set i none) = some (d, env') := hf
      obtain ⟨rfl, rfl⟩ := Prod.mk.inj (Option.some.inj hf)
      obtain ⟨v, pre, f, post, e1, e2, r, _, p2⟩ := s.at e1
      by_cases hi : isImm d' = true
      · obtain ⟨z, r'⟩ := r.imm hi
        rw [if_pos hi] at q
        exact ⟨v, e1, q v H [] fp (Evo.refl fp H) s r'.ro nd⟩
      · rw [if_neg hi] at q
        refine ⟨v, e1, q v H f (pre ++ post) ((Evo.refl fp H).sub fun a m => ?_) ?_ r ?_⟩
        · rw [e2]
          rcases List.mem_append.mp m with m | m
          · exact List.mem_append_right _ (List.mem_append_left _ m)
          · rcases List.mem_append.mp m with m | m
            · exact List.mem_append_left _ m
            · exact List.mem_append_right _ (List.mem_append_right _ m)
        · have z := p2 H (some v) (ImmExt.refl H) fun _ _ => rfl
          have e3 : σ.set i (some v) = σ := by
            obtain ⟨h1, h2⟩ := List.getElem?_eq_some_iff.mp e1
            rw [← h2, List.set_getElem_self]
          rw [e3] at z
          exact z
        · rw [e2] at nd
          have p : (pre ++ (f ++ post)).Perm (f ++ (pre ++ post)) := by
            rw [← List.append_assoc, ← List.append_assoc]
            exact List.perm_append_comm.append_right post
          exact p.nodup_iff.mp nd
end

/-! ### operations by values -/
def O2 (own : Bool) (X : Cx) (f : Value → Value → Sem Value) (g : D → D → Option D) : Prop :=
  ∃ r : R2, OpR X f r ∧ ∀ (H : Hp) (x y : V) (dx dy d : D) (fx fy : List Addr), RO X.K H dx x fx → RO X.K H dy y fy → g dx dy = some d → ∀ Q : VK, Res own X.K H d Q → r x y H Q
/-- a one-place operation -/
def O1 (own : Bool) (X : Cx) (f : Value → Sem Value) (g : D → Option D) : Prop :=
  ∃ r : V → Hp → VK → Prop, UnR X f r ∧ ∀ (H : Hp) (x : V) (dx d : D) (fx : List Addr), RO X.K H dx x fx → g dx = some d → ∀ Q : VK, Res own X.K H d Q → r x H Q
/-- a subscript -/
def OX (X : Cx) (g : D → D → Option D) : Prop :=
  ∃ r : R2, IxR X r ∧ ∀ (H : Hp) (x y : V) (dx dy d : D) (fx fy : List Addr), RO X.K H dx x fx → RO X.K H dy y fy → g dx dy = some d → ∀ Q : VK, Res false X.K H d Q → r x y H Q
/-- a call of a known function -/
def OC (own : Bool) (X : Cx) (v : Value) (g : List D → Option D) : Prop :=
  ∃ r : List V → Hp → VK → Prop, CallR X v r ∧ ∀ (H : Hp) (vs : List V) (ds : List D) (fp : List Addr) (d : D), ROs X.K H ds vs fp → g ds = some d → ∀ Q : VK, Res own X.K H d Q → r vs H Q

section
variable {own : Bool} {X : Cx} {a b c : Expr} {pos : Pos}
theorem Res.via {K : PySem.W.Frag} {H H1 : Hp} {d : D} {Q : VK} (q : Res own K H d Q) (e : Same H H1) : Res own K H1 d Q := fun v H' fr e' r fo => q v H' fr (e.trans e') r fun z => (fo z).back e
theorem RO.same {K : PySem.W.Frag} {H H1 : Hp} {d : D} {v : V} {fp : List Addr} (r : RO K H d v fp) (e : Same H H1) : RO K H1 d v fp := RO.mono (.of_same e) d v fp (same_eq (K := K) e (RO.live d v fp r)) r
theorem ROs.same {K : PySem.W.Frag} {H H1 : Hp} {ds : List D} {vs : List V} {fp : List Addr} (r : ROs K H ds vs fp) (e : Same H H1) : ROs K H1 ds vs fp := ROs.mono (.of_same e) ds vs fp (same_eq (K := K) e (ROs.live ds vs fp r)) r
theorem EQ.via {K : PySem.W.Frag} {σ : L2.St} {H H1 : Hp} {fp fp1 : List Addr} {d : D} {env' : Env} {Q : VK} (q : EQ K σ H fp d env' Q) (e : Evo fp H fp1 H1) : EQ K σ H1 fp1 d env' Q :=
  fun v H' fr fp' e' s r n => q v H' fr fp' (e.trans e') s r n
/-- two of them, one behind the other -/
theorem two {K : PySem.W.Frag} {σ : L2.St} {H H1 H2 : Hp} {d : D} {v : V} {env : Env} {fp fr fp1 fr2 fp2 : List Addr} (e1 : Evo fp H (fr ++ fp1) H1) (r1 : RO K H1 d v fr) (n1 : (fr ++ fp1).Nodup) (e2 : Evo fp1 H1 (fr2 ++ fp2) H2) (n2 : (fr2 ++ fp2).Nodup) :
    RO K H2 d v fr ∧ Evo fp H ((fr ++ fr2) ++ fp2) H2 ∧ ((fr ++ fr2) ++ fp2).Nodup := by
  have nf : ∀ a ∈ fr, a ∉ fp1 := fun a m m' => (List.nodup_append.mp n1).2.2 a m a m' rfl
  refine ⟨RO.mono e2.imm d v fr (e2.stay (RO.live d v fr r1) nf) r1, ?_, ?_⟩
  · rw [List.append_assoc]
    exact e1.trans e2.side
  · rw [List.append_assoc]
    exact List.nodup_append.mpr ⟨(List.nodup_append.mp n1).1, n2, fun a m b m' e => by
      subst e
      exact e2.apart (RO.live d v fr r1) nf a m m'⟩
theorem twos {K : PySem.W.Frag} {H H1 H2 : Hp} {ds : List D} {vs : List V} {fp fr fp1 fr2 fp2 : List Addr} (e1 : Evo fp H (fr ++ fp1) H1) (r1 : ROs K H1 ds vs fr) (n1 : (fr ++ fp1).Nodup) (e2 : Evo fp1 H1 (fr2 ++ fp2) H2) (n2 : (fr2 ++ fp2).Nodup) :
    ROs K H2 ds vs fr ∧ Evo fp H ((fr ++ fr2) ++ fp2) H2 ∧ ((fr ++ fr2) ++ fp2).Nodup := by
  have nf : ∀ a ∈ fr, a ∉ fp1 := fun a m m' => (List.nodup_append.mp n1).2.2 a m a m' rfl
  refine ⟨ROs.mono e2.imm ds vs fr (e2.stay (ROs.live ds vs fr r1) nf) r1, ?_, ?_⟩
  · rw [List.append_assoc]
    exact e1.trans e2.side
  · rw [List.append_assoc]
    exact List.nodup_append.mpr ⟨(List.nodup_append.mp n1).1, n2, fun a m b m' e => by
      subst e
      exact e2.apart (ROs.live ds vs fr r1) nf a m m'⟩
/-- the operands let go: what comes is new beside what is ours -/
theorem let_go {K : PySem.W.Frag} {σ : L2.St} {H H1 H2 : Hp} {d : D} {v : V} {env : Env} {fp g fp1 fr : List Addr} {Q : VK} (q : EQ K σ H fp d env Q) (e1 : Evo fp H (g ++ fp1) H1) (s : SR K H1 env σ fp1) (n : fp1.Nodup) (e : Same H1 H2) (r : RO K H2 d v fr) (f : Fresh fr H1) : Q v H2 :=
  q v H2 fr fp1 ((e1.sub fun a m => List.mem_append_right _ m).trans (.of_same e f.2)) (s.same e) r (fresh_app s n f)
/-- an operation, its parts without effects -/
def p2 (g : D → D → Option D) (fa fb : PSm) : PSm := fun env => (fa env).bind fun x => (fb env).bind fun y => g x y
theorem p2_inv {g : D → D → Option D} {fa fb : PSm} {env : Env} {d : D} (h : p2 g fa fb env = some d) : ∃ x y, fa env = some x ∧ fb env = some y ∧ g x y = some d := by
  unfold p2 at h
  cases e1 : fa env with
  | none => rw [e1] at h; cases h
  | some x =>
    cases e2 : fb env with
    | none => rw [e1, e2] at h; cases h
    | some y => rw [e1, e2] at h; exact ⟨x, y, rfl, rfl, h⟩
def e2 (g : D → D → Option D) (fa fb : ESm) : ESm := fun env => (fa env).bind fun x => (fb x.2).bind fun y => (g x.1 y.1).map fun d => (d, y.2)
theorem e2_inv {g : D → D → Option D} {fa fb : ESm} {env env' : Env} {d : D} (h : e2 g fa fb env = some (d, env')) : ∃ x e1 y, fa env = some (x, e1) ∧ fb e1 = some (y, env') ∧ g x y = some d := by
  unfold e2 at h
  cases e1 : fa env with
  | none => rw [e1] at h; cases h
  | some x =>
    rw [e1] at h
    have h : ((fb x.2).bind fun y => (g x.1 y.1).map fun d => (d, y.2)) = some (d, env') := h
    cases e2 : fb x.2 with
    | none => rw [e2] at h; cases h
    | some y =>
      rw [e2] at h
      have h : (g x.1 y.1).map (fun d => (d, y.2)) = some (d, env') := h
      cases e3 : g x.1 y.1 with
      | none => rw [e3] at h; cases h
      | some z => rw [e3] at h; cases h; exact ⟨x.1, x.2, y.1, rfl, by rw [e2], e3⟩
theorem db_bin {f : Value → Value → Sem Value} {e : Expr} {g : D → D → Option D} {fa fb : PSm} (ho : O2 own X f g) (mk : ∀ r ta tb, OpR X f r → PE X a ta → PE X b tb → PE X e (tOp r ta tb)) (ha : DB false X a fa) (hb : DB false X b fb) : DB own X e (p2 g fa fb) := by
  obtain ⟨r, hr, ho⟩ := ho
  obtain ⟨ta, pa, ha⟩ := ha
  obtain ⟨tb, pb, hb⟩ := hb
  refine ⟨_, mk r ta tb hr pa pb, fun σ H env fp d s nd hf Q q => ?_⟩
  obtain ⟨x, y, e1, e2, e3⟩ := p2_inv hf
  refine ha σ H env fp x s nd e1 _ fun vx H1 fx s1 rx _ => ?_
  refine hb σ H1 env fp y (s.same s1) nd e2 _ fun vy H2 fy s2 ry _ => ?_
  exact ho H2 vx vy x y d fx fy (rx.same s2) ry e3 Q ((q.via s1).via s2)
theorem de_bin {f : Value → Value → Sem Value} {e : Expr} {g : D → D → Option D} {fa fb : ESm} (ho : O2 true X f g) (mk : ∀ r ta tb, OpR X f r → PE X a ta → PE X b tb → PE X e (tOp r ta tb)) (ha : DE X a fa) (hb : DE X b fb) : DE X e (e2 g fa fb) := by
  obtain ⟨r, hr, ho⟩ := ho
  obtain ⟨ta, pa, ha⟩ := ha
  obtain ⟨tb, pb, hb⟩ := hb
  refine ⟨_, mk r ta tb hr pa pb, fun σ H env env' fp d s nd hf Q q => ?_⟩
  obtain ⟨x, env1, y, e1, e2, e3⟩ := e2_inv hf
  refine ha σ H env env1 fp x s nd e1 _ fun vx H1 fx fp1 v1 s1 rx n1 => ?_
  refine hb σ H1 env1 env' fp1 y s1 (List.nodup_append.mp n1).2.1 e2 _ fun vy H2 fy fp2 v2 s2 ry n2 => ?_
  obtain ⟨rx2, v12, n12⟩ := two (env := env) (σ := σ) v1 rx n1 v2 n2
  exact ho H2 vx vy x y d fx fy rx2 ry e3 Q fun v H' fr sm r fo => let_go q v12 s2 (List.nodup_append.mp n2).2.1 sm r (fo rfl)
theorem db_op {op : Operator} {g : D → D → Option D} {fa fb : PSm} (ho : O2 own X (binaryOp op) g) (ha : DB false X a fa) (hb : DB false X b fb) : DB own X (.BinOp a op b pos) (p2 g fa fb) := db_bin ho (fun _ _ _ h1 h2 h3 => pe_op h1 h2 h3) ha hb
theorem de_op {op : Operator} {g : D → D → Option D} {fa fb : ESm} (ho : O2 true X (binaryOp op) g) (ha : DE X a fa) (hb : DE X b fb) : DE X (.BinOp a op b pos) (e2 g fa fb) := de_bin ho (fun _ _ _ h1 h2 h3 => pe_op h1 h2 h3) ha hb
theorem db_cmp {op : CmpOp} {g : D → D → Option D} {fa fb : PSm} (ho : O2 own X (compareOp op) g) (ha : DB false X a fa) (hb : DB false X b fb) (hm : behindInMarks op b = false) : DB own X (.Compare a [op] [b] pos) (p2 g fa fb) := db_bin ho (fun _ _ _ h1 h2 h3 => pe_cmpR h1 h2 h3 hm) ha hb
theorem de_cmp {op : CmpOp} {g : D → D → Option D} {fa fb : ESm} (ho : O2 true X (compareOp op) g) (ha : DE X a fa) (hb : DE X b fb) (hm : behindInMarks op b = false) : DE X (.Compare a [op] [b] pos) (e2 g fa fb) := de_bin ho (fun _ _ _ h1 h2 h3 => pe_cmpR h1 h2 h3 hm) ha hb
/-- a comparison as a test -/
def p2t (g : D → D → Option D) (fa fb : PSm) : TPm := fun env => match p2 g fa fb env with
  | some (.bl b) => some b
  | _ => none
theorem dtp_cmp {op : CmpOp} {g : D → D → Option D} {fa fb : PSm} (ho : O2 true X (compareOp op) g) (ha : DB false X a fa) (hb : DB false X b fb) (hm : behindInMarks op b = false) : DTP X (.Compare a [op] [b] pos) (p2t g fa fb) := by
  obtain ⟨r, hr, ho⟩ := ho
  obtain ⟨ta, pa, ha⟩ := ha
  obtain ⟨tb, pb, hb⟩ := hb
  refine ⟨_, pt_cmpR hr pa pb hm, fun σ H env fp d s nd hf Q q => ?_⟩
  unfold p2t at hf
  split at hf
  case h_2 => cases hf
  rename_i bb e0
  cases hf
  obtain ⟨x, y, e1, e2, e3⟩ := p2_inv e0
  refine ha σ H env fp x s nd e1 _ fun vx H1 fx s1 rx _ => ?_
  refine hb σ H1 env fp y (s.same s1) nd e2 _ fun vy H2 fy s2 ry _ => ?_
  refine ho H2 vx vy x y _ fx fy (rx.same s2) ry e3 _ fun v H' fr sm r fo => ?_
  obtain ⟨_, rfl⟩ := r
  exact ⟨_, rfl, q H' ((s1.trans s2).trans sm)⟩
def e2t (g : D → D → Option D) (fa fb : ESm) : TSm := fun env => match e2 g fa fb env with
  | some (.bl b, env') => some (b, env')
  | _ => none
theorem dt_cmp {op : CmpOp} {g : D → D → Option D} {fa fb : ESm} (ho : O2 true X (compareOp op) g) (ha : DE X a fa) (hb : DE X b fb) (hm : behindInMarks op b = false) : DT X (.Compare a [op] [b] pos) (e2t g fa fb) := by
  obtain ⟨r, hr, ho⟩ := ho
  obtain ⟨ta, pa, ha⟩ := ha
  obtain ⟨tb, pb, hb⟩ := hb
  refine ⟨_, pt_cmpR hr pa pb hm, fun σ H env env' fp d s nd hf Q q => ?_⟩
  unfold e2t at hf
  split at hf
  case h_2 => cases hf
  rename_i bb ee e0
  cases hf
  obtain ⟨x, env1, y, e1, e2, e3⟩ := e2_inv e0
  refine ha σ H env env1 fp x s nd e1 _ fun vx H1 fx fp1 v1 s1 rx n1 => ?_
  refine hb σ H1 env1 _ fp1 y s1 (List.nodup_append.mp n1).2.1 e2 _ fun vy H2 fy fp2 v2 s2 ry n2 => ?_
  obtain ⟨rx2, v12, n12⟩ := two (env := env) (σ := σ) v1 rx n1 v2 n2
  refine ho H2 vx vy x y _ fx fy rx2 ry e3 _ fun v H' fr sm r fo => ?_
  obtain ⟨_, rfl⟩ := r
  exact ⟨_, rfl, q H' fp2 ((v12.sub fun a m => List.mem_append_right _ m).trans ⟨fun a o h _ => sm a o h, fun _ m => .inl m, .of_same sm⟩) (s2.same sm) (List.nodup_append.mp n2).2.1⟩
end
end DL

set_option maxHeartbeats 1000000
/-! DL, part c: operations by values -/
namespace DL
open PySem L2
abbrev szL : Nat := 16777216
theorem szL_eq : sizeLine = szL := sizeLine_eq

/-! ### data as the library's data -/
mutual
def py : D → PyData
  | .non => .none
  | .bl b => .bool b
  | .int i => .int i
  | .str s => .str s
  | .tup ds => .tuple (pys ds)
  | .lst _ ds => .list (pys ds)
  | .scr ds => .list (pys ds)
  | .dcK _ _ _ => .none
  | .dcT _ _ _ => .none
  | .exo _ _ _ _ _ => .none
def pys : List D → List PyData
  | [] => []
  | d :: ds => py d :: pys ds
end
mutual
/-- no dict in it -/
def nodic : D → Bool
  | .tup ds => nodics ds
  | .lst _ ds => nodics ds
  | .scr ds => nodics ds
  | .dcK _ _ _ => false
  | .dcT _ _ _ => false
  | .exo _ _ _ _ _ => false
  | _ => true
def nodics : List D → Bool
  | [] => true
  | d :: ds => nodic d && nodics ds
end
section
variable {K : PySem.W.Frag} {H : Hp}
mutual
theorem RI.dp : ∀ (d : D) (v : V), RI K H d v → nodic d = true → Dp K H v (py d)
  | .non, _, h, _ => by cases (show _ = _ from h); exact .non
  | .bl b, _, h, _ => by cases (show _ = _ from h); exact .bl b
  | .int i, _, h, _ => by cases (show _ = _ from h); exact .int i
  | .str s, _, h, _ => by cases (show _ = _ from h); exact .str s
  | .tup ds, _, ⟨a, xs, h1, h2, h3⟩, n => by rw [h1]; exact .tup (SqT.of h2) (RIs.dp ds xs h3 n)
  | .lst _ ds, _, ⟨_, a, o, xs, h1, h2, h3⟩, n => by rw [h1]; exact .lst (.inl (.inr ⟨o, h2⟩)) (RIs.dp ds xs h3 n)
  | .scr ds, _, ⟨a, xs, h1, h2, h3⟩, n => by rw [h1]; exact .lst h2.sq (RIs.dp ds xs h3 n)
  | .dcK _ _ _, _, _, n => nomatch (show false = true from n)
  | .dcT _ _ _, _, _, n => nomatch (show false = true from n)
  | .exo _ _ _ _ _, _, _, n => nomatch (show false = true from n)
theorem RIs.dp : ∀ (ds : List D) (vs : List V), RIs K H ds vs → nodics ds = true → DpAll K H vs (pys ds)
  | [], _, h, _ => by rw [show _ = [] from h]; exact .nil
  | d :: ds, _, ⟨x, xs, h1, h2, h3⟩, n => by
    have n : (nodic d && nodics ds) = true := n
    rw [Bool.and_eq_true] at n
    rw [h1]; exact .cons (RI.dp d x h2 n.1) (RIs.dp ds xs h3 n.2)
end
mutual
theorem RO.dp : ∀ (d : D) (v : V) (fp : List Addr), RO K H d v fp → nodic d = true → Dp K H v (py d)
  | .non, _, _, h, _ => by cases h.2; exact .non
  | .bl b, _, _, h, _ => by cases h.2; exact .bl b
  | .int i, _, _, h, _ => by cases h.2; exact .int i
  | .str s, _, _, h, _ => by cases h.2; exact .str s
  | .tup ds, v, _, h, n => RI.dp _ v h.2 n
  | .scr ds, v, _, h, n => RI.dp _ v h.2 n
  | .lst fz ds, v, _, h, n => by
    rcases h with ⟨_, _, h⟩ | ⟨_, a, xs, f, h1, _, h2, h3⟩
    · exact RI.dp _ v h n
    · rw [h1]; exact .lst (SqL.of h2) (ROs.dp ds xs f h3 n)
  | .dcK _ _ _, _, _, _, n => nomatch (show false = true from n)
  | .dcT _ _ _, _, _, _, n => nomatch (show false = true from n)
  | .exo _ _ _ _ _, _, _, _, n => nomatch (show false = true from n)
theorem ROs.dp : ∀ (ds : List D) (vs : List V) (fp : List Addr), ROs K H ds vs fp → nodics ds = true → DpAll K H vs (pys ds)
  | [], _, _, h, _ => by rw [h.1]; exact .nil
  | d :: ds, _, _, ⟨x, xs, f, f', h1, _, h2, h3⟩, n => by
    have n : (nodic d && nodics ds) = true := n
    rw [Bool.and_eq_true] at n
    rw [h1]; exact .cons (RO.dp d x f h2 n.1) (ROs.dp ds xs f' h3 n.2)
end
/-! ### flat data are one value -/
def flatD : D → Bool
  | .non => true | .bl _ => true | .int _ => true | .str _ => true
  | _ => false
def fv : D → V
  | .bl b => .bl b
  | .int i => .int i
  | .str s => .str s
  | _ => .non
theorem RO.fv {d : D} {v : V} {fp : List Addr} (h : RO K H d v fp) (f : flatD d = true) : v = fv d := by
  cases d with
  | non => exact h.2
  | bl b => exact h.2
  | int i => exact h.2
  | str s => exact h.2
  | _ => exact nomatch (show false = true from f)
theorem flat_fv {d : D} (f : flatD d = true) : flatV (fv d) = true := by
  cases d with
  | non => rfl
  | bl b => rfl
  | int i => rfl
  | str s => rfl
  | _ => exact nomatch (show false = true from f)
theorem ROs.fvs : ∀ {ds : List D} {vs : List V} {fp : List Addr}, ROs K H ds vs fp → ds.all flatD = true → vs = ds.map DL.fv
  | [], _, _, h, _ => by rw [h.1]; rfl
  | d :: ds, _, _, ⟨x, xs, f, f', h1, _, h2, h3⟩, n => by
    rw [List.all_cons, Bool.and_eq_true] at n
    rw [h1, h2.fv n.1, h3.fvs n.2]; rfl
theorem all_fv {ds : List D} (h : ds.all flatD = true) : (ds.map fv).all flatV = true := by
  rw [List.all_map]
  rw [List.all_eq_true] at h ⊢
  exact fun d m => flat_fv (h d m)
theorem fv_ri {d : D} (f : flatD d = true) : RI K H d (fv d) := by
  cases d with
  | non => rfl
  | bl b => rfl
  | int i => rfl
  | str s => rfl
  | _ => exact nomatch (show false = true from f)

/-! ### what is walked or indexed: a list, a tuple -/
/-- a list or a tuple, and its items -/
def seqD : D → Option (List D)
  | .tup ds => some ds
  | .lst _ ds => some ds
  | .scr ds => some ds
  | _ => none
theorem RO.seq {d : D} {v : V} {fp : List Addr} {ds : List D} (h : RO K H d v fp) (e : seqD d = some ds) : ∃ a xs f, v = .ref a ∧ ROs K H ds xs f ∧ (∀ b ∈ f, b ∈ fp) ∧ (SqL K H a xs ∨ SqT K H a xs) ∧ (∀ o, d = .tup o → SqT K H a xs) ∧ ((∀ o, d ≠ .tup o) → SqL K H a xs) := by
  cases d with
  | tup es =>
    cases e
    obtain ⟨_, a, xs, h1, h2, h3⟩ := h
    exact ⟨a, xs, [], h1, h3.ros, fun b m => (nomatch m), .inr (SqT.of h2), fun _ _ => SqT.of h2, fun n => absurd rfl (n _)⟩
  | lst fz es =>
    cases e
    rcases h with ⟨_, _, _, a, o, xs, h1, h2, h3⟩ | ⟨_, a, xs, f, h1, hf, h2, h3⟩
    · exact ⟨a, xs, [], h1, h3.ros, fun b m => (nomatch m), .inl (.inl (.inr ⟨o, h2⟩)), fun _ z => (nomatch z), fun _ => .inl (.inr ⟨o, h2⟩)⟩
    · exact ⟨a, xs, f, h1, h3, fun b m => by rw [hf]; exact List.mem_cons_of_mem _ m, .inl (SqL.of h2), fun _ z => (nomatch z), fun _ => SqL.of h2⟩
  | scr es =>
    cases e
    obtain ⟨_, a, xs, h1, h2, h3⟩ := h
    exact ⟨a, xs, [], h1, h3.ros, fun b m => (nomatch m), .inl h2.sq, fun _ z => (nomatch z), fun _ => h2.sq⟩
  | _ => cases e
theorem ROs.ris {ds : List D} {vs : List V} {fp : List Addr} (h : ROs K H ds vs fp) (i : ds.all isImm = true) : RIs K H ds vs := (h.imms i).2
end

/-! ### + -/
def dAdd : D → D → Option D
  | .int i, .int j => some (.int (i + j))
  | .str a, .str b => if a.length + b.length ≤ szL then some (.str (a ++ b)) else none
  | .tup a, .tup b => if a.length + b.length ≤ szL then some (.tup (a ++ b)) else none
  | .lst _ a, .lst _ b => if a.length + b.length ≤ szL ∧ a.all isImm = true ∧ b.all isImm = true then some (.lst false (a ++ b)) else none
  | _, _ => none
/-- a list that stands in H, whether it may be changed or not -/
theorem RO.rdl {K : PySem.W.Frag} {H : Hp} {fz : Bool} {ds : List D} {v : V} {fp : List Addr} (h : RO K H (.lst fz ds) v fp) : ∃ a xs f, v = .ref a ∧ Rd H a (.lst xs) ∧ ROs K H ds xs f := by
  rcases h with ⟨_, _, _, a, o, xs, h1, h2, h3⟩ | ⟨_, a, xs, f, h1, hf, h2, h3⟩
  · exact ⟨a, xs, [], h1, .inr ⟨o, h2⟩, h3.ros⟩
  · exact ⟨a, xs, f, h1, .inl h2, h3⟩
section
variable {X : Cx}
theorem Rd.obj {pins : List (Addr × Obj)} {σ : L2.St} {H : Hp} {s : Shared} {a : Addr} {xs : List V} (I : Inv X pins σ H s) (h : Rd H a (.lst xs)) :
    ∃ (its : List Value) (n : Nat), Vals xs its ∧ xs.length ≤ sizeLine ∧ s.heap.get? a = some { cls := .type "list", data := .seq its.toArray n } := by
  obtain ⟨z, its, n, r, e⟩ := h.ok I.hok
  exact ⟨its, n, r, z, e⟩
/-- a new list beside two that are read -/
def rCatR : R2 := fun x y H Q => ∃ l b xs zs, x = .ref l ∧ y = .ref b ∧ Rd H l (.lst xs) ∧ Rd H b (.lst zs) ∧ xs.length + zs.length ≤ sizeLine ∧ ∀ p, H p = none → Q (.ref p) (upd H p (.lst (xs ++ zs)))
theorem op_catR : OpR X (binaryOp .Add) rCatR := by
  rintro pins s σ H x y v u Q I rx ry ⟨l, b, xs, zs, rfl, rfl, hl, hb, hz, q⟩
  cases rx
  cases ry
  obtain ⟨i1, n1, r1, z1, g1⟩ := Rd.obj I hl
  obtain ⟨i2, n2, r2, z2, g2⟩ := Rd.obj I hb
  have l1 := r1.length
  have l2 := r2.length
  refine PySem.P.add_list g1 g2 ?_ (by simp only [List.size_toArray]; omega)
  have I2 := I.lnew (its := i1 ++ i2) (t' := s.toks) (r1.append r2) (by rw [List.length_append]; omega)
  rw [show i1.toArray ++ i2.toArray = (i1 ++ i2).toArray from by simp]
  exact ⟨.ref s.heap.objs.size, _, I2, rfl, q _ I.fresh⟩
theorem o_add : O2 true X (binaryOp .Add) dAdd := by
  refine ⟨_, op_add.or (op_add_str.or (op_catA.or op_catR)), fun H x y dx dy d fx fy hx hy hg Q q => ?_⟩
  unfold dAdd at hg
  split at hg
  · cases hg
    obtain ⟨_, rfl⟩ := hx
    obtain ⟨_, rfl⟩ := hy
    exact .inl ⟨_, _, rfl, rfl, q.int⟩
  · split at hg
    · rename_i hz
      cases hg
      obtain ⟨_, rfl⟩ := hx
      obtain ⟨_, rfl⟩ := hy
      exact .inr (.inl ⟨_, _, rfl, rfl, by rw [szL_eq]; exact hz, q.str⟩)
    · cases hg
  · split at hg
    · rename_i a0 b0 hz
      cases hg
      obtain ⟨_, a, xs, h1, h2, h3⟩ := hx
      obtain ⟨_, b, ys, h4, h5, h6⟩ := hy
      refine .inr (.inr (.inl ⟨a, b, xs, ys, h1, h4, SqT.of h2, SqT.of h5, by rw [szL_eq, h3.length, h6.length]; exact hz, fun e => ?_, fun _ e => ?_, fun _ _ p hp => ?_⟩))
      · refine q.imm ?_
        subst e
        have e := h3.length
        have e0 : a0 = [] := List.eq_nil_of_length_eq_zero (by simpa using e.symm)
        rw [e0]
        exact ⟨b, ys, h4 ▸ rfl, h5, h6⟩
      · refine q.imm ?_
        subst e
        have e := h6.length
        have e0 : b0 = [] := List.eq_nil_of_length_eq_zero (by simpa using e.symm)
        rw [e0, List.append_nil]
        exact ⟨a, xs, rfl, h2, h3⟩
      · exact q.tup (h3.app h6) hp
    · cases hg
  · split at hg
    · rename_i hz
      cases hg
      obtain ⟨a, xs, f, h1, h2, h3⟩ := hx.rdl
      obtain ⟨b, ys, f', h4, h5, h6⟩ := hy.rdl
      exact .inr (.inr (.inr ⟨a, b, xs, ys, h1, h4, h2, h5, by rw [szL_eq, h3.length, h6.length]; exact hz.1, fun p hp => q.lst ((h3.ris hz.2.1).app (h6.ris hz.2.2)) hp⟩))
    · cases hg
  · cases hg
/-- the same of two ints, all ways -/
theorem o_int {f : Value → Value → Sem Value} {C : Int → Int → Prop} {g : Int → Int → V} {h : D → D → Option D} (hr : OpR X f (rI C g))
    (hh : ∀ dx dy d, h dx dy = some d → ∃ i j, dx = .int i ∧ dy = .int j ∧ C i j ∧ flatD d = true ∧ fv d = g i j) : O2 true X f h := by
  refine ⟨_, hr, fun H x y dx dy d fx fy hx hy hg Q q => ?_⟩
  obtain ⟨i, j, rfl, rfl, hc, hf, e⟩ := hh dx dy d hg
  obtain ⟨_, rfl⟩ := hx
  obtain ⟨_, rfl⟩ := hy
  refine ⟨i, j, rfl, rfl, hc, ?_⟩
  rw [← e]
  exact q.imm (fv_ri hf)
theorem o_int0 {f : Value → Value → Sem Value} {g : Int → Int → V} {h : D → D → Option D} (hr : OpR X f (rI0 g))
    (hh : ∀ dx dy d, h dx dy = some d → ∃ i j, dx = .int i ∧ dy = .int j ∧ flatD d = true ∧ fv d = g i j) : O2 true X f h := by
  refine ⟨_, hr, fun H x y dx dy d fx fy hx hy hg Q q => ?_⟩
  obtain ⟨i, j, rfl, rfl, hf, e⟩ := hh dx dy d hg
  obtain ⟨_, rfl⟩ := hx
  obtain ⟨_, rfl⟩ := hy
  refine ⟨i, j, rfl, rfl, ?_⟩
  rw [← e]
  exact q.imm (fv_ri hf)
def dSub : D → D → Option D
  | .int i, .int j => some (.int (i - j))
  | _, _ => none
theorem o_sub : O2 true X (binaryOp .Sub) dSub := o_int0 op_sub fun dx dy d h => by
  unfold dSub at h
  split at h
  · cases h; exact ⟨_, _, rfl, rfl, rfl, rfl⟩
  · cases h
abbrev bitsI (i : Int) : Nat := Builtin.Int.intBits i
def dMul : D → D → Option D
  | .int i, .int j => if bitsI i + bitsI j ≤ 134217728 then some (.int (i * j)) else none
  | .lst _ ds, .int k => if -9223372036854775808 ≤ k ∧ k < 9223372036854775808 ∧ ds.length * k.toNat ≤ szL ∧ ds.all isImm = true then some (.lst false (List.replicate k.toNat ds).flatten) else none
  | _, _ => none
def rRepR : R2 := fun x y H Q => ∃ l k xs, x = .ref l ∧ y = .int k ∧ Rd H l (.lst xs) ∧ -(2 ^ 63) ≤ k ∧ k < 2 ^ 63 ∧ xs.length * k.toNat ≤ sizeLine ∧ ∀ p, H p = none → Q (.ref p) (upd H p (.lst (List.replicate k.toNat xs).flatten))
theorem RIs.rep {K : PySem.W.Frag} {H : Hp} {ds : List D} {xs : List V} (h : RIs K H ds xs) : ∀ n : Nat, RIs K H (List.replicate n ds).flatten (List.replicate n xs).flatten
  | 0 => rfl
  | n + 1 => by
    rw [List.replicate_succ, List.replicate_succ, List.flatten_cons, List.flatten_cons]
    exact h.app (RIs.rep h n)
def dMod : D → D → Option D
  | .int i, .int j => if 0 < j then some (.int (i % j)) else none
  | _, _ => none
theorem o_mod : O2 true X (binaryOp .Mod) dMod := o_int op_mod fun dx dy d h => by
  unfold dMod at h
  split at h
  · split at h
    · rename_i hj
      cases h; exact ⟨_, _, rfl, rfl, hj, rfl, rfl⟩
    · cases h
  · cases h
def dDiv : D → D → Option D
  | .int i, .int j => if 0 < j ∧ j < 1073741824 then some (.int (i / j)) else none
  | _, _ => none
theorem o_div : O2 true X (binaryOp .FloorDiv) dDiv := o_int op_fdiv fun dx dy d h => by
  unfold dDiv at h
  split at h
  · split at h
    · rename_i hj
      cases h; exact ⟨_, _, rfl, rfl, hj, rfl, rfl⟩
    · cases h
  · cases h
def dPow : D → D → Option D
  | .int i, .int j => if (0 ≤ j ∧ j ≤ 1000000 ∧ i.natAbs < 18446744073709551616) ∨ (0 ≤ j ∧ bitsI i * j.toNat ≤ 134217728) then some (.int (i ^ j.toNat)) else none
  | _, _ => none
theorem op_powX {X : Cx} : OpR X (binaryOp .Pow) (rI (fun i j => (0 ≤ j ∧ j ≤ 1000000 ∧ i.natAbs < 2 ^ 64) ∨ (0 ≤ j ∧ bitsI i * j.toNat ≤ 134217728)) fun i j => .int (i ^ j.toNat)) := opI fun i j _ _ _ _ _ hc q => by
  rcases hc with hc | hc
  · exact PyProof.Rows.pow_int_small hc.1 hc.2.1 hc.2.2 q
  · refine PyProof.Rows.pow_int hc.1 ?_ q
    have e : j = (j.toNat : Int) := (Int.toNat_of_nonneg hc.1).symm
    have h := hc.2
    generalize j.toNat = n at e h
    subst e
    have h' : ((bitsI i * n : Nat) : Int) ≤ ((134217728 : Nat) : Int) := Int.ofNat_le.mpr h
    rw [Int.natCast_mul] at h'
    exact h'
theorem o_pow : O2 true X (binaryOp .Pow) dPow := o_int op_powX fun dx dy d h => by
  unfold dPow at h
  split at h
  · split at h
    · rename_i hj
      cases h
      exact ⟨_, _, rfl, rfl, hj.imp (fun h => ⟨h.1, h.2.1, by have := h.2.2; show _ < 2 ^ 64; omega⟩) id, rfl, rfl⟩
    · cases h
  · cases h
/-! ### comparisons -/
def dLt : D → D → Option D
  | .int i, .int j => some (.bl (decide (i < j)))
  | .str a, .str b => some (.bl (decide (a.cps.toList < b.cps.toList)))
  | _, _ => none
def dLe : D → D → Option D
  | .int i, .int j => some (.bl (decide (i ≤ j)))
  | _, _ => none
def dGt : D → D → Option D
  | .int i, .int j => some (.bl (decide (j < i)))
  | _, _ => none
def dGe : D → D → Option D
  | .int i, .int j => some (.bl (decide (j ≤ i)))
  | _, _ => none
theorem o_le : O2 true X (compareOp .LtE) dLe := o_int0 op_le fun dx dy d h => by
  unfold dLe at h
  split at h
  · cases h; exact ⟨_, _, rfl, rfl, rfl, rfl⟩
  · cases h
theorem o_gt : O2 true X (compareOp .Gt) dGt := o_int0 op_gt fun dx dy d h => by
  unfold dGt at h
  split at h
  · cases h; exact ⟨_, _, rfl, rfl, rfl, rfl⟩
  · cases h
theorem o_ge : O2 true X (compareOp .GtE) dGe := o_int0 op_ge fun dx dy d h => by
  unfold dGe at h
  split at h
  · cases h; exact ⟨_, _, rfl, rfl, rfl, rfl⟩
  · cases h
theorem o_lt : O2 true X (compareOp .Lt) dLt := by
  refine ⟨_, op_lt.or op_lt_str, fun H x y dx dy d fx fy hx hy hg Q q => ?_⟩
  unfold dLt at hg
  split at hg
  · cases hg
    obtain ⟨_, rfl⟩ := hx
    obtain ⟨_, rfl⟩ := hy
    exact .inl ⟨_, _, rfl, rfl, q.bl⟩
  · cases hg
    obtain ⟨_, rfl⟩ := hx
    obtain ⟨_, rfl⟩ := hy
    exact .inr ⟨_, _, rfl, rfl, q.bl⟩
  · cases hg
/-- == of flat data, as decided -/
def scalD : D → D → Bool
  | .bl _, .int _ => false
  | .int _, .bl _ => false
  | a, b => flatD a && flatD b
theorem scal_fv {a b : D} (h : scalD a b = true) : flatD a = true ∧ flatD b = true ∧ scal (fv a) (fv b) = true := by
  cases a <;> cases b <;> first | exact ⟨rfl, rfl, rfl⟩ | exact nomatch (show false = true from h)
def eqF : D → D → Bool
  | .non, .non => true
  | .bl a, .bl b => a == b
  | .int a, .int b => a == b
  | .str a, .str b => decide (a = b)
  | _, _ => false
theorem eq_fv {a b : D} (h : scalD a b = true) : decide (fv a = fv b) = eqF a b := by
  cases a <;> cases b <;> first
    | exact nomatch (show false = true from h)
    | exact decide_eq_true rfl
    | exact dec_bl
    | exact dec_int
    | (simp only [fv, eqF, V.str.injEq]; done)
    | exact decide_eq_false (fun z => (nomatch z))
def dEq (a b : D) : Option D :=
  if scalD a b = true then some (.bl (eqF a b))
  else if nodic a = true ∧ nodic b = true ∧ SeqAt.shaped (py a) = true ∧ SeqAt.shaped (py b) = true then some (.bl (PyData.eqv (py a) (py b)))
  else none
def dNe (a b : D) : Option D :=
  if scalD a b = true then some (.bl (!eqF a b))
  else if nodic a = true ∧ nodic b = true ∧ SeqAt.shaped (py a) = true ∧ SeqAt.shaped (py b) = true then some (.bl (!PyData.eqv (py a) (py b)))
  else none
theorem o_eq (hu : X.A.units + 64 < cLine) : O2 true X (compareOp .Eq) dEq := by
  refine ⟨_, op_eq.or (op_eqD hu), fun H x y dx dy d fx fy hx hy hg Q q => ?_⟩
  unfold dEq at hg
  split at hg
  · rename_i hs
    cases hg
    obtain ⟨h1, h2, h3⟩ := scal_fv hs
    refine .inl ?_
    rw [hx.fv h1, hy.fv h2]
    exact ⟨h3, by rw [eq_fv hs]; exact q.bl⟩
  · split at hg
    · rename_i hs
      cases hg
      exact .inr ⟨_, _, RO.dp _ _ _ hx hs.1, RO.dp _ _ _ hy hs.2.1, hs.2.2.1, hs.2.2.2, q.bl⟩
    · cases hg
theorem o_ne (hu : X.A.units + 64 < cLine) : O2 true X (compareOp .NotEq) dNe := by
  refine ⟨_, op_ne.or (op_neD hu), fun H x y dx dy d fx fy hx hy hg Q q => ?_⟩
  unfold dNe at hg
  split at hg
  · rename_i hs
    cases hg
    obtain ⟨h1, h2, h3⟩ := scal_fv hs
    refine .inl ?_
    rw [hx.fv h1, hy.fv h2]
    exact ⟨h3, by rw [eq_fv hs]; exact q.bl⟩
  · split at hg
    · rename_i hs
      cases hg
      exact .inr ⟨_, _, RO.dp _ _ _ hx hs.1, RO.dp _ _ _ hy hs.2.1, hs.2.2.1, hs.2.2.2, q.bl⟩
    · cases hg
def isNonD : D → Bool
  | .non => true
  | _ => false
def dIs : D → D → Option D
  | a, .non => some (.bl (isNonD a))
  | .bl a, .bl b => some (.bl (decide (a = b)))
  | _, _ => none
def dIsNot : D → D → Option D
  | a, .non => some (.bl (!isNonD a))
  | .bl a, .bl b => some (.bl (!decide (a = b)))
  | _, _ => none
theorem RO.non_iff {K : PySem.W.Frag} {H : Hp} {d : D} {v : V} {fp : List Addr} (h : RO K H d v fp) : decide (v = .non) = isNonD d := by
  cases d with
  | non => cases h.2; rfl
  | bl b => cases h.2; rfl
  | int b => cases h.2; rfl
  | str b => cases h.2; rfl
  | tup ds => obtain ⟨_, a, xs, h1, _⟩ := h; rw [h1]; rfl
  | scr ds => obtain ⟨_, a, xs, h1, _⟩ := h; rw [h1]; rfl
  | exo _ _ _ _ _ => obtain ⟨_, xs, h1, _⟩ := h; rw [h1]; rfl
  | lst fz ds =>
    obtain ⟨a, xs, f, h1, _⟩ := h.rdl
    rw [h1]; rfl
  | dcK fz ks ds =>
    rcases h with ⟨_, _, _, a, o, xs, h1, _⟩ | ⟨_, a, xs, f, h1, _⟩
    · rw [h1]; rfl
    · rw [h1]; rfl
  | dcT fz ks ds =>
    rcases h with ⟨_, _, _, a, o, xs, h1, _⟩ | ⟨_, a, xs, f, h1, _⟩
    · rw [h1]; rfl
    · rw [h1]; rfl
theorem o_is : O2 true X (compareOp .Is) dIs := by
  refine ⟨_, op_isN.or op_isBl, fun H x y dx dy d fx fy hx hy hg Q q => ?_⟩
  unfold dIs at hg
  split at hg
  · cases hg
    refine .inl ⟨hy.2, ?_⟩
    rw [hx.non_iff]
    exact q.bl
  · cases hg
    exact .inr ⟨_, _, hx.2, hy.2, q.bl⟩
  · cases hg
theorem o_isnot : O2 true X (compareOp .IsNot) dIsNot := by
  refine ⟨_, op_notN.or op_notBl, fun H x y dx dy d fx fy hx hy hg Q q => ?_⟩
  unfold dIsNot at hg
  split at hg
  · cases hg
    refine .inl ⟨hy.2, ?_⟩
    rw [hx.non_iff]
    exact q.bl
  · cases hg
    exact .inr ⟨_, _, hx.2, hy.2, q.bl⟩
  · cases hg
end
end DL

set_option maxHeartbeats 1000000
/-! DL, part d: subscripts, slices, in, truth, calls of built-ins, displays -/
namespace DL
open PySem L2

/-! ### tables as two lists -/
section
variable {κ α : Type} [DecidableEq κ]
def getZ : List κ → List α → κ → Option α
  | k :: ks, d :: ds, j => if k = j then some d else getZ ks ds j
  | _, _, _ => none
def putZ : List κ → List α → κ → α → List κ × List α
  | k :: ks, d :: ds, j, v => if k = j then (k :: ks, v :: ds) else let r := putZ ks ds j v; (k :: r.1, d :: r.2)
  | _, _, j, v => ([j], [v])
theorem getZ_val : ∀ (ks : List κ) (xs : List V) (j : κ), valV (ks.zip xs) j = getZ ks xs j
  | [], _, _ => rfl
  | k :: ks, [], _ => rfl
  | k :: ks, x :: xs, j => by
    rw [List.zip_cons_cons]
    by_cases e : k = j
    · rw [valV_pos (p := (k, x)) e]; simp only [getZ, if_pos e]
    · rw [valV_neg (p := (k, x)) e, getZ_val ks xs j]; simp only [getZ, if_neg e]
end
section
variable {K : PySem.W.Frag} {H : Hp} {κ : Type} [DecidableEq κ]
theorem RIs.getZ : ∀ {ks : List κ} {ds : List D} {xs : List V} {j : κ} {d : D}, RIs K H ds xs → getZ ks ds j = some d → ∃ x, DL.getZ ks xs j = some x ∧ RI K H d x
  | [], _, _, _, _, _, e => by simp [DL.getZ] at e
  | k :: ks, [], _, _, _, _, e => by simp [DL.getZ] at e
  | k :: ks, d :: ds, _, j, d', ⟨x, xs, h1, h2, h3⟩, e => by
    rw [h1]
    by_cases ek : k = j
    · simp only [DL.getZ, if_pos ek] at e ⊢
      cases e
      exact ⟨x, rfl, h2⟩
    · simp only [DL.getZ, if_neg ek] at e ⊢
      exact h3.getZ e
theorem ROs.getZ : ∀ {ks : List κ} {ds : List D} {xs : List V} {fp : List Addr} {j : κ} {d : D}, ROs K H ds xs fp → getZ ks ds j = some d → ∃ x f, DL.getZ ks xs j = some x ∧ RO K H d x f ∧ ∀ a ∈ f, a ∈ fp
  | [], _, _, _, _, _, _, e => by simp [DL.getZ] at e
  | k :: ks, [], _, _, _, _, _, e => by simp [DL.getZ] at e
  | k :: ks, d :: ds, _, _, j, d', ⟨x, xs, f, f', h1, hf, h2, h3⟩, e => by
    rw [h1]
    by_cases ek : k = j
    · simp only [DL.getZ, if_pos ek] at e ⊢
      cases e
      exact ⟨x, f, rfl, h2, fun a m => by rw [hf]; exact List.mem_append_left _ m⟩
    · simp only [DL.getZ, if_neg ek] at e ⊢
      obtain ⟨y, g, e1, r, m⟩ := h3.getZ e
      exact ⟨y, g, e1, r, fun a ma => by rw [hf]; exact List.mem_append_right _ (m a ma)⟩
theorem ROs.getZ_none : ∀ {ks : List κ} {ds : List D} {xs : List V} {fp : List Addr} {j : κ}, ROs K H ds xs fp → DL.getZ ks ds j = none → DL.getZ ks xs j = none
  | [], _, _, _, _, _, e => by simp [DL.getZ]
  | k :: ks, [], _, _, _, h, e => by rw [h.1]; simp [DL.getZ]
  | k :: ks, d :: ds, _, _, j, ⟨x, xs, f, f', h1, hf, h2, h3⟩, e => by
    rw [h1]
    by_cases ek : k = j
    · simp only [DL.getZ, if_pos ek] at e
      cases e
    · simp only [DL.getZ, if_neg ek] at e ⊢
      exact h3.getZ_none e
end
/-- a key -/
def kD : D → Option Key
  | .int i => some (.inl i)
  | .str s => some (.inr s)
  | _ => none
def kDs : List D → Option (List Key)
  | [] => some []
  | d :: ds => (kD d).bind fun k => (kDs ds).map fun ks => k :: ks
def tD : D → Option (List Key)
  | .tup ds => kDs ds
  | _ => none
section
variable {K : PySem.W.Frag} {H : Hp}
theorem RO.kD {d : D} {v : V} {fp : List Addr} {k : Key} (h : RO K H d v fp) (e : kD d = some k) : v = kV k := by
  cases d with
  | int i => cases e; exact h.2
  | str s => cases e; exact h.2
  | _ => cases e
theorem RIs.kDs : ∀ {ds : List D} {xs : List V} {ks : List Key}, RIs K H ds xs → kDs ds = some ks → xs = ks.map kV
  | [], _, _, h, e => by cases e; exact h
  | d :: ds, _, ks, ⟨x, xs, h1, h2, h3⟩, e => by
    simp only [DL.kDs] at e
    cases e1 : DL.kD d with
    | none => rw [e1] at e; cases e
    | some k =>
      rw [e1] at e
      have e : (DL.kDs ds).map (fun ks => k :: ks) = some ks := e
      cases e2 : DL.kDs ds with
      | none => rw [e2] at e; cases e
      | some ks' =>
        rw [e2] at e
        cases e
        rw [h1, h3.kDs e2, h2.ro.kD e1]; rfl
theorem RO.tD {d : D} {v : V} {fp : List Addr} {k : List Key} (h : RO K H d v fp) (e : tD d = some k) : ∃ b, v = .ref b ∧ H b = some (.tup (k.map kV)) := by
  cases d with
  | tup ds =>
    obtain ⟨_, a, xs, h1, h2, h3⟩ := h
    exact ⟨a, h1, by rw [h2, h3.kDs e]⟩
  | _ => cases e
/-- what a dict says -/
def dGet : D → D → Option (Option D)
  | .dcK _ ks ds, y => (kD y).map fun k => getZ ks ds k
  | .dcT _ ks ds, y => (tD y).map fun k => getZ ks ds k
  | _, _ => none
def DRel (K : PySem.W.Frag) (H : Hp) : Option D → Option V → Prop
  | none, r => r = none
  | some d', r => ∃ x f, r = some x ∧ RO K H d' x f
theorem RO.dget {d y : D} {v w : V} {fp fy : List Addr} {o : Option D} (h : RO K H d v fp) (hy : RO K H y w fy) (e : dGet d y = some o) :
    ∃ a r, v = .ref a ∧ DGet H a w r ∧ DRel K H o r := by
  cases d with
  | dcK fz ks ds =>
    simp only [dGet] at e
    cases e1 : DL.kD y with
    | none => rw [e1] at e; cases e
    | some k =>
      rw [e1] at e
      cases e
      have hw := hy.kD e1
      have fin : ∀ {a : Addr} {xs : List V} {f : List Addr}, v = .ref a → Rd H a (.dK (ks.zip xs)) → ROs K H ds xs f → ∃ a r, v = .ref a ∧ DGet H a w r ∧ DRel K H (DL.getZ ks ds k) r := fun {a xs f} hv hr hs => by
        refine ⟨a, valV (ks.zip xs) k, hv, .inl ⟨_, k, hr, hw, rfl⟩, ?_⟩
        rw [getZ_val]
        cases e2 : DL.getZ ks ds k with
        | none => exact hs.getZ_none e2
        | some d' =>
          obtain ⟨x, g, e3, r, _⟩ := hs.getZ e2
          exact ⟨x, g, e3, r⟩
      rcases h with ⟨_, _, _, a, o, xs, h1, h2, _, h3⟩ | ⟨_, a, xs, f, h1, _, h2, _, h3⟩
      · exact fin h1 (.inr ⟨o, h2⟩) h3.ros
      · exact fin h1 (.inl h2) h3
  | dcT fz ks ds =>
    simp only [dGet] at e
    cases e1 : DL.tD y with
    | none => rw [e1] at e; cases e
    | some k =>
      rw [e1] at e
      cases e
      obtain ⟨b, hw, hb⟩ := hy.tD e1
      have fin : ∀ {a : Addr} {xs : List V} {f : List Addr}, v = .ref a → Rd H a (.dT (ks.zip xs)) → ROs K H ds xs f → ∃ a r, v = .ref a ∧ DGet H a w r ∧ DRel K H (DL.getZ ks ds k) r := fun {a xs f} hv hr hs => by
        refine ⟨a, valV (ks.zip xs) k, hv, .inr ⟨_, k, b, hr, hw, hb, rfl⟩, ?_⟩
        rw [getZ_val]
        cases e2 : DL.getZ ks ds k with
        | none => exact hs.getZ_none e2
        | some d' =>
          obtain ⟨x, g, e3, r, _⟩ := hs.getZ e2
          exact ⟨x, g, e3, r⟩
      rcases h with ⟨_, _, _, a, o, xs, h1, h2, _, h3⟩ | ⟨_, a, xs, f, h1, _, h2, _, h3⟩
      · exact fin h1 (.inr ⟨o, h2⟩) h3.ros
      · exact fin h1 (.inl h2) h3
  | _ => cases e
end

/-! ### a[b] -/
def dIx (a b : D) : Option D :=
  match a, b with
  | .str s, .int i => if s.length ≤ szL then (atI s.cps.toList i).map fun c => .str ⟨#[c]⟩ else none
  | a, b => match dGet a b with
    | some r => r
    | none => match seqD a, b with
      | some ds, .int i => atI ds i
      | _, _ => none
section
variable {K : PySem.W.Frag} {H : Hp}
theorem ROs.atI {ds : List D} {xs : List V} {fp : List Addr} {i : Int} {d : D} (h : ROs K H ds xs fp) (e : atI ds i = some d) : ∃ x f, L2.atI xs i = some x ∧ RO K H d x f ∧ ∀ a ∈ f, a ∈ fp := by
  unfold L2.atI at e ⊢
  rw [h.length]
  cases e1 : ixN ds.length i with
  | none => rw [e1] at e; cases e
  | some j =>
    rw [e1] at e
    exact h.get e
end
section
variable {X : Cx}
/-- a dict's item, as a subscript -/
def rIxDc : R2 := fun x y H Q => ∃ a v, x = .ref a ∧ DGet H a y (some v) ∧ Q v H
theorem ix_dc (hu : X.A.units + 1 < cLine) : IxR X rIxDc := by
  rintro vl sl pins s σ H x y v u Q I rx ry ⟨a, w, rfl, g, q⟩ hs
  obtain rfl : v = Value.ref a := rx
  exact PyProof.Rows.tail_any (ops := [.ref a, u]) (dict_typeIs I g) PySem.F.slot_dict_getitem.lookup (d_getItem hu I g ry fun z s' I' r => ⟨w, H, I', r, q⟩) hs
theorem o_ix (hu : X.A.units + 1 < cLine) : OX X dIx := by
  refine ⟨_, (ix_dc hu).or ix_seq, fun H x y dx dy d fx fy hx hy hg Q q => ?_⟩
  unfold dIx at hg
  split at hg
  · split at hg
    · rename_i hz
      obtain ⟨_, rfl⟩ := hx
      obtain ⟨_, rfl⟩ := hy
      obtain ⟨c, e1, e2⟩ := Option.map_eq_some_iff.mp hg
      subst e2
      exact .inr (.inr (.inr ⟨_, _, c, rfl, rfl, by rw [szL_eq]; exact hz, e1, q.str⟩))
    · cases hg
  · split at hg
    · rename_i r e1
      subst hg
      obtain ⟨a, r, h1, h2, h3⟩ := hx.dget hy e1
      obtain ⟨x', f, e2, r'⟩ := h3
      subst e2
      exact .inl ⟨a, x', h1, h2, q x' H f (Same.refl H) r' fun z => (nomatch z)⟩
    · split at hg
      · obtain ⟨_, rfl⟩ := hy
        obtain ⟨a, xs, f, h1, h2, _, h4, _⟩ := hx.seq (by assumption)
        obtain ⟨x', f', e2, r', _⟩ := h2.atI hg
        have fin := q x' H f' (Same.refl H) r' fun z => (nomatch z)
        rcases h4 with h4 | h4
        · exact .inr (.inl ⟨a, xs, _, x', h1, rfl, h4, e2, fin⟩)
        · exact .inr (.inr (.inl ⟨a, xs, _, x', h1, rfl, h4, e2, fin⟩))
      · cases hg
variable {a b : Expr} {pos : Pos}
theorem db_ix (hu : X.A.units + 1 < cLine) {fa fb : PSm} (ha : DB false X a fa) (hb : DB false X b fb) (hs : PlainIx b) : DB false X (.Subscript a b pos) (p2 dIx fa fb) := by
  obtain ⟨r, hr, ho⟩ := o_ix hu
  obtain ⟨ta, pa, ha⟩ := ha
  obtain ⟨tb, pb, hb⟩ := hb
  refine ⟨_, pe_ix hr pa pb hs, fun σ H env fp d s nd hf Q q => ?_⟩
  obtain ⟨x, y, e1, e2, e3⟩ := p2_inv hf
  refine ha σ H env fp x s nd e1 _ fun vx H1 fx s1 rx _ => ?_
  refine hb σ H1 env fp y (s.same s1) nd e2 _ fun vy H2 fy s2 ry _ => ?_
  exact ho H2 vx vy x y d fx fy (rx.same s2) ry e3 Q ((q.via s1).via s2)
/-- the item never changes -/
def dIxI (a b : D) : Option D := (dIx a b).bind fun d => if isImm d = true then some d else none
theorem de_ix (hu : X.A.units + 1 < cLine) {fa fb : ESm} (ha : DE X a fa) (hb : DE X b fb) (hs : PlainIx b) : DE X (.Subscript a b pos) (e2 dIxI fa fb) := by
  obtain ⟨r, hr, ho⟩ := o_ix hu
  obtain ⟨ta, pa, ha⟩ := ha
  obtain ⟨tb, pb, hb⟩ := hb
  refine ⟨_, pe_ix hr pa pb hs, fun σ H env env' fp d s nd hf Q q => ?_⟩
  obtain ⟨x, env1, y, e1, e2, e3⟩ := e2_inv hf
  obtain ⟨d', e4, e5⟩ := Option.bind_eq_some_iff.mp e3
  by_cases hi : isImm d' = true
  case neg => rw [if_neg hi] at e5; cases e5
  rw [if_pos hi] at e5
  cases e5
  refine ha σ H env env1 fp x s nd e1 _ fun vx H1 fx fp1 v1 s1 rx n1 => ?_
  refine hb σ H1 env1 env' fp1 y s1 (List.nodup_append.mp n1).2.1 e2 _ fun vy H2 fy fp2 v2 s2 ry n2 => ?_
  obtain ⟨rx2, v12, n12⟩ := two (env := env) (σ := σ) v1 rx n1 v2 n2
  refine ho H2 vx vy x y _ fx fy rx2 ry e4 Q fun v H' fr sm r fo => ?_
  obtain ⟨ez, r'⟩ := r.imm hi
  subst ez
  exact let_go q v12 s2 (List.nodup_append.mp n2).2.1 sm r .nil
end

/-! ### x in y -/
def dIn0 (a b : D) : Option Bool :=
  match a, b with
  | .str x, .str y => some (!(Builtin.Str.occurrences y x 0 y.length 1).isEmpty)
  | a, b => match dGet b a with
    | some r => some r.isSome
    | none => match seqD b with
      | some ds => if flatD a = true ∧ ds.all flatD = true then some (inV (fv a) (ds.map fv))
        else match b with
          | .tup _ => none
          | _ => if nodic a = true ∧ nodics ds = true ∧ SeqAt.shaped (py a) = true ∧ SeqAt.shaped (.list (pys ds)) = true then some ((pys ds).any fun z => PyData.eqv z (py a)) else none
      | none => none
def dIn (a b : D) : Option D := (dIn0 a b).map .bl
def dNotIn (a b : D) : Option D := (dIn0 a b).map fun k => .bl (!k)
section
variable {X : Cx}
def rInDc (neg : Bool) : R2 := fun y x H Q => ∃ a o, x = .ref a ∧ DGet H a y o ∧ Q (.bl (if neg = true then !o.isSome else o.isSome)) H
theorem op_inDc (hu : X.A.units + 1 < cLine) : OpR X (compareOp .In) (rInDc false) := by
  rintro pins s σ H x y v u Q I rx ry ⟨a, o, rfl, g, q⟩
  obtain rfl : u = Value.ref a := ry
  exact d_in hu I g rx fun s' I' => ⟨.bl o.isSome, H, I', rfl, q⟩
theorem op_notInDc (hu : X.A.units + 1 < cLine) : OpR X (compareOp .NotIn) (rInDc true) := by
  rintro pins s σ H x y v u Q I rx ry ⟨a, o, rfl, g, q⟩
  obtain rfl : u = Value.ref a := ry
  exact d_notIn hu I g rx fun s' I' => ⟨.bl (!o.isSome), H, I', rfl, q⟩
theorem in_core {H : Hp} {x y : V} {dx dy : D} {fx fy : List Addr} {k : Bool} (hx : RO X.K H dx x fx) (hy : RO X.K H dy y fy) (hg : dIn0 dx dy = some k) :
    (∃ i j, x = .str i ∧ y = .str j ∧ k = (!(Builtin.Str.occurrences j i 0 j.length 1).isEmpty)) ∨
    (∃ a o, y = .ref a ∧ DGet H a x o ∧ k = o.isSome) ∨
    (∃ p xs, y = .ref p ∧ (SqL X.K H p xs ∨ SqT X.K H p xs) ∧ flatV x = true ∧ xs.all flatV = true ∧ k = inV x xs) ∨
    ∃ d ds, Dp X.K H x d ∧ Dp X.K H y (.list ds) ∧ SeqAt.shaped d = true ∧ SeqAt.shaped (.list ds) = true ∧ k = ds.any fun z => PyData.eqv z d := by
  unfold dIn0 at hg
  split at hg
  · cases hg
    exact .inl ⟨_, _, hx.2, hy.2, rfl⟩
  · split at hg
    · rename_i r e1
      cases hg
      obtain ⟨a, r', h1, h2, h3⟩ := hy.dget hx e1
      refine .inr (.inl ⟨a, r', h1, h2, ?_⟩)
      cases r with
      | none => rw [show r' = none from h3]; rfl
      | some d => obtain ⟨x', f, e2, _⟩ := h3; rw [e2]; rfl
    · split at hg
      · rename_i ds e1
        split at hg
        · rename_i hf
          cases hg
          obtain ⟨a, xs, f, h1, h2, _, h4, _⟩ := hy.seq e1
          have ex := h2.fvs hf.2
          subst ex
          refine .inr (.inr (.inl ⟨a, _, h1, h4, ?_, all_fv hf.2, ?_⟩))
          · rw [hx.fv hf.1]; exact flat_fv hf.1
          · rw [hx.fv hf.1]
        · split at hg
          · cases hg
          · rename_i hnt
            split at hg
            · rename_i hs
              cases hg
              refine .inr (.inr (.inr ⟨_, _, RO.dp _ _ _ hx hs.1, ?_, hs.2.2.1, hs.2.2.2, rfl⟩))
              obtain ⟨a, xs, f, h1, h2, _, _, _, h6⟩ := hy.seq e1
              rw [h1]
              exact .lst (h6 fun o z => hnt o z) (ROs.dp ds xs f h2 hs.2.1)
            · cases hg
      · cases hg
theorem o_in (hu : X.A.units + 65 < cLine) : O2 true X (compareOp .In) dIn := by
  refine ⟨_, op_in_str.or ((op_inDc (by omega)).or (op_in_seq.or (op_inD hu))), fun H x y dx dy d fx fy hx hy hg Q q => ?_⟩
  obtain ⟨k, e1, e2⟩ := Option.map_eq_some_iff.mp hg
  subst e2
  rcases in_core hx hy e1 with ⟨i, j, h1, h2, h3⟩ | ⟨a, o, h1, h2, h3⟩ | ⟨p, xs, h1, h2, h4, h5, h3⟩ | ⟨d, ds, h1, h2, h4, h5, h3⟩
  · exact .inl ⟨i, j, h1, h2, by rw [← h3]; exact q.bl⟩
  · exact .inr (.inl ⟨a, o, h1, h2, by rw [if_neg Bool.false_ne_true, ← h3]; exact q.bl⟩)
  · exact .inr (.inr (.inl ⟨p, xs, h1, h2, h4, h5, by rw [if_neg Bool.false_ne_true, ← h3]; exact q.bl⟩))
  · exact .inr (.inr (.inr ⟨d, ds, h1, h2, h4, h5, by rw [← h3]; exact q.bl⟩))
theorem o_notin (hu : X.A.units + 65 < cLine) : O2 true X (compareOp .NotIn) dNotIn := by
  refine ⟨_, op_notin_str.or ((op_notInDc (by omega)).or (op_notIn_seq.or (op_notInD hu))), fun H x y dx dy d fx fy hx hy hg Q q => ?_⟩
  obtain ⟨k, e1, e2⟩ := Option.map_eq_some_iff.mp hg
  subst e2
  rcases in_core hx hy e1 with ⟨i, j, h1, h2, h3⟩ | ⟨a, o, h1, h2, h3⟩ | ⟨p, xs, h1, h2, h4, h5, h3⟩ | ⟨d, ds, h1, h2, h4, h5, h3⟩
  · exact .inl ⟨i, j, h1, h2, by rw [← h3]; exact q.bl⟩
  · exact .inr (.inl ⟨a, o, h1, h2, by rw [if_pos rfl, ← h3]; exact q.bl⟩)
  · exact .inr (.inr (.inl ⟨p, xs, h1, h2, h4, h5, by rw [if_pos rfl, ← h3]; exact q.bl⟩))
  · exact .inr (.inr (.inr ⟨d, ds, h1, h2, h4, h5, by rw [← h3]; exact q.bl⟩))
end

/-! ### slices -/
def cutD (ds : List D) (lo hi : Option Int) : List D := (ds.drop (HT.sIx ds.length 0 lo)).take (HT.sIx ds.length ds.length hi - HT.sIx ds.length 0 lo)
def dSl (a : D) (lo hi : Option Int) : Option D :=
  match a with
  | .str s => if s.length ≤ szL then some (.str (cutS s lo hi)) else none
  | .tup ds => some (.tup (cutD ds lo hi))
  | .lst _ ds => if ds.all isImm = true then some (.lst false (cutD ds lo hi)) else none
  | .scr ds => some (.lst false (cutD ds lo hi))
  | _ => none
theorem RIs.cut {K : PySem.W.Frag} {H : Hp} {ds : List D} {xs : List V} (h : RIs K H ds xs) (lo hi : Option Int) : RIs K H (cutD ds lo hi) (cutV xs lo hi) := by
  unfold cutD cutV
  rw [h.length]
  exact (h.drop _).take _
section
variable {X : Cx}
theorem o_sl : ∃ r, SlR X r ∧ ∀ (H : Hp) (x : V) (dx d : D) (fx : List Addr) (lo hi : Option Int), RO X.K H dx x fx → dSl dx lo hi = some d → ∀ Q : VK, Res true X.K H d Q → r x lo hi H Q := by
  refine ⟨_, sl_str.or (sl_tupA.or sl_list), fun H x dx d fx lo hi hx hg Q q => ?_⟩
  unfold dSl at hg
  split at hg
  · split at hg
    · rename_i hz
      cases hg
      exact .inl ⟨_, hx.2, by rw [szL_eq]; exact hz, q.str⟩
    · cases hg
  · rename_i ds
    cases hg
    obtain ⟨_, a, xs, h1, h2, h3⟩ := hx
    refine .inr (.inl ⟨a, xs, h1, SqT.of h2, fun hw => ?_, fun _ p hp => q.tup (h3.cut lo hi) hp⟩)
    refine q.imm ?_
    have e : cutD ds lo hi = ds := by
      unfold cutD
      rw [← h3.length, hw.1, hw.2, Nat.sub_zero, List.drop_zero, h3.length, List.take_length]
    rw [e]
    exact ⟨a, xs, rfl, h2, h3⟩
  · split at hg
    · rename_i hz
      cases hg
      obtain ⟨a, xs, f, h1, h2, h3⟩ := hx.rdl
      exact .inr (.inr ⟨a, xs, h1, .inl h2, fun p hp => q.lst ((h3.ris hz).cut lo hi) hp⟩)
    · cases hg
  · cases hg
    obtain ⟨_, a, xs, h1, h2, h3⟩ := hx
    exact .inr (.inr ⟨a, xs, h1, h2.sq, fun p hp => q.lst (h3.cut lo hi) hp⟩)
  · cases hg
/-- a slice's part -/
def DPO (X : Cx) (e : Option Expr) (f : Env → Option (Option Int)) : Prop := ∃ t : TO, PO X e t ∧ ∀ (σ : L2.St) (H : Hp) (env : Env) (fp : List Addr) (o : Option Int), SR X.K H env σ fp → fp.Nodup → f env = some o → ∀ Q : Option Int → Hp → Prop, (∀ H', Same H H' → Q o H') → t σ H Q
def DEO (X : Cx) (e : Option Expr) (f : Env → Option (Option Int × Env)) : Prop := ∃ t : TO, PO X e t ∧ ∀ (σ : L2.St) (H : Hp) (env env' : Env) (fp : List Addr) (o : Option Int), SR X.K H env σ fp → fp.Nodup → f env = some (o, env') → ∀ Q : Option Int → Hp → Prop,
  (∀ H' fp', Evo fp H fp' H' → SR X.K H' env' σ fp' → fp'.Nodup → Q o H') → t σ H Q
def oNo : Env → Option (Option Int) := fun _ => some none
def oSome (f : PSm) : Env → Option (Option Int) := fun env => match f env with | some (.int i) => some (some i) | _ => none
def oNoE : Env → Option (Option Int × Env) := fun env => some (none, env)
def oSomeE (f : ESm) : Env → Option (Option Int × Env) := fun env => match f env with | some (.int i, env') => some (some i, env') | _ => none
theorem dpo_none : DPO X none oNo := ⟨_, po_none, fun σ H env fp o s nd hf Q q => by cases hf; exact q H (Same.refl H)⟩
theorem deo_none : DEO X none oNoE := ⟨_, po_none, fun σ H env env' fp o s nd hf Q q => by cases hf; exact q H fp (Evo.refl fp H) s nd⟩
theorem dpo_some {e : Expr} {f : PSm} (h : DB false X e f) : DPO X (some e) (oSome f) := by
  obtain ⟨t, p, h⟩ := h
  refine ⟨_, po_some p, fun σ H env fp o s nd hf Q q => ?_⟩
  unfold oSome at hf
  split at hf
  · rename_i i e1
    cases hf
    exact h σ H env fp _ s nd e1 _ fun v H' fr sm r _ => ⟨i, r.2, q H' sm⟩
  · cases hf
theorem deo_some {e : Expr} {f : ESm} (h : DE X e f) : DEO X (some e) (oSomeE f) := by
  obtain ⟨t, p, h⟩ := h
  refine ⟨_, po_some p, fun σ H env env' fp o s nd hf Q q => ?_⟩
  unfold oSomeE at hf
  split at hf
  · rename_i i ee e1
    cases hf
    refine h σ H env _ fp _ s nd e1 _ fun v H' fr fp' ev s' r n => ⟨i, r.2, ?_⟩
    exact q H' fp' (ev.sub fun a m => List.mem_append_right _ m) s' (List.nodup_append.mp n).2.1
  · cases hf
variable {e : Expr} {lo hi : Option Expr} {pos p2 : Pos}
def pSl (f : PSm) (l h : Env → Option (Option Int)) : PSm := fun env => (f env).bind fun d => (l env).bind fun i => (h env).bind fun j => dSl d i j
def eSl (f : ESm) (l h : Env → Option (Option Int × Env)) : ESm := fun env => (f env).bind fun d => (l d.2).bind fun i => (h i.2).bind fun j => (dSl d.1 i.1 j.1).map fun r => (r, j.2)
theorem db_sl {f : PSm} {l h : Env → Option (Option Int)} (he : DB false X e f) (hl : DPO X lo l) (hh : DPO X hi h) : DB true X (.Subscript e (.Slice lo hi none p2) pos) (pSl f l h) := by
  obtain ⟨r, hr, ho⟩ := o_sl (X := X)
  obtain ⟨te, pe, he⟩ := he
  obtain ⟨tl, pl, hl⟩ := hl
  obtain ⟨th, ph, hh⟩ := hh
  refine ⟨_, pe_slice hr pe pl ph, fun σ H env fp d s nd hf Q q => ?_⟩
  obtain ⟨x, e1, hf⟩ := Option.bind_eq_some_iff.mp hf
  obtain ⟨i, e2, hf⟩ := Option.bind_eq_some_iff.mp hf
  obtain ⟨j, e3, hf⟩ := Option.bind_eq_some_iff.mp hf
  refine he σ H env fp x s nd e1 _ fun vx H1 fx s1 rx _ => ?_
  refine hl σ H1 env fp i (s.same s1) nd e2 _ fun H2 s2 => ?_
  refine hh σ H2 env fp j ((s.same s1).same s2) nd e3 _ fun H3 s3 => ?_
  exact ho H3 vx x d fx i j ((rx.same s2).same s3) hf Q (((q.via s1).via s2).via s3)
theorem de_sl {f : ESm} {l h : Env → Option (Option Int × Env)} (he : DE X e f) (hl : DEO X lo l) (hh : DEO X hi h) : DE X (.Subscript e (.Slice lo hi none p2) pos) (eSl f l h) := by
  obtain ⟨r, hr, ho⟩ := o_sl (X := X)
  obtain ⟨te, pe, he⟩ := he
  obtain ⟨tl, pl, hl⟩ := hl
  obtain ⟨th, ph, hh⟩ := hh
  refine ⟨_, pe_slice hr pe pl ph, fun σ H env env' fp d s nd hf Q q => ?_⟩
  obtain ⟨⟨x, en1⟩, e1, hf⟩ := Option.bind_eq_some_iff.mp hf
  obtain ⟨⟨i, en2⟩, e2, hf⟩ := Option.bind_eq_some_iff.mp hf
  obtain ⟨⟨j, en3⟩, e3, hf⟩ := Option.bind_eq_some_iff.mp hf
  obtain ⟨d', e4, e5⟩ := Option.map_eq_some_iff.mp hf
  cases e5
  refine he σ H env en1 fp x s nd e1 _ fun vx H1 fx fp1 v1 s1 rx n1 => ?_
  refine hl σ H1 en1 en2 fp1 i s1 (List.nodup_append.mp n1).2.1 e2 _ fun H2 fp2 v2 s2 n2 => ?_
  obtain ⟨rx2, v12, n12⟩ := two (env := env) (σ := σ) v1 rx n1 (fr2 := []) v2 n2
  rw [List.append_nil] at v12 n12
  refine hh σ H2 en2 _ fp2 j s2 n2 e3 _ fun H3 fp3 v3 s3 n3 => ?_
  obtain ⟨rx3, v13, n13⟩ := two (env := env) (σ := σ) v12 rx2 n12 (fr2 := []) v3 n3
  rw [List.append_nil] at v13 n13
  exact ho H3 vx x _ fx i j rx3 e4 Q fun v H' fr sm r fo => let_go q v13 s3 n3 sm r (fo rfl)
end

/-! ### truth -/
def tru : D → Option Bool
  | .non => some false
  | .bl b => some b
  | .int i => some (i != 0)
  | .str s => if s.length ≤ szL then some ((s.length : Int) != 0) else none
  | .tup ds => some (!ds.isEmpty)
  | .lst _ ds => some (!ds.isEmpty)
  | .scr ds => some (!ds.isEmpty)
  | .dcK false ks _ => some (!ks.isEmpty)
  | _ => none
theorem empty_of {α β : Type} {a : List α} {b : List β} (h : a.length = b.length) : a.isEmpty = b.isEmpty := by
  cases a <;> cases b <;> first | rfl | cases h
theorem tru_of {K : PySem.W.Frag} {H : Hp} {d : D} {v : V} {fp : List Addr} {b : Bool} (h : RO K H d v fp) (e : tru d = some b) : TruV K v H b := by
  unfold tru at e
  split at e
  · cases e; rw [h.2]; exact rfl
  · cases e; rw [h.2]; exact rfl
  · cases e; rw [h.2]; exact rfl
  · split at e
    · rename_i hz
      cases e; rw [h.2]; exact ⟨by rw [szL_eq]; exact hz, rfl⟩
    · cases e
  · cases e
    obtain ⟨_, a, xs, h1, h2, h3⟩ := h
    rw [h1]; exact .inr (.inl ⟨xs, SqT.of h2, by rw [empty_of h3.length]⟩)
  · cases e
    obtain ⟨a, xs, f, h1, h2, h3⟩ := h.rdl
    rw [h1]; exact .inl ⟨xs, .inl h2, by rw [empty_of h3.length]⟩
  · cases e
    obtain ⟨_, a, xs, h1, h2, h3⟩ := h
    rw [h1]; exact .inl ⟨xs, h2.sq, by rw [empty_of h3.length]⟩
  · rename_i ks ds
    cases e
    rcases h with ⟨z, _⟩ | ⟨_, a, xs, f, h1, _, h2, h4, h3⟩
    · cases z
    · rw [h1]
      refine .inr (.inr ⟨_, h2, ?_⟩)
      rw [empty_of (a := ks.zip xs) (b := ks) (by rw [List.length_zip, ← h4, Nat.min_self])]
  · cases e
section
variable {X : Cx} {a b c e : Expr} {rest : List Expr} {pos : Pos}
def tTru (f : ESm) : TSm := fun env => (f env).bind fun d => (tru d.1).map fun b => (b, d.2)
theorem dt_tru {f : ESm} (h : DE X e f) (he : ∀ whole, isTrue e X.env whole = (do let v ← whole; standAt e.pos; holding [v] (truthy v)) := by intro _; rfl) : DT X e (tTru f) := by
  obtain ⟨t, p, h⟩ := h
  refine ⟨_, pt_truth p he, fun σ H env env' fp b s nd hf Q q => ?_⟩
  obtain ⟨⟨d, en1⟩, e1, hf⟩ := Option.bind_eq_some_iff.mp hf
  obtain ⟨k, e2, e3⟩ := Option.map_eq_some_iff.mp hf
  cases e3
  refine h σ H env _ fp d s nd e1 _ fun v H' fr fp' ev s' r n => ⟨_, tru_of r e2, ?_⟩
  exact q H' fp' (ev.sub fun a m => List.mem_append_right _ m) s' (List.nodup_append.mp n).2.1
/-- of a name that is our own list, without taking it -/
def tTruP (f : PSm) : TPm := fun env => (f env).bind tru
theorem dtp_tru {f : PSm} (h : DB false X e f) (he : ∀ whole, isTrue e X.env whole = (do let v ← whole; standAt e.pos; holding [v] (truthy v)) := by intro _; rfl) : DTP X e (tTruP f) := by
  obtain ⟨t, p, h⟩ := h
  refine ⟨_, pt_truth p he, fun σ H env fp b s nd hf Q q => ?_⟩
  obtain ⟨d, e1, e2⟩ := Option.bind_eq_some_iff.mp hf
  exact h σ H env fp d s nd e1 _ fun v H' fr sm r _ => ⟨_, tru_of r e2, q H' sm⟩
def tNo (f : TSm) : TSm := fun env => (f env).map fun b => (!b.1, b.2)
theorem dt_not {f : TSm} (h : DT X a f) : DT X (.UnaryOp .Not a pos) (tNo f) := by
  obtain ⟨t, p, h⟩ := h
  refine ⟨_, pt_not p, fun σ H env env' fp b s nd hf Q q => ?_⟩
  obtain ⟨⟨k, en⟩, e1, e2⟩ := Option.map_eq_some_iff.mp hf
  cases e2
  exact h σ H env _ fp k s nd e1 _ fun H' fp' ev s' n => q H' fp' ev s' n
/-- a chain of and, of or -/
def DW (X : Cx) (e : Expr) (f : TSm) : Prop := ∃ t : TT, PW X e t ∧ ∀ (σ : L2.St) (H : Hp) (env env' : Env) (fp : List Addr) (b : Bool), SR X.K H env σ fp → fp.Nodup → f env = some (b, env') → ∀ Q : Bool → Hp → Prop, TQ X.K σ H fp b env' Q → t σ H Q
theorem dt_w {f : TSm} (h : DW X e f) : DT X e f := by
  obtain ⟨t, p, h⟩ := h
  exact ⟨t, p.pt, h⟩
theorem dw_and1 {f : TSm} (h : DT X a f) : DW X (.BoolOp .And [a] pos) f := by
  obtain ⟨t, p, h⟩ := h
  exact ⟨t, pw_and1 p, h⟩
theorem dw_or1 {f : TSm} (h : DT X a f) : DW X (.BoolOp .Or [a] pos) f := by
  obtain ⟨t, p, h⟩ := h
  exact ⟨t, pw_or1 p, h⟩
def tAnd2 (f g : TSm) : TSm := fun env => (f env).bind fun b => if b.1 = true then g b.2 else some (false, b.2)
def tOr2 (f g : TSm) : TSm := fun env => (f env).bind fun b => if b.1 = true then some (true, b.2) else g b.2
theorem dw_and {f g : TSm} (h : DT X a f) (h' : DW X (.BoolOp .And (b :: rest) pos) g) : DW X (.BoolOp .And (a :: b :: rest) pos) (tAnd2 f g) := by
  obtain ⟨t, p, h⟩ := h
  obtain ⟨t', p', h'⟩ := h'
  refine ⟨_, pw_and p p', fun σ H env env' fp k s nd hf Q q => ?_⟩
  obtain ⟨⟨k1, en⟩, e1, e2⟩ := Option.bind_eq_some_iff.mp hf
  refine h σ H env en fp k1 s nd e1 _ fun H' fp' ev s' n => ?_
  cases k1 with
  | true =>
    rw [if_pos rfl] at e2 ⊢
    exact h' σ H' en env' fp' k s' n e2 Q fun H2 fp2 ev2 s2 n2 => q H2 fp2 (ev.trans ev2) s2 n2
  | false =>
    rw [if_neg Bool.false_ne_true] at e2 ⊢
    cases e2
    exact q H' fp' ev s' n
theorem dw_or {f g : TSm} (h : DT X a f) (h' : DW X (.BoolOp .Or (b :: rest) pos) g) : DW X (.BoolOp .Or (a :: b :: rest) pos) (tOr2 f g) := by
  obtain ⟨t, p, h⟩ := h
  obtain ⟨t', p', h'⟩ := h'
  refine ⟨_, pw_or p p', fun σ H env env' fp k s nd hf Q q => ?_⟩
  obtain ⟨⟨k1, en⟩, e1, e2⟩ := Option.bind_eq_some_iff.mp hf
  refine h σ H env en fp k1 s nd e1 _ fun H' fp' ev s' n => ?_
  cases k1 with
  | false =>
    rw [if_neg Bool.false_ne_true] at e2 ⊢
    exact h' σ H' en env' fp' k s' n e2 Q fun H2 fp2 ev2 s2 n2 => q H2 fp2 (ev.trans ev2) s2 n2
  | true =>
    rw [if_pos rfl] at e2 ⊢
    cases e2
    exact q H' fp' ev s' n
/-- .. as values, by truth -/
def eAnd2 (f g : ESm) : ESm := fun env => (f env).bind fun d => (tru d.1).bind fun b => if b = true then g d.2 else some d
def eOr2 (f g : ESm) : ESm := fun env => (f env).bind fun d => (tru d.1).bind fun b => if b = true then some d else g d.2
theorem de_one {op : BoolOp} {f : ESm} (h : DE X a f) : DE X (.BoolOp op [a] pos) f := by
  obtain ⟨t, p, h⟩ := h
  exact ⟨t, pe_one p, h⟩
theorem EQ.drop {K : PySem.W.Frag} {σ : L2.St} {H H1 : Hp} {fp fr fp1 : List Addr} {d : D} {env' : Env} {Q : VK} (q : EQ K σ H fp d env' Q) (e : Evo fp H (fr ++ fp1) H1) : EQ K σ H1 fp1 d env' Q := q.via (e.sub fun a m => List.mem_append_right _ m)
theorem de_and {f g : ESm} (h : DE X a f) (h' : DE X (.BoolOp .And (b :: rest) pos) g) : DE X (.BoolOp .And (a :: b :: rest) pos) (eAnd2 f g) := by
  obtain ⟨t, p, h⟩ := h
  obtain ⟨t', p', h'⟩ := h'
  refine ⟨_, pe_andT p p', fun σ H env env' fp d s nd hf Q q => ?_⟩
  obtain ⟨⟨d1, en⟩, e1, hf⟩ := Option.bind_eq_some_iff.mp hf
  obtain ⟨k, e2, hf⟩ := Option.bind_eq_some_iff.mp hf
  refine h σ H env en fp d1 s nd e1 _ fun v H' fr fp' ev s' r n => ⟨k, tru_of r e2, ?_⟩
  cases k with
  | true =>
    rw [if_pos rfl] at hf ⊢
    exact h' σ H' en env' fp' d s' (List.nodup_append.mp n).2.1 hf Q (q.drop ev)
  | false =>
    rw [if_neg Bool.false_ne_true] at hf ⊢
    cases hf
    exact q v H' fr fp' ev s' r n
theorem de_or {f g : ESm} (h : DE X a f) (h' : DE X (.BoolOp .Or (b :: rest) pos) g) : DE X (.BoolOp .Or (a :: b :: rest) pos) (eOr2 f g) := by
  obtain ⟨t, p, h⟩ := h
  obtain ⟨t', p', h'⟩ := h'
  refine ⟨_, pe_orT p p', fun σ H env env' fp d s nd hf Q q => ?_⟩
  obtain ⟨⟨d1, en⟩, e1, hf⟩ := Option.bind_eq_some_iff.mp hf
  obtain ⟨k, e2, hf⟩ := Option.bind_eq_some_iff.mp hf
  refine h σ H env en fp d1 s nd e1 _ fun v H' fr fp' ev s' r n => ⟨k, tru_of r e2, ?_⟩
  cases k with
  | false =>
    rw [if_neg Bool.false_ne_true] at hf ⊢
    exact h' σ H' en env' fp' d s' (List.nodup_append.mp n).2.1 hf Q (q.drop ev)
  | true =>
    rw [if_pos rfl] at hf ⊢
    cases hf
    exact q v H' fr fp' ev s' r n
def eNot (f : ESm) : ESm := fun env => (f env).bind fun d => (tru d.1).map fun b => (.bl (!b), d.2)
theorem de_not {f : ESm} (h : DE X a f) : DE X (.UnaryOp .Not a pos) (eNot f) := by
  obtain ⟨t, p, h⟩ := h
  refine ⟨_, pe_notT p, fun σ H env env' fp d s nd hf Q q => ?_⟩
  obtain ⟨⟨d1, en⟩, e1, hf⟩ := Option.bind_eq_some_iff.mp hf
  obtain ⟨k, e2, e3⟩ := Option.map_eq_some_iff.mp hf
  cases e3
  refine h σ H env _ fp d1 s nd e1 _ fun v H' fr fp' ev s' r n => ⟨k, tru_of r e2, ?_⟩
  exact q _ H' [] fp' (ev.sub fun a m => List.mem_append_right _ m) s' ⟨rfl, rfl⟩ (List.nodup_append.mp n).2.1
def eIf (c : TSm) (f g : ESm) : ESm := fun env => (c env).bind fun b => if b.1 = true then f b.2 else g b.2
theorem de_if {t0 : TSm} {f g : ESm} (hc : DT X c t0) (ha : DE X a f) (hb : DE X b g) : DE X (.IfExp c a b pos) (eIf t0 f g) := by
  obtain ⟨t, p, h⟩ := hc
  obtain ⟨ta, pa, ha⟩ := ha
  obtain ⟨tb, pb, hb⟩ := hb
  refine ⟨_, pe_ifExp p pa pb, fun σ H env env' fp d s nd hf Q q => ?_⟩
  obtain ⟨⟨k, en⟩, e1, hf⟩ := Option.bind_eq_some_iff.mp hf
  refine h σ H env en fp k s nd e1 _ fun H' fp' ev s' n => ?_
  cases k with
  | true =>
    rw [if_pos rfl] at hf ⊢
    exact ha σ H' en env' fp' d s' n hf Q (q.via ev)
  | false =>
    rw [if_neg Bool.false_ne_true] at hf ⊢
    exact hb σ H' en env' fp' d s' n hf Q (q.via ev)
/-- -x -/
def dNeg : D → Option D
  | .int i => some (.int (-i))
  | _ => none
def p1 (g : D → Option D) (f : PSm) : PSm := fun env => (f env).bind g
def e1 (g : D → Option D) (f : ESm) : ESm := fun env => (f env).bind fun d => (g d.1).map fun r => (r, d.2)
theorem db_neg {f : PSm} (h : DB false X a f) : DB true X (.UnaryOp .USub a pos) (p1 dNeg f) := by
  obtain ⟨t, p, h⟩ := h
  refine ⟨_, pe_un un_neg p, fun σ H env fp d s nd hf Q q => ?_⟩
  obtain ⟨x, e1, hf⟩ := Option.bind_eq_some_iff.mp hf
  cases x with
  | int i =>
    cases hf
    exact h σ H env fp _ s nd e1 _ fun v H' fr sm r _ => ⟨i, (show fr = [] ∧ v = .int i from r).2, (q.via sm).int⟩
  | _ => cases hf
theorem de_neg {f : ESm} (h : DE X a f) : DE X (.UnaryOp .USub a pos) (e1 dNeg f) := by
  obtain ⟨t, p, h⟩ := h
  refine ⟨_, pe_un un_neg p, fun σ H env env' fp d s nd hf Q q => ?_⟩
  obtain ⟨⟨x, en⟩, e1, hf⟩ := Option.bind_eq_some_iff.mp hf
  obtain ⟨d', e2, e3⟩ := Option.map_eq_some_iff.mp hf
  cases e3
  cases x with
  | int i =>
    cases e2
    refine h σ H env _ fp _ s nd e1 _ fun v H' fr fp' ev s' r n => ⟨i, (show fr = [] ∧ v = .int i from r).2, ?_⟩
    exact q _ H' [] fp' (ev.sub fun a m => List.mem_append_right _ m) s' ⟨rfl, rfl⟩ (List.nodup_append.mp n).2.1
  | _ => cases e2
end
end DL

set_option maxHeartbeats 1000000
/-! DL, part e: argument lists, displays, built-in calls, isinstance, freezing -/
namespace DL
open PySem L2

/-! ### argument lists -/
section
variable {own : Bool} {X : Cx} {e : Expr} {es : List Expr} {pos : Pos}
def aNil : APm := fun _ => some []
def aCons (f : PSm) (g : APm) : APm := fun env => (f env).bind fun d => (g env).map fun ds => d :: ds
def aNilE : ASm := fun env => some ([], env)
def aConsE (f : ESm) (g : ASm) : ASm := fun env => (f env).bind fun d => (g d.2).map fun ds => (d.1 :: ds.1, ds.2)
theorem dap_nil : DAP false X [] aNil := ⟨_, pa_nil, fun σ H env fp ds s nd hf Q q => by cases hf; exact q [] H [] (Same.refl H) ⟨rfl, rfl⟩ fun z => (nomatch z)⟩
theorem dap_cons {f : PSm} {g : APm} (h : DB false X e f) (h' : DAP false X es g) (hs : starEach (e :: es) X.env = (false, eval e X.env) :: starEach es X.env := by rfl) : DAP false X (e :: es) (aCons f g) := by
  obtain ⟨t, p, h⟩ := h
  obtain ⟨t', p', h'⟩ := h'
  refine ⟨_, pa_cons p p' hs, fun σ H env fp ds s nd hf Q q => ?_⟩
  obtain ⟨d, e1, hf⟩ := Option.bind_eq_some_iff.mp hf
  obtain ⟨dr, e2, e3⟩ := Option.map_eq_some_iff.mp hf
  subst e3
  refine h σ H env fp d s nd e1 _ fun v H1 fr s1 r _ => ?_
  refine h' σ H1 env fp dr (s.same s1) nd e2 _ fun vs H2 fr2 s2 rs _ => ?_
  exact q (v :: vs) H2 (fr ++ fr2) (s1.trans s2) ⟨v, vs, fr, fr2, rfl, rfl, r.same s2, rs⟩ fun z => (nomatch z)
theorem da_nil : DA X [] aNilE := ⟨_, pa_nil, fun σ H env env' fp ds s nd hf Q q => by cases hf; exact q [] H [] fp (Evo.refl fp H) s ⟨rfl, rfl⟩ nd⟩
theorem da_cons {f : ESm} {g : ASm} (h : DE X e f) (h' : DA X es g) (hs : starEach (e :: es) X.env = (false, eval e X.env) :: starEach es X.env := by rfl) : DA X (e :: es) (aConsE f g) := by
  obtain ⟨t, p, h⟩ := h
  obtain ⟨t', p', h'⟩ := h'
  refine ⟨_, pa_cons p p' hs, fun σ H env env' fp ds s nd hf Q q => ?_⟩
  obtain ⟨⟨d, en⟩, e1, hf⟩ := Option.bind_eq_some_iff.mp hf
  obtain ⟨⟨dr, en2⟩, e2, e3⟩ := Option.map_eq_some_iff.mp hf
  cases e3
  refine h σ H env en fp d s nd e1 _ fun v H1 fr fp1 v1 s1 r n1 => ?_
  refine h' σ H1 en _ fp1 dr s1 (List.nodup_append.mp n1).2.1 e2 _ fun vs H2 fr2 fp2 v2 s2 rs n2 => ?_
  obtain ⟨r2, v12, n12⟩ := two (env := env) (σ := σ) v1 r n1 v2 n2
  exact q (v :: vs) H2 (fr ++ fr2) fp2 v12 s2 ⟨v, vs, fr, fr2, rfl, rfl, r2, rs⟩ n12

/-! ### displays -/
def pTup (f : APm) : PSm := fun env => (f env).bind fun ds => if ds.all isImm = true ∧ ds.length ≤ szL then some (.tup ds) else none
def eTup (f : ASm) : ESm := fun env => (f env).bind fun ds => if ds.1.all isImm = true ∧ ds.1.length ≤ szL then some (.tup ds.1, ds.2) else none
def eLst (f : ASm) : ESm := fun env => (f env).bind fun ds => if ds.1.length ≤ szL then some (.lst false ds.1, ds.2) else none
theorem db_tup {k} {f : APm} (h : DAP false X es f) : DB true X (.Tuple es k pos) (pTup f) := by
  obtain ⟨t, p, h⟩ := h
  refine ⟨_, pe_tup p, fun σ H env fp d s nd hf Q q => ?_⟩
  obtain ⟨ds, e1, hf⟩ := Option.bind_eq_some_iff.mp hf
  split at hf
  case isFalse => cases hf
  rename_i hi
  cases hf
  refine h σ H env fp ds s nd e1 _ fun vs H1 fr s1 rs _ => ⟨by rw [szL_eq, rs.length]; exact hi.2, fun pp hp => ?_⟩
  exact (q.via s1).tup (rs.ris hi.1) hp
theorem de_tup {k} {f : ASm} (h : DA X es f) : DE X (.Tuple es k pos) (eTup f) := by
  obtain ⟨t, p, h⟩ := h
  refine ⟨_, pe_tup p, fun σ H env env' fp d s nd hf Q q => ?_⟩
  obtain ⟨⟨ds, en⟩, e1, hf⟩ := Option.bind_eq_some_iff.mp hf
  split at hf
  case isFalse => cases hf
  rename_i hi
  cases hf
  refine h σ H env _ fp ds s nd e1 _ fun vs H1 fr fp1 v1 s1 rs n1 => ⟨by rw [szL_eq, rs.length]; exact hi.2, fun pp hp => ?_⟩
  have q' : Res true X.K H1 (.tup ds) Q := fun v H' fr' sm r fo => let_go q v1 s1 (List.nodup_append.mp n1).2.1 sm r (fo rfl)
  exact q'.tup (rs.ris hi.1) hp
theorem upd_same_ne {H : Hp} {p : Addr} {o : HO} (hp : H p = none) : Same H (upd H p o) := same_new hp
theorem de_lst {f : ASm} (h : DA X es f) : DE X (.List es pos) (eLst f) := by
  obtain ⟨t, p, h⟩ := h
  refine ⟨_, pe_lst p, fun σ H env env' fp d s nd hf Q q => ?_⟩
  obtain ⟨⟨ds, en⟩, e1, hf⟩ := Option.bind_eq_some_iff.mp hf
  split at hf
  case isFalse => cases hf
  rename_i hi
  cases hf
  refine h σ H env _ fp ds s nd e1 _ fun vs H1 fr fp1 v1 s1 rs n1 => ⟨by rw [szL_eq, rs.length]; exact hi, fun pp hp => ?_⟩
  have sm : Same H1 (upd H1 pp (.lst vs)) := same_new hp
  refine q (.ref pp) _ (pp :: fr) fp1 ⟨fun a o ha hn => sm a o (v1.keep a o ha hn), fun a m => ?_, v1.imm.trans (.of_same sm)⟩ (s1.same sm) (.inr ⟨rfl, pp, vs, fr, rfl, rfl, upd_same, rs.same sm⟩) ?_
  · rcases List.mem_cons.mp m with rfl | m
    · by_cases hm : a ∈ fp
      · exact .inl hm
      · refine .inr ?_
        cases z : H a with
        | none => rfl
        | some o => rw [v1.keep a o z hm] at hp; cases hp
    · exact v1.own a m
  · refine List.nodup_cons.mpr ⟨fun m => ?_, n1⟩
    rcases List.mem_append.mp m with m | m
    · obtain ⟨o, z, _⟩ := ROs.live ds vs fr rs pp m
      rw [hp] at z; cases z
    · obtain ⟨o, z, _⟩ := s1.live pp m
      rw [hp] at z; cases z
end

/-! ### calls of built-ins -/
section
variable {own : Bool} {X : Cx} {x : Str} {p pos : Pos} {e : Expr} {es : List Expr} {id T : String} {g : List D → Option D}
def pCall (g : List D → Option D) (f : APm) : PSm := fun env => (f env).bind g
def eCall (g : List D → Option D) (f : ASm) : ESm := fun env => (f env).bind fun ds => (g ds.1).map fun d => (d, ds.2)
theorem db_app {c : Expr} {v : Value} {f : APm} (ho : OC own X v g) (ha : DAP false X es f) (mk : ∀ r t, CallR X v r → PA X es t → PE X c (tCB r t)) : DB own X c (pCall g f) := by
  obtain ⟨r, hr, ho⟩ := ho
  obtain ⟨t, pa, h⟩ := ha
  refine ⟨_, mk r t hr pa, fun σ H env fp d s nd hf Q q => ?_⟩
  obtain ⟨ds, e1, e2⟩ := Option.bind_eq_some_iff.mp hf
  exact h σ H env fp ds s nd e1 _ fun vs H1 fr s1 rs _ => ho H1 vs ds fr d rs e2 Q (q.via s1)
theorem de_app {c : Expr} {v : Value} {f : ASm} (ho : OC true X v g) (ha : DA X es f) (mk : ∀ r t, CallR X v r → PA X es t → PE X c (tCB r t)) : DE X c (eCall g f) := by
  obtain ⟨r, hr, ho⟩ := ho
  obtain ⟨t, pa, h⟩ := ha
  refine ⟨_, mk r t hr pa, fun σ H env env' fp d s nd hf Q q => ?_⟩
  obtain ⟨⟨ds, en⟩, e1, hf⟩ := Option.bind_eq_some_iff.mp hf
  obtain ⟨d', e2, e3⟩ := Option.map_eq_some_iff.mp hf
  cases e3
  exact h σ H env _ fp ds s nd e1 _ fun vs H1 fr fp1 v1 s1 rs n1 => ho H1 vs ds fr _ rs e2 Q fun v H' fr' sm r fo => let_go q v1 s1 (List.nodup_append.mp n1).2.1 sm r (fo rfl)
theorem db_callB {f : APm} (ho : OC own X (.builtin id) g) (hg : Gl X x) (hm : X.mg x = none) (hv : bootBuiltins x = some (.builtin id)) (ha : DAP false X (e :: es) f) (hn : x ≠ "__name__" := by decide) (hdb : (x == ("__debug__" : Str)) = false := by decide)
    (he : starEach (e :: es) X.env = (false, eval e X.env) :: starEach es X.env := by rfl) (hpl : (backTo pos (starEach es X.env)).any (·.1) = false := by rfl) : DB own X (.Call (.Name x p) (e :: es) [] pos) (pCall g f) :=
  db_app ho ha fun _ _ h1 h2 => pe_callB h1 hg hm hv h2 hn hdb he hpl
theorem de_callB {f : ASm} (ho : OC true X (.builtin id) g) (hg : Gl X x) (hm : X.mg x = none) (hv : bootBuiltins x = some (.builtin id)) (ha : DA X (e :: es) f) (hn : x ≠ "__name__" := by decide) (hdb : (x == ("__debug__" : Str)) = false := by decide)
    (he : starEach (e :: es) X.env = (false, eval e X.env) :: starEach es X.env := by rfl) (hpl : (backTo pos (starEach es X.env)).any (·.1) = false := by rfl) : DE X (.Call (.Name x p) (e :: es) [] pos) (eCall g f) :=
  de_app ho ha fun _ _ h1 h2 => pe_callB h1 hg hm hv h2 hn hdb he hpl
theorem db_callTy {f : APm} (ho : OC own X (.type T) g) (hg : Gl X x) (hm : X.mg x = none) (hv : bootBuiltins x = some (.type T)) (ha : DAP false X (e :: es) f) (hn : x ≠ "__name__" := by decide) (hdb : (x == ("__debug__" : Str)) = false := by decide)
    (he : starEach (e :: es) X.env = (false, eval e X.env) :: starEach es X.env := by rfl) (hpl : (backTo pos (starEach es X.env)).any (·.1) = false := by rfl) : DB own X (.Call (.Name x p) (e :: es) [] pos) (pCall g f) :=
  db_app ho ha fun _ _ h1 h2 => pe_callTy h1 hg hm hv h2 hn hdb he hpl
theorem de_callTy {f : ASm} (ho : OC true X (.type T) g) (hg : Gl X x) (hm : X.mg x = none) (hv : bootBuiltins x = some (.type T)) (ha : DA X (e :: es) f) (hn : x ≠ "__name__" := by decide) (hdb : (x == ("__debug__" : Str)) = false := by decide)
    (he : starEach (e :: es) X.env = (false, eval e X.env) :: starEach es X.env := by rfl) (hpl : (backTo pos (starEach es X.env)).any (·.1) = false := by rfl) : DE X (.Call (.Name x p) (e :: es) [] pos) (eCall g f) :=
  de_app ho ha fun _ _ h1 h2 => pe_callTy h1 hg hm hv h2 hn hdb he hpl
end

/-! ### what the built-ins do -/
section
variable {K : PySem.W.Frag} {H : Hp} {X : Cx}
theorem ROs.one {d : D} {vs : List V} {fp : List Addr} (h : ROs K H [d] vs fp) : ∃ v, vs = [v] ∧ RO K H d v fp := by
  obtain ⟨x, xs, f, f', h1, hf, h2, h3, h4⟩ := h
  subst h3
  rw [hf, h4, List.append_nil]
  exact ⟨x, h1, h2⟩
theorem ROs.two {d e : D} {vs : List V} {fp : List Addr} (h : ROs K H [d, e] vs fp) : ∃ v w f g, vs = [v, w] ∧ RO K H d v f ∧ RO K H e w g := by
  obtain ⟨x, xs, f, f', h1, hf, h2, h3⟩ := h
  obtain ⟨w, e1, e2⟩ := ROs.one h3
  exact ⟨x, w, f, f', by rw [h1, e1], h2, e2⟩
def gLen : List D → Option D
  | [.str s] => if s.length ≤ szL then some (.int s.length) else none
  | [.dcK _ ks _] => some (.int ks.length)
  | [.dcT _ ks _] => some (.int ks.length)
  | [d] => (seqD d).map fun ds => .int ds.length
  | _ => none
theorem call_lenRd : CallR X (.builtin "len") (fun xs H Q => ∃ d kvs, xs = [.ref d] ∧ Rd H d (.dK kvs) ∧ Q (.int kvs.length) H) := by
  rintro pins s σ H xs us Q I r ⟨d, kvs, rfl, hd, q⟩
  rw [Vals.ref1 r]
  exact d_len I hd fun t s' I' => ⟨.int kvs.length, H, I', ⟨t, rfl⟩, q⟩
theorem call_lenTd : CallR X (.builtin "len") (fun xs H Q => ∃ d kvs, xs = [.ref d] ∧ Rd H d (.dT kvs) ∧ Q (.int (kvs.length : Nat)) H) := by
  rintro pins s σ H xs us Q I r ⟨d, kvs, rfl, hp, q⟩
  rw [Vals.ref1 r]
  obtain ⟨z, hd, ys, rel, dd⟩ := dt_rd I.hok hp
  have hl : kvs.length = ys.length := Paired.length rel
  refine call_len_dictH hd dd (by rw [← hl]; rw [sizeLine_eq] at z; omega) ?_
  rw [← hl]
  exact ⟨.int ((kvs.length : Nat) : Int), H, I.tok _, ⟨_, rfl⟩, q⟩
theorem c_len : OC true X (.builtin "len") gLen := by
  refine ⟨_, CallR.or call_len (CallR.or call_lenRd call_lenTd), fun H vs ds fp d hv hg Q q => ?_⟩
  unfold gLen at hg
  split at hg
  · split at hg
    · rename_i hz
      cases hg
      obtain ⟨v, rfl, _, rfl⟩ := hv.one
      exact .inl ⟨_, _, rfl, ⟨by rw [szL_eq]; exact hz, rfl⟩, q.int⟩
    · cases hg
  · rename_i fz ks ds
    cases hg
    obtain ⟨v, rfl, r⟩ := hv.one
    have fin : ∀ {a : Addr} {xs : List V}, v = .ref a → Rd H a (.dK (ks.zip xs)) → ks.length = xs.length → ∃ d kvs, [v] = [V.ref d] ∧ Rd H d (.dK kvs) ∧ Q (.int kvs.length) H := fun {a xs} e1 e2 e3 =>
      ⟨a, _, by rw [e1], e2, by rw [List.length_zip, ← e3, Nat.min_self]; exact q.int⟩
    rcases r with ⟨_, _, _, a, o, xs, h1, h2, h3, _⟩ | ⟨_, a, xs, f, h1, _, h2, h3, _⟩
    · exact .inr (.inl (fin h1 (.inr ⟨o, h2⟩) h3))
    · exact .inr (.inl (fin h1 (.inl h2) h3))
  · rename_i fz ks ds
    cases hg
    obtain ⟨v, rfl, r⟩ := hv.one
    have fin : ∀ {a : Addr} {xs : List V}, v = .ref a → Rd H a (.dT (ks.zip xs)) → ks.length = xs.length → ∃ d kvs, [v] = [V.ref d] ∧ Rd H d (.dT kvs) ∧ Q (.int (kvs.length : Nat)) H := fun {a xs} e1 e2 e3 =>
      ⟨a, _, by rw [e1], e2, by rw [List.length_zip, ← e3, Nat.min_self]; exact q.int⟩
    rcases r with ⟨_, _, _, a, o, xs, h1, h2, h3, _⟩ | ⟨_, a, xs, f, h1, _, h2, h3, _⟩
    · exact .inr (.inr (fin h1 (.inr ⟨o, h2⟩) h3))
    · exact .inr (.inr (fin h1 (.inl h2) h3))
  · obtain ⟨es, e1, e2⟩ := Option.map_eq_some_iff.mp hg
    subst e2
    obtain ⟨v, rfl, r⟩ := hv.one
    obtain ⟨a, xs, f, h1, h2, _, h4, _⟩ := r.seq e1
    refine .inl ⟨v, _, rfl, ?_, q.int⟩
    rw [h1, ← h2.length]
    exact h4.imp (fun z => ⟨xs, z, rfl⟩) fun z => ⟨xs, z, rfl⟩
  · cases hg
def gInt : List D → Option D
  | [.int i] => some (.int i)
  | [.bl b] => some (.int (if b = true then 1 else 0))
  | _ => none
theorem c_int : OC true X (.type "int") gInt := by
  refine ⟨_, call_int1, fun H vs ds fp d hv hg Q q => ?_⟩
  unfold gInt at hg
  split at hg
  · cases hg
    obtain ⟨v, rfl, _, rfl⟩ := hv.one
    exact .inl ⟨_, rfl, q.int⟩
  · cases hg
    obtain ⟨v, rfl, _, rfl⟩ := hv.one
    exact .inr ⟨_, rfl, q.int⟩
  · cases hg
def gBool : List D → Option D
  | [.int i] => some (.bl (i != 0))
  | [.bl b] => some (.bl b)
  | _ => none
theorem c_bool : OC true X (.type "bool") gBool := by
  refine ⟨_, call_bool1, fun H vs ds fp d hv hg Q q => ?_⟩
  unfold gBool at hg
  split at hg
  · cases hg
    obtain ⟨v, rfl, _, rfl⟩ := hv.one
    exact .inl ⟨_, rfl, q.bl⟩
  · cases hg
    obtain ⟨v, rfl, _, rfl⟩ := hv.one
    exact .inr ⟨_, rfl, q.bl⟩
  · cases hg
def gStr : List D → Option D
  | [.int i] => if i.natAbs.log2 < 1920 then some (.str (toString i)) else none
  | _ => none
theorem c_str : OC true X (.type "str") gStr := by
  refine ⟨_, call_str_int, fun H vs ds fp d hv hg Q q => ?_⟩
  unfold gStr at hg
  split at hg
  · split at hg
    · rename_i hz
      cases hg
      obtain ⟨v, rfl, _, rfl⟩ := hv.one
      exact ⟨_, rfl, hz, q.str⟩
    · cases hg
  · cases hg
def gAbs : List D → Option D
  | [.int i] => some (.int (if i < 0 then -i else i))
  | _ => none
theorem c_abs : OC true X (.builtin "abs") gAbs := by
  refine ⟨_, call_abs, fun H vs ds fp d hv hg Q q => ?_⟩
  unfold gAbs at hg
  split at hg
  · cases hg
    obtain ⟨v, rfl, _, rfl⟩ := hv.one
    exact ⟨_, rfl, q.int⟩
  · cases hg
def intsD : List D → Option (List Int)
  | [] => some []
  | .int i :: r => (intsD r).map fun l => i :: l
  | _ => none
theorem intsD_all : ∀ {ds : List D} {ns : List Int}, intsD ds = some ns → ds = ns.map D.int
  | [], _, e => by cases e; rfl
  | .int i :: r, _, e => by
    obtain ⟨l, e1, e2⟩ := Option.map_eq_some_iff.mp e
    subst e2
    rw [intsD_all e1]; rfl
  | .non :: r, _, e => by cases e
  | .bl _ :: r, _, e => by cases e
  | .str _ :: r, _, e => by cases e
  | .tup _ :: r, _, e => by cases e
  | .lst _ _ :: r, _, e => by cases e
  | .scr _ :: r, _, e => by cases e
  | .dcK _ _ _ :: r, _, e => by cases e
  | .dcT _ _ _ :: r, _, e => by cases e
  | .exo _ _ _ _ _ :: r, _, e => by cases e
theorem intsD_map : ∀ ns : List Int, intsD (ns.map D.int) = some ns
  | [] => rfl
  | n :: ns => by
    show (intsD (ns.map D.int)).map _ = _
    rw [intsD_map ns]; rfl
theorem ROs.ints {ns : List Int} {vs : List V} {fp : List Addr} (h : ROs K H (ns.map D.int) vs fp) : vs = ns.map V.int := by
  rw [h.fvs (by rw [List.all_map, List.all_eq_true]; exact fun _ _ => rfl), List.map_map]; rfl
/-- the greatest, the least of a row of ints -/
def mxI : Int → List Int → Int
  | m, [] => m
  | m, n :: r => mxI (if m < n then n else m) r
def mnI : Int → List Int → Int
  | m, [] => m
  | m, n :: r => mnI (if n < m then n else m) r
theorem mxI_mem : ∀ (r : List Int) (m : Int), mxI m r ∈ m :: r ∧ ∀ y ∈ m :: r, y ≤ mxI m r
  | [], m => ⟨by simp [mxI], fun y h => by
    have : y = m := by simpa using h
    subst this; exact Int.le_refl _⟩
  | n :: r, m => by
    show mxI (if m < n then n else m) r ∈ m :: n :: r ∧ ∀ y ∈ m :: n :: r, y ≤ mxI (if m < n then n else m) r
    have ih := mxI_mem r (if m < n then n else m)
    have h0 := ih.2 _ List.mem_cons_self
    refine ⟨?_, fun y h => ?_⟩
    · rcases List.mem_cons.mp ih.1 with e | e
      · rw [e]; split
        · exact List.mem_cons_of_mem _ List.mem_cons_self
        · exact List.mem_cons_self
      · exact List.mem_cons_of_mem _ (List.mem_cons_of_mem _ e)
    · rcases List.mem_cons.mp h with rfl | h
      · split at h0 <;> rename_i z <;> (try rw [if_pos z]) <;> (try rw [if_neg z]) <;> omega
      · rcases List.mem_cons.mp h with rfl | h
        · split at h0 <;> rename_i z <;> (try rw [if_pos z]) <;> (try rw [if_neg z]) <;> omega
        · exact ih.2 y (List.mem_cons_of_mem _ h)
theorem mnI_mem : ∀ (r : List Int) (m : Int), mnI m r ∈ m :: r ∧ ∀ y ∈ m :: r, mnI m r ≤ y
  | [], m => ⟨by simp [mnI], fun y h => by
    have : y = m := by simpa using h
    subst this; exact Int.le_refl _⟩
  | n :: r, m => by
    show mnI (if n < m then n else m) r ∈ m :: n :: r ∧ ∀ y ∈ m :: n :: r, mnI (if n < m then n else m) r ≤ y
    have ih := mnI_mem r (if n < m then n else m)
    have h0 := ih.2 _ List.mem_cons_self
    refine ⟨?_, fun y h => ?_⟩
    · rcases List.mem_cons.mp ih.1 with e | e
      · rw [e]; split
        · exact List.mem_cons_of_mem _ List.mem_cons_self
        · exact List.mem_cons_self
      · exact List.mem_cons_of_mem _ (List.mem_cons_of_mem _ e)
    · rcases List.mem_cons.mp h with rfl | h
      · split at h0 <;> rename_i z <;> (try rw [if_pos z]) <;> (try rw [if_neg z]) <;> omega
      · rcases List.mem_cons.mp h with rfl | h
        · split at h0 <;> rename_i z <;> (try rw [if_pos z]) <;> (try rw [if_neg z]) <;> omega
        · exact ih.2 y (List.mem_cons_of_mem _ h)

section
open PySem.Spec PySem.Calls PyProof.Rows PyProof.V
def str2 (a b : Str) (i : Nat) : Str := if i = 0 then a else b
theorem strs2_at {a b : Str} {t u : Tok} {i : Nat} {v : Value} (h : (#[Value.str a t, Value.str b u] : Array Value)[i]? = some v) : ∃ k, v = .str (str2 a b i) k := by
  match i with
  | 0 => exact ⟨t, by simpa [str2] using h.symm⟩
  | 1 => exact ⟨u, by simpa [str2] using h.symm⟩
  | n + 2 => simp at h
section
variable {prog : Program} {w : World} {A : Around} {E : Value → Shared → Prop} {s : Shared}
theorem cmpOf_strs {a b : Str} {t u : Tok} : CmpOf prog w A .Lt (fun i v => (#[Value.str a t, Value.str b u] : Array Value)[i]? = some v) (fun i j => decide ((str2 a b i).cps.toList < (str2 a b j).cps.toList)) := fun i j vi vj s Q E hi hj h => by
  obtain ⟨t, rfl⟩ := strs2_at hi
  obtain ⟨u, rfl⟩ := strs2_at hj
  exact richCompare_gives (op := .Lt) (typeIs_str s _ t) (typeIs_str s _ u) PySem.F.slot_str_lt PySem.F.entry_str_lt (PySem.F.args_str_lt_2 _ _) (gives_str_lt _ _ t u) (fun x => nomatch x) h
theorem cmpOf_strsG {a b : Str} {t u : Tok} : CmpOf prog w A .Gt (fun i v => (#[Value.str a t, Value.str b u] : Array Value)[i]? = some v) (fun i j => decide ((str2 a b j).cps.toList < (str2 a b i).cps.toList)) := fun i j vi vj s Q E hi hj h => by
  obtain ⟨t, rfl⟩ := strs2_at hi
  obtain ⟨u, rfl⟩ := strs2_at hj
  exact richCompare_gives (op := .Gt) (typeIs_str s _ t) (typeIs_str s _ u) PySem.F.slot_str_gt PySem.F.entry_str_gt (PySem.F.args_str_gt_2 _ _) (gives_str_gt _ _ t u) (fun x => nomatch x) h
theorem min_two_strs {a b : Str} {t u : Tok} {Q : Value → Shared → Prop} (hh : A.handled = none)
    (h : ∀ h' tk, (∀ c o, s.heap.get? c = some o → h'.get? c = some o) → Q (if b.cps.toList < a.cps.toList then .str b u else .str a t) { s with heap := h', toks := tk }) :
    wpAny (model prog w) A (call (.builtin "min") [.str a t, .str b u]) Q E s := by
  have hT : (s.heap.push { cls := .type "tuple", data := .seq #[.str a t, .str b u] }).IsTuple s.heap.objs.size #[.str a t, .str b u] := ⟨_, Heap.get?_push_size _ rfl, rfl, 0, rfl⟩
  refine call_min_two (wpAny_pyIter_tuple hT ?_)
  have hsz : (s.heap.push { cls := .type "tuple", data := .seq #[.str a t, .str b u] }).objs.size = s.heap.objs.size + 1 := Heap.size_push ..
  refine ⟨_, [_, s.heap.objs.size], [_], _, _, _, _, rfl, Walks.tuple (A := A.in1) hh _ s.heap.objs.size (by rw [hsz]; exact Nat.ne_of_lt (Nat.lt_succ_self _)) #[.str a t, .str b u],
    ⟨⟨_, Heap.get?_push_size _ rfl, rfl, rfl⟩, hT.push _⟩, fun c hc => ?_, by simp, cmpOf_strs, fun v h' tk hP hk => ?_⟩
  · show c < ((s.heap.push _).push _).objs.size
    rw [Heap.size_push, hsz]
    rcases List.mem_cons.mp hc with rfl | hc
    · rw [hsz]; exact Nat.lt_succ_self _
    · rcases List.mem_cons.mp hc with rfl | hc
      · exact Nat.lt_succ_of_lt (Nat.lt_succ_self _)
      · cases hc
  · have hold : ∀ c o, s.heap.get? c = some o → h'.get? c = some o := fun c o e => by
      refine hk c o (fun hm => ?_) (Heap.get?_push_of_some _ (Heap.get?_push_of_some _ e))
      rcases List.mem_cons.mp hm with e1 | hm
      · have := Heap.lt_size e; rw [e1, hsz] at this; exact Nat.lt_irrefl _ (Nat.lt_of_succ_lt this)
      · cases hm
    have := h h' tk hold
    have hv : v = if b.cps.toList < a.cps.toList then Value.str b u else Value.str a t := by
      by_cases hba : b.cps.toList < a.cps.toList
      · have e : argBest (fun i j => decide ((str2 a b i).cps.toList < (str2 a b j).cps.toList)) 1 = 1 := by simp [argBest, str2, hba]
        have hP' : (#[Value.str a t, Value.str b u] : Array Value)[argBest (fun i j => decide ((str2 a b i).cps.toList < (str2 a b j).cps.toList)) 1]? = some v := hP
        rw [e] at hP'
        rw [if_pos hba]
        simpa using hP'.symm
      · have e : argBest (fun i j => decide ((str2 a b i).cps.toList < (str2 a b j).cps.toList)) 1 = 0 := by simp [argBest, str2, hba]
        have hP' : (#[Value.str a t, Value.str b u] : Array Value)[argBest (fun i j => decide ((str2 a b i).cps.toList < (str2 a b j).cps.toList)) 1]? = some v := hP
        rw [e] at hP'
        rw [if_neg hba]
        simpa using hP'.symm
    rw [hv]; exact this
theorem max_two_strs {a b : Str} {t u : Tok} {Q : Value → Shared → Prop} (hh : A.handled = none)
    (h : ∀ h' tk, (∀ c o, s.heap.get? c = some o → h'.get? c = some o) → Q (if a.cps.toList < b.cps.toList then .str b u else .str a t) { s with heap := h', toks := tk }) :
    wpAny (model prog w) A (call (.builtin "max") [.str a t, .str b u]) Q E s := by
  have hT : (s.heap.push { cls := .type "tuple", data := .seq #[.str a t, .str b u] }).IsTuple s.heap.objs.size #[.str a t, .str b u] := ⟨_, Heap.get?_push_size _ rfl, rfl, 0, rfl⟩
  refine call_max_two (wpAny_pyIter_tuple hT ?_)
  have hsz : (s.heap.push { cls := .type "tuple", data := .seq #[.str a t, .str b u] }).objs.size = s.heap.objs.size + 1 := Heap.size_push ..
  refine ⟨_, [_, s.heap.objs.size], [_], _, _, _, _, rfl, Walks.tuple (A := A.in1) hh _ s.heap.objs.size (by rw [hsz]; exact Nat.ne_of_lt (Nat.lt_succ_self _)) #[.str a t, .str b u],
    ⟨⟨_, Heap.get?_push_size _ rfl, rfl, rfl⟩, hT.push _⟩, fun c hc => ?_, by simp, cmpOf_strsG, fun v h' tk hP hk => ?_⟩
  · show c < ((s.heap.push _).push _).objs.size
    rw [Heap.size_push, hsz]
    rcases List.mem_cons.mp hc with rfl | hc
    · rw [hsz]; exact Nat.lt_succ_self _
    · rcases List.mem_cons.mp hc with rfl | hc
      · exact Nat.lt_succ_of_lt (Nat.lt_succ_self _)
      · cases hc
  · have hold : ∀ c o, s.heap.get? c = some o → h'.get? c = some o := fun c o e => by
      refine hk c o (fun hm => ?_) (Heap.get?_push_of_some _ (Heap.get?_push_of_some _ e))
      rcases List.mem_cons.mp hm with e1 | hm
      · have := Heap.lt_size e; rw [e1, hsz] at this; exact Nat.lt_irrefl _ (Nat.lt_of_succ_lt this)
      · cases hm
    have := h h' tk hold
    have hv : v = if a.cps.toList < b.cps.toList then Value.str b u else Value.str a t := by
      by_cases hba : a.cps.toList < b.cps.toList
      · have e : argBest (fun i j => decide ((str2 a b j).cps.toList < (str2 a b i).cps.toList)) 1 = 1 := by simp [argBest, str2, hba]
        have hP' : (#[Value.str a t, Value.str b u] : Array Value)[argBest (fun i j => decide ((str2 a b j).cps.toList < (str2 a b i).cps.toList)) 1]? = some v := hP
        rw [e] at hP'
        rw [if_pos hba]
        simpa using hP'.symm
      · have e : argBest (fun i j => decide ((str2 a b j).cps.toList < (str2 a b i).cps.toList)) 1 = 0 := by simp [argBest, str2, hba]
        have hP' : (#[Value.str a t, Value.str b u] : Array Value)[argBest (fun i j => decide ((str2 a b j).cps.toList < (str2 a b i).cps.toList)) 1]? = some v := hP
        rw [e] at hP'
        rw [if_neg hba]
        simpa using hP'.symm
    rw [hv]; exact this
end

variable {X : Cx}
theorem call_min2S (hc : X.calm = true) : CallR X (.builtin "min") (fun xs H Q => ∃ a b : Str, xs = [.str a, .str b] ∧ Q (.str (if b.cps.toList < a.cps.toList then b else a)) H) := by
  intro pins s σ H xs us Q I r h
  obtain ⟨i, j, rfl, q⟩ := h
  obtain ⟨u, w', rfl, ⟨t, rfl⟩, ⟨t', rfl⟩⟩ := vals2 r
  refine min_two_strs (I.ok.hd hc) fun h' tk k => ⟨_, H, I.kept k, ?_, q⟩
  by_cases hj : j.cps.toList < i.cps.toList
  · rw [if_pos hj, if_pos hj]; exact ⟨_, rfl⟩
  · rw [if_neg hj, if_neg hj]; exact ⟨_, rfl⟩
theorem call_max2S (hc : X.calm = true) : CallR X (.builtin "max") (fun xs H Q => ∃ a b : Str, xs = [.str a, .str b] ∧ Q (.str (if a.cps.toList < b.cps.toList then b else a)) H) := by
  intro pins s σ H xs us Q I r h
  obtain ⟨i, j, rfl, q⟩ := h
  obtain ⟨u, w', rfl, ⟨t, rfl⟩, ⟨t', rfl⟩⟩ := vals2 r
  refine max_two_strs (I.ok.hd hc) fun h' tk k => ⟨_, H, I.kept k, ?_, q⟩
  by_cases hj : i.cps.toList < j.cps.toList
  · rw [if_pos hj, if_pos hj]; exact ⟨_, rfl⟩
  · rw [if_neg hj, if_neg hj]; exact ⟨_, rfl⟩
end
def gMax : List D → Option D
  | [.int i, .int j] => some (.int (if i < j then j else i))
  | [.str a, .str b] => some (.str (if a.cps.toList < b.cps.toList then b else a))
  | [.lst _ ds] => match intsD ds with | some (m :: r) => some (.int (mxI m r)) | _ => none
  | _ => none
def gMin : List D → Option D
  | [.int i, .int j] => some (.int (if j < i then j else i))
  | [.str a, .str b] => some (.str (if b.cps.toList < a.cps.toList then b else a))
  | [.lst _ ds] => match intsD ds with | some (m :: r) => some (.int (mnI m r)) | _ => none
  | _ => none
theorem c_max (hc : X.calm = true) : OC true X (.builtin "max") gMax := by
  refine ⟨_, CallR.or (CallR.or (call_max2 hc) (call_max2S hc)) (cr_max hc), fun H vs ds fp d hv hg Q q => ?_⟩
  unfold gMax at hg
  split at hg
  · cases hg
    obtain ⟨v, w, f, g, rfl, r1, r2⟩ := hv.two
    exact .inl (.inl ⟨_, _, by rw [r1.2, r2.2], q.int⟩)
  · cases hg
    obtain ⟨v, w, f, g, rfl, r1, r2⟩ := hv.two
    exact .inl (.inr ⟨_, _, by rw [r1.2, r2.2], q.str⟩)
  · split at hg
    · rename_i m r e1
      cases hg
      obtain ⟨v, rfl, rr⟩ := hv.one
      obtain ⟨a, xs, f, h1, h2, h3⟩ := rr.rdl
      have e2 := intsD_all e1
      rw [e2] at h3
      have e3 := h3.ints
      refine .inr ⟨a, m :: r, by rw [h1], by rw [← e3]; exact .inl h2, Nat.zero_lt_succ _, fun k hk hb => ?_⟩
      have z := mxI_mem r m
      have : k = mxI m r := Int.le_antisymm (z.2 k hk) (hb _ z.1)
      rw [this]; exact q.int
    · cases hg
  · cases hg
theorem c_min (hc : X.calm = true) : OC true X (.builtin "min") gMin := by
  refine ⟨_, CallR.or (CallR.or (call_min2 hc) (call_min2S hc)) (cr_min hc), fun H vs ds fp d hv hg Q q => ?_⟩
  unfold gMin at hg
  split at hg
  · cases hg
    obtain ⟨v, w, f, g, rfl, r1, r2⟩ := hv.two
    exact .inl (.inl ⟨_, _, by rw [r1.2, r2.2], q.int⟩)
  · cases hg
    obtain ⟨v, w, f, g, rfl, r1, r2⟩ := hv.two
    exact .inl (.inr ⟨_, _, by rw [r1.2, r2.2], q.str⟩)
  · split at hg
    · rename_i m r e1
      cases hg
      obtain ⟨v, rfl, rr⟩ := hv.one
      obtain ⟨a, xs, f, h1, h2, h3⟩ := rr.rdl
      have e2 := intsD_all e1
      rw [e2] at h3
      have e3 := h3.ints
      refine .inr ⟨a, m :: r, by rw [h1], by rw [← e3]; exact .inl h2, Nat.zero_lt_succ _, fun k hk hb => ?_⟩
      have z := mnI_mem r m
      have : k = mnI m r := Int.le_antisymm (hb _ z.1) (z.2 k hk)
      rw [this]; exact q.int
    · cases hg
  · cases hg
section
open PySem.Spec PySem.Calls PyProof.Rows PyProof.V
def rSumT (K : PySem.W.Frag) : List V → Hp → VK → Prop := fun vs H Q => ∃ (a : Addr) (ns : List Int), vs = [V.ref a] ∧ SqT K H a (ns.map V.int) ∧ Q (.int ns.sum) H
theorem cr_sumT (hc : X.calm = true) : CallR X (.builtin "sum") (rSumT X.K) := by
  intro pins s σ H vs us Q I r h
  obtain ⟨a, ns, rfl, hs, q⟩ := h
  obtain ⟨its, rv, hl, hz⟩ := I.tuple hs
  rw [Vals.ref1 r]
  have hi := rv.ints
  obtain ⟨xs, hx⟩ := hi.allInts.items
  have hn : numsOf its = ns := hi.numsOf
  have hl' : s.heap.IsTuple a its.toArray := hl
  rw [hx] at hl'
  have e0 : numsOf its.toArray.toList = ns := by rw [show its.toArray.toList = its from rfl, hn]
  rw [hx, nums_intItems] at e0
  refine PySem.W.ktm_sumG (I.ok.hd hc) hl' fun h' tk t' hk => ?_
  rw [preSum_eq, List.take_of_length_le (by simp), e0]
  exact ⟨.int _, H, I.kept hk, ⟨_, rfl⟩, q⟩
end
def gSum : List D → Option D
  | [.lst _ ds] => (intsD ds).map fun ns => .int ns.sum
  | [.tup ds] => (intsD ds).map fun ns => .int ns.sum
  | _ => none
theorem c_sum (hc : X.calm = true) : OC true X (.builtin "sum") gSum := by
  refine ⟨_, CallR.or (cr_sum hc) (cr_sumT hc), fun H vs ds fp d hv hg Q q => ?_⟩
  unfold gSum at hg
  split at hg
  · obtain ⟨ns, e1, e2⟩ := Option.map_eq_some_iff.mp hg
    subst e2
    obtain ⟨v, rfl, rr⟩ := hv.one
    obtain ⟨a, xs, f, h1, h2, h3⟩ := rr.rdl
    rw [intsD_all e1] at h3
    exact .inl ⟨a, ns, by rw [h1], by rw [← h3.ints]; exact .inl h2, q.int⟩
  · obtain ⟨ns, e1, e2⟩ := Option.map_eq_some_iff.mp hg
    subst e2
    obtain ⟨v, rfl, r⟩ := hv.one
    obtain ⟨_, a, xs, h1, h2, h3⟩ := r
    rw [intsD_all e1] at h3
    exact .inr ⟨a, ns, by rw [h1], by rw [← h3.ros.ints]; exact SqT.of h2, q.int⟩
  · cases hg
def gTuple : List D → Option D
  | [.tup ds] => some (.tup ds)
  | [.lst _ ds] => if ds.all isImm = true then some (.tup ds) else none
  | [.scr ds] => some (.tup ds)
  | _ => none
theorem c_tuple : OC true X (.type "tuple") gTuple := by
  refine ⟨_, call_tuple_of, fun H vs ds fp d hv hg Q q => ?_⟩
  unfold gTuple at hg
  split at hg
  · cases hg
    obtain ⟨v, rfl, r⟩ := hv.one
    have r' : RI X.K H _ v := r.2
    obtain ⟨_, a, xs, h1, h2, h3⟩ := r
    exact ⟨a, xs, by rw [h1], .inr ⟨SqT.of h2, by rw [← h1]; exact q.imm r'⟩⟩
  · split at hg
    · rename_i hz
      cases hg
      obtain ⟨v, rfl, rr⟩ := hv.one
      obtain ⟨a, xs, f, h1, h2, h3⟩ := rr.rdl
      exact ⟨a, xs, by rw [h1], .inl ⟨.inl h2, fun l hl => q.tup (h3.ris hz) hl⟩⟩
    · cases hg
  · cases hg
    obtain ⟨v, rfl, _, a, xs, h1, h2, h3⟩ := hv.one
    exact ⟨a, xs, by rw [h1], .inl ⟨h2.sq, fun l hl => q.tup h3 hl⟩⟩
  · cases hg
def gList : List D → Option D
  | [d] => (seqD d).bind fun ds => if ds.all isImm = true then some (.lst false ds) else none
  | _ => none
theorem c_list : OC true X (.type "list") gList := by
  refine ⟨_, call_list_of, fun H vs ds fp d hv hg Q q => ?_⟩
  unfold gList at hg
  split at hg
  · obtain ⟨es, e1, hg⟩ := Option.bind_eq_some_iff.mp hg
    split at hg
    · rename_i hz
      cases hg
      obtain ⟨v, rfl, r⟩ := hv.one
      obtain ⟨a, xs, f, h1, h2, _, h4, _⟩ := r.seq e1
      exact ⟨a, xs, by rw [h1], h4, fun l hl => q.lst (h2.ris hz) hl⟩
    · cases hg
  · cases hg
end

/-! ### isinstance -/
def tyN : D → String
  | .non => "NoneType" | .bl _ => "bool" | .int _ => "int" | .str _ => "str"
  | .tup _ => "tuple" | .lst _ _ => "list" | .scr _ => "list" | .dcK _ _ _ => "dict" | .dcT _ _ _ => "dict" | .exo _ _ _ _ _ => "dict"
def isD (T : String) (d : D) : Bool := tyN d == T || (tyN d == "bool" && T == "int")
/-- the classes that the texts ask for -/
def okT (T : String) : Bool := ["int", "bool", "str", "tuple", "list", "dict"].contains T
theorem kit_all : (["NoneType", "bool", "int", "str", "tuple", "list", "dict"] : List String).all (fun n => (["int", "bool", "str", "tuple", "list", "dict"] : List String).all fun T => decide (kitB n T = some (n == T || (n == "bool" && T == "int")))) = true := by decide +kernel
theorem tyN_mem (d : D) : tyN d ∈ (["NoneType", "bool", "int", "str", "tuple", "list", "dict"] : List String) := by
  cases d <;> simp [tyN]
theorem kit_is {T : String} (h : okT T = true) (d : D) : kitB (tyN d) T = some (isD T d) := by
  have hT : T ∈ (["int", "bool", "str", "tuple", "list", "dict"] : List String) := by simpa [okT] using h
  exact of_decide_eq_true (List.all_eq_true.mp (List.all_eq_true.mp kit_all _ (tyN_mem d)) T hT)
section
variable {K : PySem.W.Frag} {H : Hp} {X : Cx}
def notFT : D → Bool
  | .dcT true _ _ => false
  | .exo _ _ _ _ _ => false
  | _ => true
theorem RO.tyx {d : D} {v : V} {fp : List Addr} (h : RO K H d v fp) (hd : notFT d = true) : TyX K H v (.type (tyN d)) := by
  cases d with
  | non => rw [h.2]; exact .base .non
  | bl b => rw [h.2]; exact .base (.bl b)
  | int b => rw [h.2]; exact .base (.int b)
  | str b => rw [h.2]; exact .base (.str b)
  | tup ds => obtain ⟨_, a, xs, h1, h2, h3⟩ := h; rw [h1]; exact .base (.tup h2)
  | scr ds =>
    obtain ⟨_, a, xs, h1, h2, h3⟩ := h
    rw [h1]
    rcases h2 with ⟨o, h2⟩ | ⟨o, its, n, h2, h4, _⟩
    · exact .base (.frz h2)
    · exact .kList h2 h4
  | lst fz ds =>
    obtain ⟨a, xs, f, h1, h2, h3⟩ := h.rdl
    rw [h1]
    rcases h2 with h2 | ⟨o, h2⟩
    · exact .base (.lst h2)
    · exact .base (.frz h2)
  | dcK fz ks ds =>
    rcases h with ⟨_, _, _, a, o, xs, h1, h2, _⟩ | ⟨_, a, xs, f, h1, _, h2, _⟩
    · rw [h1]; exact .fDict h2
    · rw [h1]; exact .base (.dK h2)
  | dcT fz ks ds =>
    rcases h with ⟨z, _⟩ | ⟨_, a, xs, f, h1, _, h2, _⟩
    · subst z; cases hd
    · rw [h1]; exact .base (.dT h2)
  | exo _ _ _ _ _ => cases hd
def pIsi (T : String) (f : PSm) : PSm := fun env => (f env).bind fun d => if notFT d = true then some (.bl (isD T d)) else none
variable {a : Expr} {p q0 pos : Pos} {tn : Str} {T : String}
theorem db_isi {f : PSm} (hT : okT T = true) (hg : Gl X "isinstance") (hm : X.mg "isinstance" = none) (hg2 : Gl X tn) (hm2 : X.mg tn = none) (hv2 : bootBuiltins tn = some (.type T)) (ha : DB false X a f)
    (hv : bootBuiltins ("isinstance" : Str) = some (.builtin "isinstance") := by decide +kernel) (hn2 : tn ≠ "__name__" := by decide) (hd2 : (tn == ("__debug__" : Str)) = false := by decide)
    (he : starEach [a, .Name tn q0] X.env = (false, eval a X.env) :: starEach [.Name tn q0] X.env := by rfl) (he2 : starEach [.Name tn q0] X.env = (false, eval (.Name tn q0) X.env) :: starEach [] X.env := by rfl)
    (hpl : (backTo pos (starEach [.Name tn q0] X.env)).any (·.1) = false := by rfl) : DB true X (.Call (.Name "isinstance" p) [a, .Name tn q0] [] pos) (pIsi T f) := by
  obtain ⟨t, pa, h⟩ := ha
  refine ⟨_, pe_callB call_isi hg hm hv (pa_cons pa (pa_cons (pe_bltn (v := .ty T) hg2 hm2 hv2 rfl hn2 hd2) pa_nil he2) he) (by decide) (by decide) he hpl, fun σ H env fp d s nd hf Q q => ?_⟩
  obtain ⟨d0, e1, hf⟩ := Option.bind_eq_some_iff.mp hf
  split at hf
  case isFalse => cases hf
  rename_i hn
  cases hf
  refine h σ H env fp d0 s nd e1 _ fun v H1 fr s1 r _ => ?_
  exact ⟨v, .ty T, .type (tyN d0), .type T, isD T d0, rfl, .ty T, r.tyx hn, kit_ty (kit_is hT d0), (q.via s1).bl⟩
def pIsi2 (T U : String) (f : PSm) : PSm := fun env => (f env).bind fun d => if notFT d = true then some (.bl (isD T d || isD U d)) else none
theorem kit_two {T U : String} {d : D} (hT : okT T = true) (hU : okT U = true) : PySem.W.kitAny K (.type (tyN d)) [.type T, .type U] = some (isD T d || isD U d) := by
  refine kitAny_cons (kit_ty (kit_is hT d)) (fun e => kitAny_cons (kit_ty (kit_is hU d)) (fun e2 => ?_) fun e2 => ?_) fun e => ?_
  · rw [e, e2]; rfl
  · rw [e2, Bool.or_true]
  · rw [e, Bool.true_or]
variable {un : Str} {U : String} {q1 q2 : Pos} {k : Nat}
theorem db_isi2 {f : PSm} (hT : okT T = true) (hU : okT U = true) (hg : Gl X "isinstance") (hm : X.mg "isinstance" = none) (hg2 : Gl X tn) (hm2 : X.mg tn = none) (hv2 : bootBuiltins tn = some (.type T)) (hg3 : Gl X un) (hm3 : X.mg un = none) (hv3 : bootBuiltins un = some (.type U)) (ha : DB false X a f)
    (hv : bootBuiltins ("isinstance" : Str) = some (.builtin "isinstance") := by decide +kernel) (hn2 : tn ≠ "__name__" := by decide) (hd2 : (tn == ("__debug__" : Str)) = false := by decide) (hn3 : un ≠ "__name__" := by decide) (hd3 : (un == ("__debug__" : Str)) = false := by decide)
    (he : starEach [a, .Tuple [.Name tn q0, .Name un q1] k q2] X.env = (false, eval a X.env) :: starEach [.Tuple [.Name tn q0, .Name un q1] k q2] X.env := by rfl) (he2 : starEach [.Tuple [.Name tn q0, .Name un q1] k q2] X.env = (false, eval (.Tuple [.Name tn q0, .Name un q1] k q2) X.env) :: starEach [] X.env := by rfl)
    (he3 : starEach [.Name tn q0, .Name un q1] X.env = (false, eval (.Name tn q0) X.env) :: starEach [.Name un q1] X.env := by rfl) (he4 : starEach [.Name un q1] X.env = (false, eval (.Name un q1) X.env) :: starEach [] X.env := by rfl)
    (hpl : (backTo pos (starEach [.Tuple [.Name tn q0, .Name un q1] k q2] X.env)).any (·.1) = false := by rfl) : DB true X (.Call (.Name "isinstance" p) [a, .Tuple [.Name tn q0, .Name un q1] k q2] [] pos) (pIsi2 T U f) := by
  obtain ⟨t, pa, h⟩ := ha
  refine ⟨_, pe_callB call_isiT hg hm hv (pa_cons pa (pa_cons (pe_tup (pa_cons (pe_bltn (v := .ty T) hg2 hm2 hv2 rfl hn2 hd2) (pa_cons (pe_bltn (v := .ty U) hg3 hm3 hv3 rfl hn3 hd3) pa_nil he4) he3)) pa_nil he2) he) (by decide) (by decide) he hpl, fun σ H env fp d s nd hf Q q => ?_⟩
  obtain ⟨d0, e1, hf⟩ := Option.bind_eq_some_iff.mp hf
  split at hf
  case isFalse => cases hf
  rename_i hn
  cases hf
  refine h σ H env fp d0 s nd e1 _ fun v H1 fr s1 r _ => ⟨by rw [szL_eq]; exact (by decide : 2 ≤ 16777216), fun pp hp => ?_⟩
  have sm := same_new (o := .tup [.ty T, .ty U]) hp
  exact ⟨v, pp, _, .type (tyN d0), _, _, rfl, upd_same, .cons (.ty T) (.cons (.ty U) .nil), (r.same sm).tyx hn, kit_two hT hU, ((q.via s1).via sm).bl⟩
end
end DL

set_option maxHeartbeats 1000000
/-! DL, part f: canonical readings, freezing, statements, targets, loops -/
namespace DL
open PySem L2

/-! ### canonical readings: by the meaning alone -/
def tE (K : PySem.W.Frag) (f : ESm) : TE := fun σ H Q => ∃ env env' fp d, SR K H env σ fp ∧ fp.Nodup ∧ f env = some (d, env') ∧ EQ K σ H fp d env' Q
def tT (K : PySem.W.Frag) (f : TSm) : TT := fun σ H Q => ∃ env env' fp b, SR K H env σ fp ∧ fp.Nodup ∧ f env = some (b, env') ∧ TQ K σ H fp b env' Q
section
variable {X : Cx} {e : Expr}
theorem DE.pe {f : ESm} (h : DE X e f) : PE X e (tE X.K f) := by
  obtain ⟨t, p, h⟩ := h
  exact ⟨fun pins s σ H Q I ⟨env, env', fp, d, sr, nd, hf, q⟩ => p.run pins s σ H Q I (h σ H env env' fp d sr nd hf Q q)⟩
theorem DT.pt {f : TSm} (h : DT X e f) : PT X e (tT X.K f) := by
  obtain ⟨t, p, h⟩ := h
  exact ⟨fun pins s σ H Q I ⟨env, env', fp, d, sr, nd, hf, q⟩ => p.run pins s σ H Q I (h σ H env env' fp d sr nd hf Q q)⟩

/-! ### freezing -/
mutual
def fz : D → D
  | .non => .non
  | .bl b => .bl b
  | .int i => .int i
  | .str s => .str s
  | .tup ds => .tup ds
  | .scr ds => .scr ds
  | .exo a dd c ns ds => .exo a dd c ns ds
  | .lst true ds => .lst true ds
  | .lst false ds => .lst true (fzs ds)
  | .dcK true ks ds => .dcK true ks ds
  | .dcK false ks ds => .dcK true ks (fzs ds)
  | .dcT true ks ds => .dcT true ks ds
  | .dcT false ks ds => .dcT true ks (fzs ds)
def fzs : List D → List D
  | [] => []
  | d :: ds => fz d :: fzs ds
end
/-- the things at fp are locked for good -/
structure Locked (fp : List Addr) (H H' : Hp) : Prop where
  at_ : ∀ a ∈ fp, ∀ u, H a = some u → ∃ o, H' a = some (.frz o u)
  off : ∀ a, a ∉ fp → H' a = H a
theorem Locked.imm {fp : List Addr} {H H' : Hp} (l : Locked fp H H') (lv : ∀ a ∈ fp, Live H a) : ImmExt H H' := by
  refine ⟨fun a xs h => ?_, fun a o u h => ?_, fun a u h => ?_⟩
  · by_cases m : a ∈ fp
    · obtain ⟨o, z, mu⟩ := lv a m
      rw [h] at z; cases z; exact mu.elim
    · rw [l.off a m]; exact h
  · by_cases m : a ∈ fp
    · obtain ⟨o, z, mu⟩ := lv a m
      rw [h] at z; cases z; exact mu.elim
    · rw [l.off a m]; exact h
  · by_cases m : a ∈ fp
    · obtain ⟨o, z, mu⟩ := lv a m
      rw [h] at z; cases z; exact mu.elim
    · rw [l.off a m]; exact h
section
variable {K : PySem.W.Frag} {H H' : Hp} {fp : List Addr}
mutual
theorem RO.fz (l : ∀ a ∈ fp, ∀ u, H a = some u → ∃ o, H' a = some (.frz o u)) (im : ImmExt H H') : ∀ (d : D) (v : V) (f : List Addr), RO K H d v f → (∀ a ∈ f, a ∈ fp) → RI K H' (fz d) v
  | .non, _, _, h, _ => h.2
  | .bl _, _, _, h, _ => h.2
  | .int _, _, _, h, _ => h.2
  | .str _, _, _, h, _ => h.2
  | .tup ds, v, _, h, _ => RI.mono im _ v h.2
  | .scr ds, v, _, h, _ => RI.mono im _ v h.2
  | .exo _ _ _ _ _, v, _, h, _ => RI.mono im _ v h.2
  | .lst true ds, v, _, h, _ => by
    rcases h with ⟨_, _, h⟩ | ⟨z, _⟩
    · exact RI.mono im _ v h
    · cases z
  | .lst false ds, v, f, h, hf => by
    rcases h with ⟨z, _⟩ | ⟨_, a, xs, g, h1, h2, h3, h4⟩
    · cases z
    · obtain ⟨o, ho⟩ := l a (hf a (by rw [h2]; exact List.mem_cons_self)) _ h3
      exact ⟨rfl, a, o, xs, h1, ho, ROs.fz l im ds xs g h4 fun b m => hf b (by rw [h2]; exact List.mem_cons_of_mem _ m)⟩
  | .dcK true ks ds, v, _, h, _ => by
    rcases h with ⟨_, _, h⟩ | ⟨z, _⟩
    · exact RI.mono im _ v h
    · cases z
  | .dcK false ks ds, v, f, h, hf => by
    rcases h with ⟨z, _⟩ | ⟨_, a, xs, g, h1, h2, h3, h5, h4⟩
    · cases z
    · obtain ⟨o, ho⟩ := l a (hf a (by rw [h2]; exact List.mem_cons_self)) _ h3
      exact ⟨rfl, a, o, xs, h1, ho, h5, ROs.fz l im ds xs g h4 fun b m => hf b (by rw [h2]; exact List.mem_cons_of_mem _ m)⟩
  | .dcT true ks ds, v, _, h, _ => by
    rcases h with ⟨_, _, h⟩ | ⟨z, _⟩
    · exact RI.mono im _ v h
    · cases z
  | .dcT false ks ds, v, f, h, hf => by
    rcases h with ⟨z, _⟩ | ⟨_, a, xs, g, h1, h2, h3, h5, h4⟩
    · cases z
    · obtain ⟨o, ho⟩ := l a (hf a (by rw [h2]; exact List.mem_cons_self)) _ h3
      exact ⟨rfl, a, o, xs, h1, ho, h5, ROs.fz l im ds xs g h4 fun b m => hf b (by rw [h2]; exact List.mem_cons_of_mem _ m)⟩
theorem ROs.fz (l : ∀ a ∈ fp, ∀ u, H a = some u → ∃ o, H' a = some (.frz o u)) (im : ImmExt H H') : ∀ (ds : List D) (vs : List V) (f : List Addr), ROs K H ds vs f → (∀ a ∈ f, a ∈ fp) → RIs K H' (fzs ds) vs
  | [], _, _, h, _ => h.1
  | d :: ds, _, f, ⟨x, xs, g, g', h1, h2, h3, h4⟩, hf =>
    ⟨x, xs, h1, RO.fz l im d x g h3 fun b m => hf b (by rw [h2]; exact List.mem_append_left _ m), ROs.fz l im ds xs g' h4 fun b m => hf b (by rw [h2]; exact List.mem_append_right _ m)⟩
end
end
/-- behind e, what stands at some places is locked for good -/
def tLk (t : TE) : TE := fun σ H Q => t σ H fun v H1 => ∃ fp, (∀ a ∈ fp, Live H1 a) ∧ ∀ H', Locked fp H1 H' → Q v H'
theorem lock_all {pins : List (Addr × Obj)} {σ : L2.St} {s : Shared} : ∀ (fp : List Addr) {H : Hp}, Inv X pins σ H s → (∀ a ∈ fp, Live H a) → ∃ H', Inv X pins σ H' s ∧ Locked fp H H'
  | [], H, I, _ => ⟨H, I, fun _ m => (nomatch m), fun _ _ => rfl⟩
  | a :: fp, H, I, lv => by
    obtain ⟨H1, I1, l1⟩ := lock_all fp I fun b m => lv b (List.mem_cons_of_mem _ m)
    by_cases ha : a ∈ fp
    · exact ⟨H1, I1, fun b m u hu => l1.at_ b ((List.mem_cons.mp m).elim (fun e => by rw [e]; exact ha) id) u hu, fun b n => l1.off b fun m => n (List.mem_cons_of_mem _ m)⟩
    · obtain ⟨u, hu, mu⟩ := lv a List.mem_cons_self
      have e1 : H1 a = some u := by rw [l1.off a ha]; exact hu
      obtain ⟨o, I2⟩ := I1.lock e1 mu
      refine ⟨_, I2, fun b m w hw => ?_, fun b n => ?_⟩
      · by_cases e : b = a
        · subst e
          rw [hu] at hw; cases hw
          exact ⟨o, upd_same⟩
        · rw [upd_ne e]
          exact l1.at_ b ((List.mem_cons.mp m).resolve_left e) w hw
      · rw [upd_ne (fun e => n (by rw [e]; exact List.mem_cons_self))]
        exact l1.off b fun m => n (List.mem_cons_of_mem _ m)
theorem pe_lk {t : TE} (h : PE X e t) : PE X e (tLk t) := by
  refine ⟨fun pins s σ H Q I q => thn (h.run pins s σ H _ I q) fun u s1 ⟨v, H1, I1, r, fp, lv, q1⟩ => ?_⟩
  obtain ⟨H2, I2, l⟩ := lock_all fp I1 lv
  exact ⟨v, H2, I2, r, q1 H2 l⟩
def eFz (f : ESm) : ESm := fun env => (f env).map fun d => (fz d.1, d.2)
theorem Locked.evo {fr fp : List Addr} {H H' : Hp} (l : Locked fr H H') (lv : ∀ a ∈ fr, Live H a) : Evo (fr ++ fp) H fp H' :=
  ⟨fun a o h n => by rw [l.off a fun m => n (List.mem_append_left _ m)]; exact h, fun a m => .inl (List.mem_append_right _ m), l.imm lv⟩
theorem de_fz {f : ESm} (h : DE X e f) : DE X e (eFz f) := by
  obtain ⟨t, p, h⟩ := h
  refine ⟨_, pe_lk p, fun σ H env env' fp d s nd hf Q q => ?_⟩
  obtain ⟨⟨d1, en⟩, e1, e2⟩ := Option.map_eq_some_iff.mp hf
  cases e2
  refine h σ H env _ fp d1 s nd e1 _ fun v H1 fr fp1 v1 s1 r n1 => ⟨fr, RO.live d1 v fr r, fun H' l => ?_⟩
  have lv := RO.live d1 v fr r
  have im := l.imm lv
  have r' := RO.fz (fp := fr) l.at_ im d1 v fr r fun a m => m
  have nf : ∀ a ∈ fp1, a ∉ fr := fun a m m' => (List.nodup_append.mp n1).2.2 a m' a m rfl
  exact q v H' [] fp1 (v1.trans (l.evo lv)) (s1.mono im fun a m => l.off a (nf a m)) r'.ro (List.nodup_append.mp n1).2.1
end

/-! ### statements -/
inductive Out where
  | nx | rt (d : D) | bk | ct
  /-- an exception flies: its class by its name -/
  | xc (x : Str) (ns : List Str) (ds : List D)
abbrev SSm := Env → Option (Out × Env)
/-- the slots that keep their values -/
def Pin (P : Nat → Bool) (σ σ' : L2.St) : Prop := σ'.length = σ.length ∧ ∀ i, P i = true → σ'[i]? = σ[i]?
theorem Pin.refl {P : Nat → Bool} (σ : L2.St) : Pin P σ σ := ⟨rfl, fun _ _ => rfl⟩
theorem Pin.trans {P : Nat → Bool} {a b c : L2.St} (h : Pin P a b) (h' : Pin P b c) : Pin P a c := ⟨h'.1.trans h.1, fun i hi => (h'.2 i hi).trans (h.2 i hi)⟩
theorem Pin.set {P : Nat → Bool} {σ : L2.St} {i : Nat} {x : Option V} (h : P i = false) : Pin P σ (σ.set i x) := ⟨List.length_set, fun j hj => by
  rw [List.getElem?_set_ne (fun e => by rw [e, hj] at h; cases h)]⟩
def NQ (K : PySem.W.Frag) (P : Nat → Bool) (σ : L2.St) (H : Hp) (fp : List Addr) (env' : Env) (Q : L2.St → Hp → Prop) : Prop :=
  ∀ σ' H' fp', Evo fp H fp' H' → SR K H' env' σ' fp' → fp'.Nodup → Pin P σ σ' → Q σ' H'
abbrev WN := Str → Option Addr → L2.St → Hp → Prop
/-- a wish about exceptions, by the names of their classes -/
def wn (mg : Str → Option Value) (W : WX) : WN := fun x d σ H => ∀ C, mg x = some (.ref C) → W (.ref C) d σ H
def SQ (K : PySem.W.Frag) (P : Nat → Bool) (W : WN) (σ : L2.St) (H : Hp) (fp : List Addr) (env' : Env) (D : Ends) : Out → Prop
  | .nx => NQ K P σ H fp env' D.nx
  | .bk => NQ K P σ H fp env' D.bk
  | .ct => NQ K P σ H fp env' D.ct
  | .rt d => ∀ v σ' H' fr fp', Evo fp H (fr ++ fp') H' → SR K H' env' σ' fp' → RO K H' d v fr → (fr ++ fp').Nodup → Pin P σ σ' → D.rt v H'
  | .xc c ns ds => ∀ σ' H' fp' dd xs, Evo fp H fp' H' → SR K H' env' σ' fp' → fp'.Nodup → Pin P σ σ' → H' dd = some (.xd (ns.zip xs)) → ns.length = xs.length → RIs K H' ds xs → W c (some dd) σ' H'
theorem SQ.via {K : PySem.W.Frag} {P : Nat → Bool} {W : WN} {σ σ1 : L2.St} {H H1 : Hp} {fp fp1 : List Addr} {env' : Env} {D : Ends} {o : Out} (q : SQ K P W σ H fp env' D o) (e : Evo fp H fp1 H1) (p : Pin P σ σ1) : SQ K P W σ1 H1 fp1 env' D o := by
  cases o with
  | nx => exact fun σ' H' fp' e' s n p' => q σ' H' fp' (e.trans e') s n (p.trans p')
  | bk => exact fun σ' H' fp' e' s n p' => q σ' H' fp' (e.trans e') s n (p.trans p')
  | ct => exact fun σ' H' fp' e' s n p' => q σ' H' fp' (e.trans e') s n (p.trans p')
  | rt d => exact fun v σ' H' fr fp' e' s r n p' => q v σ' H' fr fp' (e.trans e') s r n (p.trans p')
  | xc c ns ds => exact fun σ' H' fp' dd xs e' s n p' => q σ' H' fp' dd xs (e.trans e') s n (p.trans p')
def tS (K : PySem.W.Frag) (P : Nat → Bool) (W : WN) (f : SSm) : TS := fun D σ H => ∃ env env' fp o, SR K H env σ fp ∧ fp.Nodup ∧ f env = some (o, env') ∧ SQ K P W σ H fp env' D o
def DS (P : Nat → Bool) (X : Cx) (st : Stmt) (f : SSm) : Prop := ∀ W, L2N.Takes X W → PS X st (tS X.K P (wn X.mg W) f)
def DSs (P : Nat → Bool) (X : Cx) (sts : List Stmt) (f : SSm) : Prop := ∀ W, L2N.Takes X W → PSs X sts (tS X.K P (wn X.mg W) f)
section
variable {P : Nat → Bool} {X : Cx} {st : Stmt} {rest : List Stmt} {e : Expr} {pos : Pos}
theorem ps_of {t t' : TS} (h : PS X st t) (i : ∀ D σ H, t' D σ H → t D σ H) : PS X st t' := ⟨fun pins s σ H D I q => h.run pins s σ H D I (i D σ H q)⟩
theorem pss_of {sts : List Stmt} {t t' : TS} (h : PSs X sts t) (i : ∀ D σ H, t' D σ H → t D σ H) : PSs X sts t' := ⟨fun pins s σ H D I q => h.run pins s σ H D I (i D σ H q)⟩
def sNil : SSm := fun env => some (.nx, env)
def sSeq (f g : SSm) : SSm := fun env => (f env).bind fun r => match r.1 with
  | .nx => g r.2
  | o => some (o, r.2)
theorem ds_nil : DSs P X [] sNil := fun W tk => pss_of pss_nil fun D σ H ⟨env, env', fp, o, s, nd, hf, q⟩ => by
  cases hf
  exact q σ H fp (Evo.refl fp H) s nd (Pin.refl σ)
theorem ds_cons {f g : SSm} (h : DS P X st f) (h' : DSs P X rest g) : DSs P X (st :: rest) (sSeq f g) := fun W tk => pss_of (pss_cons (h W tk) (h' W tk)) fun D σ H ⟨env, env', fp, o, s, nd, hf, q⟩ => by
  obtain ⟨⟨o1, en⟩, e1, hf⟩ := Option.bind_eq_some_iff.mp hf
  refine ⟨env, en, fp, o1, s, nd, e1, ?_⟩
  cases o1 with
  | nx => exact fun σ' H' fp' ev s' n' p' => ⟨en, env', fp', o, s', n', hf, q.via ev p'⟩
  | bk => cases hf; exact q
  | ct => cases hf; exact q
  | rt d => cases hf; exact q
  | xc c ns ds => cases hf; exact q
theorem ds_one {f : SSm} (h : DS P X st f) : DSs P X [st] f := fun W tk => pss_of (pss_one (h W tk)) fun D σ H z => z
theorem ds_pass : DS P X (.Pass pos) sNil := fun W tk => ps_of ps_pass fun D σ H ⟨env, env', fp, o, s, nd, hf, q⟩ => by
  cases hf
  exact q σ H fp (Evo.refl fp H) s nd (Pin.refl σ)
def sBk : SSm := fun env => some (.bk, env)
def sCt : SSm := fun env => some (.ct, env)
theorem ds_break : DS P X (.Break pos) sBk := fun W tk => ps_of ps_break fun D σ H ⟨env, env', fp, o, s, nd, hf, q⟩ => by
  cases hf
  exact q σ H fp (Evo.refl fp H) s nd (Pin.refl σ)
theorem ds_cont : DS P X (.Continue pos) sCt := fun W tk => ps_of ps_continue fun D σ H ⟨env, env', fp, o, s, nd, hf, q⟩ => by
  cases hf
  exact q σ H fp (Evo.refl fp H) s nd (Pin.refl σ)
def sRet (f : ESm) : SSm := fun env => (f env).map fun d => (.rt d.1, d.2)
theorem ds_ret {f : ESm} (h : DE X e f) : DS P X (.Return (some e) pos) (sRet f) := by
  refine fun W tk => ps_of (ps_ret h.pe) fun D σ H ⟨env, env', fp, o, s, nd, hf, q⟩ => ?_
  obtain ⟨⟨d, en⟩, e1, e2⟩ := Option.map_eq_some_iff.mp hf
  cases e2
  exact ⟨env, _, fp, d, s, nd, e1, fun v H' fr fp' ev s' r n => q v σ H' fr fp' ev s' r n (Pin.refl σ)⟩
def sRetN : SSm := fun env => some (.rt .non, env)
theorem ds_retN : DS P X (.Return none pos) sRetN := fun W tk => ps_of ps_retN fun D σ H ⟨env, env', fp, o, s, nd, hf, q⟩ => by
  cases hf
  exact q .non σ H [] fp (Evo.refl fp H) s ⟨rfl, rfl⟩ nd (Pin.refl σ)
def sExpr (f : ESm) : SSm := fun env => (f env).map fun d => (.nx, d.2)
theorem ds_expr {f : ESm} (h : DE X e f) (hs : swapsWith e none pos.line X.env = pure false := by rfl) : DS P X (.Expr e pos) (sExpr f) := by
  refine fun W tk => ps_of (ps_expr h.pe hs) fun D σ H ⟨env, env', fp, o, s, nd, hf, q⟩ => ?_
  obtain ⟨⟨d, en⟩, e1, e2⟩ := Option.map_eq_some_iff.mp hf
  cases e2
  exact ⟨env, _, fp, d, s, nd, e1, fun v H' fr fp' ev s' r n => q σ H' fp' (ev.sub fun a m => List.mem_append_right _ m) s' (List.nodup_append.mp n).2.1 (Pin.refl σ)⟩
def sIf (c : TSm) (f g : SSm) : SSm := fun env => (c env).bind fun b => if b.1 = true then f b.2 else g b.2
theorem ds_if {c : Expr} {a b : List Stmt} {t : TSm} {f g : SSm} (hc : DT X c t) (ha : DSs P X a f) (hb : DSs P X b g) : DS P X (.If c a b pos) (sIf t f g) := by
  refine fun W tk => ps_of (ps_if hc.pt (ha W tk) (hb W tk)) fun D σ H ⟨env, env', fp, o, s, nd, hf, q⟩ => ?_
  obtain ⟨⟨k, en⟩, e1, e2⟩ := Option.bind_eq_some_iff.mp hf
  refine ⟨env, en, fp, k, s, nd, e1, fun H' fp' ev s' n => ?_⟩
  cases k with
  | true =>
    rw [if_pos rfl] at e2 ⊢
    exact ⟨en, env', fp', o, s', n, e2, q.via ev (Pin.refl σ)⟩
  | false =>
    rw [if_neg Bool.false_ne_true] at e2 ⊢
    exact ⟨en, env', fp', o, s', n, e2, q.via ev (Pin.refl σ)⟩

/-! ### targets -/
abbrev GSm := D → Env → Option Env
def tG (K : PySem.W.Frag) (P : Nat → Bool) (g : GSm) : TG := fun v σ H Q => ∃ d env env' fp fr, SR K H env σ fp ∧ RO K H d v fr ∧ (fr ++ fp).Nodup ∧ g d env = some env' ∧ NQ K P σ H (fr ++ fp) env' Q
def DG (P : Nat → Bool) (X : Cx) (tg : Expr) (g : GSm) : Prop := PG X tg (tG X.K P g)
theorem pg_of {tg : Expr} {t t' : TG} (h : PG X tg t) (i : ∀ v σ H Q, t' v σ H Q → t v σ H Q) : PG X tg t' := ⟨fun pins s σ H v u Q I r q => h.run pins s σ H v u Q I r (i v σ H Q q)⟩
def gNm (i : Nat) : GSm := fun d env => if i < env.length then some (env.set i (some d)) else none
theorem put_slot {K : PySem.W.Frag} {H : Hp} {env : Env} {σ : L2.St} {fp fr : List Addr} {i : Nat} {d : D} {v : V} (s : SR K H env σ fp) (r : RO K H d v fr) (nd : (fr ++ fp).Nodup) (hi : i < env.length) :
    ∃ fp', SR K H (env.set i (some d)) (σ.set i (some v)) fp' ∧ fp'.Nodup ∧ ∀ a ∈ fp', a ∈ fr ++ fp := by
  obtain ⟨pre, f, post, e, p, _⟩ := s.put hi
  refine ⟨_, p d v fr r, ?_, fun a m => ?_⟩
  · rw [e] at nd
    have n1 := List.nodup_append.mp nd
    have n2 := List.nodup_append.mp n1.2.1
    have n3 := List.nodup_append.mp n2.2.1
    refine List.nodup_append.mpr ⟨n2.1, List.nodup_append.mpr ⟨n1.1, n3.2.1, fun a m b m' => n1.2.2 a m b (List.mem_append_right _ (List.mem_append_right _ m'))⟩, fun a m b m' => ?_⟩
    rcases List.mem_append.mp m' with m' | m'
    · exact fun z => n1.2.2 b m' a (List.mem_append_left _ m) z.symm
    · exact n2.2.2 a m b (List.mem_append_right _ m')
  · rw [e]
    rcases List.mem_append.mp m with m | m
    · exact List.mem_append_right _ (List.mem_append_left _ m)
    · rcases List.mem_append.mp m with m | m
      · exact List.mem_append_left _ m
      · exact List.mem_append_right _ (List.mem_append_right _ (List.mem_append_right _ m))
theorem dg_name {i : Nat} {x : Str} {p : Pos} (hN : X.N.Nodup) (hi : X.N[i]? = some x) (hx : Loc X.env.scope x) (hP : P i = false) (hf : X.fn x = true ∨ X.env.scope.names.lookup x = some .local := by first | exact .inl rfl | exact .inr rfl | assumption) : DG P X (.Name x p) (gNm i) := by
  refine pg_of (pg_name hN hi hx hf) fun v σ H Q ⟨d, env, env', fp, fr, s, r, nd, hg, q⟩ => ?_
  unfold gNm at hg
  split at hg
  case isFalse => cases hg
  rename_i hl
  cases hg
  obtain ⟨fp', s', n', m'⟩ := put_slot s r nd hl
  exact q _ H fp' ((Evo.refl _ H).sub m') s' n' (Pin.set hP)
/-- several -/
abbrev GsSm := List D → Env → Option Env
def tGs (K : PySem.W.Frag) (P : Nat → Bool) (g : GsSm) : TGs := fun vs σ H Q => ∃ ds env env' fp, SR K H env σ fp ∧ RIs K H ds vs ∧ fp.Nodup ∧ g ds env = some env' ∧ NQ K P σ H fp env' Q
def DGs (P : Nat → Bool) (X : Cx) (ts : List Expr) (g : GsSm) : Prop := PGs X ts (tGs X.K P g)
def gsNil : GsSm := fun ds env => match ds with | [] => some env | _ => none
def gsCons (g : GSm) (h : GsSm) : GsSm := fun ds env => match ds with | d :: r => (g d env).bind fun e => h r e | _ => none
theorem pgs_of {ts : List Expr} {t t' : TGs} (h : PGs X ts t) (i : ∀ v σ H Q, t' v σ H Q → t v σ H Q) : PGs X ts t' := ⟨fun pins s σ H v u Q I r q => h.run pins s σ H v u Q I r (i v σ H Q q)⟩
theorem dgs_nil : DGs P X [] gsNil := pgs_of pgs_nil fun vs σ H Q ⟨ds, env, env', fp, s, r, nd, hg, q⟩ => by
  cases ds with
  | nil => cases hg; exact ⟨r, q σ H fp (Evo.refl fp H) s nd (Pin.refl σ)⟩
  | cons d r' => cases hg
theorem dgs_cons {t : Expr} {ts : List Expr} {g : GSm} {h : GsSm} (h1 : DG P X t g) (h2 : DGs P X ts h) (hs : (assignEach (t :: ts) X.env).map (·.2) = assign t X.env :: (assignEach ts X.env).map (·.2) := by rfl) : DGs P X (t :: ts) (gsCons g h) :=
  pgs_of (pgs_cons h1 h2 hs) fun vs σ H Q ⟨ds, env, env', fp, s, r, nd, hg, q⟩ => by
  cases ds with
  | nil => cases hg
  | cons d dr =>
    obtain ⟨x, xs, e1, r1, r2⟩ := r
    obtain ⟨en, e2, e3⟩ := Option.bind_eq_some_iff.mp hg
    refine ⟨x, xs, e1, d, env, en, fp, [], s, r1.ro, nd, e2, fun σ' H' fp' ev s' n' p' => ?_⟩
    have ev' : Evo fp H fp' H' := ev
    exact ⟨dr, en, env', fp', s', RIs.mono ev'.imm dr xs r2, n', e3, fun σ2 H2 fp2 ev2 s2 n2 p2 => q σ2 H2 fp2 (ev'.trans ev2) s2 n2 (p'.trans p2)⟩
/-- (a, b, ..) = a tuple -/
def gTu (n : Nat) (g : GsSm) : GSm := fun d env => match d with | .tup ds => if ds.length = n then g ds env else none | _ => none
theorem dg_tup {es : List Expr} {k : Nat} {g : GsSm} {n : Nat} {p : Pos} (hc : X.calm = true) (h : DGs P X es g) (hn : (assignEach es X.env).length = n := by rfl) (hst : (assignEach es X.env).findIdx? (·.1) = none := by rfl) : DG P X (.Tuple es k p) (gTu n g) :=
  pg_of (pg_tup hc h hn hst) fun v σ H Q ⟨d, env, env', fp, fr, s, r, nd, hg, q⟩ => by
  cases d with
  | tup ds =>
    obtain ⟨ez, a, xs, h1, h2, h3⟩ := r
    subst ez
    unfold gTu at hg
    simp only at hg
    split at hg
    case isFalse => cases hg
    rename_i hl
    exact ⟨a, xs, h1, SqT.of h2, by rw [h3.length]; exact hl, ds, env, env', fp, s, h3, nd, hg, q⟩
  | _ => cases hg
/-- target = value -/
def sAsg (f : ESm) (g : GSm) : SSm := fun env => (f env).bind fun d => (g d.1 d.2).map fun e => (.nx, e)
theorem asg_core {te : TE} {tg : TG} {f : ESm} {g : GSm} {D : Ends} {σ : L2.St} {H : Hp} {W : WN} (i1 : ∀ σ H Q, tE X.K f σ H Q → te σ H Q) (i2 : ∀ v σ H Q, tG X.K P g v σ H Q → tg v σ H Q) (h : tS X.K P W (sAsg f g) D σ H) : tAsg te tg D σ H := by
  obtain ⟨env, env', fp, o, s, nd, hf, q⟩ := h
  obtain ⟨⟨d, en⟩, e1, hf⟩ := Option.bind_eq_some_iff.mp hf
  obtain ⟨en2, e2, e3⟩ := Option.map_eq_some_iff.mp hf
  cases e3
  refine i1 σ H _ ⟨env, en, fp, d, s, nd, e1, fun v H' fr fp' ev s' r n => ?_⟩
  refine i2 v σ H' _ ⟨d, en, _, fp', fr, s', r, n, e2, fun σ2 H2 fp2 ev2 s2 n2 p2 => ?_⟩
  exact q σ2 H2 fp2 (ev.trans ev2) s2 n2 p2
theorem ds_asg {tg : Expr} {f : ESm} {g : GSm} (he : DE X e f) (hg : DG P X tg g) (hs : swapsWithSole [tg] e pos.line X.env = pure false := by rfl) (hw : swappedStores [tg] e X.env = pure none := by rfl)
    (h1 : (assignEach [tg] X.env).map (·.2) = [assign tg X.env] := by rfl) : DS P X (.Assign [tg] e pos) (sAsg f g) :=
  fun W tk => ps_of (ps_asg he.pe hg hs hw h1) fun D σ H z => asg_core (fun _ _ _ z => z) (fun _ _ _ _ z => z) z
theorem ds_set {i : Nat} {x : Str} {f : ESm} {p : Pos} (hN : X.N.Nodup) (hi : X.N[i]? = some x) (hx : Loc X.env.scope x) (hP : P i = false) (he : DE X e f) (hs : swapsWith e (some (.Name x p)) pos.line X.env = pure false := by rfl) (hf : X.fn x = true ∨ X.env.scope.names.lookup x = some .local := by first | exact .inl rfl | exact .inr rfl | assumption) :
    DS P X (.Assign [.Name x p] e pos) (sAsg f (gNm i)) :=
  fun W tk => ps_of (ps_set hN hi hx he.pe hs hf) fun D σ H z => asg_core (fun _ _ _ z => z) (fun v σ H Q ⟨d, env, env', fp, fr, s, r, nd, hg, q⟩ => by
    unfold gNm at hg
    split at hg
    case isFalse => cases hg
    rename_i hl
    cases hg
    obtain ⟨fp', s', n', m'⟩ := put_slot s r nd hl
    exact q _ H fp' ((Evo.refl _ H).sub m') s' n' (Pin.set hP)) z

/-! ### loops -/
/-- what an iterator yields, whatever else happens: these, one after another -/
def Yields (K : PySem.W.Frag) (J : It) (ds : List D) (H : Hp) : Prop := ∀ H1, ImmExt H H1 →
  (∀ i d, ds[i]? = some d → J.go i H1 ∧ ∀ x H2, J.yld i H1 x H2 → Same H1 H2 ∧ RI K H2 d x) ∧ J.stop ds.length H1
abbrev ISm := Env → Option (List D × Env)
def tI (K : PySem.W.Frag) (f : ISm) : TI := fun σ H R => ∃ env env' fp ds, SR K H env σ fp ∧ fp.Nodup ∧ f env = some (ds, env') ∧ ∀ J H' fp', Evo fp H fp' H' → SR K H' env' σ fp' → fp'.Nodup → Yields K J ds H' → R J H'
def DI (X : Cx) (tg e : Expr) (f : ISm) : Prop := PI X tg e (tI X.K f)
theorem pi_of {tg e : Expr} {t t' : TI} (h : PI X tg e t) (i : ∀ σ H R, t' σ H R → t σ H R) : PI X tg e t' := ⟨fun pins s σ H R I q => h.run pins s σ H R I (i σ H R q)⟩
def forL (g : GSm) (body : SSm) : List D → Env → Option (Out × Env)
  | [], env => some (.nx, env)
  | d :: ds, env => (g d env).bind fun e => (body e).bind fun r => match r.1 with
    | .nx => forL g body ds r.2
    | .ct => forL g body ds r.2
    | .bk => some (.nx, r.2)
    | .rt v => some (.rt v, r.2)
    | .xc c ns ds => some (.xc c ns ds, r.2)
def sFor (it : ISm) (g : GSm) (body : SSm) : SSm := fun env => (it env).bind fun ds => forL g body ds.1 ds.2
theorem ds_for {tg iter : Expr} {body : List Stmt} {it : ISm} {g : GSm} {f : SSm} (hp : PassesOwn (model X.prog X.w) X.A X.env X.xe) (hc : X.calm = true) (hi : DI X tg iter it) (hg : DG P X tg g) (hb : DSs P X body f)
    (hs : ∀ x, foldedSetIterable iter X.env x = pure x := by intro _; rfl) : DS P X (.For tg iter body [] pos) (sFor it g f) := by
  refine fun W tk => ps_of (ps_for hp hc hi hg (hb W tk) hs) fun D σ H ⟨env, env', fp, o, s, nd, hf, q⟩ => ?_
  obtain ⟨⟨ds, en⟩, e1, e2⟩ := Option.bind_eq_some_iff.mp hf
  refine ⟨env, en, fp, ds, s, nd, e1, fun J H1 fp1 ev1 s1 n1 yl => ?_⟩
  refine ⟨fun i m σ' H' => m = ds.length - i ∧ i ≤ ds.length ∧ ImmExt H1 H' ∧ ∃ env2 fp2, SR X.K H' env2 σ' fp2 ∧ fp2.Nodup ∧ forL g f (ds.drop i) env2 = some (o, env') ∧ SQ X.K P (wn X.mg W) σ' H' fp2 env' D o, ⟨ds.length, by omega, Nat.zero_le _, ImmExt.refl H1, en, fp1, s1, n1, by rw [List.drop_zero]; exact e2, q.via ev1 (Pin.refl σ)⟩, ?_⟩
  rintro i m σ2 H2 ⟨rfl, hi, im, env2, fp2, s2, n2, e3, q2⟩
  have y2 := yl H2 im
  by_cases hlt : i < ds.length
  · refine .inr ?_
    have ed : ds[i]? = some ds[i] := List.getElem?_eq_getElem hlt
    obtain ⟨go, yi⟩ := y2.1 i _ ed
    refine ⟨go, fun σ' H' => i + 1 ≤ ds.length ∧ ImmExt H1 H' ∧ ∃ env2 fp2, SR X.K H' env2 σ' fp2 ∧ fp2.Nodup ∧ forL g f (ds.drop (i + 1)) env2 = some (o, env') ∧ SQ X.K P (wn X.mg W) σ' H' fp2 env' D o, fun σ' H' z => ⟨ds.length - (i + 1), by omega, rfl, z⟩, fun x H3 hy => ?_⟩
    obtain ⟨sm, rx⟩ := yi x H3 hy
    rw [List.drop_eq_getElem_cons hlt] at e3
    unfold forL at e3
    obtain ⟨en4, e4, e3⟩ := Option.bind_eq_some_iff.mp e3
    obtain ⟨⟨o5, en5⟩, e5, e3⟩ := Option.bind_eq_some_iff.mp e3
    have ev3 : Evo fp2 H2 fp2 H3 := Evo.of_same (fr := []) sm fun a z => (nomatch z)
    refine ⟨ds[i], env2, en4, fp2, [], s2.same sm, rx.ro, n2, e4, fun σ4 H4 fp4 ev4 s4 n4 p4 => ?_⟩
    have ev4 : Evo fp2 H3 fp4 H4 := ev4
    have q4 := q2.via (ev3.trans ev4) p4
    refine ⟨en4, en5, fp4, o5, s4, n4, e5, ?_⟩
    cases o5 with
    | nx => exact fun σ6 H6 fp6 ev6 s6 n6 p6 => ⟨hlt, ((im.trans ev3.imm).trans ev4.imm).trans ev6.imm, en5, fp6, s6, n6, e3, q4.via ev6 p6⟩
    | ct => exact fun σ6 H6 fp6 ev6 s6 n6 p6 => ⟨hlt, ((im.trans ev3.imm).trans ev4.imm).trans ev6.imm, en5, fp6, s6, n6, e3, q4.via ev6 p6⟩
    | bk => cases e3; exact q4
    | rt d => cases e3; exact q4
    | xc c ns ds => cases e3; exact q4
  · have e : i = ds.length := by omega
    subst e
    rw [List.drop_length] at e3
    cases e3
    exact .inl ⟨y2.2, q2 σ2 H2 fp2 (Evo.refl _ _) s2 n2 (Pin.refl _)⟩
/-- while, at most so many turns -/
def whL (c : TSm) (body : SSm) : Nat → Env → Option (Out × Env)
  | 0, _ => none
  | n + 1, env => (c env).bind fun b => if b.1 = true then (body b.2).bind fun r => match r.1 with
      | .nx => whL c body n r.2
      | .ct => whL c body n r.2
      | .bk => some (.nx, r.2)
      | .rt v => some (.rt v, r.2)
      | .xc c ns ds => some (.xc c ns ds, r.2)
    else some (.nx, b.2)
def sWhile (n : Nat) (c : TSm) (body : SSm) : SSm := whL c body n
theorem ds_while {c : Expr} {body : List Stmt} {t : TSm} {f : SSm} (n : Nat) (hp : PassesOwn (model X.prog X.w) X.A X.env X.xe) (hc : DT X c t) (hb : DSs P X body f) : DS P X (.While c body [] pos) (sWhile n t f) := by
  refine fun W tk => ps_of (ps_while hp hc.pt (hb W tk)) fun D σ H ⟨env, env', fp, o, s, nd, hf, q⟩ => ?_
  refine ⟨fun m σ' H' => ∃ env2 fp2, SR X.K H' env2 σ' fp2 ∧ fp2.Nodup ∧ whL t f m env2 = some (o, env') ∧ SQ X.K P (wn X.mg W) σ' H' fp2 env' D o, ⟨n, env, fp, s, nd, hf, q⟩, ?_⟩
  rintro m σ2 H2 ⟨env2, fp2, s2, n2, e3, q2⟩
  cases m with
  | zero => cases e3
  | succ m =>
    unfold whL at e3
    obtain ⟨⟨k, en⟩, e4, e5⟩ := Option.bind_eq_some_iff.mp e3
    refine ⟨env2, en, fp2, k, s2, n2, e4, fun H3 fp3 ev3 s3 n3 => ?_⟩
    have q3 := q2.via ev3 (Pin.refl σ2)
    cases k with
    | false =>
      rw [if_neg Bool.false_ne_true] at e5
      cases e5
      refine iteF ?_
      exact q3 σ2 H3 fp3 (Evo.refl _ _) s3 n3 (Pin.refl _)
    | true =>
      rw [if_pos rfl] at e5
      refine iteT ?_
      obtain ⟨⟨o6, en6⟩, e6, e7⟩ := Option.bind_eq_some_iff.mp e5
      refine ⟨fun σ' H' => ∃ env2 fp2, SR X.K H' env2 σ' fp2 ∧ fp2.Nodup ∧ whL t f m env2 = some (o, env') ∧ SQ X.K P (wn X.mg W) σ' H' fp2 env' D o, fun σ' H' z => ⟨m, Nat.lt_succ_self m, z⟩, en, en6, fp3, o6, s3, n3, e6, ?_⟩
      cases o6 with
      | nx => exact fun σ7 H7 fp7 ev7 s7 n7 p7 => ⟨en6, fp7, s7, n7, e7, q3.via ev7 p7⟩
      | ct => exact fun σ7 H7 fp7 ev7 s7 n7 p7 => ⟨en6, fp7, s7, n7, e7, q3.via ev7 p7⟩
      | bk => cases e7; exact q3
      | rt d => cases e7; exact q3
      | xc c ns ds => cases e7; exact q3
end
end DL

set_option maxHeartbeats 1000000
/-! DL, part g: what is walked -/
namespace PySem
open AutoSeq1 (wpAny_loadPart')
set_option maxHeartbeats 1000000 in
/-- enumerate(v) for any v whose iterator is told -/
theorem dl_enum_new {v : Value} {o : Obj} {H : Heap → Prop} (B : Begins v o H) : Meets (Builtin.«enumerate.__new__» ⟨[.type "enumerate", v], []⟩) (fun _ R s => H s.heap ∧
    R (.ok (.ret (.ref (s.heap.push o).objs.size))) { s with heap := (s.heap.push o).push { cls := .type "enumerate", data := .fields #[.none, .bool false, .ref s.heap.objs.size, rawInt 0, .none, .none] } }) :=
  .of_wp fun prog w A R s h => by
    obtain ⟨hp, g, d, tk, os⟩ := s
    obtain ⟨h1, hR⟩ := h
    have hsub := sub_enumerate
    have step : ∀ {A' : Around} {E : Value → Shared → Prop} {Q : Value → Shared → Prop}, Q (.ref hp.objs.size) ⟨hp.push o, g, d, tk, os⟩ → wpAny (model prog w) A' (pyIter v) Q E ⟨hp, g, d, tk, os⟩ := fun q => B.iter prog w _ _ _ _ h1 q
    wp_walk using step
    refine wpAny_stack_any (fun stk => wpAny_pure ?_)
    split
    · rename_i c _ _ _ _ _
      cases (c == Value.type "enumerate")
      · wp_walk using step
        exact ⟨_, rfl, hR⟩
      · wp_walk using step
        exact ⟨_, rfl, hR⟩
    · wp_walk using step
      exact ⟨_, rfl, hR⟩
theorem dl_call_enum {prog : Program} {w : World} {A : Around} {E : Value → Shared → Prop} {s : Shared} {v : Value} {o : Obj} {H : Heap → Prop} {Q : Value → Shared → Prop} (B : Begins v o H) (h1 : H s.heap)
    (h : ∀ h', IsEnum h' (s.heap.objs.size + 1) s.heap.objs.size 0 .none → h'.get? s.heap.objs.size = some o → (∀ b ob, s.heap.get? b = some ob → h'.get? b = some ob) → Q (.ref (s.heap.objs.size + 1)) { s with heap := h' }) :
    wpAny (model prog w) A (call (.type "enumerate") [v]) Q E s := by
  refine callType_new F.called_enumerate (by decide) (F.typeCall_enumerate_1 _) (F.newCall_enumerate_1 _) (fun ob => F.args_object_init_2 ob _) F.entry_enumerate_new (dl_enum_new B) ⟨h1, ?_⟩
  have hz : (s.heap.push o).objs.size = s.heap.objs.size + 1 := Heap.size_push ..
  show _ ∧ _
  rw [hz]
  have he : IsEnum ((s.heap.push o).push { cls := .type "enumerate", data := .fields #[.none, .bool false, .ref s.heap.objs.size, rawInt 0, .none, .none] }) (s.heap.objs.size + 1) s.heap.objs.size 0 .none := by
    have z := Heap.get?_push_size (s.heap.push o) (o := { cls := .type "enumerate", data := .fields #[.none, .bool false, .ref s.heap.objs.size, rawInt 0, .none, .none] }) rfl
    rw [hz] at z
    exact z
  exact ⟨⟨_, he, rfl⟩, h _ he (Heap.get?_push_of_some _ (Heap.get?_push_size _ B.free)) fun b ob x => Heap.get?_push_of_some _ (Heap.get?_push_of_some _ x)⟩
end PySem
namespace DL
open PySem L2 PyProof.Rows RT RZ

section
variable {X : Cx} {tg : Expr}
/-- the tuple at a, each item in a new pair -/
def IteT (K : PySem.W.Frag) (a : Addr) : It :=
  ⟨fun i H => ∃ (xs : List V) (x : V), SqT K H a xs ∧ xs[i]? = some x, fun i H v H' => ∃ T x, v = .ref T ∧ H T = none ∧ H' = upd H T (.tup [.int (i : Nat), x]) ∧ ∀ xs, SqT K H a xs → xs[i]? = some x, fun i H => ∃ xs : List V, SqT K H a xs ∧ xs.length = i⟩
theorem turn_enumT {P : Program} {w : World} {K : PySem.W.Frag} {elts : List Expr} {kk : Nat} {tpos : Pos} (a e it : Addr) (hai : a ≠ it) (hae : a ≠ e) :
    Turn P w K (.Tuple elts kk tpos) (IteT K a) [e, it] e (fun i h => (∃ old, IsEnum h e it ((i : Nat) : Int) old) ∧ h.IsTupleIter it a i ∧ e ≠ it) where
  mem := List.mem_cons_self
  obj := fun i h ⟨⟨old, he⟩, ⟨o, ho, hc, hd⟩, _⟩ b hb => by
    rcases List.mem_cons.mp hb with rfl | hb
    · exact ⟨_, he, fun v q => (nomatch q)⟩
    · rcases List.mem_cons.mp hb with rfl | hb
      · exact ⟨o, ho, fun v q => by rw [hd] at q; cases q⟩
      · cases hb
  keep := fun i h h' ⟨⟨old, he⟩, hi, hne⟩ k => ⟨⟨old, k e List.mem_cons_self _ he⟩, hi.at fun o q => k it (List.mem_cons_of_mem _ List.mem_cons_self) o q, hne⟩
  item := by
    intro X hP hw hK hc i pins s σ H E I hf st hg
    subst hP hw hK
    obtain ⟨⟨old, he⟩, hit, hne⟩ := st
    obtain ⟨xs, x, hq, hx⟩ := hg
    obtain ⟨its, rv, ht, hz⟩ := I.tuple hq
    obtain ⟨u, hu, ru⟩ := rv.get hx
    have hel : e < s.heap.objs.size := Heap.lt_size he
    have hil : it < s.heap.objs.size := by obtain ⟨_, q, _⟩ := hit; exact Heap.lt_size q
    have hh : X.A.in1.handled = none := I.ok.hd hc
    have Dr := Draws.tuple (prog := X.prog) (w := X.w) hh it a hai its.toArray
    have hlt : i < its.toArray.size := by
      rw [List.size_toArray]
      exact (List.getElem?_eq_some_iff.mp hu).1
    refine wpAny_pyNext_enum_itemD (i := i) Dr he ⟨hit, ht⟩ hlt hne (by
      intro m
      rcases List.mem_cons.mp m with m | m
      · exact hne m
      · exact hae (List.mem_singleton.mp m).symm) fun z h' tk hz' ho st' hT hsz hk => ?_
    have ez : z = u := by
      have h2 : its.toArray[i]? = some u := by simpa using hu
      exact Option.some.inj (hz'.symm.trans h2)
    subst ez
    refine ⟨_, rfl, wpAny_letOwnedTupleGo_enum (s := { s with heap := h', toks := tk + 1 }) ho fun h2 he2 sb => ?_⟩
    have hT2 : h2.get? s.heap.objs.size = some { cls := .type "tuple", data := .seq #[.int i tk, z] } := (sb.2 _ (Nat.ne_of_gt hel)).trans hT
    have kp : ∀ b ob, b ∉ [e, it] → s.heap.get? b = some ob → h2.get? b = some ob := fun b ob hb q => by
      have n1 : b ≠ e := fun z => hb (by rw [z]; exact List.mem_cons_self)
      have n2 : b ≠ it := fun z => hb (by rw [z]; exact List.mem_cons_of_mem _ List.mem_cons_self)
      exact (sb.2 b n1).trans (hk b ob n1 n2 q)
    have I1 : Inv X pins σ (upd H s.heap.objs.size (.tup [.int (i : Nat), x])) { s with heap := h2, toks := tk + 1 } :=
      I.turnedNew (ch := [e, it]) kp hf (Nat.le_refl _) ⟨(by rw [sizeLine_eq]; exact (by decide : 2 ≤ 16777216)), [.int i tk, z], .cons ⟨_, rfl⟩ (.cons ru .nil), ⟨_, hT2, rfl, _, rfl⟩⟩
    refine ⟨.ref s.heap.objs.size, _, I1, rfl, ⟨_, x, rfl, I.fresh, rfl, fun ys hy => by rw [I.tuple_inj hy hq]; exact hx⟩, ⟨⟨z, ?_⟩, st'.1.at fun o q => (sb.2 it (Ne.symm hne)).trans q, hne⟩, fun b hb => ?_⟩
    · have e1 : ((i + 1 : Nat) : Int) = (i : Int) + 1 := by omega
      rw [e1]
      exact he2
    · have hb' : b < s.heap.objs.size := by
        rcases List.mem_cons.mp hb with rfl | hb2
        · exact hel
        · rw [List.mem_singleton.mp hb2]; exact hil
      rw [upd_ne (Nat.ne_of_lt hb')]
      exact (hf b hb).1
  done := by
    intro X hP hw hK hc i pins s σ H E I hf st hg
    subst hP hw hK
    obtain ⟨⟨old, he⟩, hit, hne⟩ := st
    obtain ⟨xs, hq, hx⟩ := hg
    obtain ⟨its, rv, ht, hz⟩ := I.tuple hq
    have hh : X.A.in1.handled = none := I.ok.hd hc
    obtain ⟨f0, f1, f2, f3, f4, f5⟩ := hf it (List.mem_cons_of_mem _ List.mem_cons_self)
    have hl := rv.length
    have fin : ∀ h' : Heap, Heap.ExtBut it s.heap h' → (none : Option Value) = none ∧ Inv X pins σ H { s with heap := h' } := fun h' eb => ⟨rfl, I.turned (t' := s.toks) (fun b o hb q => eb b o hb q) f0 f1 f3 f4 f5⟩
    have Dr := Draws.tuple (prog := X.prog) (w := X.w) hh it a hai its.toArray
    have e0 : i = its.toArray.size := by rw [List.size_toArray]; omega
    exact wpAny_pyNext_enum_endD Dr he (by rw [← e0]; exact ⟨hit, ht⟩) fin
  self := fun A i s Q E ⟨⟨_, he⟩, _⟩ h => wpAny_pyIter_enum he h
theorem pi_enumT {e : Expr} {ta : TA} {p pos tpos : Pos} {elts : List Expr} {kk : Nat} (hg : Gl X "enumerate") (hm : X.mg "enumerate" = none) (ha : PA X [e] ta) (hs : starEach [e] X.env = [(false, eval e X.env)] := by rfl) :
    PI X (.Tuple elts kk tpos) (.Call (.Name "enumerate" p) [e] [] pos) (fun σ H R => ta σ H fun vs H1 => ∃ a xs, vs = [.ref a] ∧ SqT X.K H1 a xs ∧ R (IteT X.K a) H1) := by
  refine ⟨fun pins s σ H R I h => ?_⟩
  refine Call_ (ld_blt I hg hm PyProof.Rows.boot_enumerate (PyProof.Rows.callWith_type1 (thn (ha.run pos pins s σ H _ I h) fun us s1 ⟨vs, H1, I1, r1, a, xs, ex, hq, q⟩ => ?_) hs rfl))
  subst ex
  rw [Vals.ref1 r1]
  obtain ⟨its, rv, ht, hz⟩ := I1.tuple hq
  have hlt : a < s1.heap.objs.size := by obtain ⟨o, ho, _⟩ := id ht; exact Heap.lt_size ho
  refine dl_call_enum (begins_tuple a its.toArray) ht fun h' he hit hk => wpAny_pyIter_enum he ?_
  have I2 : Inv X pins σ H1 { s1 with heap := h' } := I1.kept (t' := s1.toks) hk
  refine ⟨s1.heap.objs.size + 1, [s1.heap.objs.size + 1, s1.heap.objs.size], _, _, H1, rfl, I2, turn_enumT a (s1.heap.objs.size + 1) s1.heap.objs.size (Nat.ne_of_lt hlt) (Nat.ne_of_lt (Nat.lt_succ_of_lt hlt)), ⟨⟨.none, he⟩, ⟨_, hit, rfl, rfl⟩, Nat.succ_ne_self _⟩, fun b hb => ?_, q⟩
  have hle : s1.heap.objs.size ≤ b := by
    rcases List.mem_cons.mp hb with rfl | hb2
    · exact Nat.le_succ _
    · rw [List.mem_singleton.mp hb2]; exact Nat.le_refl _
  exact I1.fpOk hle (I1.hok.fresh hle)
theorem PI.or {e : Expr} {t u : TI} (h : PI X tg e t) (h' : PI X tg e u) : PI X tg e (fun σ H R => t σ H R ∨ u σ H R) := ⟨fun pins s σ H R I q => q.elim (h.run pins s σ H R I) (h'.run pins s σ H R I)⟩

/-! ### what comes out of an iterator over data that never change -/
variable {K : PySem.W.Frag} {H : Hp} {a : Addr} {xs : List V} {ds : List D}
theorem RIs.at {i : Nat} {d : D} (h : RIs K H ds xs) (e : ds[i]? = some d) : ∃ x, xs[i]? = some x ∧ RI K H d x := h.get e
theorem SqT.ext {H1 : Hp} (e : ImmExt H H1) (h : H a = some (.tup xs)) : SqT K H1 a xs := SqT.of (e.1 _ _ h)
theorem FzL.ext {H1 : Hp} (e : ImmExt H H1) (h : FzL K H a xs) : SqL K H1 a xs := (h.mono e).sq
theorem RIs.none_of {i : Nat} (h : RIs K H ds xs) (e : ds[i]? = none) : xs[i]? = none := by
  rw [List.getElem?_eq_none_iff] at e ⊢
  rw [h.length]; exact e
theorem yl_tup (h : H a = some (.tup xs)) (r : RIs K H ds xs) : Yields K (Itt K a) ds H := fun H1 e => by
  refine ⟨fun i d hd => ?_, xs, SqT.ext e h, by rw [r.length]; exact Nat.le_refl _⟩
  obtain ⟨x, hx, rx⟩ := r.get hd
  refine ⟨⟨xs, x, SqT.ext e h, hx⟩, fun y H2 ⟨e2, hy⟩ => ?_⟩
  subst e2
  have := hy xs (SqT.ext e h)
  rw [hx] at this; cases this
  exact ⟨Same.refl _, RI.mono e d x rx⟩
theorem yl_lst (h : FzL K H a xs) (r : RIs K H ds xs) : Yields K (Itl K a) ds H := fun H1 e => by
  refine ⟨fun i d hd => ?_, xs, FzL.ext e h, by rw [r.length]; exact Nat.le_refl _⟩
  obtain ⟨x, hx, rx⟩ := r.get hd
  refine ⟨⟨xs, x, FzL.ext e h, hx⟩, fun y H2 ⟨e2, hy⟩ => ?_⟩
  subst e2
  have := hy xs (FzL.ext e h)
  rw [hx] at this; cases this
  exact ⟨Same.refl _, RI.mono e d x rx⟩
def strD (s : Str) : List D := s.cps.toList.map fun c => .str ⟨#[c]⟩
theorem yl_str (s : Str) : Yields K (Its s) (strD s) H := fun H1 e => by
  refine ⟨fun i d hd => ?_, ?_⟩
  · unfold strD at hd
    rw [List.getElem?_map] at hd
    obtain ⟨c, hc, rfl⟩ := Option.map_eq_some_iff.mp hd
    rw [Array.getElem?_toList] at hc
    refine ⟨(Array.getElem?_eq_some_iff.mp hc).1, fun y H2 ⟨e2, c', hc', hy⟩ => ?_⟩
    subst e2
    rw [hc] at hc'; cases hc'
    exact ⟨Same.refl _, hy⟩
  · show s.cps.size ≤ (strD s).length
    unfold strD
    rw [List.length_map, Array.length_toList]; exact Nat.le_refl _
def kOf : Key → D
  | .inl i => .int i
  | .inr s => .str s
theorem kOf_ri (k : Key) : RI K H (kOf k) (kV k) := by cases k <;> exact rfl
theorem kOfs_ri : ∀ ks : List Key, RIs K H (ks.map kOf) (ks.map kV)
  | [] => rfl
  | k :: ks => ⟨_, _, rfl, kOf_ri k, kOfs_ri ks⟩
variable {o : Obj} {ks : List Key} {ts : List (List Key)}
theorem zip_at {α β : Type} {as : List α} {bs : List β} (h : as.length = bs.length) {i : Nat} {a : α} (e : as[i]? = some a) : ∃ b, bs[i]? = some b ∧ (as.zip bs)[i]? = some (a, b) := by
  have hi := (List.getElem?_eq_some_iff.mp e).1
  refine ⟨bs[i]'(h ▸ hi), List.getElem?_eq_getElem (h ▸ hi), ?_⟩
  rw [List.getElem?_zip_eq_some]
  exact ⟨e, List.getElem?_eq_getElem (h ▸ hi)⟩
theorem yl_keysK (h : H a = some (.frz o (.dK (ks.zip xs)))) (hl : ks.length = xs.length) : Yields K (Itk a o (ks.zip xs)) (ks.map kOf) H := fun H1 e => by
  have h1 := e.2.1 _ _ _ h
  have hz : (ks.zip xs).length = ks.length := by rw [List.length_zip, ← hl, Nat.min_self]
  refine ⟨fun i d hd => ?_, h1, by rw [List.length_map, hz]; exact Nat.le_refl _⟩
  rw [List.getElem?_map] at hd
  obtain ⟨k, hk, rfl⟩ := Option.map_eq_some_iff.mp hd
  refine ⟨⟨h1, by rw [hz]; exact (List.getElem?_eq_some_iff.mp hk).1⟩, fun y H2 ⟨e2, k', v, hk', hy⟩ => ?_⟩
  subst e2
  rw [List.getElem?_zip_eq_some] at hk'
  rw [hk] at hk'
  obtain ⟨hk1, _⟩ := hk'
  cases hk1
  rw [hy]
  exact ⟨Same.refl _, kOf_ri _⟩
theorem yl_keysT (h : H a = some (.frz o (.dT (ts.zip xs)))) (hl : ts.length = xs.length) : Yields K (Itkt a o (ts.zip xs)) (ts.map fun k => .tup (k.map kOf)) H := fun H1 e => by
  have h1 := e.2.1 _ _ _ h
  have hz : (ts.zip xs).length = ts.length := by rw [List.length_zip, ← hl, Nat.min_self]
  refine ⟨fun i d hd => ?_, h1, by rw [List.length_map, hz]; exact Nat.le_refl _⟩
  rw [List.getElem?_map] at hd
  obtain ⟨k, hk, rfl⟩ := Option.map_eq_some_iff.mp hd
  refine ⟨⟨h1, by rw [hz]; exact (List.getElem?_eq_some_iff.mp hk).1⟩, fun y H2 ⟨e2, k', v, q, hk', hy, hq⟩ => ?_⟩
  subst e2
  rw [List.getElem?_zip_eq_some] at hk'
  rw [hk] at hk'
  obtain ⟨hk1, _⟩ := hk'
  cases hk1
  exact ⟨Same.refl _, q, _, hy, hq, kOfs_ri _⟩
def itemD (ks : List Key) (ds : List D) : List D := List.zipWith (fun k d => .tup [kOf k, d]) ks ds
theorem pair_ri {H1 : Hp} {T : Addr} {d e : D} {x y : V} (hT : H1 T = none) (r : RI K H1 d x) (r' : RI K H1 e y) : RI K (upd H1 T (.tup [x, y])) (.tup [d, e]) (.ref T) := by
  have im := ImmExt.of_same (same_new (o := .tup [x, y]) hT)
  exact ⟨T, _, rfl, upd_same, x, [y], rfl, RI.mono im d x r, y, [], rfl, RI.mono im e y r', rfl⟩
theorem yl_items (h : H a = some (.frz o (.dK (ks.zip xs)))) (hl : ks.length = xs.length) (r : RIs K H ds xs) : Yields K (Iti a o (ks.zip xs)) (itemD ks ds) H := fun H1 e => by
  have h1 := e.2.1 _ _ _ h
  have hz : (ks.zip xs).length = ks.length := by rw [List.length_zip, ← hl, Nat.min_self]
  have hd' : ks.length = ds.length := by rw [hl, r.length]
  refine ⟨fun i d hd => ?_, h1, by unfold itemD; rw [List.length_zipWith, hz, ← hd', Nat.min_self]; exact Nat.le_refl _⟩
  unfold itemD at hd
  rw [List.getElem?_zipWith] at hd
  cases hk : ks[i]? with
  | none => rw [hk] at hd; cases hd
  | some k =>
    cases hv : ds[i]? with
    | none => rw [hk, hv] at hd; cases hd
    | some dv =>
      rw [hk, hv] at hd
      cases hd
      obtain ⟨x, hx, rx⟩ := r.get hv
      refine ⟨⟨h1, by rw [hz]; exact (List.getElem?_eq_some_iff.mp hk).1⟩, fun y H2 ⟨T, k', v, hk', hy, hT, e2⟩ => ?_⟩
      rw [List.getElem?_zip_eq_some] at hk'
      rw [hk, hx] at hk'
      obtain ⟨hk1, hk2⟩ := hk'
      cases hk1
      cases hk2
      subst e2 hy
      exact ⟨same_new hT, pair_ri hT (kOf_ri _) (RI.mono e _ _ rx)⟩
theorem yl_vals (h : H a = some (.frz o (.dK (ks.zip xs)))) (hl : ks.length = xs.length) (r : RIs K H ds xs) : Yields K (Itd a o (ks.zip xs)) ds H := fun H1 e => by
  have h1 := e.2.1 _ _ _ h
  have hz : (ks.zip xs).length = ks.length := by rw [List.length_zip, ← hl, Nat.min_self]
  have hd' : ks.length = ds.length := by rw [hl, r.length]
  refine ⟨fun i d hd => ?_, h1, by rw [hz, hd']; exact Nat.le_refl _⟩
  obtain ⟨x, hx, rx⟩ := r.get hd
  refine ⟨⟨h1, by rw [hz, hd']; exact (List.getElem?_eq_some_iff.mp hd).1⟩, fun y H2 ⟨e2, k', hk'⟩ => ?_⟩
  subst e2
  rw [List.getElem?_zip_eq_some, hx] at hk'
  obtain ⟨_, hk2⟩ := hk'
  cases hk2
  exact ⟨Same.refl _, RI.mono e _ _ rx⟩
def rngD (lo : Int) (n : Nat) : List D := (List.range n).map fun i => .int (lo + (i : Nat))
theorem yl_rng (lo : Int) (n : Nat) : Yields K (Itr lo n) (rngD lo n) H := fun H1 e => by
  refine ⟨fun i d hd => ?_, by show n ≤ (rngD lo n).length; unfold rngD; rw [List.length_map, List.length_range]; exact Nat.le_refl _⟩
  unfold rngD at hd
  rw [List.getElem?_map] at hd
  obtain ⟨j, hj, rfl⟩ := Option.map_eq_some_iff.mp hd
  obtain ⟨hlt, hj⟩ := List.getElem?_eq_some_iff.mp hj
  rw [List.getElem_range] at hj
  rw [List.length_range] at hlt
  subst hj
  exact ⟨hlt, fun y H2 ⟨e2, hy⟩ => ⟨by rw [e2]; exact Same.refl _, hy⟩⟩
def rngC (lo c : Int) (n : Nat) : List D := (List.range n).map fun i => .int (lo + (i : Nat) * c)
theorem yl_rngC (lo c : Int) (n : Nat) : Yields K (Itc lo c n) (rngC lo c n) H := fun H1 e => by
  refine ⟨fun i d hd => ?_, by show n ≤ (rngC lo c n).length; unfold rngC; rw [List.length_map, List.length_range]; exact Nat.le_refl _⟩
  unfold rngC at hd
  rw [List.getElem?_map] at hd
  obtain ⟨j, hj, rfl⟩ := Option.map_eq_some_iff.mp hd
  obtain ⟨hlt, hj⟩ := List.getElem?_eq_some_iff.mp hj
  rw [List.getElem_range] at hj
  rw [List.length_range] at hlt
  subst hj
  exact ⟨hlt, fun y H2 ⟨e2, hy⟩ => ⟨by rw [e2]; exact Same.refl _, hy⟩⟩
def enumD (ds : List D) : List D := ds.mapIdx fun i d => .tup [.int (i : Nat), d]
theorem enum_at {i : Nat} {d : D} (h : (enumD ds)[i]? = some d) : ∃ e, ds[i]? = some e ∧ d = .tup [.int (i : Nat), e] := by
  unfold enumD at h
  rw [List.getElem?_mapIdx] at h
  obtain ⟨e, h1, h2⟩ := Option.map_eq_some_iff.mp h
  exact ⟨e, h1, h2.symm⟩
theorem enum_len : (enumD ds).length = ds.length := List.length_mapIdx
theorem yl_enumL (h : FzL K H a xs) (r : RIs K H ds xs) : Yields K (Ite K a) (enumD ds) H := fun H1 e => by
  refine ⟨fun i d hd => ?_, xs, FzL.ext e h, by rw [r.length, enum_len]; exact Nat.le_refl _⟩
  obtain ⟨d', hd', rfl⟩ := enum_at hd
  obtain ⟨x, hx, rx⟩ := r.get hd'
  refine ⟨⟨xs, x, FzL.ext e h, hx⟩, fun y H2 ⟨T, x', hy, hT, e2, hx'⟩ => ?_⟩
  have := hx' xs (FzL.ext e h)
  rw [hx] at this; cases this
  subst e2 hy
  exact ⟨same_new hT, pair_ri hT rfl (RI.mono e d' x rx)⟩
theorem yl_enumT (h : H a = some (.tup xs)) (r : RIs K H ds xs) : Yields K (IteT K a) (enumD ds) H := fun H1 e => by
  refine ⟨fun i d hd => ?_, xs, SqT.ext e h, by rw [r.length, enum_len]⟩
  obtain ⟨d', hd', rfl⟩ := enum_at hd
  obtain ⟨x, hx, rx⟩ := r.get hd'
  refine ⟨⟨xs, x, SqT.ext e h, hx⟩, fun y H2 ⟨T, x', hy, hT, e2, hx'⟩ => ?_⟩
  have := hx' xs (SqT.ext e h)
  rw [hx] at this; cases this
  subst e2 hy
  exact ⟨same_new hT, pair_ri hT rfl (RI.mono e d' x rx)⟩
def zipD (ds es : List D) : List D := List.zipWith (fun d e => .tup [d, e]) ds es
theorem zip_two {es : List D} {i : Nat} {d : D} (h : (zipD ds es)[i]? = some d) : ∃ a b, ds[i]? = some a ∧ es[i]? = some b ∧ d = .tup [a, b] := by
  unfold zipD at h
  rw [List.getElem?_zipWith] at h
  cases h1 : ds[i]? with
  | none => rw [h1] at h; cases h
  | some a =>
    cases h2 : es[i]? with
    | none => rw [h1, h2] at h; cases h
    | some b => rw [h1, h2] at h; cases h; exact ⟨a, b, rfl, rfl, rfl⟩
theorem zip_len {es : List D} {ys : List V} (r : RIs K H ds xs) (r' : RIs K H es ys) : xs.length ≤ (zipD ds es).length ∨ ys.length ≤ (zipD ds es).length := by
  unfold zipD
  rw [List.length_zipWith, r.length, r'.length]
  omega
theorem yl_zipL {b : Addr} {es : List D} {ys : List V} (h : FzL K H a xs) (r : RIs K H ds xs) (h' : FzL K H b ys) (r' : RIs K H es ys) : Yields K (Itz K a b) (zipD ds es) H := fun H1 e => by
  refine ⟨fun i d hd => ?_, xs, ys, FzL.ext e h, FzL.ext e h', zip_len r r'⟩
  obtain ⟨d1, d2, h1, h2, rfl⟩ := zip_two hd
  obtain ⟨x, hx, rx⟩ := r.get h1
  obtain ⟨y, hy, ry⟩ := r'.get h2
  refine ⟨⟨xs, ys, x, y, FzL.ext e h, FzL.ext e h', hx, hy⟩, fun v H2 ⟨T, x', y', hv, hT, e2, hx', hy'⟩ => ?_⟩
  have q1 := hx' xs (FzL.ext e h)
  have q2 := hy' ys (FzL.ext e h')
  rw [hx] at q1; cases q1
  rw [hy] at q2; cases q2
  subst e2 hv
  exact ⟨same_new hT, pair_ri hT (RI.mono e d1 x rx) (RI.mono e d2 y ry)⟩
theorem yl_zipT {b : Addr} {es : List D} {ys : List V} (h : H a = some (.tup xs)) (r : RIs K H ds xs) (h' : H b = some (.tup ys)) (r' : RIs K H es ys) : Yields K (ItzT K a b) (zipD ds es) H := fun H1 e => by
  refine ⟨fun i d hd => ?_, xs, ys, SqT.ext e h, SqT.ext e h', zip_len r r'⟩
  obtain ⟨d1, d2, h1, h2, rfl⟩ := zip_two hd
  obtain ⟨x, hx, rx⟩ := r.get h1
  obtain ⟨y, hy, ry⟩ := r'.get h2
  refine ⟨⟨xs, ys, x, y, SqT.ext e h, SqT.ext e h', hx, hy⟩, fun v H2 ⟨T, x', y', hv, hT, e2, hx', hy'⟩ => ?_⟩
  have q1 := hx' xs (SqT.ext e h)
  have q2 := hy' ys (SqT.ext e h')
  rw [hx] at q1; cases q1
  rw [hy] at q2; cases q2
  subst e2 hv
  exact ⟨same_new hT, pair_ri hT (RI.mono e d1 x rx) (RI.mono e d2 y ry)⟩
theorem rev_at {α : Type} {l : List α} {i : Nat} (hi : i < l.length) : l.reverse[i]? = l[l.length - 1 - i]? := List.getElem?_reverse hi
theorem yl_revL (h : FzL K H a xs) (r : RIs K H ds xs) : Yields K (Itv K a xs.length) ds.reverse H := fun H1 e => by
  refine ⟨fun i d hd => ?_, ?_⟩
  · have hi : i < ds.length := by
      have := (List.getElem?_eq_some_iff.mp hd).1
      rwa [List.length_reverse] at this
    rw [rev_at hi] at hd
    obtain ⟨x, hx, rx⟩ := r.get hd
    rw [← r.length] at hx
    refine ⟨⟨by rw [r.length]; exact hi, xs, x, FzL.ext e h, hx⟩, fun y H2 ⟨e2, hy⟩ => ?_⟩
    subst e2
    have := hy xs (FzL.ext e h)
    rw [hx] at this; cases this
    exact ⟨Same.refl _, RI.mono e d x rx⟩
  · show xs.length ≤ ds.reverse.length
    rw [List.length_reverse, r.length]; exact Nat.le_refl _
theorem yl_revT (h : H a = some (.tup xs)) (r : RIs K H ds xs) : Yields K (ItvT K a xs.length) ds.reverse H := fun H1 e => by
  refine ⟨fun i d hd => ?_, ?_⟩
  · have hi : i < ds.length := by
      have := (List.getElem?_eq_some_iff.mp hd).1
      rwa [List.length_reverse] at this
    rw [rev_at hi] at hd
    obtain ⟨x, hx, rx⟩ := r.get hd
    rw [← r.length] at hx
    refine ⟨⟨by rw [r.length]; exact hi, xs, x, SqT.ext e h, hx⟩, fun y H2 ⟨e2, hy⟩ => ?_⟩
    subst e2
    have := hy xs (SqT.ext e h)
    rw [hx] at this; cases this
    exact ⟨Same.refl _, RI.mono e d x rx⟩
  · show xs.length ≤ ds.reverse.length
    rw [List.length_reverse, r.length]; exact Nat.le_refl _
end

/-! ### the rules -/
section
variable {X : Cx} {tg e : Expr} {p pos : Pos}
/-- the items of what is walked -/
def walkD : D → Option (List D)
  | .tup ds => some ds
  | .lst true ds => some ds
  | .scr ds => some ds
  | .str s => some (strD s)
  | .dcK true ks _ => some (ks.map kOf)
  | .dcT true ks _ => some (ks.map fun k => .tup (k.map kOf))
  | _ => none
def iSeq (f : ESm) : ISm := fun env => (f env).bind fun d => (walkD d.1).map fun ds => (ds, d.2)
theorem di_seq {f : ESm} (h : DE X e f) : DI X tg e (iSeq f) := by
  obtain ⟨t, p, h⟩ := h
  refine pi_of (PI.or (pi_list p) (PI.or (pi_tup p) (PI.or (pi_str p) (pi_keys p)))) fun σ H R ⟨env, env', fp, ds, s, nd, hf, q⟩ => ?_
  obtain ⟨⟨d, en⟩, e1, e2⟩ := Option.bind_eq_some_iff.mp hf
  obtain ⟨ds', e3, e4⟩ := Option.map_eq_some_iff.mp e2
  cases e4
  have fin : ∀ {v : V} {H' : Hp} {fr fp' : List Addr} {J : It}, Evo fp H (fr ++ fp') H' → SR X.K H' _ σ fp' → (fr ++ fp').Nodup → Yields X.K J ds H' → R J H' := fun {v H' fr fp' J} ev s' n y =>
    q J H' fp' (ev.sub fun a m => List.mem_append_right _ m) s' (List.nodup_append.mp n).2.1 y
  cases d with
  | tup es =>
    cases e3
    refine .inr (.inl (h σ H env _ fp _ s nd e1 _ fun v H' fr fp' ev s' r n => ?_))
    obtain ⟨_, a, xs, h1, h2, h3⟩ := r
    exact ⟨a, h1, ⟨xs, SqT.of h2⟩, fin (v := v) ev s' n (yl_tup h2 h3)⟩
  | lst fz es =>
    cases fz with
    | false => cases e3
    | true =>
      cases e3
      refine .inl (h σ H env _ fp _ s nd e1 _ fun v H' fr fp' ev s' r n => ?_)
      obtain ⟨_, _, a, o, xs, h1, h2, h3⟩ := r.imm rfl
      exact ⟨a, h1, ⟨xs, .inl (.inr ⟨o, h2⟩)⟩, fin (v := v) ev s' n (yl_lst (.inl ⟨o, h2⟩) h3)⟩
  | scr es =>
    cases e3
    refine .inl (h σ H env _ fp _ s nd e1 _ fun v H' fr fp' ev s' r n => ?_)
    obtain ⟨_, a, xs, h1, h2, h3⟩ := r
    exact ⟨a, h1, ⟨xs, h2.sq⟩, fin (v := v) ev s' n (yl_lst h2 h3)⟩
  | str z =>
    cases e3
    refine .inr (.inr (.inl (h σ H env _ fp _ s nd e1 _ fun v H' fr fp' ev s' r n => ?_)))
    exact ⟨z, r.2, fin (v := v) ev s' n (yl_str z)⟩
  | dcK fz ks es =>
    cases fz with
    | false => cases e3
    | true =>
      cases e3
      refine .inr (.inr (.inr (h σ H env _ fp _ s nd e1 _ fun v H' fr fp' ev s' r n => ?_)))
      obtain ⟨_, _, a, o, xs, h1, h2, h4, h3⟩ := r.imm rfl
      exact ⟨a, o, h1, .inl ⟨_, h2, fin (v := v) ev s' n (yl_keysK h2 h4)⟩⟩
  | dcT fz ks es =>
    cases fz with
    | false => cases e3
    | true =>
      cases e3
      refine .inr (.inr (.inr (h σ H env _ fp _ s nd e1 _ fun v H' fr fp' ev s' r n => ?_)))
      obtain ⟨_, _, a, o, xs, h1, h2, h4, h3⟩ := r.imm rfl
      exact ⟨a, o, h1, .inr ⟨_, h2, fin (v := v) ev s' n (yl_keysT h2 h4)⟩⟩
  | _ => cases e3
/-- range -/
def smallI (i : Int) : Prop := -4611686018427387904 ≤ i ∧ i < 4611686018427387904
instance (i : Int) : Decidable (smallI i) := inferInstanceAs (Decidable (_ ∧ _))
def iRange1 (f : ASm) : ISm := fun env => (f env).bind fun r => match r.1 with
  | [.int j] => if smallI j then some (rngD 0 j.toNat, r.2) else none
  | _ => none
def iRange2 (f : ASm) : ISm := fun env => (f env).bind fun r => match r.1 with
  | [.int i, .int j] => if smallI i ∧ smallI j then some (rngD i (j - i).toNat, r.2) else none
  | _ => none
theorem DA.pa {es : List Expr} {f : ASm} (h : DA X es f) : PA X es (fun σ H Q => ∃ env env' fp ds, SR X.K H env σ fp ∧ fp.Nodup ∧ f env = some (ds, env') ∧ AQ X.K σ H fp ds env' Q) := by
  obtain ⟨t, p, h⟩ := h
  exact ⟨fun pos pins s σ H Q I ⟨env, env', fp, ds, sr, nd, hf, q⟩ => p.run pos pins s σ H Q I (h σ H env env' fp ds sr nd hf Q q)⟩
theorem di_range1 {a : Expr} {f : ASm} (hg : Gl X "range") (hm : X.mg "range" = none) (ha : DA X [a] f) (hs : starEach [a] X.env = [(false, eval a X.env)] := by rfl) : DI X tg (.Call (.Name "range" p) [a] [] pos) (iRange1 f) := by
  refine pi_of (pi_range1 hg hm ha.pa hs) fun σ H R ⟨env, env', fp, ds, s, nd, hf, q⟩ => ?_
  obtain ⟨⟨ds', en⟩, e1, e2⟩ := Option.bind_eq_some_iff.mp hf
  refine ⟨env, en, fp, ds', s, nd, e1, fun vs H' fr fp' ev s' r n => ?_⟩
  simp only at e2
  split at e2
  · split at e2
    · rename_i j hz
      cases e2
      obtain ⟨v, rfl, _, rfl⟩ := r.one
      exact ⟨j, rfl, hz.1, hz.2, q _ H' fp' (ev.sub fun a m => List.mem_append_right _ m) s' (List.nodup_append.mp n).2.1 (yl_rng 0 _)⟩
    · cases e2
  · cases e2
theorem di_range2 {a b : Expr} {f : ASm} (hg : Gl X "range") (hm : X.mg "range" = none) (ha : DA X [a, b] f) (hs : starEach [a, b] X.env = [(false, eval a X.env), (false, eval b X.env)] := by rfl) (hs2 : starEach [b] X.env = [(false, eval b X.env)] := by rfl) :
    DI X tg (.Call (.Name "range" p) [a, b] [] pos) (iRange2 f) := by
  refine pi_of (pi_range2 hg hm ha.pa hs hs2) fun σ H R ⟨env, env', fp, ds, s, nd, hf, q⟩ => ?_
  obtain ⟨⟨ds', en⟩, e1, e2⟩ := Option.bind_eq_some_iff.mp hf
  refine ⟨env, en, fp, ds', s, nd, e1, fun vs H' fr fp' ev s' r n => ?_⟩
  simp only at e2
  split at e2
  · split at e2
    · rename_i i j hz
      cases e2
      obtain ⟨v, w, f1, f2, rfl, r1, r2⟩ := r.two
      refine ⟨i, j, by rw [r1.2, r2.2], ⟨hz.1.1, hz.1.2, hz.2.1, hz.2.2⟩, q _ H' fp' (ev.sub fun a m => List.mem_append_right _ m) s' (List.nodup_append.mp n).2.1 (yl_rng i _)⟩
    · cases e2
  · cases e2
/-- enumerate, zip, reversed of what never changes -/
def seqI : D → Option (List D)
  | .tup ds => some ds
  | .lst true ds => some ds
  | _ => none
theorem RO.seqI {K : PySem.W.Frag} {H : Hp} {d : D} {v : V} {fp : List Addr} {ds : List D} (h : RO K H d v fp) (e : seqI d = some ds) : ∃ a xs, v = .ref a ∧ RIs K H ds xs ∧ ((d = .tup ds ∧ H a = some (.tup xs)) ∨ (d = .lst true ds ∧ FzL K H a xs)) := by
  cases d with
  | tup es =>
    cases e
    obtain ⟨_, a, xs, h1, h2, h3⟩ := h
    exact ⟨a, xs, h1, h3, .inl ⟨rfl, h2⟩⟩
  | lst fz es =>
    cases fz with
    | false => cases e
    | true =>
      cases e
      obtain ⟨_, _, a, o, xs, h1, h2, h3⟩ := h.imm rfl
      exact ⟨a, xs, h1, h3, .inr ⟨rfl, .inl ⟨o, h2⟩⟩⟩
  | _ => cases e
def iEnumE (f : ASm) : ISm := fun env => (f env).bind fun r => match r.1 with
  | [d] => (seqI d).map fun ds => (enumD ds, r.2)
  | _ => none
theorem di_enum {a : Expr} {f : ASm} {elts : List Expr} {kk : Nat} {tpos : Pos} (hg : Gl X "enumerate") (hm : X.mg "enumerate" = none) (ha : DA X [a] f) (hs : starEach [a] X.env = [(false, eval a X.env)] := by rfl) :
    DI X (.Tuple elts kk tpos) (.Call (.Name "enumerate" p) [a] [] pos) (iEnumE f) := by
  refine pi_of (PI.or (pi_enum hg hm ha.pa hs) (pi_enumT hg hm ha.pa hs)) fun σ H R ⟨env, env', fp, ds, s, nd, hf, q⟩ => ?_
  obtain ⟨⟨ds', en⟩, e1, e2⟩ := Option.bind_eq_some_iff.mp hf
  simp only at e2
  split at e2
  case h_2 => cases e2
  rename_i d0
  obtain ⟨es, e3, e4⟩ := Option.map_eq_some_iff.mp e2
  cases e4
  cases d0 with
  | tup es' =>
    cases e3
    refine .inr ⟨env, _, fp, _, s, nd, e1, fun vs H' fr fp' ev s' r n => ?_⟩
    obtain ⟨v, rfl, rr⟩ := r.one
    obtain ⟨_, a, xs, h1, h2, h3⟩ := rr
    exact ⟨a, xs, by rw [h1], SqT.of h2, q _ H' fp' (ev.sub fun a m => List.mem_append_right _ m) s' (List.nodup_append.mp n).2.1 (yl_enumT h2 h3)⟩
  | lst fz es' =>
    cases fz with
    | false => cases e3
    | true =>
      cases e3
      refine .inl ⟨env, _, fp, _, s, nd, e1, fun vs H' fr fp' ev s' r n => ?_⟩
      obtain ⟨v, rfl, rr⟩ := r.one
      obtain ⟨_, _, a, o, xs, h1, h2, h3⟩ := rr.imm rfl
      exact ⟨a, xs, by rw [h1], .inl (.inr ⟨o, h2⟩), q _ H' fp' (ev.sub fun a m => List.mem_append_right _ m) s' (List.nodup_append.mp n).2.1 (yl_enumL (.inl ⟨o, h2⟩) h3)⟩
  | _ => cases e3
def iZipE (f : ASm) : ISm := fun env => (f env).bind fun r => match r.1 with
  | [.tup ds, .tup es] => some (zipD ds es, r.2)
  | [.lst true ds, .lst true es] => some (zipD ds es, r.2)
  | _ => none
theorem di_zip {a b : Expr} {f : ASm} {elts : List Expr} {kk : Nat} {tpos : Pos} (hg : Gl X "zip") (hm : X.mg "zip" = none) (ha : DA X [a, b] f)
    (hs : starEach [a, b] X.env = (false, eval a X.env) :: starEach [b] X.env := by rfl) (hpl : (backTo pos (starEach [b] X.env)).any (·.1) = false := by rfl) :
    DI X (.Tuple elts kk tpos) (.Call (.Name "zip" p) [a, b] [] pos) (iZipE f) := by
  refine pi_of (pi_zipA hg hm ha.pa hs hpl) fun σ H R ⟨env, env', fp, ds, s, nd, hf, q⟩ => ?_
  obtain ⟨⟨ds', en⟩, e1, e2⟩ := Option.bind_eq_some_iff.mp hf
  refine ⟨env, en, fp, ds', s, nd, e1, fun vs H' fr fp' ev s' r n => ?_⟩
  simp only at e2
  split at e2
  · cases e2
    obtain ⟨v, w, f1, f2, rfl, r1, r2⟩ := r.two
    obtain ⟨_, a, xs, h1, h2, h3⟩ := r1
    obtain ⟨_, b, ys, h4, h5, h6⟩ := r2
    exact ⟨a, b, xs, ys, by rw [h1, h4], .inr ⟨SqT.of h2, SqT.of h5, q _ H' fp' (ev.sub fun a m => List.mem_append_right _ m) s' (List.nodup_append.mp n).2.1 (yl_zipT h2 h3 h5 h6)⟩⟩
  · cases e2
    obtain ⟨v, w, f1, f2, rfl, r1, r2⟩ := r.two
    obtain ⟨_, _, a, o, xs, h1, h2, h3⟩ := r1.imm rfl
    obtain ⟨_, _, b, o', ys, h4, h5, h6⟩ := r2.imm rfl
    exact ⟨a, b, xs, ys, by rw [h1, h4], .inl ⟨.inl (.inr ⟨o, h2⟩), .inl (.inr ⟨o', h5⟩), q _ H' fp' (ev.sub fun a m => List.mem_append_right _ m) s' (List.nodup_append.mp n).2.1 (yl_zipL (.inl ⟨o, h2⟩) h3 (.inl ⟨o', h5⟩) h6)⟩⟩
  · cases e2
def iRevE (f : ESm) : ISm := fun env => (f env).bind fun r => (seqI r.1).map fun ds => (ds.reverse, r.2)
theorem di_rev {a : Expr} {f : ESm} (hg : Gl X "reversed") (hm : X.mg "reversed" = none) (ha : DE X a f) (hs : starEach [a] X.env = (false, eval a X.env) :: starEach [] X.env := by rfl) :
    DI X tg (.Call (.Name "reversed" p) [a] [] pos) (iRevE f) := by
  refine pi_of (pi_revA hg hm ha.pe hs) fun σ H R ⟨env, env', fp, ds, s, nd, hf, q⟩ => ?_
  obtain ⟨⟨d, en⟩, e1, e2⟩ := Option.bind_eq_some_iff.mp hf
  obtain ⟨es, e3, e4⟩ := Option.map_eq_some_iff.mp e2
  cases e4
  refine ⟨env, en, fp, d, s, nd, e1, fun v H' fr fp' ev s' r n => ?_⟩
  obtain ⟨a, xs, h1, h3, h⟩ := r.seqI e3
  have fin := fun J y => q J H' fp' (ev.sub fun a m => List.mem_append_right _ m) s' (List.nodup_append.mp n).2.1 y
  rcases h with ⟨_, h⟩ | ⟨_, h⟩
  · exact ⟨a, xs, h1, .inr ⟨SqT.of h, fin _ (yl_revT h h3)⟩⟩
  · exact ⟨a, xs, h1, .inl ⟨h.sq, fin _ (yl_revL h h3)⟩⟩
/-- d.items(), d.values() -/
def iItemsE (f : ESm) : ISm := fun env => (f env).bind fun r => match r.1 with
  | .dcK true ks ds => some (itemD ks ds, r.2)
  | _ => none
def iValsE (f : ESm) : ISm := fun env => (f env).bind fun r => match r.1 with
  | .dcK true ks ds => some (ds, r.2)
  | _ => none
theorem di_items {elts : List Expr} {kk : Nat} {tpos apos : Pos} {f : ESm} (h : DE X e f) (hbase : attributeBase e "items" X.env (eval e X.env) = eval e X.env := by rfl) (hline : (apos.endLine == pos.line) = true := by rfl) :
    DI X (.Tuple elts kk tpos) (.Call (.Attribute e "items" apos) [] [] pos) (iItemsE f) := by
  refine pi_of (pi_items h.pe hbase hline) fun σ H R ⟨env, env', fp, ds, s, nd, hf, q⟩ => ?_
  obtain ⟨⟨d, en⟩, e1, e2⟩ := Option.bind_eq_some_iff.mp hf
  refine ⟨env, en, fp, d, s, nd, e1, fun v H' fr fp' ev s' r n => ?_⟩
  simp only at e2
  split at e2
  · cases e2
    obtain ⟨_, _, a, o, xs, h1, h2, h4, h3⟩ := r.imm rfl
    exact ⟨a, o, _, h1, h2, q _ H' fp' (ev.sub fun a m => List.mem_append_right _ m) s' (List.nodup_append.mp n).2.1 (yl_items h2 h4 h3)⟩
  · cases e2
theorem di_values {apos : Pos} {f : ESm} (h : DE X e f) (hbase : attributeBase e "values" X.env (eval e X.env) = eval e X.env := by rfl) (hline : (apos.endLine == pos.line) = true := by rfl) :
    DI X tg (.Call (.Attribute e "values" apos) [] [] pos) (iValsE f) := by
  refine pi_of (pi_values h.pe hbase hline) fun σ H R ⟨env, env', fp, ds, s, nd, hf, q⟩ => ?_
  obtain ⟨⟨d, en⟩, e1, e2⟩ := Option.bind_eq_some_iff.mp hf
  refine ⟨env, en, fp, d, s, nd, e1, fun v H' fr fp' ev s' r n => ?_⟩
  simp only at e2
  split at e2
  · cases e2
    obtain ⟨_, _, a, o, xs, h1, h2, h4, h3⟩ := r.imm rfl
    exact ⟨a, o, _, h1, h2, q _ H' fp' (ev.sub fun a m => List.mem_append_right _ m) s' (List.nodup_append.mp n).2.1 (yl_vals h2 h4 h3)⟩
  · cases e2
end
end DL

set_option maxHeartbeats 1000000
/-! DL, part h: comprehensions -/
namespace DL
open PySem L2

def wipeE (env : Env) : List Nat → Env
  | [] => env
  | i :: r => (wipeE env r).set i none
section
variable {K : PySem.W.Frag} {H : Hp}
/-- slots of which nothing is known may hold anything -/
theorem SR.relax : ∀ {env : Env} {σ σ' : L2.St} {fp : List Addr}, SR K H env σ fp → σ'.length = σ.length → (∀ (i : Nat) (d : D), env[i]? = some (some d) → σ'[i]? = σ[i]?) → SR K H env σ' fp
  | [], σ, σ', _, h, hl, _ => ⟨List.eq_nil_of_length_eq_zero (by rw [hl, h.1]; rfl), h.2⟩
  | none :: env, _, σ', _, ⟨x, σ1, h1, h2⟩, hl, hs => by
    subst h1
    cases σ' with
    | nil => simp at hl
    | cons y r => exact ⟨y, r, rfl, h2.relax (by simpa using hl) fun i d e => by simpa using hs (i + 1) d (by simpa using e)⟩
  | some d0 :: env, _, σ', _, ⟨v, σ1, f, f', h1, h2, h3, h4⟩, hl, hs => by
    subst h1
    cases σ' with
    | nil => simp at hl
    | cons y r =>
      have e0 := hs 0 d0 rfl
      simp at e0
      subst e0
      exact ⟨v, r, f, f', rfl, h2, h3, h4.relax (by simpa using hl) fun i d e => by simpa using hs (i + 1) d (by simpa using e)⟩
theorem wipeE_len (env : Env) : ∀ vs, (wipeE env vs).length = env.length
  | [] => rfl
  | i :: r => by show ((wipeE env r).set i none).length = _; rw [List.length_set, wipeE_len env r]
theorem wipeE_some {env : Env} {i : Nat} {d : D} : ∀ {vs : List Nat}, (wipeE env vs)[i]? = some (some d) → i ∉ vs
  | [], _ => fun m => (nomatch m)
  | j :: r, h => fun m => by
    have h : ((wipeE env r).set j none)[i]? = some (some d) := h
    by_cases e : j = i
    · subst e
      rw [List.getElem?_set_self'] at h
      cases z : (wipeE env r)[j]? with
      | none => rw [z] at h; cases h
      | some o => rw [z] at h; cases h
    · rw [List.getElem?_set_ne e] at h
      rcases List.mem_cons.mp m with m | m
      · exact e m.symm
      · exact wipeE_some h m
theorem SR.none_at {env : Env} {σ : L2.St} {fp : List Addr} (h : SR K H env σ fp) (nd : fp.Nodup) (i : Nat) : ∃ fp', SR K H (env.set i none) σ fp' ∧ fp'.Nodup ∧ ∀ a ∈ fp', a ∈ fp := by
  by_cases hi : i < env.length
  · obtain ⟨pre, f, post, e, _, p⟩ := h.put hi
    refine ⟨pre ++ post, ?_, ?_, fun a m => ?_⟩
    · have hs : i < σ.length := by rw [h.length]; exact hi
      have z := p σ[i]
      rw [List.set_getElem_self] at z
      exact z
    · rw [e] at nd
      have n1 := List.nodup_append.mp nd
      have n2 := List.nodup_append.mp n1.2.1
      exact List.nodup_append.mpr ⟨n1.1, n2.2.1, fun a m b m' => n1.2.2 a m b (List.mem_append_right _ m')⟩
    · rw [e]
      rcases List.mem_append.mp m with m | m
      · exact List.mem_append_left _ m
      · exact List.mem_append_right _ (List.mem_append_right _ m)
  · rw [List.set_eq_of_length_le (by omega)]
    exact ⟨fp, h, nd, fun _ m => m⟩
theorem SR.wipe {env : Env} {σ : L2.St} {fp : List Addr} (h : SR K H env σ fp) (nd : fp.Nodup) : ∀ vs, ∃ fp', SR K H (wipeE env vs) σ fp' ∧ fp'.Nodup ∧ ∀ a ∈ fp', a ∈ fp
  | [] => ⟨fp, h, nd, fun _ m => m⟩
  | i :: r => by
    obtain ⟨f1, h1, n1, m1⟩ := h.wipe nd r
    obtain ⟨f2, h2, n2, m2⟩ := h1.none_at n1 i
    exact ⟨f2, h2, n2, fun a m => m1 a (m2 a m)⟩
theorem wipe_ext {σ σ' : L2.St} {vs : List Nat} (hl : σ'.length = σ.length) (h : ∀ i, i ∉ vs → σ'[i]? = σ[i]?) : wipe σ' vs = L2.wipe σ vs := by
  apply List.ext_getElem?
  intro i
  by_cases m : i ∈ vs
  · have z : ∀ (τ : L2.St) (ws : List Nat), i ∈ ws → (L2.wipe τ ws)[i]? = if i < τ.length then some none else none := by
      intro τ ws
      induction ws with
      | nil => intro m; cases m
      | cons j r ih =>
        intro m
        show ((L2.wipe τ r).set j none)[i]? = _
        by_cases e : j = i
        · subst e
          by_cases hi : j < τ.length
          · rw [List.getElem?_set_self (by rw [wipe_length]; exact hi), if_pos hi]
          · rw [List.getElem?_eq_none (by rw [List.length_set, wipe_length]; omega), if_neg hi]
        · rw [List.getElem?_set_ne e]
          exact ih ((List.mem_cons.mp m).resolve_left fun z => e z.symm)
    rw [z σ' vs m, z σ vs m, hl]
  · rw [wipe_out m, wipe_out m]
    exact h i m
end

/-- the slots of a comprehension's own names may change -/
def ownP (vs : List Nat) : Nat → Bool := fun i => !vs.contains i
def yesT : TSm := fun env => some (true, env)
def compL (vs : List Nat) (g : GSm) (c : TSm) (el : ESm) : List D → Env → List D → Option (List D × Env)
  | [], env, acc => some (acc, wipeE env vs)
  | d :: ds, env, acc => (g d (wipeE env vs)).bind fun e1 => (c e1).bind fun b => if b.1 = true then (el b.2).bind fun r => if acc.length < szL then compL vs g c el ds r.2 (acc ++ [r.1]) else none
    else compL vs g c el ds b.2 acc
def eComp (vs : List Nat) (it : ISm) (g : GSm) (c : TSm) (el : ESm) : ESm := fun env => (it env).bind fun ds => (compL vs g c el ds.1 ds.2 []).map fun r => (.lst false r.1, r.2)
section
variable {X : Cx} {elt tg iter : Expr} {ifs : List Expr} {scope : Scope} {own : List (Str × Nat)} {pos : Pos}
theorem pts_yes : PTs X [] (tT X.K yesT) := ⟨fun pins s σ H Q I ⟨env, env', fp, b, sr, nd, hf, q⟩ => by
  cases hf
  exact pts_nil.run pins s σ H Q I (q H fp (Evo.refl fp H) sr nd)⟩
theorem DT.pts {e : Expr} {f : TSm} (h : DT X e f) : PTs X [e] (tT X.K f) := pts_one h.pt
theorem ROs.snoc {K : PySem.W.Frag} {H : Hp} : ∀ {ds : List D} {xs : List V} {f : List Addr} {d : D} {x : V} {g : List Addr}, ROs K H ds xs f → RO K H d x g → ROs K H (ds ++ [d]) (xs ++ [x]) (f ++ g)
  | [], _, _, d, x, g, h, r => by
    rw [h.1, h.2]
    exact ⟨x, [], g, [], rfl, by simp, r, rfl, rfl⟩
  | d0 :: ds, _, _, d, x, g, ⟨y, ys, f1, f2, h1, h2, h3, h4⟩, r => by
    rw [h1, h2]
    exact ⟨y, ys ++ [x], f1, f2 ++ g, rfl, by rw [List.append_assoc], h3, h4.snoc r⟩
theorem comp_core {it : ISm} {g : GSm} {c : TSm} {el : ESm} {vs : List Nat} {σ : L2.St} {H : Hp} {Q : VK} (h : tE X.K (eComp vs it g c el) σ H Q) :
    tLc (tI X.K it) (tG X.K (ownP vs) g) (tT X.K c) (tE X.K el) vs σ H Q := by
  obtain ⟨env, env', fp, d, s, nd, hf, q⟩ := h
  obtain ⟨⟨ds, en⟩, e1, e2⟩ := Option.bind_eq_some_iff.mp hf
  obtain ⟨⟨acc, en'⟩, e3, e4⟩ := Option.map_eq_some_iff.mp e2
  obtain ⟨rfl, rfl⟩ := Prod.mk.inj e4
  refine ⟨env, en, fp, ds, s, nd, e1, fun J H1 fp1 ev1 s1 n1 yl => ?_⟩
  intro Dl hD
  refine ⟨fun i m H2 => m = ds.length - i ∧ i ≤ ds.length ∧ ImmExt H1 H2 ∧ ∃ env2 acc2 xs2 fa fp2, H2 Dl = some (.lst xs2) ∧ ROs X.K H2 acc2 xs2 fa ∧ SR X.K H2 (wipeE env2 vs) (L2.wipe σ vs) fp2 ∧ ((Dl :: fa) ++ fp2).Nodup ∧ Evo fp1 H1 ((Dl :: fa) ++ fp2) H2 ∧
    compL vs g c el (ds.drop i) env2 acc2 = some (acc, en'), ?_, ?_⟩
  · obtain ⟨fp2, s2, n2, m2⟩ := s1.wipe n1 vs
    have sm := same_new (o := .lst []) hD
    have s3 : SR X.K (upd H1 Dl (.lst [])) (wipeE en vs) (L2.wipe σ vs) fp2 := (s2.same sm).relax (by rw [wipe_length]) fun i d' hi => wipe_out (wipeE_some hi)
    refine ⟨ds.length, by omega, Nat.zero_le _, .of_same sm, en, [], [], [], fp2, upd_same, ⟨rfl, rfl⟩, s3, List.nodup_cons.mpr ⟨fun m => ?_, n2⟩, ⟨fun a o ha _ => sm a o ha, fun a m => ?_, .of_same sm⟩, by rw [List.drop_zero]; exact e3⟩
    · obtain ⟨o, z, _⟩ := s1.live Dl (m2 Dl m)
      rw [hD] at z; cases z
    · rcases List.mem_cons.mp m with rfl | m
      · exact .inr hD
      · exact .inl (m2 a m)
  rintro i m H2 ⟨rfl, hi, im, env2, acc2, xs2, fa, fp2, hD2, ra, s2, n2, ev2, e5⟩
  have y2 := yl H2 im
  have nfp : fp2.Nodup := (List.nodup_append.mp n2).2.1
  by_cases hlt : i < ds.length
  · refine .inr ?_
    have ed : ds[i]? = some ds[i] := List.getElem?_eq_getElem hlt
    obtain ⟨go, yi⟩ := y2.1 i _ ed
    refine ⟨go, fun H2 => i + 1 ≤ ds.length ∧ ImmExt H1 H2 ∧ ∃ env2 acc2 xs2 fa fp2, H2 Dl = some (.lst xs2) ∧ ROs X.K H2 acc2 xs2 fa ∧ SR X.K H2 (wipeE env2 vs) (L2.wipe σ vs) fp2 ∧ ((Dl :: fa) ++ fp2).Nodup ∧ Evo fp1 H1 ((Dl :: fa) ++ fp2) H2 ∧
      compL vs g c el (ds.drop (i + 1)) env2 acc2 = some (acc, en'), fun H' z => ⟨ds.length - (i + 1), by omega, rfl, z⟩, fun x H3 hy => ?_⟩
    obtain ⟨sm, rx⟩ := yi x H3 hy
    rw [List.drop_eq_getElem_cons hlt] at e5
    unfold compL at e5
    obtain ⟨en6, e6, e5⟩ := Option.bind_eq_some_iff.mp e5
    obtain ⟨⟨k, en7⟩, e7, e5⟩ := Option.bind_eq_some_iff.mp e5
    refine ⟨ds[i], wipeE env2 vs, en6, fp2, [], s2.same sm, rx.ro, nfp, e6, fun σ4 H4 fp4 ev4 s4 n4 p4 => ?_⟩
    have ev4 : Evo fp2 H3 fp4 H4 := ev4
    have ev24 : Evo fp2 H2 fp4 H4 := (Evo.of_same (fr := []) sm fun a z => (nomatch z)).trans ev4
    have hlen : σ4.length = σ.length := p4.1.trans (wipe_length σ vs)
    have hw : L2.wipe σ4 vs = L2.wipe σ vs := by
      rw [wipe_ext (σ := L2.wipe σ vs) (by rw [wipe_length]; exact hlen) fun j hj => p4.2 j (by simp [ownP, hj])]
      exact wipe_ext (by rw [wipe_length]) fun j hj => wipe_out hj
    refine ⟨hw, ?_⟩
    -- what stands beside the frame stays
    have beside : ∀ {f5 : List Addr} {H5 : Hp}, Evo fp2 H2 f5 H5 → f5.Nodup → H5 Dl = some (.lst xs2) ∧ ROs X.K H5 acc2 xs2 fa ∧ ((Dl :: fa) ++ f5).Nodup ∧ Evo fp1 H1 ((Dl :: fa) ++ f5) H5 := fun {f5 H5} e n => by
      have nf : ∀ a ∈ Dl :: fa, a ∉ fp2 := fun a m m' => (List.nodup_append.mp n2).2.2 a m a m' rfl
      have lv : ∀ a ∈ Dl :: fa, Live H2 a := fun a m => by
        rcases List.mem_cons.mp m with rfl | m
        · exact ⟨_, hD2, trivial⟩
        · exact ROs.live _ _ _ ra a m
      have st := e.stay lv nf
      refine ⟨by rw [st Dl List.mem_cons_self]; exact hD2, ROs.mono e.imm _ _ _ (fun a m => st a (List.mem_cons_of_mem _ m)) ra, ?_, ev2.trans e.side⟩
      exact List.nodup_append.mpr ⟨(List.nodup_append.mp n2).1, n, fun a m b m' z => by subst z; exact e.apart lv nf a m m'⟩
    refine ⟨en6, en7, fp4, k, s4, n4, e7, fun H5 fp5 ev5 s5 n5 => ?_⟩
    have ev25 := ev24.trans ev5
    cases k with
    | false =>
      rw [if_neg Bool.false_ne_true] at e5
      refine iteF ?_
      obtain ⟨f6, s6, n6, m6⟩ := s5.wipe n5 vs
      obtain ⟨b1, b2, b3, b4⟩ := beside (ev25.sub m6) n6
      exact ⟨hlt, im.trans ev25.imm, en7, acc2, xs2, fa, f6, b1, b2, s6.relax (by rw [wipe_length, hlen]) fun j d' hj => by rw [← hw]; exact wipe_out (wipeE_some hj), b3, b4, e5⟩
    | true =>
      rw [if_pos rfl] at e5
      refine iteT ?_
      obtain ⟨⟨dv, en8⟩, e8, e5⟩ := Option.bind_eq_some_iff.mp e5
      simp only at e5
      split at e5
      case isFalse => cases e5
      rename_i hz
      refine ⟨en7, en8, fp5, dv, s5, n5, e8, fun y H6 fr fp6 ev6 s6 ry n6 => ?_⟩
      have n6' := (List.nodup_append.mp n6).2.1
      obtain ⟨f7, s7, n7, m7⟩ := s6.wipe n6' vs
      have nfr : (fr ++ f7).Nodup := List.nodup_append.mpr ⟨(List.nodup_append.mp n6).1, n7, fun a m b m' => (List.nodup_append.mp n6).2.2 a m b (m7 b m')⟩
      have ev7 : Evo fp5 H5 (fr ++ f7) H6 := ev6.sub fun a m => (List.mem_append.mp m).elim (List.mem_append_left _) fun z => List.mem_append_right _ (m7 a z)
      obtain ⟨b1, b2, b3, b4⟩ := beside (ev25.trans ev7) nfr
      refine ⟨xs2, b1, by rw [szL_eq, b2.length]; exact hz, hlt, ?_, en8, acc2 ++ [dv], xs2 ++ [y], fa ++ fr, f7, upd_same, ?_, ?_, ?_, ?_, e5⟩
      · refine (im.trans (ev25.imm.trans ev7.imm)).trans ?_
        exact ⟨fun a xs h => by rw [upd_ne (fun z => by rw [z, b1] at h; cases h)]; exact h, fun a o u h => by rw [upd_ne (fun z => by rw [z, b1] at h; cases h)]; exact h, fun a u h => by rw [upd_ne (fun z => by rw [z, b1] at h; cases h)]; exact h⟩
      all_goals
        have im8 : ImmExt H6 (upd H6 Dl (.lst (xs2 ++ [y]))) := ⟨fun a xs h => by rw [upd_ne (fun z => by rw [z, b1] at h; cases h)]; exact h, fun a o u h => by rw [upd_ne (fun z => by rw [z, b1] at h; cases h)]; exact h, fun a u h => by rw [upd_ne (fun z => by rw [z, b1] at h; cases h)]; exact h⟩
        have nD : ∀ a ∈ fa ++ (fr ++ f7), a ≠ Dl := fun a m z => by
          subst z
          exact (List.nodup_cons.mp b3).1 m
      · exact (ROs.mono im8 _ _ _ (fun a m => upd_ne (nD a (List.mem_append_left _ m))) b2).snoc (RO.mono im8 _ _ _ (fun a m => upd_ne (nD a (List.mem_append_right _ (List.mem_append_left _ m)))) ry)
      · exact (s7.mono im8 fun a m => upd_ne (nD a (List.mem_append_right _ (List.mem_append_right _ m)))).relax (by rw [wipe_length, hlen]) fun j d' hj => by rw [← hw]; exact wipe_out (wipeE_some hj)
      · rw [List.cons_append, List.append_assoc]
        exact b3
      · rw [List.cons_append, List.append_assoc]
        refine ⟨fun a o ha hn => ?_, b4.own, b4.imm.trans im8⟩
        have z := b4.keep a o ha hn
        rw [upd_ne (fun e => ?_)]
        · exact z
        · subst e
          rw [hD] at ha; cases ha
  · have e : i = ds.length := by omega
    subst e
    rw [List.drop_length] at e5
    cases e5
    refine .inl ⟨y2.2, q (.ref Dl) H2 (Dl :: fa) fp2 (ev1.trans ev2) ?_ (.inr ⟨rfl, Dl, xs2, fa, rfl, rfl, hD2, ra⟩) n2⟩
    refine s2.relax (by rw [wipe_length]) fun j d' hj => (wipe_out (wipeE_some hj)).symm
end
end DL

set_option maxHeartbeats 1000000
/-! DL, part i: comprehensions as rules; methods that change their list; stores by place; calls of defs -/
namespace DL
open PySem L2
section
variable {P : Nat → Bool} {X : Cx} {elt tg iter : Expr} {ifs : List Expr} {scope : Scope} {own : List (Str × Nat)} {pos : Pos} {it : ISm} {g : GSm} {c : TSm} {el : ESm}
theorem de_comp (hc : X.calm = true) (hN : X.N.Nodup) (hi : DI X tg iter it) (ok : BlkOk X.N X.env.scope scope own)
    (hg : ∀ (s : Shared) (H : Hp) (C : Addr) (cl : List (Str × Addr)) (fp : List Addr), DG (ownP (own.map (·.2))) (X.blk s H scope (compEnvC scope cl C X.env) fp) tg g)
    (ht : ∀ (s : Shared) (H : Hp) (C : Addr) (cl : List (Str × Addr)) (fp : List Addr), PTs (X.blk s H scope (compEnvC scope cl C X.env) fp) ifs (tT X.K c))
    (he : ∀ (s : Shared) (H : Hp) (C : Addr) (cl : List (Str × Addr)) (fp : List Addr), DE (X.blk s H scope (compEnvC scope cl C X.env) fp) elt el) (hs : ∀ x, foldedSetIterable iter X.env x = pure x := by intro _; rfl) :
    DE X (.ListComp elt [⟨tg, iter, ifs, 0⟩] scope pos) (eComp (own.map (·.2)) it g c el) :=
  ⟨_, pe_lc (g := tG X.K (ownP (own.map (fun x : Str × Nat => x.2))) g) (te := tE X.K el) hc hN hi ok (fun s H C cl fp => hg s H C cl fp) ht (fun s H C cl fp => (he s H C cl fp).pe) hs, fun σ H env env' fp d s nd hf Q q => comp_core ⟨env, env', fp, d, s, nd, hf, q⟩⟩
theorem ds_setComp {i : Nat} {y : Str} {py spos : Pos} (hc : X.calm = true) (hN : X.N.Nodup) (hy : X.N[i]? = some y) (hyl : X.env.scope.names.lookup y = some .local) (hP : P i = false)
    (hsw : swapsWith (.ListComp elt [⟨tg, iter, ifs, 0⟩] scope pos) (some (.Name y py)) spos.line X.env = pure true) (hi : DI X tg iter it) (ok : BlkOk X.N X.env.scope scope own)
    (hg : ∀ (s : Shared) (H : Hp) (C : Addr) (cl : List (Str × Addr)) (fp : List Addr), DG (ownP (own.map (·.2))) (X.blk s H scope (compEnvC scope cl C X.env) fp) tg g)
    (ht : ∀ (s : Shared) (H : Hp) (C : Addr) (cl : List (Str × Addr)) (fp : List Addr), PTs (X.blk s H scope (compEnvC scope cl C X.env) fp) ifs (tT X.K c))
    (he : ∀ (s : Shared) (H : Hp) (C : Addr) (cl : List (Str × Addr)) (fp : List Addr), DE (X.blk s H scope (compEnvC scope cl C X.env) fp) elt el) (hs : ∀ x, foldedSetIterable iter X.env x = pure x := by intro _; rfl) :
    DS P X (.Assign [.Name y py] (.ListComp elt [⟨tg, iter, ifs, 0⟩] scope pos) spos) (sAsg (eComp (own.map (·.2)) it g c el) (gNm i)) :=
  fun W tk => ps_of (ps_setLc (g := tG X.K (ownP (own.map (fun x : Str × Nat => x.2))) g) (te := tE X.K el) hc hN hy hyl hsw hi ok (fun s H C cl fp => hg s H C cl fp) ht (fun s H C cl fp => (he s H C cl fp).pe) hs) fun D σ H z => asg_core (fun _ _ _ z => comp_core z) (fun v σ H Q ⟨d, env, env', fp, fr, s, r, nd, hg, q⟩ => by
    unfold gNm at hg
    split at hg
    case isFalse => cases hg
    rename_i hl
    cases hg
    obtain ⟨fp', s', n', m'⟩ := put_slot s r nd hl
    exact q _ H fp' ((Evo.refl _ H).sub m') s' n' (Pin.set hP)) z
/-- freezing a slot ahead of a statement -/
def sFz (i : Nat) (f : SSm) : SSm := fun env => match env[i]? with
  | some (some d) => f (env.set i (some (fz d)))
  | _ => none
def tLkS (t : TS) : TS := fun D σ H => ∃ fp, (∀ a ∈ fp, Live H a) ∧ ∀ H', Locked fp H H' → t D σ H'
theorem ps_lk {st : Stmt} {t : TS} (h : PS X st t) : PS X st (tLkS t) := by
  refine ⟨fun pins s σ H D I ⟨fp, lv, q⟩ => ?_⟩
  obtain ⟨H', I', l⟩ := lock_all fp I lv
  exact h.run pins s σ H' D I' (q H' l)
theorem ds_fz {st : Stmt} {f : SSm} (i : Nat) (h : DS P X st f) : DS P X st (sFz i f) := fun W tk => ps_of (ps_lk (h W tk)) fun D σ H ⟨env, env', fp, o, s, nd, hf, q⟩ => by
  unfold sFz at hf
  split at hf
  case h_2 => cases hf
  rename_i d hd
  obtain ⟨v, pre, f0, post, e1, e2, r, p, _⟩ := s.at hd
  have lv := RO.live d v f0 r
  refine ⟨f0, lv, fun H' l => ?_⟩
  have n1 := List.nodup_append.mp (e2 ▸ nd)
  have n2 := List.nodup_append.mp n1.2.1
  have off : ∀ a, a ∈ pre ∨ a ∈ post → H' a = H a := fun a m => l.off a fun m' => m.elim (fun m => n1.2.2 a m a (List.mem_append_left _ m') rfl) fun m => n2.2.2 a m' a m rfl
  have z := p H' (fz d) v [] (l.imm lv) off (RO.fz (fp := f0) l.at_ (l.imm lv) d v f0 r fun a m => m).ro
  have e3 : σ.set i (some v) = σ := by
    obtain ⟨h1, h2⟩ := List.getElem?_eq_some_iff.mp e1
    rw [← h2, List.set_getElem_self]
  rw [e3] at z
  have ev : Evo fp H (pre ++ ([] ++ post)) H' := by
    refine ⟨fun a o h n => ?_, fun a m => .inl ?_, l.imm lv⟩
    · rw [l.off a fun m => n (by rw [e2]; exact List.mem_append_right _ (List.mem_append_left _ m))]; exact h
    · rw [e2]
      rcases List.mem_append.mp m with m | m
      · exact List.mem_append_left _ m
      · exact List.mem_append_right _ (List.mem_append_right _ m)
  exact ⟨_, env', _, o, z, List.nodup_append.mpr ⟨n1.1, n2.2.1, fun a m b m' => n1.2.2 a m b (List.mem_append_right _ m')⟩, hf, q.via ev (Pin.refl σ)⟩
end

/-! ### methods that change what they are called on -/
def MO (X : Cx) (T id : String) (m : D → List D → Option (D × D)) : Prop := ∃ r, MtR X id r ∧
  (∀ (H : Hp) (x : V) (dx : D) (fx : List Addr), RO X.K H dx x fx → ∀ ds r, m dx ds = some r → tyV X.K T x H) ∧
  ∀ (H : Hp) (x : V) (dx : D) (fx : List Addr) (vs : List V) (ds : List D) (fv : List Addr) (ret dx' : D), RO X.K H dx x fx → ROs X.K H ds vs fv → (fx ++ fv).Nodup → m dx ds = some (ret, dx') → ∀ Q : VK,
    (∀ v H' fr f', Evo (fx ++ fv) H (fr ++ f') H' → RO X.K H' dx' x f' → RO X.K H' ret v fr → (fr ++ f').Nodup → Q v H') → r x vs H Q
/-- may this method be called on that at all -/
def okRecv (T : String) : D → Bool
  | .lst _ _ => T == "list"
  | .dcK false _ _ => T == "dict"
  | .dcT false _ _ => T == "dict"
  | _ => false
theorem ty_recv {K : PySem.W.Frag} {H : Hp} {T : String} {d : D} {v : V} {fp : List Addr} (r : RO K H d v fp) (h : okRecv T d = true) : tyV K T v H := by
  cases d with
  | lst fz ds =>
    have e : T = "list" := by simpa [okRecv] using h
    obtain ⟨a, xs, f, h1, h2, h3⟩ := r.rdl
    rw [h1]
    exact .inl ⟨e, xs, .inl h2⟩
  | dcK fz ks ds =>
    cases fz with
    | true => cases h
    | false =>
      have e : T = "dict" := by simpa [okRecv] using h
      rcases r with ⟨z, _⟩ | ⟨_, a, xs, f, h1, _, h2, _⟩
      · cases z
      · rw [h1]; exact .inr (.inr (.inl ⟨e, .inl ⟨_, h2⟩⟩))
  | dcT fz ks ds =>
    cases fz with
    | true => cases h
    | false =>
      have e : T = "dict" := by simpa [okRecv] using h
      rcases r with ⟨z, _⟩ | ⟨_, a, xs, f, h1, _, h2, _⟩
      · cases z
      · rw [h1]; exact .inr (.inr (.inl ⟨e, .inr ⟨_, h2⟩⟩))
  | _ => cases h
section
variable {P : Nat → Bool} {X : Cx} {o e : Expr} {es : List Expr} {name : Str} {apos cpos : Pos} {T id : String} {m : D → List D → Option (D × D)}
def eMeth (i : Nat) (T : String) (m : D → List D → Option (D × D)) (f : ASm) : ESm := fun env => match env[i]? with
  | some (some d0) => if okRecv T d0 = true then (f env).bind fun ds => match ds.2[i]? with
    | some (some d) => (m d ds.1).map fun r => (r.1, ds.2.set i (some r.2))
    | _ => none
    else none
  | _ => none
/-- the method's part, behind the arguments -/
theorem meth_core {i : Nat} {K : PySem.W.Frag} {r : V → List V → Hp → VK → Prop} {σ : L2.St} {H : Hp} {env : Env} {fp fr : List Addr} {d d' ret : D} {ds : List D} {vs : List V} {x : V} {Q : VK}
    (ho : ∀ (H : Hp) (x : V) (dx : D) (fx : List Addr) (vs : List V) (ds : List D) (fv : List Addr) (ret dx' : D), RO K H dx x fx → ROs K H ds vs fv → (fx ++ fv).Nodup → m dx ds = some (ret, dx') → ∀ Q : VK,
      (∀ v H' fr f', Evo (fx ++ fv) H (fr ++ f') H' → RO K H' dx' x f' → RO K H' ret v fr → (fr ++ f').Nodup → Q v H') → r x vs H Q)
    (s : SR K H env σ fp) (rs : ROs K H ds vs fr) (nd : (fr ++ fp).Nodup) (hd : env[i]? = some (some d)) (hx : σ[i]? = some (some x)) (hm : m d ds = some (ret, d'))
    (q : ∀ v H' f1 f2, Evo (fr ++ fp) H (f1 ++ f2) H' → SR K H' (env.set i (some d')) σ f2 → RO K H' ret v f1 → (f1 ++ f2).Nodup → Q v H') : r x vs H Q := by
  obtain ⟨v, pre, f, post, e1, e2, r0, p, _⟩ := s.at hd
  rw [hx] at e1; cases e1
  have n0 := List.nodup_append.mp nd
  have n1 := List.nodup_append.mp (e2 ▸ n0.2.1)
  have n2 := List.nodup_append.mp n1.2.1
  have inF : ∀ a ∈ f, a ∈ fp := fun a m => by rw [e2]; exact List.mem_append_right _ (List.mem_append_left _ m)
  have inP : ∀ a, a ∈ pre ∨ a ∈ post → a ∈ fp := fun a m => by
    rw [e2]
    exact m.elim (List.mem_append_left _) fun m => List.mem_append_right _ (List.mem_append_right _ m)
  have nP : ∀ a, a ∈ pre ∨ a ∈ post → a ∉ f ++ fr := fun a m m' => by
    rcases List.mem_append.mp m' with m' | m'
    · exact m.elim (fun m => n1.2.2 a m a (List.mem_append_left _ m') rfl) fun m => n2.2.2 a m' a m rfl
    · exact n0.2.2 a m' a (inP a m) rfl
  refine ho H x d f vs ds fr ret d' r0 rs (List.nodup_append.mpr ⟨n2.1, n0.1, fun a ma b mb z => n0.2.2 b mb a (inF a ma) z.symm⟩) hm Q fun v H' f1 f2 ev ro rr nn => ?_
  have lvP : ∀ a, a ∈ pre ∨ a ∈ post → Live H a := fun a m => s.live a (inP a m)
  have st : ∀ a, a ∈ pre ∨ a ∈ post → H' a = H a := fun a m => by
    obtain ⟨ob, h, _⟩ := lvP a m
    rw [h]; exact ev.keep a ob h (nP a m)
  have ap : ∀ a, a ∈ pre ∨ a ∈ post → a ∉ f1 ++ f2 := fun a m m' => by
    rcases ev.own a m' with z | z
    · exact nP a m z
    · obtain ⟨ob, h, _⟩ := lvP a m
      rw [h] at z; cases z
  have z := p H' d' x f2 ev.imm st ro
  have e3 : σ.set i (some x) = σ := by
    obtain ⟨h1, h2⟩ := List.getElem?_eq_some_iff.mp hx
    rw [← h2, List.set_getElem_self]
  rw [e3] at z
  have nn' := List.nodup_append.mp nn
  refine q v H' f1 (pre ++ (f2 ++ post)) ⟨fun a ob h n => ev.keep a ob h fun m => n ?_, fun a m => ?_, ev.imm⟩ z rr ?_
  · rcases List.mem_append.mp m with m | m
    · exact List.mem_append_right _ (inF a m)
    · exact List.mem_append_left _ m
  · have back : a ∈ f1 ++ f2 → a ∈ fr ++ fp ∨ H a = none := fun m => (ev.own a m).imp (fun m => (List.mem_append.mp m).elim (fun m => List.mem_append_right _ (inF a m)) (List.mem_append_left _)) id
    rcases List.mem_append.mp m with m | m
    · exact back (List.mem_append_left _ m)
    · rcases List.mem_append.mp m with m | m
      · exact .inl (List.mem_append_right _ (inP a (.inl m)))
      · rcases List.mem_append.mp m with m | m
        · exact back (List.mem_append_right _ m)
        · exact .inl (List.mem_append_right _ (inP a (.inr m)))
  · refine List.nodup_append.mpr ⟨nn'.1, List.nodup_append.mpr ⟨n1.1, List.nodup_append.mpr ⟨nn'.2.1, n2.2.1, fun a m b m' z => ap b (.inr m') (by rw [← z]; exact List.mem_append_right _ m)⟩, fun a m b m' z => ?_⟩, fun a m b m' z => ?_⟩
    · subst z
      rcases List.mem_append.mp m' with m' | m'
      · exact ap a (.inl m) (List.mem_append_right _ m')
      · exact n1.2.2 a m a (List.mem_append_right _ m') rfl
    · subst z
      rcases List.mem_append.mp m' with m' | m'
      · exact ap a (.inl m') (List.mem_append_left _ m)
      · rcases List.mem_append.mp m' with m' | m'
        · exact nn'.2.2 a m a m' rfl
        · exact ap a (.inr m') (List.mem_append_left _ m)
theorem de_meth {i : Nat} {f : ASm} (pa : PlainAttrs T) (slot : Slot T name id) (hty : typeOf (.builtin id) = pure (.type "method_descriptor")) (hm : MO X T id m) (ho : PE X o (tVar i)) (ha : DA X (e :: es) f)
    (hbase : attributeBase o name X.env (eval o X.env) = eval o X.env := by rfl)
    (hfew : ((backTo cpos (starEach (e :: es) X.env)).all (fun x => !x.1) && (backToKw cpos (keywordEach [] X.env)).all (fun x => x.1.isSome) && decide ((e :: es).length + ([] : List Keyword).length + (if ([] : List Keyword).isEmpty then 0 else 1) < 30)) = true := by rfl)
    (hline : (apos.endLine == cpos.line) = true := by rfl) (hs : starEach (e :: es) X.env = (false, eval e X.env) :: starEach es X.env := by rfl) (hplain : (backTo cpos (starEach es X.env)).any (·.1) = false := by rfl) :
    DE X (.Call (.Attribute o name apos) (e :: es) [] cpos) (eMeth i T m f) := by
  obtain ⟨r, hr, _, hm⟩ := hm
  refine ⟨_, pe_bm pa slot hty hr ho ha.pa hbase hfew hline hs hplain, fun σ H env env' fp d s nd hf Q q => ?_⟩
  unfold eMeth at hf
  split at hf
  case h_2 => cases hf
  rename_i d0 h0
  split at hf
  case isFalse => cases hf
  rename_i hok
  obtain ⟨⟨ds, en⟩, e1, hf⟩ := Option.bind_eq_some_iff.mp hf
  simp only at hf
  split at hf
  case h_2 => cases hf
  rename_i d1 h1
  obtain ⟨⟨ret, d2⟩, e2, e3⟩ := Option.map_eq_some_iff.mp hf
  cases e3
  obtain ⟨v, pre, f0, post, hv, _, r0, _⟩ := s.at h0
  refine ⟨v, hv, ty_recv r0 hok, env, en, fp, ds, s, nd, e1, fun vs H1 fr fp1 v1 s1 rs n1 => ?_⟩
  exact meth_core hm s1 rs n1 h1 hv e2 fun v H' f1 f2 ev sr rr nn => q v H' f1 f2 (v1.trans ev) sr rr nn
theorem de_meth0 {i : Nat} (pa : PlainAttrs T) (slot : Slot T name id) (hty : typeOf (.builtin id) = pure (.type "method_descriptor")) (hm : MO X T id m) (ho : PE X o (tVar i))
    (hbase : attributeBase o name X.env (eval o X.env) = eval o X.env := by rfl) (hline : (apos.endLine == cpos.line) = true := by rfl) : DE X (.Call (.Attribute o name apos) [] [] cpos) (eMeth i T m aNilE) := by
  obtain ⟨r, hr, _, hm⟩ := hm
  refine ⟨_, pe_bm0 pa slot hty hr ho hbase hline, fun σ H env env' fp d s nd hf Q q => ?_⟩
  unfold eMeth at hf
  split at hf
  case h_2 => cases hf
  rename_i d0 h0
  split at hf
  case isFalse => cases hf
  rename_i hok
  obtain ⟨⟨ds, en⟩, e1, hf⟩ := Option.bind_eq_some_iff.mp hf
  cases e1
  simp only at hf
  split at hf
  case h_2 => cases hf
  rename_i d1 h1
  obtain ⟨⟨ret, d2⟩, e2, e3⟩ := Option.map_eq_some_iff.mp hf
  cases e3
  obtain ⟨v, pre, f0, post, hv, _, r0, _⟩ := s.at h0
  refine ⟨v, hv, ty_recv r0 hok, ?_⟩
  exact meth_core (fr := []) hm s (show ROs X.K _ [] [] [] from ⟨rfl, rfl⟩) nd h1 hv e2 fun v H' f1 f2 ev sr rr nn => q v H' f1 f2 ev sr rr nn
end

/-! ### the methods -/
section
variable {X : Cx} {K : PySem.W.Frag} {H : Hp}
theorem RO.own {ds : List D} {v : V} {fp : List Addr} (h : RO K H (.lst false ds) v fp) : ∃ a xs f, v = .ref a ∧ fp = a :: f ∧ H a = some (.lst xs) ∧ ROs K H ds xs f := by
  rcases h with ⟨z, _⟩ | ⟨_, h⟩
  · cases z
  · exact h
/-- the list at a is rewritten -/
theorem upd_evo {a : Addr} {xs ys : List V} {fp fp' : List Addr} (h : H a = some (.lst xs)) (ha : a ∈ fp) (hs : ∀ b ∈ fp', b ∈ fp) : Evo fp H fp' (upd H a (.lst ys)) :=
  ⟨fun b o hb n => by rw [upd_ne (fun e => n (by rw [e]; exact ha))]; exact hb, fun b m => .inl (hs b m),
    fun b zs hb => by rw [upd_ne (fun e => by rw [e, h] at hb; cases hb)]; exact hb, fun b o u hb => by rw [upd_ne (fun e => by rw [e, h] at hb; cases hb)]; exact hb, fun b u hb => by rw [upd_ne (fun e => by rw [e, h] at hb; cases hb)]; exact hb⟩
theorem upd_imm {a : Addr} {xs ys : List V} (h : H a = some (.lst xs)) : ImmExt H (upd H a (.lst ys)) := (upd_evo (fp := [a]) (fp' := []) h List.mem_cons_self fun _ m => (nomatch m)).imm
def mAppend : D → List D → Option (D × D)
  | .lst false ds, [d] => if ds.length < szL then some (.non, .lst false (ds ++ [d])) else none
  | _, _ => none
theorem ty_own {X : Cx} {H : Hp} {ds : List D} {v : V} {fp : List Addr} (h : RO X.K H (.lst false ds) v fp) : tyV X.K "list" v H := ty_recv h rfl
theorem m_append : MO X "list" "list.append" mAppend := by
  refine ⟨_, mt_append, fun H x dx fx r ds ret e => ?_, fun H x dx fx vs ds fv ret dx' r rs nd e Q q => ?_⟩
  · unfold mAppend at e
    split at e
    · exact ty_own r
    · cases e
  · unfold mAppend at e
    split at e
    case h_2 => cases e
    split at e
    case isFalse => cases e
    rename_i es d0 hz
    cases e
    obtain ⟨a, xs, f, h1, h2, h3, h4⟩ := r.own
    obtain ⟨y, rfl, ry⟩ := rs.one
    subst h2
    refine ⟨a, xs, y, h1, rfl, h3, by rw [szL_eq, h4.length]; exact hz, ?_⟩
    have na : ∀ b ∈ f ++ fv, b ≠ a := fun b m e => by subst e; exact (List.nodup_cons.mp nd).1 m
    refine q .non _ [] (a :: (f ++ fv)) (upd_evo h3 List.mem_cons_self fun b m => m) (.inr ⟨rfl, a, _, f ++ fv, h1, rfl, upd_same, ?_⟩) ⟨rfl, rfl⟩ nd
    exact (ROs.mono (upd_imm h3) _ _ _ (fun b m => upd_ne (na b (List.mem_append_left _ m))) h4).snoc (RO.mono (upd_imm h3) _ _ _ (fun b m => upd_ne (na b (List.mem_append_right _ m))) ry)
def mExtend : D → List D → Option (D × D)
  | .lst false ds, [.lst false es] => if ds.length + es.length ≤ szL ∧ es.all isImm = true then some (.non, .lst false (ds ++ es)) else none
  | _, _ => none
theorem ROs.apps : ∀ {ds es : List D} {xs ys : List V} {f g : List Addr}, ROs K H ds xs f → ROs K H es ys g → ROs K H (ds ++ es) (xs ++ ys) (f ++ g)
  | [], _, _, _, _, _, h, r => by rw [h.1, h.2]; exact r
  | d0 :: ds, _, _, _, _, _, ⟨y, ys, f1, f2, h1, h2, h3, h4⟩, r => by
    rw [h1, h2]
    exact ⟨y, ys ++ _, f1, f2 ++ _, rfl, by rw [List.append_assoc], h3, h4.apps r⟩
theorem m_extend : MO X "list" "list.extend" mExtend := by
  refine ⟨_, mt_extend, fun H x dx fx r ds ret e => ?_, fun H x dx fx vs ds fv ret dx' r rs nd e Q q => ?_⟩
  · unfold mExtend at e
    split at e
    · exact ty_own r
    · cases e
  · unfold mExtend at e
    split at e
    case h_2 => cases e
    split at e
    case isFalse => cases e
    rename_i ds0 es hz
    cases e
    obtain ⟨a, xs, f, h1, h2, h3, h4⟩ := r.own
    obtain ⟨y, rfl, ry⟩ := rs.one
    obtain ⟨b, ys, g, h5, h6, h7, h8⟩ := ry.own
    obtain ⟨eg, ri⟩ := h8.imms hz.2
    subst h2 h6 eg
    refine ⟨a, b, xs, ys, h1, by rw [h5], h3, h7, by rw [szL_eq, h4.length, h8.length]; exact hz.1, ?_⟩
    have na : ∀ c ∈ f ++ [b], c ≠ a := fun c m e => by subst e; exact (List.nodup_cons.mp nd).1 m
    refine q .non _ [] (a :: f) (upd_evo h3 List.mem_cons_self fun c m => ?_) (.inr ⟨rfl, a, _, f ++ [], h1, by rw [List.append_nil], upd_same, ?_⟩) ⟨rfl, rfl⟩ ?_
    · rcases List.mem_cons.mp m with rfl | m
      · exact List.mem_cons_self
      · exact List.mem_append_left _ (List.mem_cons_of_mem _ m)
    · exact (ROs.mono (upd_imm h3) _ _ _ (fun c m => upd_ne (na c (List.mem_append_left _ m))) h4).apps (RIs.mono (upd_imm h3) _ _ ri).ros
    · exact (List.nodup_append.mp nd).1
/-- a list's item taken out by place -/
theorem ROs.eraseIdx : ∀ {ds : List D} {xs : List V} {f : List Addr} {k : Nat} {d : D}, ROs K H ds xs f → ds[k]? = some d → ∃ x f1 f2, xs[k]? = some x ∧ RO K H d x f1 ∧ ROs K H (ds.eraseIdx k) (xs.eraseIdx k) f2 ∧ (f1 ++ f2).Perm f
  | [], _, _, _, _, _, e => by simp at e
  | d0 :: ds, _, _, 0, d, ⟨y, ys, f1, f2, h1, h2, h3, h4⟩, e => by
    have e' : d0 = d := by simpa using e
    subst e'
    refine ⟨y, f1, f2, by rw [h1]; rfl, h3, ?_, by rw [h2]⟩
    rw [h1]; exact h4
  | d0 :: ds, _, _, k + 1, d, ⟨y, ys, f1, f2, h1, h2, h3, h4⟩, e => by
    obtain ⟨x, g1, g2, e1, r1, r2, p⟩ := h4.eraseIdx (k := k) (d := d) (by simpa using e)
    refine ⟨x, g1, f1 ++ g2, by rw [h1]; simpa using e1, r1, ?_, ?_⟩
    · rw [h1]
      exact ⟨y, ys.eraseIdx k, f1, g2, rfl, rfl, h3, r2⟩
    · rw [h2]
      have p1 : (g1 ++ (f1 ++ g2)).Perm (f1 ++ (g1 ++ g2)) := by
        rw [← List.append_assoc, ← List.append_assoc]
        exact List.perm_append_comm.append_right g2
      exact p1.trans (p.append_left f1)
theorem pop_core {Q : VK} {H : Hp} {a : Addr} {xs : List V} {es : List D} {x : V} {f : List Addr} {k : Nat} {d : D} (h1 : x = .ref a) (h3 : H a = some (.lst xs)) (h4 : ROs K H es xs f) (nd : (a :: f).Nodup) (hd : es[k]? = some d)
    (q : ∀ v H' fr f', Evo (a :: f) H (fr ++ f') H' → RO K H' (.lst false (es.eraseIdx k)) x f' → RO K H' d v fr → (fr ++ f').Nodup → Q v H') : ∃ y, xs[k]? = some y ∧ Q y (upd H a (.lst (xs.eraseIdx k))) := by
  obtain ⟨y, f1, f2, e1, r1, r2, p⟩ := h4.eraseIdx hd
  refine ⟨y, e1, ?_⟩
  have na : ∀ b ∈ f1 ++ f2, b ≠ a := fun b m e => by subst e; exact (List.nodup_cons.mp nd).1 (p.mem_iff.mp m)
  have np : (f1 ++ (a :: f2)).Nodup := by
    have p2 : (f1 ++ (a :: f2)).Perm (a :: f) := List.perm_middle.trans (p.cons a)
    exact p2.nodup_iff.mpr nd
  refine q y _ f1 (a :: f2) (upd_evo h3 List.mem_cons_self fun b m => ?_) (.inr ⟨rfl, a, _, f2, h1, rfl, upd_same, ROs.mono (upd_imm h3) _ _ _ (fun b m => upd_ne (na b (List.mem_append_right _ m))) r2⟩) (RO.mono (upd_imm h3) _ _ _ (fun b m => upd_ne (na b (List.mem_append_left _ m))) r1) np
  have p2 : (f1 ++ (a :: f2)).Perm (a :: f) := List.perm_middle.trans (p.cons a)
  exact p2.mem_iff.mp m
def mPop : D → List D → Option (D × D)
  | .lst false ds, [] => (ds[ds.length - 1]?).map fun d => (d, .lst false ds.dropLast)
  | .lst false ds, [.int i] => if -9223372036854775808 ≤ i ∧ i < 9223372036854775808 then (seqIndex? i ds.length).bind fun k => (ds[k]?).map fun d => (d, .lst false (ds.eraseIdx k)) else none
  | _, _ => none
theorem dropLast_erase {α : Type} (l : List α) : l.dropLast = l.eraseIdx (l.length - 1) := by
  rw [List.eraseIdx_length_sub_one]
theorem m_pop : MO X "list" "list.pop" mPop := by
  refine ⟨_, MtR.or mt_pop mt_popAt, fun H x dx fx r ds ret e => ?_, fun H x dx fx vs ds fv ret dx' r rs nd e Q q => ?_⟩
  · unfold mPop at e
    split at e
    · exact ty_own r
    · exact ty_own r
    · cases e
  · unfold mPop at e
    split at e
    · obtain ⟨d, e1, e2⟩ := Option.map_eq_some_iff.mp e
      obtain ⟨rfl, rfl⟩ := Prod.mk.inj e2
      obtain ⟨a, xs, f, h1, h2, h3, h4⟩ := r.own
      obtain ⟨rfl, rfl⟩ := rs
      subst h2
      rw [List.append_nil] at nd q
      rw [dropLast_erase] at q
      obtain ⟨y, e3, e4⟩ := pop_core h1 h3 h4 nd e1 q
      refine .inl ⟨a, xs, y, h1, rfl, h3, by rw [h4.length]; exact e3, ?_⟩
      rw [dropLast_erase, h4.length]
      exact e4
    · split at e
      case isFalse => cases e
      rename_i hz
      obtain ⟨k, e0, e⟩ := Option.bind_eq_some_iff.mp e
      obtain ⟨d, e1, e2⟩ := Option.map_eq_some_iff.mp e
      obtain ⟨rfl, rfl⟩ := Prod.mk.inj e2
      obtain ⟨a, xs, f, h1, h2, h3, h4⟩ := r.own
      obtain ⟨v, rfl, ev, rfl⟩ := rs.one
      subst h2 ev
      rw [List.append_nil] at nd q
      obtain ⟨y, e3, e4⟩ := pop_core h1 h3 h4 nd e1 q
      exact .inr ⟨a, xs, _, k, y, h1, rfl, h3, hz.1, hz.2, by rw [h4.length]; exact e0, e3, e4⟩
    · cases e
end
end DL

set_option maxHeartbeats 1000000
/-! DL, part j: defs and their calls -/
namespace DL
open PySem PyProof.Rows L2 C8
/-- what a def means: by its arguments, the result and what its parameters hold behind -/
abbrev FSm := List D → Option (D × List (Option D))
def Prom (K : PySem.W.Frag) (F : FSm) : Sp := fun vs H Q _ => ∃ ds fp r outs, ROs K H ds vs fp ∧ fp.Nodup ∧ F ds = some (r, outs) ∧
  ∀ v H' fr fo, Evo fp H (fr ++ fo) H' → RO K H' r v fr → SR K H' outs (vs.map some) fo → (fr ++ fo).Nodup → Q v H'
/-- a call's arguments: values of our own, or slots lent -/
abbrev CSm := Env → Option (List (D ⊕ Nat) × Env)
def CArg (K : PySem.W.Frag) (H : Hp) (σ : L2.St) : List (D ⊕ Nat) → List V → List Addr → Prop
  | [], vs, fp => vs = [] ∧ fp = []
  | .inl d :: r, vs, fp => ∃ x xs f f', vs = x :: xs ∧ fp = f ++ f' ∧ RO K H d x f ∧ CArg K H σ r xs f'
  | .inr i :: r, vs, fp => ∃ x xs, vs = x :: xs ∧ σ[i]? = some (some x) ∧ CArg K H σ r xs fp
def DC (X : Cx) (es : List Expr) (f : CSm) : Prop := ∃ t : TA, PA X es t ∧ ∀ (σ : L2.St) (H : Hp) (env env' : Env) (fp : List Addr) (xs : List (D ⊕ Nat)), SR X.K H env σ fp → fp.Nodup → f env = some (xs, env') →
  ∀ Q : List V → Hp → Prop, (∀ vs H' fr fp', Evo fp H (fr ++ fp') H' → SR X.K H' env' σ fp' → CArg X.K H' σ xs vs fr → (fr ++ fp').Nodup → Q vs H') → t σ H Q
def cNil : CSm := fun env => some ([], env)
def cVal (f : ESm) (r : CSm) : CSm := fun env => (f env).bind fun d => (r d.2).map fun p => (.inl d.1 :: p.1, p.2)
def cBor (i : Nat) (r : CSm) : CSm := fun env => match env[i]? with
  | some (some _) => (r env).map fun p => (.inr i :: p.1, p.2)
  | _ => none
section
variable {X : Cx} {K : PySem.W.Frag} {H H' : Hp} {σ : L2.St} {e : Expr} {es : List Expr}
theorem CArg.live : ∀ {xs : List (D ⊕ Nat)} {vs : List V} {fp : List Addr}, CArg K H σ xs vs fp → ∀ a ∈ fp, Live H a
  | [], _, _, h, a, m => by rw [h.2] at m; cases m
  | .inl d :: r, _, _, ⟨x, xs, f, f', _, e, h1, h2⟩, a, m => by
    rw [e] at m
    rcases List.mem_append.mp m with m | m
    · exact RO.live d x f h1 a m
    · exact h2.live a m
  | .inr i :: r, _, _, ⟨x, xs, _, _, h2⟩, a, m => h2.live a m
theorem CArg.mono (im : ImmExt H H') : ∀ {xs : List (D ⊕ Nat)} {vs : List V} {fp : List Addr}, (∀ a ∈ fp, H' a = H a) → CArg K H σ xs vs fp → CArg K H' σ xs vs fp
  | [], _, _, _, h => h
  | .inl d :: r, _, _, hs, ⟨x, xs, f, f', h0, e, h1, h2⟩ =>
    ⟨x, xs, f, f', h0, e, RO.mono im d x f (fun a m => hs a (by rw [e]; exact List.mem_append_left _ m)) h1, h2.mono im fun a m => hs a (by rw [e]; exact List.mem_append_right _ m)⟩
  | .inr i :: r, _, _, hs, ⟨x, xs, h0, h1, h2⟩ => ⟨x, xs, h0, h1, h2.mono im hs⟩
theorem dc_nil : DC X [] cNil := ⟨_, pa_nil, fun σ H env env' fp xs s nd hf Q q => by
  cases hf
  exact q [] H [] fp (Evo.refl fp H) s ⟨rfl, rfl⟩ nd⟩
theorem dc_val {f : ESm} {r : CSm} (he : DE X e f) (hr : DC X es r) (hs : starEach (e :: es) X.env = (false, eval e X.env) :: starEach es X.env := by rfl) : DC X (e :: es) (cVal f r) := by
  obtain ⟨te, pe, he⟩ := he
  obtain ⟨ta, pa, hr⟩ := hr
  refine ⟨_, pa_cons pe pa hs, fun σ H env env' fp xs s nd hf Q q => ?_⟩
  obtain ⟨⟨d, en⟩, e1, hf⟩ := Option.bind_eq_some_iff.mp hf
  obtain ⟨⟨ys, en2⟩, e2, e3⟩ := Option.map_eq_some_iff.mp hf
  cases e3
  refine he σ H env en fp d s nd e1 _ fun v H1 f1 fp1 v1 s1 r1 n1 => ?_
  refine hr σ H1 en _ fp1 ys s1 (List.nodup_append.mp n1).2.1 e2 _ fun vs H2 f2 fp2 v2 s2 r2 n2 => ?_
  obtain ⟨r12, v12, n12⟩ := two (env := env) (σ := σ) v1 r1 n1 v2 n2
  exact q (v :: vs) H2 (f1 ++ f2) fp2 v12 s2 ⟨v, vs, f1, f2, rfl, rfl, r12, r2⟩ n12
theorem dc_bor {i : Nat} {r : CSm} (he : PE X e (tVar i)) (hr : DC X es r) (hs : starEach (e :: es) X.env = (false, eval e X.env) :: starEach es X.env := by rfl) : DC X (e :: es) (cBor i r) := by
  obtain ⟨ta, pa, hr⟩ := hr
  refine ⟨_, pa_cons he pa hs, fun σ H env env' fp xs s nd hf Q q => ?_⟩
  unfold cBor at hf
  split at hf
  case h_2 => cases hf
  rename_i d hd
  obtain ⟨⟨ys, en2⟩, e2, e3⟩ := Option.map_eq_some_iff.mp hf
  cases e3
  obtain ⟨v, pre, f, post, e1, _⟩ := s.at hd
  refine ⟨v, e1, ?_⟩
  exact hr σ H env _ fp ys s nd e2 _ fun vs H2 f2 fp2 v2 s2 r2 n2 => q (v :: vs) H2 f2 fp2 v2 s2 ⟨v, vs, rfl, e1, r2⟩ n2
def takeB : List (D ⊕ Nat) → Env → Option (List D × Env)
  | [], env => some ([], env)
  | .inl d :: r, env => (takeB r env).map fun p => (d :: p.1, p.2)
  | .inr i :: r, env => match env[i]? with
    | some (some d) => (takeB r (if isImm d = true then env else env.set i none)).map fun p => (d :: p.1, p.2)
    | _ => none
def giveB : List (D ⊕ Nat) → List D → List (Option D) → Env → Env
  | [], _, _, env => env
  | .inl _ :: r, ds, os, env => giveB r ds.tail os.tail env
  | .inr i :: r, ds, os, env => giveB r ds.tail os.tail (match ds.head?, os.head? with
    | some d, some (some o) => if isImm d = true then env else if i < env.length then env.set i (some o) else env
    | _, _ => env)
theorem take_ok : ∀ {xs : List (D ⊕ Nat)} {env env2 : Env} {ds : List D} {vs : List V} {fr fp : List Addr}, SR K H env σ fp → CArg K H σ xs vs fr → (fr ++ fp).Nodup → takeB xs env = some (ds, env2) →
    ∃ fr2 fp2, ROs K H ds vs fr2 ∧ SR K H env2 σ fp2 ∧ (fr2 ++ fp2).Nodup ∧ ∀ a ∈ fr2 ++ fp2, a ∈ fr ++ fp
  | [], env, _, _, vs, fr, fp, s, c, nd, h => by
    cases h
    exact ⟨fr, fp, ⟨c.1, c.2⟩, s, nd, fun _ m => m⟩
  | .inl d :: r, env, _, _, _, _, fp, s, ⟨x, xs, f, f', h0, h1, h2, h3⟩, nd, h => by
    subst h0 h1
    obtain ⟨⟨ds, en⟩, e1, e2⟩ := Option.map_eq_some_iff.mp h
    cases e2
    rw [List.append_assoc] at nd
    have n1 := List.nodup_append.mp nd
    obtain ⟨g, fp2, k1, k2, k3, k4⟩ := take_ok s h3 n1.2.1 e1
    refine ⟨f ++ g, fp2, ⟨x, xs, f, g, rfl, rfl, h2, k1⟩, k2, ?_, fun a m => ?_⟩
    · rw [List.append_assoc]
      exact List.nodup_append.mpr ⟨n1.1, k3, fun a m b m' => n1.2.2 a m b (k4 b m')⟩
    · rw [List.append_assoc] at m ⊢
      exact (List.mem_append.mp m).elim (List.mem_append_left _) fun m => List.mem_append_right _ (k4 a m)
  | .inr i :: r, env, _, _, _, fr, fp, s, ⟨x, xs, h0, h1, h2⟩, nd, h => by
    subst h0
    unfold takeB at h
    split at h
    case h_2 => cases h
    rename_i d hd
    obtain ⟨⟨ds, en⟩, e1, e2⟩ := Option.map_eq_some_iff.mp h
    cases e2
    obtain ⟨v, pre, f, post, z1, z2, r0, _, p⟩ := s.at hd
    rw [h1] at z1; cases z1
    by_cases hi : isImm d = true
    · obtain ⟨z, r'⟩ := r0.imm hi
      rw [if_pos hi] at e1
      obtain ⟨g, fp2, k1, k2, k3, k4⟩ := take_ok s h2 nd e1
      exact ⟨g, fp2, ⟨x, xs, [], g, rfl, rfl, r'.ro, k1⟩, k2, k3, k4⟩
    · rw [if_neg hi] at e1
      have s' : SR K H (env.set i none) σ (pre ++ post) := by
        have z := p H (some x) (ImmExt.refl H) fun _ _ => rfl
        have e3 : σ.set i (some x) = σ := by
          obtain ⟨q1, q2⟩ := List.getElem?_eq_some_iff.mp h1
          rw [← q2, List.set_getElem_self]
        rw [e3] at z
        exact z
      have pm : (fr ++ fp).Perm (f ++ (fr ++ (pre ++ post))) := by
        have p1 : (fr ++ (pre ++ (f ++ post))).Perm (fr ++ (f ++ (pre ++ post))) := by
          refine List.Perm.append_left fr ?_
          rw [← List.append_assoc, ← List.append_assoc]
          exact List.perm_append_comm.append_right post
        have p2 : (fr ++ (f ++ (pre ++ post))).Perm (f ++ (fr ++ (pre ++ post))) := by
          rw [← List.append_assoc fr, ← List.append_assoc f]
          exact List.perm_append_comm.append_right _
        rw [z2]
        exact p1.trans p2
      have nd' := pm.nodup_iff.mp nd
      have n1 := List.nodup_append.mp nd'
      obtain ⟨g, fp2, k1, k2, k3, k4⟩ := take_ok s' h2 n1.2.1 e1
      refine ⟨f ++ g, fp2, ⟨x, xs, f, g, rfl, rfl, r0, k1⟩, k2, ?_, fun a m => pm.mem_iff.mpr ?_⟩
      · rw [List.append_assoc]
        exact List.nodup_append.mpr ⟨n1.1, k3, fun a m b m' => n1.2.2 a m b (k4 b m')⟩
      · rw [List.append_assoc] at m
        exact (List.mem_append.mp m).elim (List.mem_append_left _) fun m => List.mem_append_right _ (k4 a m)
theorem set_back {i : Nat} {x : V} (h : σ[i]? = some (some x)) : σ.set i (some x) = σ := by
  obtain ⟨q1, q2⟩ := List.getElem?_eq_some_iff.mp h
  rw [← q2, List.set_getElem_self]
/-- where the lent slots' values stand -/
def CPos (σ : L2.St) : List (D ⊕ Nat) → List V → Prop
  | [], vs => vs = []
  | .inl _ :: r, vs => ∃ x xs, vs = x :: xs ∧ CPos σ r xs
  | .inr i :: r, vs => ∃ x xs, vs = x :: xs ∧ σ[i]? = some (some x) ∧ CPos σ r xs
theorem CArg.pos : ∀ {xs : List (D ⊕ Nat)} {vs : List V} {fp : List Addr}, CArg K H σ xs vs fp → CPos σ xs vs
  | [], _, _, h => h.1
  | .inl d :: r, _, _, ⟨x, xs, f, f', h0, e, h1, h2⟩ => ⟨x, xs, h0, h2.pos⟩
  | .inr i :: r, _, _, ⟨x, xs, h0, h1, h2⟩ => ⟨x, xs, h0, h1, h2.pos⟩
theorem SR.tail {o : Option D} {os : List (Option D)} {x : V} {vs : List V} {fo : List Addr} (h : SR K H (o :: os) ((x :: vs).map some) fo) :
    ∃ f f', fo = f ++ f' ∧ (∀ d, o = some d → RO K H d x f) ∧ SR K H os (vs.map some) f' := by
  cases o with
  | none =>
    obtain ⟨y, τ, h1, h2⟩ := h
    obtain ⟨rfl, rfl⟩ := List.cons.inj h1
    exact ⟨[], fo, rfl, fun _ z => (nomatch z), h2⟩
  | some d =>
    obtain ⟨v, τ, f, f', h1, h2, h3, h4⟩ := h
    obtain ⟨e, rfl⟩ := List.cons.inj h1
    cases e
    exact ⟨f, f', h2, fun d' z => by cases z; exact h3, h4⟩
theorem give_ok : ∀ {xs : List (D ⊕ Nat)} {ds : List D} {os : List (Option D)} {vs : List V} {env : Env} {fo fp : List Addr}, CPos σ xs vs → SR K H os (vs.map some) fo → SR K H env σ fp → (fo ++ fp).Nodup →
    ∃ fp', SR K H (giveB xs ds os env) σ fp' ∧ fp'.Nodup ∧ ∀ a ∈ fp', a ∈ fo ++ fp
  | [], _, _, _, env, fo, fp, _, _, s, nd => ⟨fp, s, (List.nodup_append.mp nd).2.1, fun a m => List.mem_append_right _ m⟩
  | .inl d0 :: r, ds, os, _, env, fo, fp, ⟨x, xs, h0, h1⟩, so, s, nd => by
    subst h0
    cases os with
    | nil => cases (so.1 : ((x :: xs).map some : L2.St) = [])
    | cons o os =>
      obtain ⟨f, f', e, _, s2⟩ := so.tail
      subst e
      rw [List.append_assoc] at nd
      obtain ⟨fp', k1, k2, k3⟩ := give_ok (ds := ds.tail) h1 s2 s (List.nodup_append.mp nd).2.1
      exact ⟨fp', k1, k2, fun a m => by rw [List.append_assoc]; exact List.mem_append_right _ (k3 a m)⟩
  | .inr i :: r, ds, os, _, env, fo, fp, ⟨x, xs, h0, hx, h1⟩, so, s, nd => by
    subst h0
    cases os with
    | nil => cases (so.1 : ((x :: xs).map some : L2.St) = [])
    | cons o os =>
      obtain ⟨f, f', e, ho, s2⟩ := so.tail
      subst e
      have nd0 := nd
      rw [List.append_assoc] at nd
      have n1 := List.nodup_append.mp nd
      have skip : ∃ fp', SR K H (giveB r ds.tail os env) σ fp' ∧ fp'.Nodup ∧ ∀ a ∈ fp', a ∈ (f ++ f') ++ fp := by
        obtain ⟨fp', k1, k2, k3⟩ := give_ok (ds := ds.tail) h1 s2 s n1.2.1
        exact ⟨fp', k1, k2, fun a m => by rw [List.append_assoc]; exact List.mem_append_right _ (k3 a m)⟩
      show ∃ fp', SR K H (giveB r ds.tail os (match ds.head?, some o with
        | some d, some (some o) => if isImm d = true then env else if i < env.length then env.set i (some o) else env
        | _, _ => env)) σ fp' ∧ _
      cases hd : ds.head? with
      | none => exact skip
      | some d =>
        cases o with
        | none => exact skip
        | some o =>
          show ∃ fp', SR K H (giveB r ds.tail os (if isImm d = true then env else if i < env.length then env.set i (some o) else env)) σ fp' ∧ _
          by_cases hi : isImm d = true
          · rw [if_pos hi]; exact skip
          · rw [if_neg hi]
            by_cases hl : i < env.length
            · rw [if_pos hl]
              have nf : (f ++ fp).Nodup := List.nodup_append.mpr ⟨n1.1, (List.nodup_append.mp n1.2.1).2.1, fun a m b m' => n1.2.2 a m b (List.mem_append_right _ m')⟩
              obtain ⟨fp1, q1, q2, q3⟩ := put_slot s (ho o rfl) nf hl
              rw [set_back hx] at q1
              have n2 : (f' ++ fp1).Nodup := by
                refine List.nodup_append.mpr ⟨(List.nodup_append.mp n1.2.1).1, q2, fun a m b m' z => ?_⟩
                subst z
                rcases List.mem_append.mp (q3 a m') with m2 | m2
                · exact n1.2.2 a m2 a (List.mem_append_left _ m) rfl
                · exact (List.nodup_append.mp n1.2.1).2.2 a m a m2 rfl
              obtain ⟨fp', k1, k2, k3⟩ := give_ok (ds := ds.tail) h1 s2 q1 n2
              refine ⟨fp', k1, k2, fun a m => ?_⟩
              rw [List.append_assoc]
              rcases List.mem_append.mp (k3 a m) with m | m
              · exact List.mem_append_right _ (List.mem_append_left _ m)
              · exact (List.mem_append.mp (q3 a m)).elim (List.mem_append_left _) fun m => List.mem_append_right _ (List.mem_append_right _ m)
            · rw [if_neg hl]; exact skip
/-- f(..) -/
def eDef (F : FSm) (c : CSm) : ESm := fun env => (c env).bind fun a => (takeB a.1 a.2).bind fun t => (F t.1).map fun r => (r.1, giveB a.1 t.1 r.2 t.2)
theorem takeB_len : ∀ {xs : List (D ⊕ Nat)} {env env2 : Env} {ds : List D}, takeB xs env = some (ds, env2) → ds.length = xs.length
  | [], _, _, _, h => by cases h; rfl
  | .inl d :: r, _, _, _, h => by
    obtain ⟨⟨ds, en⟩, e1, e2⟩ := Option.map_eq_some_iff.mp h
    cases e2
    simp [takeB_len e1]
  | .inr i :: r, _, _, _, h => by
    unfold takeB at h
    split at h
    case h_2 => cases h
    obtain ⟨⟨ds, en⟩, e1, e2⟩ := Option.map_eq_some_iff.mp h
    cases e2
    simp [takeB_len e1]
/-- the call's heart: from the promise -/
theorem call_core {F : FSm} {xs : List (D ⊕ Nat)} {env1 env2 : Env} {ds : List D} {r : D} {outs : List (Option D)} {vs : List V} {fp fr fp1 : List Addr} {H H1 : Hp} {Q : VK} {E : XK}
    (v1 : Evo fp H (fr ++ fp1) H1) (s1 : SR K H1 env1 σ fp1) (c1 : CArg K H1 σ xs vs fr) (n1 : (fr ++ fp1).Nodup) (ht : takeB xs env1 = some (ds, env2)) (hF : F ds = some (r, outs)) (q : EQ K σ H fp r (giveB xs ds outs env2) Q) : Prom K F vs H1 Q E := by
  obtain ⟨fr2, fp2, k1, k2, k3, k4⟩ := take_ok s1 c1 n1 ht
  have v2 : Evo fp H (fr2 ++ fp2) H1 := v1.sub k4
  have n2 := List.nodup_append.mp k3
  refine ⟨ds, fr2, r, outs, k1, n2.1, hF, fun v H2 fr3 fo v3 rr so n3 => ?_⟩
  have lv2 : ∀ a ∈ fp2, Live H1 a := k2.live
  have nf2 : ∀ a ∈ fp2, a ∉ fr2 := fun a m m' => n2.2.2 a m' a m rfl
  have s2 : SR K H2 env2 σ fp2 := k2.mono v3.imm (v3.stay lv2 nf2)
  have ap : ∀ a ∈ fp2, a ∉ fr3 ++ fo := v3.apart lv2 nf2
  have n4 := List.nodup_append.mp n3
  have nfo : (fo ++ fp2).Nodup := List.nodup_append.mpr ⟨n4.2.1, n2.2.1, fun a m b m' z => ap b m' (by rw [← z]; exact List.mem_append_right _ m)⟩
  obtain ⟨fp', g1, g2, g3⟩ := give_ok (ds := ds) c1.pos so s2 nfo
  have v4 : Evo (fp2 ++ fr2) H1 (fp2 ++ (fr3 ++ fo)) H2 := v3.side
  have v5 : Evo fp H (fp2 ++ (fr3 ++ fo)) H2 := (v2.sub fun a m => (List.mem_append.mp m).elim (List.mem_append_right _) (List.mem_append_left _)).trans v4
  refine q v H2 fr3 fp' (v5.sub fun a m => ?_) g1 rr ?_
  · rcases List.mem_append.mp m with m | m
    · exact List.mem_append_right _ (List.mem_append_left _ m)
    · exact (List.mem_append.mp (g3 a m)).elim (fun m => List.mem_append_right _ (List.mem_append_right _ m)) (List.mem_append_left _)
  · refine List.nodup_append.mpr ⟨n4.1, g2, fun a m b m' z => ?_⟩
    subst z
    rcases List.mem_append.mp (g3 a m') with m2 | m2
    · exact n4.2.2 a m a m2 rfl
    · exact ap a m2 (List.mem_append_left _ m)
theorem de_call {x : Str} {p pos : Pos} {k j : Nat} {F : FSm} {f : CSm} (c : Cal X.prog X.w X.K X.mg X.base k x (Prom X.K F) []) (hr : Room j X.A) (hk : k ≤ j) (hg : Gl X x) (ha : DC X (e :: es) f)
    (hdb : (x == ("__debug__" : Str)) = false := by decide) (he : starEach (e :: es) X.env = (false, eval e X.env) :: starEach es X.env := by rfl) (hpl : (backTo pos (starEach es X.env)).any (·.1) = false := by rfl) :
    DE X (.Call (.Name x p) (e :: es) [] pos) (eDef F f) := by
  obtain ⟨t, pa, ha⟩ := ha
  refine ⟨_, pe_c c hr hk hg pa hdb he hpl, fun σ H env env' fp d s nd hf Q q => ?_⟩
  obtain ⟨⟨xs, en1⟩, e1, hf⟩ := Option.bind_eq_some_iff.mp hf
  obtain ⟨⟨ds, en2⟩, e2, hf⟩ := Option.bind_eq_some_iff.mp hf
  obtain ⟨⟨r, outs⟩, e3, e4⟩ := Option.map_eq_some_iff.mp hf
  cases e4
  refine ha σ H env en1 fp xs s nd e1 _ fun vs H1 fr fp1 v1 s1 c1 n1 => ?_
  show Prom X.K F (vs ++ []) H1 Q C8.E0
  rw [List.append_nil]
  exact call_core v1 s1 c1 n1 e2 e3 q
end

/-! ### a def by its body -/
def outsOf : (Nat → Bool) → Nat → Env → List (Option D)
  | _, 0, _ => []
  | P, n + 1, [] => none :: outsOf (fun i => P (i + 1)) n []
  | P, n + 1, o :: r => (if P 0 = true then o else none) :: outsOf (fun i => P (i + 1)) n r
def fnF (P : Nat → Bool) (n m : Nat) (body : SSm) : FSm := fun ds => if ds.length = n then (body (ds.map some ++ List.replicate m none)).bind fun r => match r.1 with
    | .rt d => some (d, outsOf P n r.2)
    | .nx => some (.non, outsOf P n r.2)
    | _ => none
  else none
theorem fnF_len {P : Nat → Bool} {n m : Nat} {body : SSm} {ds : List D} {r : D × List (Option D)} (h : fnF P n m body ds = some r) : ds.length = n := by
  unfold fnF at h
  split at h
  · assumption
  · cases h
section
variable {K : PySem.W.Frag} {H : Hp}
theorem sr_nones : ∀ (m : Nat), SR K H (List.replicate m none) (List.replicate m none) []
  | 0 => ⟨rfl, rfl⟩
  | m + 1 => ⟨none, List.replicate m none, rfl, sr_nones m⟩
theorem sr_start {m : Nat} : ∀ {ds : List D} {vs : List V} {fp : List Addr}, ROs K H ds vs fp → SR K H (ds.map some ++ List.replicate m none) (vs.map some ++ List.replicate m none) fp
  | [], _, _, h => by rw [h.1, h.2]; exact sr_nones m
  | d :: ds, _, _, ⟨x, xs, f, f', h1, h2, h3, h4⟩ => by
    subst h1 h2
    exact ⟨x, _, f, f', rfl, rfl, h3, sr_start h4⟩
theorem outs_ok : ∀ {P : Nat → Bool} {vs : List V} {env : Env} {σ rest : L2.St} {fp : List Addr}, SR K H env σ fp → fp.Nodup → σ.length = (vs.map some ++ rest).length → (∀ i, P i = true → σ[i]? = (vs.map some ++ rest)[i]?) →
    ∃ fo, SR K H (outsOf P vs.length env) (vs.map some) fo ∧ fo.Nodup ∧ ∀ a ∈ fo, a ∈ fp
  | P, [], env, σ, rest, fp, s, nd, hl, hp => ⟨[], by unfold outsOf; exact ⟨rfl, rfl⟩, List.nodup_nil, fun _ m => (nomatch m)⟩
  | P, v :: vs, [], σ, rest, fp, s, nd, hl, hp => by rw [s.1] at hl; simp at hl
  | P, v :: vs, none :: env, _, rest, fp, ⟨y, τ, h1, h2⟩, nd, hl, hp => by
    subst h1
    obtain ⟨fo, k1, k2, k3⟩ := outs_ok (P := fun i => P (i + 1)) (vs := vs) (rest := rest) h2 nd (by simpa using hl) fun i hi => by simpa using hp (i + 1) hi
    refine ⟨fo, ?_, k2, k3⟩
    show SR K H ((if P 0 = true then none else none) :: outsOf (fun i => P (i + 1)) vs.length env) (some v :: vs.map some) fo
    rw [ite_self]
    exact ⟨some v, _, rfl, k1⟩
  | P, v :: vs, some d :: env, _, rest, _, ⟨y, τ, f, f', h1, h2, h3, h4⟩, nd, hl, hp => by
    subst h1 h2
    have n1 := List.nodup_append.mp nd
    obtain ⟨fo, k1, k2, k3⟩ := outs_ok (P := fun i => P (i + 1)) (vs := vs) (rest := rest) h4 n1.2.1 (by simpa using hl) fun i hi => by simpa using hp (i + 1) hi
    show ∃ fo, SR K H ((if P 0 = true then some d else none) :: outsOf (fun i => P (i + 1)) vs.length env) (some v :: vs.map some) fo ∧ _
    by_cases h0 : P 0 = true
    · rw [if_pos h0]
      have e := hp 0 h0
      simp at e
      subst e
      refine ⟨f ++ fo, ⟨y, _, f, fo, rfl, rfl, h3, k1⟩, List.nodup_append.mpr ⟨n1.1, k2, fun a m b m' => n1.2.2 a m b (k3 b m')⟩, fun a m => ?_⟩
      exact (List.mem_append.mp m).elim (List.mem_append_left _) fun m => List.mem_append_right _ (k3 a m)
    · rw [if_neg h0]
      exact ⟨fo, ⟨some v, _, rfl, k1⟩, k2, fun a m => List.mem_append_right _ (k3 a m)⟩
end
theorem takesN {X : Cx} : L2N.Takes X (fun _ _ _ _ => False) := fun _ _ x => by
  obtain ⟨_, _, _, _, _, _, _, _, _, _, _, _, _, _, _, _, z⟩ := x
  exact z.elim
theorem fnok_of {Pr : Program} {w : World} {K : PySem.W.Frag} {mg : Str → Option Value} {base : Heap} {x : Str} {st : Stmt} {f : Addr} {fd : FuncData} {N ps : List Str} {k m : Nat} {P : Nat → Bool} {body : SSm}
    (F : C8.Fun K x x st f fd) (S : FnScope N ps (fnScope st)) (hm : N.length - ps.length = m)
    (hb : ∀ (cdv : Value) (A : Around) (outer : List PySem.Env) (s : Shared) (H : Hp) (E : XK), Room k (A.deeper (envOfC x (fnScope st) s.heap.objs.size f cdv)) →
      DSs P (cxOf C8.CX0 Pr w K mg base N x (fnScope st) f cdv A outer s H E).nox (fnBody st) body) : FnOk Pr w K mg base C8.CX0 (k + 1) f fd ps (Prom K (fnF P ps.length m body)) := by
  have hlen : ∀ (vs : List V) (H : Hp) (Q : VK) (E : XK), Prom K (fnF P ps.length m body) vs H Q E → vs.length = ps.length := fun vs H Q E ⟨ds, fp, r, outs, h1, _, h2, _⟩ => by
    rw [h1.length, fnF_len h2]
  refine fn0 F S hlen fun cdv A outer s H vs Q E hr hsp => ⟨_, hb cdv A outer s H E hr (fun _ _ _ _ => False) takesN, ?_⟩
  have hl := hlen vs H Q E hsp
  obtain ⟨ds, fp, r, outs, h1, nd, h2, q⟩ := hsp
  unfold fnF at h2
  rw [if_pos (fnF_len (P := P) (m := m) (body := body) (r := (r, outs)) (by unfold fnF; exact h2))] at h2
  obtain ⟨⟨o, env'⟩, e1, e2⟩ := Option.bind_eq_some_iff.mp h2
  have sr : SR K H (ds.map some ++ List.replicate m none) (L2.start N vs) fp := by
    unfold L2.start
    rw [hl, hm]
    exact sr_start h1
  have fin : ∀ {σ' : L2.St} {H' : Hp} {fp' : List Addr}, SR K H' env' σ' fp' → fp'.Nodup → Pin P (L2.start N vs) σ' → ∃ fo, SR K H' (outsOf P ps.length env') (vs.map some) fo ∧ fo.Nodup ∧ ∀ a ∈ fo, a ∈ fp' := fun {σ' H' fp'} s n p => by
    have z := outs_ok (P := P) (vs := vs) (rest := List.replicate (N.length - vs.length) none) s n p.1 fun i hi => p.2 i hi
    rw [hl] at z
    exact z
  refine ⟨_, env', fp, o, sr, nd, e1, ?_⟩
  cases o with
  | bk => cases e2
  | ct => cases e2
  | xc _ _ _ => cases e2
  | nx =>
    cases e2
    intro σ' H' fp' ev s' n' p'
    obtain ⟨fo, k1, k2, k3⟩ := fin s' n' p'
    exact q .non H' [] fo (ev.sub k3) ⟨rfl, rfl⟩ k1 k2
  | rt d =>
    cases e2
    intro v σ' H' fr fp' ev s' rr n' p'
    have n1 := List.nodup_append.mp n'
    obtain ⟨fo, k1, k2, k3⟩ := fin s' n1.2.1 p'
    exact q v H' fr fo (ev.sub fun a m => (List.mem_append.mp m).elim (List.mem_append_left _) fun m => List.mem_append_right _ (k3 a m)) rr k1 (List.nodup_append.mpr ⟨n1.1, k2, fun a m b m' => n1.2.2 a m b (k3 b m')⟩)
theorem cal_of {Pr : Program} {w : World} {K : PySem.W.Frag} {mg : Str → Option Value} {base : Heap} {x : Str} {st : Stmt} {f : Addr} {fd : FuncData} {N ps : List Str} {k m : Nat} {P : Nat → Bool} {body : SSm}
    (F : Def K mg x st f fd) (b : Binds K fd ps []) (S : FnScope N ps (fnScope st)) (hm : N.length - ps.length = m)
    (hb : ∀ (cdv : Value) (A : Around) (outer : List PySem.Env) (s : Shared) (H : Hp) (E : XK), Room k (A.deeper (envOfC x (fnScope st) s.heap.objs.size f cdv)) →
      DSs P (cxOf C8.CX0 Pr w K mg base N x (fnScope st) f cdv A outer s H E).nox (fnBody st) body) : Cal Pr w K mg base (k + 1) x (Prom K (fnF P ps.length m body)) [] :=
  ⟨f, fd, ps, [], fnok_of F.fn S hm hb, F.mgf, F.kp, b, .nil⟩
end DL

set_option maxHeartbeats 1000000
/-! DL, part k: places within places; stores -/
namespace DL
open PySem L2

/-! ### more operations -/
def dMu : D → D → Option D
  | .int i, .int j => if bitsI i + bitsI j ≤ 134217728 then some (.int (i * j)) else none
  | .lst false ds, .int k => if (-9223372036854775808 ≤ k ∧ k < 9223372036854775808) ∧ ds.length * k.toNat ≤ szL ∧ ds.all isImm = true then some (.lst false (List.replicate k.toNat ds).flatten) else none
  | _, _ => none
section
variable {X : Cx}
theorem o_mul : O2 true X (binaryOp .Mult) dMu := by
  refine ⟨_, op_mulX.or op_rep, fun H x y dx dy d fx fy hx hy hg Q q => ?_⟩
  unfold dMu at hg
  split at hg
  · split at hg
    · rename_i h
      cases hg
      refine .inl ⟨_, _, hx.2, hy.2, ?_, q.int⟩
      show (bitsI _ : Int) + (bitsI _ : Int) ≤ 134217728
      omega
    · cases hg
  · split at hg
    · rename_i h
      cases hg
      obtain ⟨a, xs, f, h1, _, h3, h4⟩ := hx.own
      refine .inr ⟨a, _, xs, h1, hy.2, h3, h.1.1, h.1.2, by rw [szL_eq, h4.length]; exact h.2.1, fun p hp => q.lst ((h4.ris h.2.2).rep _) hp⟩
    · cases hg
  · cases hg
def dLtX : D → D → Option D
  | .tup ds, .tup es => (intsD ds).bind fun ns => (intsD es).map fun ms => .bl (HT.lexLt ns ms)
  | a, b => dLt a b
theorem RIs.ints {K : PySem.W.Frag} {H : Hp} {ns : List Int} {xs : List V} (h : RIs K H (ns.map D.int) xs) : xs = ns.map V.int := by
  induction ns generalizing xs with
  | nil => exact h
  | cons n r ih =>
    obtain ⟨x, ys, h1, h2, h3⟩ := h
    rw [h1, ih h3, show x = V.int n from h2]; rfl
theorem o_ltX (hu : X.A.units < cLine) : O2 true X (compareOp .Lt) dLtX := by
  obtain ⟨r, hr, ho⟩ := o_lt (X := X)
  refine ⟨_, hr.or (op_ltT hu), fun H x y dx dy d fx fy hx hy hg Q q => ?_⟩
  unfold dLtX at hg
  split at hg
  · obtain ⟨ns, e1, hg⟩ := Option.bind_eq_some_iff.mp hg
    obtain ⟨ms, e2, e3⟩ := Option.map_eq_some_iff.mp hg
    cases e3
    obtain ⟨_, a, xs, h1, h2, h3⟩ := hx
    obtain ⟨_, b, ys, h4, h5, h6⟩ := hy
    rw [intsD_all e1] at h3
    rw [intsD_all e2] at h6
    rw [h3.ints] at h2
    rw [h6.ints] at h5
    exact .inr ⟨a, b, ns, ms, h1, h4, SqT.of h2, SqT.of h5, q.bl⟩
  · exact .inl (ho H x y dx dy d fx fy hx hy hg Q q)
end

/-! ### a place: what stands there, and the environment if other data stood there -/
def Foc (K : PySem.W.Frag) (H : Hp) (σ : L2.St) (fp : List Addr) (d : D) (v : V) (put : D → Env) : Prop := ∃ pre f post, fp = pre ++ (f ++ post) ∧ RO K H d v f ∧
  ∀ (H' : Hp) (d' : D) (f' : List Addr), ImmExt H H' → (∀ a, a ∈ pre ∨ a ∈ post → H' a = H a) → RO K H' d' v f' → SR K H' (put d') σ (pre ++ (f' ++ post))
abbrev PlSm := Env → Option (D × (D → Env))
def DPl (X : Cx) (e : Expr) (f : PlSm) : Prop := ∃ t : TE, PE X e t ∧ ∀ (σ : L2.St) (H : Hp) (env : Env) (fp : List Addr) (d : D) (put : D → Env), SR X.K H env σ fp → fp.Nodup → f env = some (d, put) → ∀ Q : VK, (∀ v H', Same H H' → Foc X.K H' σ fp d v put → Q v H') → t σ H Q
section
variable {K : PySem.W.Frag} {H H1 : Hp} {σ : L2.St} {env : Env} {fp : List Addr} {d : D} {v : V} {put : D → Env}
theorem Foc.live_sides (s : SR K H env σ fp) {pre f post : List Addr} (e : fp = pre ++ (f ++ post)) : ∀ a, a ∈ pre ∨ a ∈ post → Live H a := fun a m => s.live a (by
  rw [e]
  exact m.elim (List.mem_append_left _) fun m => List.mem_append_right _ (List.mem_append_right _ m))
theorem Foc.same (h : Foc K H σ fp d v put) (s : SR K H env σ fp) (e : Same H H1) : Foc K H1 σ fp d v put := by
  obtain ⟨pre, f, post, h1, h2, h3⟩ := h
  have lv := Foc.live_sides s h1
  refine ⟨pre, f, post, h1, h2.same e, fun H' d' f' im st r => h3 H' d' f' ((ImmExt.of_same e).trans im) (fun a m => ?_) r⟩
  obtain ⟨o, ho, _⟩ := lv a m
  rw [st a m, e a o ho, ho]
theorem Foc.slot {i : Nat} (s : SR K H env σ fp) (h : env[i]? = some (some d)) : ∃ v, σ[i]? = some (some v) ∧ Foc K H σ fp d v fun d' => env.set i (some d') := by
  obtain ⟨v, pre, f, post, e1, e2, r, p, _⟩ := s.at h
  refine ⟨v, e1, pre, f, post, e2, r, fun H' d' f' im st r' => ?_⟩
  have z := p H' d' v f' im st r'
  rw [set_back e1] at z
  exact z
/-- one item of several, in focus -/
theorem ROs.focus : ∀ {ds : List D} {xs : List V} {f : List Addr} {j : Nat} {d : D}, ROs K H ds xs f → ds[j]? = some d → ∃ x f1 g f2, xs[j]? = some x ∧ f = f1 ++ (g ++ f2) ∧ RO K H d x g ∧
    ∀ (H' : Hp) (d' : D) (g' : List Addr), ImmExt H H' → (∀ a, a ∈ f1 ∨ a ∈ f2 → H' a = H a) → RO K H' d' x g' → ROs K H' (ds.set j d') xs (f1 ++ (g' ++ f2))
  | [], _, _, _, _, _, e => by simp at e
  | d0 :: ds, _, _, 0, d, ⟨y, ys, f1, f2, h1, h2, h3, h4⟩, e => by
    have e' : d0 = d := by simpa using e
    subst e'
    refine ⟨y, [], f1, f2, by rw [h1]; rfl, h2, h3, fun H' d' g' im st r => ?_⟩
    rw [h1]
    exact ⟨y, ys, g', f2, rfl, rfl, r, ROs.mono im _ _ _ (fun a m => st a (.inr m)) h4⟩
  | d0 :: ds, _, _, j + 1, d, ⟨y, ys, f1, f2, h1, h2, h3, h4⟩, e => by
    obtain ⟨x, k1, g, k2, e1, e2, r, p⟩ := h4.focus (j := j) (d := d) (by simpa using e)
    refine ⟨x, f1 ++ k1, g, k2, by rw [h1]; simpa using e1, by rw [h2, e2, List.append_assoc], r, fun H' d' g' im st r' => ?_⟩
    rw [h1]
    exact ⟨y, ys, f1, k1 ++ (g' ++ k2), rfl, by rw [List.append_assoc], RO.mono im _ _ _ (fun a m => st a (.inl (List.mem_append_left _ m))) h3, p H' d' g' im (fun a m => st a (m.imp (List.mem_append_right _) id)) r'⟩
theorem Foc.lst {ds : List D} {j : Nat} {d : D} (h : Foc K H σ fp (.lst false ds) v put) (s : SR K H env σ fp) (e : ds[j]? = some d) : ∃ a xs x, v = .ref a ∧ H a = some (.lst xs) ∧ xs.length = ds.length ∧ xs[j]? = some x ∧
    Foc K H σ fp d x fun d' => put (.lst false (ds.set j d')) := by
  obtain ⟨pre, f, post, h1, h2, h3⟩ := h
  obtain ⟨a, xs, g, k1, k2, k3, k4⟩ := h2.own
  obtain ⟨x, g1, g0, g2, e1, e2, r, p⟩ := k4.focus e
  refine ⟨a, xs, x, k1, k3, k4.length, e1, pre ++ (a :: g1), g0, g2 ++ post, ?_, r, fun H' d' f' im st r' => ?_⟩
  · rw [h1, k2, e2]; simp
  · have ha : H' a = some (.lst xs) := by rw [st a (.inl (List.mem_append_right _ List.mem_cons_self)), k3]
    have z := h3 H' (.lst false (ds.set j d')) (a :: (g1 ++ (f' ++ g2))) im (fun b m => st b (m.imp (List.mem_append_left _) (List.mem_append_right _)))
      (.inr ⟨rfl, a, xs, _, k1, rfl, ha, p H' d' f' im (fun b m => st b (m.imp (fun m => List.mem_append_right _ (List.mem_cons_of_mem _ m)) (List.mem_append_left _))) r'⟩)
    have e9 : pre ++ (a :: g1) ++ (f' ++ (g2 ++ post)) = pre ++ (a :: (g1 ++ (f' ++ g2)) ++ post) := by simp
    rw [e9]; exact z
end
def plVar (i : Nat) : PlSm := fun env => match env[i]? with
  | some (some d) => some (d, fun d' => env.set i (some d'))
  | _ => none
/-- where a key stands -/
def posZ {κ : Type} [DecidableEq κ] : List κ → κ → Option Nat
  | [], _ => none
  | k :: ks, j => if k = j then some 0 else (posZ ks j).map (· + 1)
theorem posZ_get {κ α : Type} [DecidableEq κ] : ∀ {ks : List κ} {xs : List α} {j : κ} {i : Nat}, posZ ks j = some i → ks.length = xs.length → getZ ks xs j = xs[i]?
  | [], _, _, _, h, _ => by cases h
  | k :: ks, [], _, _, _, h => by cases h
  | k :: ks, x :: xs, j, i, h, hl => by
    unfold posZ at h
    unfold getZ
    by_cases e : k = j
    · rw [if_pos e] at h; cases h; rw [if_pos e]; rfl
    · rw [if_neg e] at h
      obtain ⟨i', h1, h2⟩ := Option.map_eq_some_iff.mp h
      rw [if_neg e, ← h2]
      exact posZ_get h1 (by simpa using hl)
def subP (d k : D) (put : D → Env) : Option (D × (D → Env)) := match d with
  | .lst false ds => match k with
    | .int i => (ixN ds.length i).bind fun j => (ds[j]?).map fun x => (x, fun d' => put (.lst false (ds.set j d')))
    | _ => none
  | .dcK false ks ds => (kD k).bind fun key => (posZ ks key).bind fun j => (ds[j]?).map fun x => (x, fun d' => put (.dcK false ks (ds.set j d')))
  | _ => none
theorem subP_inv {d k x : D} {put put' : D → Env} (h : subP d k put = some (x, put')) : (∃ ds i j, d = .lst false ds ∧ k = .int i ∧ ixN ds.length i = some j ∧ ds[j]? = some x ∧ put' = fun d' => put (.lst false (ds.set j d'))) ∨
    ∃ ks ds key j, d = .dcK false ks ds ∧ kD k = some key ∧ posZ ks key = some j ∧ ds[j]? = some x ∧ put' = fun d' => put (.dcK false ks (ds.set j d')) := by
  unfold subP at h
  split at h
  case h_3 => cases h
  · split at h
    case h_2 => cases h
    obtain ⟨j, e3, h⟩ := Option.bind_eq_some_iff.mp h
    obtain ⟨x, e4, e5⟩ := Option.map_eq_some_iff.mp h
    cases e5
    exact .inl ⟨_, _, j, rfl, rfl, e3, e4, rfl⟩
  · obtain ⟨key, e2, h⟩ := Option.bind_eq_some_iff.mp h
    obtain ⟨j, e3, h⟩ := Option.bind_eq_some_iff.mp h
    obtain ⟨x, e4, e5⟩ := Option.map_eq_some_iff.mp h
    cases e5
    exact .inr ⟨_, _, key, j, rfl, e2, e3, e4, rfl⟩
theorem Foc.dcK {K : PySem.W.Frag} {H : Hp} {σ : L2.St} {env : Env} {fp : List Addr} {v : V} {put : D → Env} {ks : List Key} {ds : List D} {j : Nat} {d : D} (h : Foc K H σ fp (.dcK false ks ds) v put) (s : SR K H env σ fp) (e : ds[j]? = some d) :
    ∃ a xs x, v = .ref a ∧ H a = some (.dK (ks.zip xs)) ∧ ks.length = xs.length ∧ xs[j]? = some x ∧ Foc K H σ fp d x fun d' => put (.dcK false ks (ds.set j d')) := by
  obtain ⟨pre, f, post, h1, h2, h3⟩ := h
  rcases h2 with ⟨z, _⟩ | ⟨_, a, xs, g, k1, k2, k3, k5, k4⟩
  · cases z
  obtain ⟨x, g1, g0, g2, e1, e2, r, p⟩ := k4.focus e
  refine ⟨a, xs, x, k1, k3, k5, e1, pre ++ (a :: g1), g0, g2 ++ post, ?_, r, fun H' d' f' im st r' => ?_⟩
  · rw [h1, k2, e2]; simp
  · have ha : H' a = some (.dK (ks.zip xs)) := by rw [st a (.inl (List.mem_append_right _ List.mem_cons_self)), k3]
    have z := h3 H' (.dcK false ks (ds.set j d')) (a :: (g1 ++ (f' ++ g2))) im (fun b m => st b (m.imp (List.mem_append_left _) (List.mem_append_right _)))
      (.inr ⟨rfl, a, xs, _, k1, rfl, ha, k5, p H' d' f' im (fun b m => st b (m.imp (fun m => List.mem_append_right _ (List.mem_cons_of_mem _ m)) (List.mem_append_left _))) r'⟩)
    have e9 : pre ++ (a :: g1) ++ (f' ++ (g2 ++ post)) = pre ++ (a :: (g1 ++ (f' ++ g2)) ++ post) := by simp
    rw [e9]; exact z
def plIx (p : PlSm) (idx : PSm) : PlSm := fun env => (p env).bind fun q => (idx env).bind fun k => subP q.1 k q.2
section
variable {X : Cx} {o e : Expr} {pos : Pos}
theorem dpl_var {i : Nat} (h : PE X e (tVar i)) : DPl X e (plVar i) := by
  refine ⟨_, h, fun σ H env fp d put s nd hf Q q => ?_⟩
  unfold plVar at hf
  split at hf
  case h_2 => cases hf
  rename_i d0 hd
  obtain ⟨v, e1, f⟩ := Foc.slot s hd
  cases hf
  exact ⟨v, e1, q v H (Same.refl H) f⟩
theorem dpl_ix {p : PlSm} {idx : PSm} (hu : X.A.units + 1 < cLine) (ho : DPl X o p) (hi : DB false X e idx) (hs : PlainIx e) : DPl X (.Subscript o e pos) (plIx p idx) := by
  obtain ⟨to, po, ho⟩ := ho
  obtain ⟨ti, pi, hi⟩ := hi
  refine ⟨_, pe_ix ((ix_dc hu).or ix_list) po pi hs, fun σ H env fp d put s nd hf Q q => ?_⟩
  obtain ⟨⟨d0, put0⟩, e1, hf⟩ := Option.bind_eq_some_iff.mp hf
  obtain ⟨k, e2, hf⟩ := Option.bind_eq_some_iff.mp hf
  rcases subP_inv hf with ⟨ds, i, j, z1, z2, e3, e4, z3⟩ | ⟨ks, ds, key, j, z1, z2, e3, e4, z3⟩
  · simp only at z1
    subst z1 z2 z3
    refine ho σ H env fp _ put0 s nd e1 _ fun v H1 sm1 fc => ?_
    refine hi σ H1 env fp _ (s.same sm1) nd e2 _ fun w H2 fw sm2 rw _ => ?_
    obtain ⟨a, xs, y, k1, k2, k3, k4, k5⟩ := (fc.same (s.same sm1) sm2).lst ((s.same sm1).same sm2) e4
    refine .inr ⟨a, xs, i, y, k1, rw.2, .inl (.inl k2), ?_, q y H2 (sm1.trans sm2) k5⟩
    unfold L2.atI
    rw [k3, e3]
    exact k4
  · simp only at z1
    subst z1 z3
    refine ho σ H env fp _ put0 s nd e1 _ fun v H1 sm1 fc => ?_
    refine hi σ H1 env fp _ (s.same sm1) nd e2 _ fun w H2 fw sm2 rw _ => ?_
    obtain ⟨a, xs, y, k1, k2, k3, k4, k5⟩ := (fc.same (s.same sm1) sm2).dcK ((s.same sm1).same sm2) e4
    refine .inl ⟨a, y, k1, .inl ⟨_, key, .inl k2, rw.kD z2, ?_⟩, q y H2 (sm1.trans sm2) k5⟩
    rw [getZ_val, posZ_get e3 k3, k4]
end

/-! ### a method on a place -/
section
variable {P : Nat → Bool} {X : Cx} {o e : Expr} {es : List Expr} {name : Str} {apos cpos : Pos} {T id : String} {m : D → List D → Option (D × D)}
def eMetP (p : PlSm) (T : String) (m : D → List D → Option (D × D)) (f : APm) : ESm := fun env => (p env).bind fun q => if okRecv T q.1 = true then (f env).bind fun ds => (m q.1 ds).map fun r => (r.1, q.2 r.2) else none
theorem foc_meth {K : PySem.W.Frag} {r : V → List V → Hp → VK → Prop} {σ : L2.St} {H : Hp} {env : Env} {put : D → Env} {fp fr : List Addr} {d d' ret : D} {ds : List D} {vs : List V} {x : V} {Q : VK}
    (ho : ∀ (H : Hp) (x : V) (dx : D) (fx : List Addr) (vs : List V) (ds : List D) (fv : List Addr) (ret dx' : D), RO K H dx x fx → ROs K H ds vs fv → (fx ++ fv).Nodup → m dx ds = some (ret, dx') → ∀ Q : VK,
      (∀ v H' fr f', Evo (fx ++ fv) H (fr ++ f') H' → RO K H' dx' x f' → RO K H' ret v fr → (fr ++ f').Nodup → Q v H') → r x vs H Q)
    (fc : Foc K H σ fp d x put) (s : SR K H env σ fp) (rs : ROs K H ds vs fr) (nd : (fr ++ fp).Nodup) (hm : m d ds = some (ret, d'))
    (q : ∀ v H' f1 f2, Evo (fr ++ fp) H (f1 ++ f2) H' → SR K H' (put d') σ f2 → RO K H' ret v f1 → (f1 ++ f2).Nodup → Q v H') : r x vs H Q := by
  obtain ⟨pre, f, post, e2, r0, p⟩ := fc
  have n0 := List.nodup_append.mp nd
  have n1 := List.nodup_append.mp (e2 ▸ n0.2.1)
  have n2 := List.nodup_append.mp n1.2.1
  have inF : ∀ a ∈ f, a ∈ fp := fun a m => by rw [e2]; exact List.mem_append_right _ (List.mem_append_left _ m)
  have inP : ∀ a, a ∈ pre ∨ a ∈ post → a ∈ fp := fun a m => by
    rw [e2]
    exact m.elim (List.mem_append_left _) fun m => List.mem_append_right _ (List.mem_append_right _ m)
  have nP : ∀ a, a ∈ pre ∨ a ∈ post → a ∉ f ++ fr := fun a m m' => by
    rcases List.mem_append.mp m' with m' | m'
    · exact m.elim (fun m => n1.2.2 a m a (List.mem_append_left _ m') rfl) fun m => n2.2.2 a m' a m rfl
    · exact n0.2.2 a m' a (inP a m) rfl
  refine ho H x d f vs ds fr ret d' r0 rs (List.nodup_append.mpr ⟨n2.1, n0.1, fun a ma b mb z => n0.2.2 b mb a (inF a ma) z.symm⟩) hm Q fun v H' f1 f2 ev ro rr nn => ?_
  have lvP : ∀ a, a ∈ pre ∨ a ∈ post → Live H a := fun a m => s.live a (inP a m)
  have st : ∀ a, a ∈ pre ∨ a ∈ post → H' a = H a := fun a m => by
    obtain ⟨ob, h, _⟩ := lvP a m
    rw [h]; exact ev.keep a ob h (nP a m)
  have ap : ∀ a, a ∈ pre ∨ a ∈ post → a ∉ f1 ++ f2 := fun a m m' => by
    rcases ev.own a m' with z | z
    · exact nP a m z
    · obtain ⟨ob, h, _⟩ := lvP a m
      rw [h] at z; cases z
  have z := p H' d' f2 ev.imm st ro
  have nn' := List.nodup_append.mp nn
  refine q v H' f1 (pre ++ (f2 ++ post)) ⟨fun a ob h n => ev.keep a ob h fun m => n ?_, fun a m => ?_, ev.imm⟩ z rr ?_
  · rcases List.mem_append.mp m with m | m
    · exact List.mem_append_right _ (inF a m)
    · exact List.mem_append_left _ m
  · have back : a ∈ f1 ++ f2 → a ∈ fr ++ fp ∨ H a = none := fun m => (ev.own a m).imp (fun m => (List.mem_append.mp m).elim (fun m => List.mem_append_right _ (inF a m)) (List.mem_append_left _)) id
    rcases List.mem_append.mp m with m | m
    · exact back (List.mem_append_left _ m)
    · rcases List.mem_append.mp m with m | m
      · exact .inl (List.mem_append_right _ (inP a (.inl m)))
      · rcases List.mem_append.mp m with m | m
        · exact back (List.mem_append_right _ m)
        · exact .inl (List.mem_append_right _ (inP a (.inr m)))
  · refine List.nodup_append.mpr ⟨nn'.1, List.nodup_append.mpr ⟨n1.1, List.nodup_append.mpr ⟨nn'.2.1, n2.2.1, fun a m b m' z => ap b (.inr m') (by rw [← z]; exact List.mem_append_right _ m)⟩, fun a m b m' z => ?_⟩, fun a m b m' z => ?_⟩
    · subst z
      rcases List.mem_append.mp m' with m' | m'
      · exact ap a (.inl m) (List.mem_append_right _ m')
      · exact n1.2.2 a m a (List.mem_append_right _ m') rfl
    · subst z
      rcases List.mem_append.mp m' with m' | m'
      · exact ap a (.inl m') (List.mem_append_left _ m)
      · rcases List.mem_append.mp m' with m' | m'
        · exact nn'.2.2 a m a m' rfl
        · exact ap a (.inr m') (List.mem_append_left _ m)
theorem de_metP {p : PlSm} {f : APm} (pa : PlainAttrs T) (slot : Slot T name id) (hty : typeOf (.builtin id) = pure (.type "method_descriptor")) (hm : MO X T id m) (ho : DPl X o p) (ha : DAP true X (e :: es) f)
    (hbase : attributeBase o name X.env (eval o X.env) = eval o X.env := by rfl)
    (hfew : ((backTo cpos (starEach (e :: es) X.env)).all (fun x => !x.1) && (backToKw cpos (keywordEach [] X.env)).all (fun x => x.1.isSome) && decide ((e :: es).length + ([] : List Keyword).length + (if ([] : List Keyword).isEmpty then 0 else 1) < 30)) = true := by rfl)
    (hline : (apos.endLine == cpos.line) = true := by rfl) (hs : starEach (e :: es) X.env = (false, eval e X.env) :: starEach es X.env := by rfl) (hplain : (backTo cpos (starEach es X.env)).any (·.1) = false := by rfl) :
    DE X (.Call (.Attribute o name apos) (e :: es) [] cpos) (eMetP p T m f) := by
  obtain ⟨r, hr, _, hm⟩ := hm
  obtain ⟨to, po, ho⟩ := ho
  obtain ⟨ta, pa', ha⟩ := ha
  refine ⟨_, pe_bm pa slot hty hr po pa' hbase hfew hline hs hplain, fun σ H env env' fp d s nd hf Q q => ?_⟩
  obtain ⟨⟨d0, put⟩, e1, hf⟩ := Option.bind_eq_some_iff.mp hf
  simp only at hf
  split at hf
  case isFalse => cases hf
  rename_i hok
  obtain ⟨ds, e2, hf⟩ := Option.bind_eq_some_iff.mp hf
  obtain ⟨⟨ret, d2⟩, e3, e4⟩ := Option.map_eq_some_iff.mp hf
  cases e4
  refine ho σ H env fp d0 put s nd e1 _ fun v H1 sm1 fc => ?_
  have s1 := s.same sm1
  have fc' := fc
  obtain ⟨pre, f0, post, _, r0, _⟩ := fc'
  refine ⟨ty_recv r0 hok, ?_⟩
  refine ha σ H1 env fp ds s1 nd e2 _ fun vs H2 fr sm2 rs fo => ?_
  have fo := fo rfl
  refine foc_meth hm (fc.same s1 sm2) (s1.same sm2) rs (fresh_app s1 nd fo) e3 fun v' H' f1 f2 ev sr rr nn => ?_
  exact q v' H' f1 f2 (((Evo.of_same (fp := fp) (fr := []) sm1 fun a m => (nomatch m)).trans (.of_same sm2 fo.2)).trans ev) sr rr nn
theorem de_metP0 {p : PlSm} (pa : PlainAttrs T) (slot : Slot T name id) (hty : typeOf (.builtin id) = pure (.type "method_descriptor")) (hm : MO X T id m) (ho : DPl X o p)
    (hbase : attributeBase o name X.env (eval o X.env) = eval o X.env := by rfl) (hline : (apos.endLine == cpos.line) = true := by rfl) : DE X (.Call (.Attribute o name apos) [] [] cpos) (eMetP p T m fun _ => some []) := by
  obtain ⟨r, hr, _, hm⟩ := hm
  obtain ⟨to, po, ho⟩ := ho
  refine ⟨_, pe_bm0 pa slot hty hr po hbase hline, fun σ H env env' fp d s nd hf Q q => ?_⟩
  obtain ⟨⟨d0, put⟩, e1, hf⟩ := Option.bind_eq_some_iff.mp hf
  simp only at hf
  split at hf
  case isFalse => cases hf
  rename_i hok
  obtain ⟨ds, e2, hf⟩ := Option.bind_eq_some_iff.mp hf
  obtain ⟨⟨ret, d2⟩, e3, e4⟩ := Option.map_eq_some_iff.mp hf
  cases e4
  cases e2
  refine ho σ H env fp d0 put s nd e1 _ fun v H1 sm1 fc => ?_
  have s1 := s.same sm1
  have fc' := fc
  obtain ⟨pre, f0, post, _, r0, _⟩ := fc'
  refine ⟨ty_recv r0 hok, ?_⟩
  refine foc_meth (fr := []) hm fc s1 (show ROs X.K _ [] [] [] from ⟨rfl, rfl⟩) nd e3 fun v' H' f1 f2 ev sr rr nn => ?_
  exact q v' H' f1 f2 ((Evo.of_same (fp := fp) (fr := []) sm1 fun a m => (nomatch m)).trans ev) sr rr nn
end
end DL

set_option maxHeartbeats 1000000
/-! DL, part l: stores by place, methods of texts, sorted, op=, tables -/
namespace DL
open PySem L2

/-! ### a store -/
section
variable {κ α : Type} [DecidableEq κ]
def setZ : List κ → List α → κ → α → List α
  | k :: ks, d :: ds, j, v => (if k = j then v else d) :: setZ ks ds j v
  | _, ds, _, _ => ds
theorem setZ_len : ∀ (ks : List κ) (ds : List α) (j : κ) (v : α), (setZ ks ds j v).length = ds.length
  | [], ds, _, _ => by cases ds <;> rfl
  | k :: ks, [], _, _ => rfl
  | k :: ks, d :: ds, j, v => by simp [setZ, setZ_len ks ds j v]
theorem putK_some : ∀ (ks : List κ) (xs : List V) (j : κ) (v : V), (ks.zip xs).map (fun kv => if kv.1 = j then (kv.1, v) else kv) = ks.zip (setZ ks xs j v)
  | [], xs, _, _ => by simp
  | k :: ks, [], _, _ => by simp [setZ]
  | k :: ks, x :: xs, j, v => by
    have ih := putK_some ks xs j v
    by_cases e : k = j
    · simp [setZ, e, ih]
    · simp [setZ, e, ih]
theorem putK_old {ks : List κ} {xs : List V} {j : κ} {v : V} (h : (getZ ks xs j).isSome = true) : putK (ks.zip xs) j v = ks.zip (setZ ks xs j v) := by
  unfold putK
  rw [valV_any, getZ_val, if_pos h]
  exact putK_some ks xs j v
theorem putK_fresh {ks : List κ} {xs : List V} {j : κ} {v : V} (hl : ks.length = xs.length) (h : getZ ks xs j = none) : putK (ks.zip xs) j v = (ks ++ [j]).zip (xs ++ [v]) := by
  rw [putK_new v (by rw [getZ_val]; exact h), List.zip_append hl]; rfl
end
def dPut (a k d : D) : Option D := match a with
  | .lst false ds => match k with | .int i => (ixN ds.length i).map fun j => .lst false (ds.set j d) | _ => none
  | .dcK false ks ds => (kD k).bind fun j => if ks.length < szL then match getZ ks ds j with
    | none => some (.dcK false (ks ++ [j]) (ds ++ [d]))
    | some _ => if isImm d = true then some (.dcK false ks (setZ ks ds j d)) else none
    else none
  | .dcT false ks ds => (tD k).bind fun j => if ks.length < szL then match getZ ks ds j with
    | none => some (.dcT false (ks ++ [j]) (ds ++ [d]))
    | some _ => if isImm d = true then some (.dcT false ks (setZ ks ds j d)) else none
    else none
  | _ => none
section
variable {K : PySem.W.Frag} {H : Hp}
theorem ROs.setZ {κ : Type} [DecidableEq κ] {j : κ} {d : D} {x : V} (r : RI K H d x) : ∀ {ks : List κ} {ds : List D} {xs : List V} {f : List Addr}, ROs K H ds xs f → f.Nodup → ∃ f', ROs K H (DL.setZ ks ds j d) (DL.setZ ks xs j x) f' ∧ f'.Nodup ∧ ∀ a ∈ f', a ∈ f
  | [], ds, xs, f, h, nd => ⟨f, by cases ds <;> cases xs <;> exact h, nd, fun _ m => m⟩
  | k :: ks, [], xs, f, h, nd => by rw [h.1, h.2]; exact ⟨[], ⟨rfl, rfl⟩, List.nodup_nil, fun _ m => m⟩
  | k :: ks, d0 :: ds, _, _, ⟨y, ys, f1, f2, h1, h2, h3, h4⟩, nd => by
    subst h1 h2
    have n1 := List.nodup_append.mp nd
    obtain ⟨g, k1, k2, k3⟩ := h4.setZ r (ks := ks) (j := j) (d := d) (x := x) n1.2.1
    by_cases e : k = j
    · refine ⟨g, ?_, k2, fun a m => List.mem_append_right _ (k3 a m)⟩
      simp only [DL.setZ, if_pos e]
      exact ⟨x, _, [], g, rfl, rfl, r.ro, k1⟩
    · refine ⟨f1 ++ g, ?_, List.nodup_append.mpr ⟨n1.1, k2, fun a m b m' => n1.2.2 a m b (k3 b m')⟩, fun a m => (List.mem_append.mp m).elim (List.mem_append_left _) fun m => List.mem_append_right _ (k3 a m)⟩
      simp only [DL.setZ, if_neg e]
      exact ⟨y, _, f1, g, rfl, rfl, h3, k1⟩
theorem ROs.put : ∀ {ds : List D} {xs : List V} {f g : List Addr} {j : Nat} {d : D} {x : V}, ROs K H ds xs f → RO K H d x g → (f ++ g).Nodup → j < ds.length → ∃ f', ROs K H (ds.set j d) (xs.set j x) f' ∧ f'.Nodup ∧ ∀ a ∈ f', a ∈ f ++ g
  | [], _, _, _, _, _, _, _, _, _, e => absurd e (Nat.not_lt_zero _)
  | d0 :: ds, _, _, g, 0, d, x, ⟨y, ys, f1, f2, h1, h2, h3, h4⟩, r, nd, _ => by
    subst h1 h2
    have n1 := List.nodup_append.mp nd
    have n2 := List.nodup_append.mp n1.1
    refine ⟨g ++ f2, ⟨x, ys, g, f2, rfl, rfl, r, h4⟩, List.nodup_append.mpr ⟨n1.2.1, n2.2.1, fun a m b m' z => n1.2.2 b (List.mem_append_right _ m') a m z.symm⟩, fun a m => ?_⟩
    rcases List.mem_append.mp m with m | m
    · exact List.mem_append_right _ m
    · exact List.mem_append_left _ (List.mem_append_right _ m)
  | d0 :: ds, _, _, g, j + 1, d, x, ⟨y, ys, f1, f2, h1, h2, h3, h4⟩, r, nd, e => by
    subst h1 h2
    rw [List.append_assoc] at nd
    have n1 := List.nodup_append.mp nd
    obtain ⟨f', k1, k2, k3⟩ := h4.put r n1.2.1 (j := j) (by simpa using e)
    refine ⟨f1 ++ f', ⟨y, _, f1, f', rfl, rfl, h3, k1⟩, List.nodup_append.mpr ⟨n1.1, k2, fun a m b m' => n1.2.2 a m b (k3 b m')⟩, fun a m => ?_⟩
    rw [List.append_assoc]
    exact (List.mem_append.mp m).elim (List.mem_append_left _) fun m => List.mem_append_right _ (k3 a m)
/-- what is written over: the rest stays -/
theorem upd_im {a : Addr} {o o' : HO} (h : H a = some o) (hm : Mut (some o)) : ImmExt H (upd H a o') :=
  ⟨fun b xs hb => by rw [upd_ne (fun e => by rw [e, h] at hb; cases hb; exact hm)]; exact hb, fun b u w hb => by rw [upd_ne (fun e => by rw [e, h] at hb; cases hb; exact hm)]; exact hb, fun b w hb => by rw [upd_ne (fun e => by rw [e, h] at hb; cases hb; exact hm)]; exact hb⟩
theorem upd_ev {a : Addr} {o o' : HO} {fp fp' : List Addr} (h : H a = some o) (hm : Mut (some o)) (ha : a ∈ fp) (hs : ∀ b ∈ fp', b ∈ fp) : Evo fp H fp' (upd H a o') :=
  ⟨fun b u hb n => by rw [upd_ne (fun e => n (by rw [e]; exact ha))]; exact hb, fun b m => .inl (hs b m), upd_im h hm⟩
theorem put_core {da dk d da' : D} {v w x : V} {fa fk fx : List Addr} (ra : RO K H da v fa) (rk : RO K H dk w fk) (rd : RO K H d x fx) (nd : (fa ++ fx).Nodup) (h : dPut da dk d = some da') (Q : Hp → Prop)
    (q : ∀ H' fa', Evo (fa ++ fx) H fa' H' → RO K H' da' v fa' → fa'.Nodup → Q H') : rSetL v w x H Q ∨ rSetD v w x H Q := by
  unfold dPut at h
  split at h
  · split at h
    case h_2 => cases h
    obtain ⟨j, e1, e2⟩ := Option.map_eq_some_iff.mp h
    cases e2
    obtain ⟨a, xs, f, h1, h2, h3, h4⟩ := ra.own
    subst h2
    have hj := (ixN_seq e1).2.1
    obtain ⟨f', k1, k2, k3⟩ := h4.put rd (List.nodup_cons.mp nd).2 hj
    have na : a ∉ f' := fun m => (List.nodup_cons.mp nd).1 (k3 a m)
    refine .inl ⟨a, xs, _, j, h1, rk.2, h3, by rw [h4.length]; exact e1, ?_⟩
    refine q _ (a :: f') (upd_ev h3 trivial List.mem_cons_self fun b m => ?_) (.inr ⟨rfl, a, _, f', h1, rfl, upd_same, ROs.mono (upd_im h3 trivial) _ _ _ (fun b m => upd_ne (fun e => na (by rw [← e]; exact m))) k1⟩) (List.nodup_cons.mpr ⟨na, k2⟩)
    rcases List.mem_cons.mp m with rfl | m
    · exact List.mem_cons_self
    · exact List.mem_cons_of_mem _ (k3 b m)
  · obtain ⟨j, e1, h⟩ := Option.bind_eq_some_iff.mp h
    split at h
    case isFalse => cases h
    rename_i ks ds _ hz
    rcases ra with ⟨z, _⟩ | ⟨_, a, xs, f, h1, h2, h3, h5, h4⟩
    · cases z
    subst h2
    have hw := rk.kD e1
    have n1 := List.nodup_append.mp nd
    have l1 : (ks.zip xs).length < sizeLine := by rw [szL_eq, List.length_zip, ← h5, Nat.min_self]; exact hz
    split at h
    · rename_i eg
      cases h
      have eg' := h4.getZ_none eg
      have na : ∀ b ∈ f ++ fx, b ≠ a := fun b m e => by subst e; exact (List.nodup_cons.mp nd).1 m
      refine .inr ⟨a, _, h1, .inl ⟨_, j, h3, hw, l1, rfl⟩, ?_⟩
      rw [putK_fresh h5 eg']
      refine q _ (a :: (f ++ fx)) (upd_ev h3 trivial List.mem_cons_self fun b m => m) (.inr ⟨rfl, a, xs ++ [x], f ++ fx, h1, rfl, upd_same, by simp [h5], ?_⟩) nd
      exact (ROs.mono (upd_im h3 trivial) _ _ _ (fun b m => upd_ne (na b (List.mem_append_left _ m))) h4).snoc (RO.mono (upd_im h3 trivial) _ _ _ (fun b m => upd_ne (na b (List.mem_append_right _ m))) rd)
    · rename_i o eg
      split at h
      case isFalse => cases h
      rename_i hi
      cases h
      obtain ⟨y, g, ey, _⟩ := h4.getZ eg
      obtain ⟨zx, rx⟩ := rd.imm hi
      subst zx
      obtain ⟨f', k1, k2, k3⟩ := h4.setZ rx (ks := ks) (j := j) (List.nodup_cons.mp n1.1).2
      have na : ∀ b ∈ f', b ≠ a := fun b m e => by subst e; exact (List.nodup_cons.mp n1.1).1 (k3 b m)
      refine .inr ⟨a, _, h1, .inl ⟨_, j, h3, hw, l1, rfl⟩, ?_⟩
      rw [putK_old (by rw [ey]; rfl)]
      refine q _ (a :: f') (upd_ev h3 trivial List.mem_cons_self fun b m => ?_) (.inr ⟨rfl, a, _, f', h1, rfl, upd_same, by rw [setZ_len]; exact h5, ROs.mono (upd_im h3 trivial) _ _ _ (fun b m => upd_ne (na b m)) k1⟩) (List.nodup_cons.mpr ⟨fun m => na a m rfl, k2⟩)
      rcases List.mem_cons.mp m with rfl | m
      · exact List.mem_cons_self
      · exact List.mem_cons_of_mem _ (List.mem_append_left _ (k3 b m))
  · obtain ⟨j, e1, h⟩ := Option.bind_eq_some_iff.mp h
    split at h
    case isFalse => cases h
    rename_i ks ds _ hz
    rcases ra with ⟨z, _⟩ | ⟨_, a, xs, f, h1, h2, h3, h5, h4⟩
    · cases z
    subst h2
    obtain ⟨b0, hw, hb0⟩ := rk.tD e1
    have n1 := List.nodup_append.mp nd
    have l1 : (ks.zip xs).length < sizeLine := by rw [szL_eq, List.length_zip, ← h5, Nat.min_self]; exact hz
    split at h
    · rename_i eg
      cases h
      have eg' := h4.getZ_none eg
      have na : ∀ b ∈ f ++ fx, b ≠ a := fun b m e => by subst e; exact (List.nodup_cons.mp nd).1 m
      refine .inr ⟨a, _, h1, .inr ⟨_, j, b0, h3, hw, hb0, l1, rfl⟩, ?_⟩
      rw [putK_fresh h5 eg']
      refine q _ (a :: (f ++ fx)) (upd_ev h3 trivial List.mem_cons_self fun b m => m) (.inr ⟨rfl, a, xs ++ [x], f ++ fx, h1, rfl, upd_same, by simp [h5], ?_⟩) nd
      exact (ROs.mono (upd_im h3 trivial) _ _ _ (fun b m => upd_ne (na b (List.mem_append_left _ m))) h4).snoc (RO.mono (upd_im h3 trivial) _ _ _ (fun b m => upd_ne (na b (List.mem_append_right _ m))) rd)
    · rename_i o eg
      split at h
      case isFalse => cases h
      rename_i hi
      cases h
      obtain ⟨y, g, ey, _⟩ := h4.getZ eg
      obtain ⟨zx, rx⟩ := rd.imm hi
      subst zx
      obtain ⟨f', k1, k2, k3⟩ := h4.setZ rx (ks := ks) (j := j) (List.nodup_cons.mp n1.1).2
      have na : ∀ b ∈ f', b ≠ a := fun b m e => by subst e; exact (List.nodup_cons.mp n1.1).1 (k3 b m)
      refine .inr ⟨a, _, h1, .inr ⟨_, j, b0, h3, hw, hb0, l1, rfl⟩, ?_⟩
      rw [putK_old (by rw [ey]; rfl)]
      refine q _ (a :: f') (upd_ev h3 trivial List.mem_cons_self fun b m => ?_) (.inr ⟨rfl, a, _, f', h1, rfl, upd_same, by rw [setZ_len]; exact h5, ROs.mono (upd_im h3 trivial) _ _ _ (fun b m => upd_ne (na b m)) k1⟩) (List.nodup_cons.mpr ⟨fun m => na a m rfl, k2⟩)
      rcases List.mem_cons.mp m with rfl | m
      · exact List.mem_cons_self
      · exact List.mem_cons_of_mem _ (List.mem_append_left _ (k3 b m))
  · cases h
end
theorem PSet.or {X : Cx} {t t' : TSet} (h : PSet X t) (h' : PSet X t') : PSet X (fun o i v H Q => t o i v H Q ∨ t' o i v H Q) := fun pins s σ H o i v ov iv u Q I r1 r2 r3 z =>
  z.elim (h pins s σ H o i v ov iv u Q I r1 r2 r3) (h' pins s σ H o i v ov iv u Q I r1 r2 r3)
def gPut (p : PlSm) (idx : PSm) : GSm := fun d env => (p env).bind fun q => (idx env).bind fun k => (dPut q.1 k d).map q.2
section
variable {P : Nat → Bool} {X : Cx} {o e : Expr} {pos : Pos}
theorem dg_sub {p : PlSm} {idx : PSm} (hu : X.A.units + 1 < cLine) (ho : DPl X o p) (hi : DB false X e idx)
    (ha : ∀ v, assign (.Subscript o e pos) X.env v = (do
      let ov ← holding [v] (eval o X.env)
      let iv ← holding [v, ov] (eval e X.env)
      standAt pos
      holding [v, ov, iv] (setItem ov iv v)
      release [v, ov, iv] []) := by intro _; rfl) : DG P X (.Subscript o e pos) (gPut p idx) := by
  obtain ⟨to, po, ho⟩ := ho
  obtain ⟨ti, pi, hi⟩ := hi
  refine pg_of (pg_sub po pi (PSet.or set_list (set_dict hu)) ha) fun v σ H Q ⟨d, env, env', fp, fr, s, r, nd, hg, q⟩ => ?_
  obtain ⟨⟨d0, put⟩, e1, hg⟩ := Option.bind_eq_some_iff.mp hg
  obtain ⟨k, e2, hg⟩ := Option.bind_eq_some_iff.mp hg
  obtain ⟨d1, e3, e4⟩ := Option.map_eq_some_iff.mp hg
  subst e4
  have n0 := List.nodup_append.mp nd
  refine ho σ H env fp d0 put s n0.2.1 e1 _ fun va H1 sm1 fc => ?_
  refine hi σ H1 env fp k (s.same sm1) n0.2.1 e2 _ fun vk H2 fk sm2 rk _ => ?_
  have sm := sm1.trans sm2
  have s2 := s.same sm
  obtain ⟨pre, f, post, e5, r0, p⟩ := fc.same (s.same sm1) sm2
  have n1 := List.nodup_append.mp (e5 ▸ n0.2.1)
  have n2 := List.nodup_append.mp n1.2.1
  have inF : ∀ a ∈ f, a ∈ fp := fun a m => by rw [e5]; exact List.mem_append_right _ (List.mem_append_left _ m)
  have inP : ∀ a, a ∈ pre ∨ a ∈ post → a ∈ fp := fun a m => by
    rw [e5]
    exact m.elim (List.mem_append_left _) fun m => List.mem_append_right _ (List.mem_append_right _ m)
  refine put_core r0 rk (r.same sm) (List.nodup_append.mpr ⟨n2.1, n0.1, fun a ma b mb z => n0.2.2 b mb a (inF a ma) z.symm⟩) e3 _ fun H' fa ev ra nn => ?_
  have nP : ∀ a, a ∈ pre ∨ a ∈ post → a ∉ f ++ fr := fun a m m' => by
    rcases List.mem_append.mp m' with m' | m'
    · exact m.elim (fun m => n1.2.2 a m a (List.mem_append_left _ m') rfl) fun m => n2.2.2 a m' a m rfl
    · exact n0.2.2 a m' a (inP a m) rfl
  have lvP : ∀ a, a ∈ pre ∨ a ∈ post → Live H2 a := fun a m => s2.live a (inP a m)
  have st : ∀ a, a ∈ pre ∨ a ∈ post → H' a = H2 a := fun a m => by
    obtain ⟨ob, h, _⟩ := lvP a m
    rw [h]; exact ev.keep a ob h (nP a m)
  have ap : ∀ a, a ∈ pre ∨ a ∈ post → a ∉ fa := fun a m m' => by
    rcases ev.own a m' with z | z
    · exact nP a m z
    · obtain ⟨ob, h, _⟩ := lvP a m
      rw [h] at z; cases z
  have ev' : Evo (fr ++ fp) H2 (pre ++ (fa ++ post)) H' := ⟨fun a ob h n => ev.keep a ob h fun m => n ((List.mem_append.mp m).elim (fun m => List.mem_append_right _ (inF a m)) (List.mem_append_left _)), fun a m => by
    rcases List.mem_append.mp m with m | m
    · exact .inl (List.mem_append_right _ (inP a (.inl m)))
    · rcases List.mem_append.mp m with m | m
      · exact (ev.own a m).imp (fun m => (List.mem_append.mp m).elim (fun m => List.mem_append_right _ (inF a m)) (List.mem_append_left _)) id
      · exact .inl (List.mem_append_right _ (inP a (.inr m))), ev.imm⟩
  refine q σ H' _ ((Evo.of_same (fp := fr ++ fp) (fr := []) sm fun a m => (nomatch m)).trans ev') (p H' d1 fa ev.imm st ra) ?_ (Pin.refl σ)
  refine List.nodup_append.mpr ⟨n1.1, List.nodup_append.mpr ⟨nn, n2.2.1, fun a m b m' z => ap b (.inr m') (by rw [← z]; exact m)⟩, fun a m b m' z => ?_⟩
  subst z
  rcases List.mem_append.mp m' with m' | m'
  · exact ap a (.inl m) m'
  · exact n1.2.2 a m a (List.mem_append_right _ m') rfl
end
/-! ### name op= e -/
def sAug (i : Nat) (h : Int → Int → Int) (f : ESm) : SSm := fun env => (f env).bind fun r => match env[i]?, r.1 with
  | some (some (.int a)), .int b => if i < r.2.length then some (.nx, r.2.set i (some (.int (h a b)))) else none
  | _, _ => none
theorem ds_aug {P : Nat → Bool} {X : Cx} {e : Expr} {i : Nat} {x : Str} {op : Operator} {h : Int → Int → Int} {f : ESm} {pos pos' : Pos} (hN : X.N.Nodup) (hi : X.N[i]? = some x) (hx : Loc X.env.scope x) (hP : P i = false) (ho : PIp X op (ipI h)) (he : DE X e f)
    (hf : X.fn x = true ∨ X.env.scope.names.lookup x = some .local := by first | exact .inl rfl | exact .inr rfl | assumption) : DS P X (.AugAssign (.Name x pos') op e pos) (sAug i h f) := by
  obtain ⟨t, p, he⟩ := he
  refine fun W tk => ps_of (ps_aug hN hi hx p ho hf) fun D σ H ⟨env, env', fp, o, s, nd, hf, q⟩ => ?_
  obtain ⟨⟨d, en⟩, e1, hf⟩ := Option.bind_eq_some_iff.mp hf
  simp only at hf
  split at hf
  case h_2 => cases hf
  rename_i a b ha
  split at hf
  case isFalse => cases hf
  rename_i hl
  cases hf
  obtain ⟨v, _, _, _, hv, _, r, _⟩ := s.at ha
  refine ⟨v, hv, he σ H env en fp _ s nd e1 _ fun w H1 fr fp1 ev s1 r1 n1 => ⟨a, b, r.2, r1.2, ?_⟩⟩
  have nn := List.nodup_append.mp n1
  obtain ⟨fp2, s2, n2, m2⟩ := put_slot (fr := []) (d := .int (h a b)) (v := .int (h a b)) s1 ⟨rfl, rfl⟩ nn.2.1 hl
  exact q _ H1 fp2 (ev.sub fun c m => List.mem_append_right _ (m2 c m)) s2 n2 (Pin.set hP)
/-! ### methods of texts -/
def strsD : List D → Option (List Str)
  | [] => some []
  | .str s :: r => (strsD r).map fun l => s :: l
  | _ => none
theorem strsD_all : ∀ {ds : List D} {ss : List Str}, strsD ds = some ss → ds = ss.map D.str
  | [], _, h => by cases h; rfl
  | d :: r, _, h => by
    cases d with
    | str s =>
      obtain ⟨l, e1, e2⟩ := Option.map_eq_some_iff.mp h
      subst e2
      rw [strsD_all e1]; rfl
    | _ => cases h
theorem strsD_map : ∀ ss : List Str, strsD (ss.map D.str) = some ss
  | [] => rfl
  | s :: ss => by show (strsD (ss.map D.str)).map _ = _; rw [strsD_map ss]; rfl
/-- a text's method: what comes, by the text and the arguments -/
def OS (X : Cx) (id : String) (m : Str → List D → Option D) : Prop := ∃ r, MtR X id r ∧ ∀ (H : Hp) (s : Str) (vs : List V) (ds : List D) (fv : List Addr) (d : D), ROs X.K H ds vs fv → m s ds = some d → ∀ Q : VK, Res true X.K H d Q → r (.str s) vs H Q
def eSMet (o : PSm) (m : Str → List D → Option D) (f : ASm) : ESm := fun env => match o env with
  | some (.str s) => (f env).bind fun ds => (m s ds.1).map fun d => (d, ds.2)
  | _ => none
section
variable {X : Cx} {o e : Expr} {es : List Expr} {name : Str} {apos cpos : Pos} {id : String} {m : Str → List D → Option D}
theorem de_smet {f0 : PSm} {f : ASm} (slot : Slot "str" name id) (hty : typeOf (.builtin id) = pure (.type "method_descriptor")) (hm : OS X id m) (ho : DB false X o f0) (ha : DA X (e :: es) f)
    (hbase : attributeBase o name X.env (eval o X.env) = eval o X.env := by rfl)
    (hfew : ((backTo cpos (starEach (e :: es) X.env)).all (fun x => !x.1) && (backToKw cpos (keywordEach [] X.env)).all (fun x => x.1.isSome) && decide ((e :: es).length + ([] : List Keyword).length + (if ([] : List Keyword).isEmpty then 0 else 1) < 30)) = true := by rfl)
    (hline : (apos.endLine == cpos.line) = true := by rfl) (hs : starEach (e :: es) X.env = (false, eval e X.env) :: starEach es X.env := by rfl) (hplain : (backTo cpos (starEach es X.env)).any (·.1) = false := by rfl) :
    DE X (.Call (.Attribute o name apos) (e :: es) [] cpos) (eSMet f0 m f) := by
  obtain ⟨r, hr, hm⟩ := hm
  obtain ⟨to, po, ho⟩ := ho
  obtain ⟨ta, pa, ha⟩ := ha
  refine ⟨_, pe_bm F.plainAttrs_str slot hty hr po pa hbase hfew hline hs hplain, fun σ H env env' fp d s nd hf Q q => ?_⟩
  unfold eSMet at hf
  split at hf
  case h_2 => cases hf
  rename_i st e0
  obtain ⟨⟨ds, en⟩, e1, hf⟩ := Option.bind_eq_some_iff.mp hf
  obtain ⟨d', e2, e3⟩ := Option.map_eq_some_iff.mp hf
  cases e3
  refine ho σ H env fp _ s nd e0 _ fun v H1 fx sm1 rx _ => ?_
  obtain ⟨_, rfl⟩ := rx
  refine ⟨rfl, ?_⟩
  refine ha σ H1 env _ fp ds (s.same sm1) nd e1 _ fun vs H2 fr fp1 v1 s1 rs n1 => ?_
  refine hm H2 st vs ds fr d rs e2 Q fun v H' fr' sm r fo => ?_
  exact let_go q ((Evo.of_same (fp := fp) (fr := []) sm1 fun a m => (nomatch m)).trans v1) s1 (List.nodup_append.mp n1).2.1 sm r (fo rfl)
theorem de_smet0 {f0 : PSm} (slot : Slot "str" name id) (hty : typeOf (.builtin id) = pure (.type "method_descriptor")) (hm : OS X id m) (ho : DB false X o f0)
    (hbase : attributeBase o name X.env (eval o X.env) = eval o X.env := by rfl) (hline : (apos.endLine == cpos.line) = true := by rfl) : DE X (.Call (.Attribute o name apos) [] [] cpos) (eSMet f0 m aNilE) := by
  obtain ⟨r, hr, hm⟩ := hm
  obtain ⟨to, po, ho⟩ := ho
  refine ⟨_, pe_bm0 F.plainAttrs_str slot hty hr po hbase hline, fun σ H env env' fp d s nd hf Q q => ?_⟩
  unfold eSMet at hf
  split at hf
  case h_2 => cases hf
  rename_i st e0
  obtain ⟨⟨ds, en⟩, e1, hf⟩ := Option.bind_eq_some_iff.mp hf
  obtain ⟨d', e2, e3⟩ := Option.map_eq_some_iff.mp hf
  cases e3
  cases e1
  refine ho σ H env fp _ s nd e0 _ fun v H1 fx sm1 rx _ => ?_
  obtain ⟨_, rfl⟩ := rx
  refine ⟨rfl, hm H1 st [] [] [] d ⟨rfl, rfl⟩ e2 Q fun v H' fr' sm r fo => ?_⟩
  exact let_go q (Evo.of_same (fp := fp) (fr := []) sm1 fun a m => (nomatch m)) (s.same sm1) nd sm r (fo rfl)
theorem ROs.strs {K : PySem.W.Frag} {H : Hp} : ∀ {ss : List Str} {xs : List V} {f : List Addr}, ROs K H (ss.map D.str) xs f → xs = ss.map V.str
  | [], _, _, h => h.1
  | s :: ss, _, _, ⟨y, ys, f1, f2, h1, h2, h3, h4⟩ => by rw [h1, h4.strs, h3.2]; rfl
def mJoin (s : Str) : List D → Option D
  | [d] => (seqD d).bind fun ds => (strsD ds).bind fun ys => if (ys.map (·.length)).sum + ys.length * s.length ≤ 16777216 then some (.str (Txt.join s ys)) else none
  | _ => none
theorem m_join : OS X "str.join" mJoin := by
  refine ⟨_, mt_join, fun H s vs ds fv d rs hm Q q => ?_⟩
  unfold mJoin at hm
  split at hm
  case h_2 => cases hm
  obtain ⟨ds, e1, hm⟩ := Option.bind_eq_some_iff.mp hm
  obtain ⟨ys, e2, hm⟩ := Option.bind_eq_some_iff.mp hm
  split at hm
  case isFalse => cases hm
  rename_i hz
  cases hm
  obtain ⟨y, rfl, ry⟩ := rs.one
  obtain ⟨a, xs, f, h1, h2, _, h4, _⟩ := ry.seq e1
  rw [strsD_all e2] at h2
  rw [h2.strs] at h4
  exact ⟨s, a, ys, rfl, by rw [h1], h4, hz, q.str⟩
end
/-! ### tables -/
theorem db_dnewK {X : Cx} {pos : Pos} : DB true X (.Dict [] [] pos) (pC (.dcK false [] [])) := ⟨_, pe_dnewK, fun σ H env fp d s nd hf Q q => by
  cases hf
  exact fun p hp => q (.ref p) _ [p] (same_new hp) (.inr ⟨rfl, p, [], [], rfl, rfl, upd_same, rfl, rfl, rfl⟩) fun _ => .one hp⟩
theorem db_dnewT {X : Cx} {pos : Pos} : DB true X (.Dict [] [] pos) (pC (.dcT false [] [])) := ⟨_, pe_dnewT, fun σ H env fp d s nd hf Q q => by
  cases hf
  exact fun p hp => q (.ref p) _ [p] (same_new hp) (.inr ⟨rfl, p, [], [], rfl, rfl, upd_same, rfl, rfl, rfl⟩) fun _ => .one hp⟩
end DL

set_option maxHeartbeats 1000000
/-! DL, part m: sorted, any, all, get, table comprehensions -/
namespace DL
open PySem L2

/-! ### sorted -/
def leD : D → D → Bool := PySem.W.dataLe false py
def alikeB (ds : List D) : Bool := ds.all fun a => ds.all fun b => PySem.W.alike (py a) (py b)
def tupNe : D → Bool
  | .tup (_ :: _) => true
  | _ => false
def notTup : D → Bool
  | .non => false
  | .tup _ => false
  | _ => true
def gSorted : List D → Option D
  | [d] => (seqD d).bind fun ds => match d with
    | .tup _ => none
    | _ => if (ds.all isImm = true ∧ nodics ds = true) ∧ alikeB ds = true ∧ (ds.all tupNe = true ∨ ds.all notTup = true) ∧ ds.length ≤ szL ∧ (ds.all fun z => decide ((py z).depth ≤ 20)) = true then some (.lst false (ds.mergeSort leD)) else none
  | _ => none
def rSrtD (K : PySem.W.Frag) : List V → Hp → VK → Prop := fun vs H Q => ∃ (a : Addr) (zs : List (D × V)), vs = [V.ref a] ∧ SqL K H a (zs.map (·.2)) ∧ (∀ z ∈ zs, Dp K H z.2 (py z.1)) ∧
  PySem.W.AllAlike (zs.map fun z => py z.1) ∧ PySem.W.Sortable (zs.map fun z => py z.1) ∧ zs.length ≤ sizeLine ∧ (∀ z ∈ zs, (py z.1).depth ≤ 20) ∧ ∀ p, H p = none → Q (.ref p) (upd H p (.lst ((zs.mergeSort (PySem.W.dataLe false fun z => py z.1)).map (·.2))))
theorem each_of {R : Value → D × V → Prop} : ∀ {zs : List (D × V)} {its : List Value}, Vals (zs.map (·.2)) its → (∀ z ∈ zs, ∀ u, RelV z.2 u → R u z) → PySem.W.EachIs R its zs
  | [], _, .nil, _ => .nil
  | z :: zs, _, .cons r t, h => .cons (h z List.mem_cons_self _ r) (each_of t fun y m => h y (List.mem_cons_of_mem _ m))
theorem each_vals : ∀ {zs : List (D × V)} {its : List Value}, PySem.W.EachIs (fun u (z : D × V) => RelV z.2 u) its zs → Vals (zs.map (·.2)) its
  | [], _, .nil => .nil
  | z :: zs, _, .cons r t => .cons r (each_vals t)
section
variable {X : Cx}
theorem cr_srtD (hu : X.A.units + 65 < cLine) : CallR X (.builtin "sorted") (rSrtD X.K) := by
  intro pins s σ H vs us Q I r h
  obtain ⟨a, zs, rfl, hs, hd, hal, hso, hz, hdep, q⟩ := h
  obtain ⟨its, rv, hl, _⟩ := I.list hs
  rw [Vals.ref1 r]
  refine PySem.W.sorted_data (enc := fun z : D × V => py z.1) (R := fun u z => RelV z.2 u) hl.isList (each_of rv fun z _ u h => h) (each_of rv fun z m u h => Dp.reads I _ _ _ (hd z m) h) hal hso hz (fun z m => by have := hdep z m; omega) fun out ho eo => ?_
  obtain ⟨ep, he⟩ := PyProof.Rows.sortedAll_at s.heap its out.toArray
  have hv := each_vals eo
  have hlen : ((zs.mergeSort (PySem.W.dataLe false fun z : D × V => py z.1)).map (·.2)).length ≤ sizeLine := by rw [List.length_map, List.length_mergeSort]; exact hz
  exact ⟨.ref _, upd H (s.heap.objs.size + 1) (.lst ((zs.mergeSort (PySem.W.dataLe false fun z : D × V => py z.1)).map (·.2))), I.laid (t' := s.toks) (fun _ _ => PyProof.Rows.sortedAll_old) (Nat.le_succ _) ⟨hlen, out, ep, hv, he⟩, rfl, q _ (I.hok.fresh (Nat.le_succ _))⟩
theorem zip_split : ∀ {ds : List D} {xs : List V}, xs.length = ds.length → (ds.zip xs).map (·.1) = ds ∧ (ds.zip xs).map (·.2) = xs
  | [], [], _ => ⟨rfl, rfl⟩
  | [], _ :: _, h => by cases h
  | _ :: _, [], h => by cases h
  | d :: ds, x :: xs, h => by
    obtain ⟨a, b⟩ := zip_split (ds := ds) (xs := xs) (by simpa using h)
    rw [List.zip_cons_cons, List.map_cons, List.map_cons, a, b]
    exact ⟨rfl, rfl⟩
theorem RIs.zip {K : PySem.W.Frag} {H : Hp} : ∀ {ds : List D} {xs : List V}, RIs K H ds xs → ∀ z ∈ ds.zip xs, RI K H z.1 z.2
  | [], _, _, z, m => by simp at m
  | d :: ds, _, ⟨x, xs, h1, h2, h3⟩, z, m => by
    subst h1
    rw [List.zip_cons_cons] at m
    rcases List.mem_cons.mp m with rfl | m
    · exact h2
    · exact h3.zip z m
theorem RIs.of_pairs {K : PySem.W.Frag} {H : Hp} : ∀ {zs : List (D × V)}, (∀ z ∈ zs, RI K H z.1 z.2) → RIs K H (zs.map (·.1)) (zs.map (·.2))
  | [], _ => rfl
  | z :: zs, h => ⟨_, _, rfl, h z List.mem_cons_self, RIs.of_pairs fun y m => h y (List.mem_cons_of_mem _ m)⟩
theorem nodics_mem : ∀ {ds : List D}, nodics ds = true → ∀ d ∈ ds, nodic d = true
  | [], _, _, m => (nomatch m)
  | d :: ds, h, e, m => by
    unfold nodics at h
    rw [Bool.and_eq_true] at h
    rcases List.mem_cons.mp m with rfl | m
    · exact h.1
    · exact nodics_mem h.2 e m
theorem py_tup {d : D} (h : tupNe d = true) : ∃ x r, py d = .tuple (x :: r) := by
  cases d with
  | tup ds =>
    cases ds with
    | nil => cases h
    | cons d ds => exact ⟨py d, pys ds, by simp only [py, pys]⟩
  | _ => cases h
theorem py_not {d : D} (h : notTup d = true) (hn : nodic d = true) : py d ≠ .none ∧ ∀ xs, py d ≠ .tuple xs := by
  cases d <;> first | (simp [notTup] at h; done) | (simp [nodic] at hn; done) | exact ⟨by simp [py], by simp [py]⟩
theorem c_sorted (hu : X.A.units + 65 < cLine) : OC true X (.builtin "sorted") gSorted := by
  refine ⟨_, cr_srtD hu, fun H vs ds fp d hv hg Q q => ?_⟩
  unfold gSorted at hg
  split at hg
  case h_2 => cases hg
  rename_i d0
  obtain ⟨es, e1, hg⟩ := Option.bind_eq_some_iff.mp hg
  split at hg
  · cases hg
  rename_i hnt
  split at hg
  case isFalse => cases hg
  rename_i hc
  cases hg
  obtain ⟨⟨h1, h2⟩, h3, h4, h5, h6⟩ := hc
  obtain ⟨v, rfl, rr⟩ := hv.one
  obtain ⟨a, xs, f, k1, k2, _, _, _, k3⟩ := rr.seq e1
  have ri := k2.ris h1
  obtain ⟨z1, z2⟩ := zip_split ri.length
  have hm : (es.zip xs).map (fun z => py z.1) = es.map py := by
    have z := congrArg (List.map py) z1
    rw [List.map_map] at z
    exact z
  have hp : ∀ z ∈ es.zip xs, z.1 ∈ es := fun z m => by rw [← z1]; exact List.mem_map_of_mem m
  have nod := nodics_mem h2
  refine ⟨a, es.zip xs, by rw [k1], by rw [z2]; exact k3 fun o z => hnt o z, fun z m => RI.dp _ _ (ri.zip z m) (nod _ (hp z m)), ?_, ?_, ?_, fun z m => ?_, fun p hpn => ?_⟩
  · rw [hm]
    intro x hx y hy
    obtain ⟨x', mx, rfl⟩ := List.mem_map.mp hx
    obtain ⟨y', my, rfl⟩ := List.mem_map.mp hy
    exact List.all_eq_true.mp (List.all_eq_true.mp h3 x' mx) y' my
  · rw [hm]
    rcases h4 with h4 | h4
    · exact .inl fun x hx => by
        obtain ⟨x', mx, rfl⟩ := List.mem_map.mp hx
        exact py_tup (List.all_eq_true.mp h4 x' mx)
    · exact .inr fun x hx => by
        obtain ⟨x', mx, rfl⟩ := List.mem_map.mp hx
        exact py_not (List.all_eq_true.mp h4 x' mx) (nod x' mx)
  · rw [List.length_zip, szL_eq, ri.length, Nat.min_self]; exact h5
  · exact of_decide_eq_true (List.all_eq_true.mp h6 _ (hp z m))
  · have e2 : ((es.zip xs).mergeSort (PySem.W.dataLe false fun z => py z.1)).map (·.1) = es.mergeSort leD := by
      have z := List.map_mergeSort (r := PySem.W.dataLe false fun z : D × V => py z.1) (s := leD) (f := fun z : D × V => z.1) (l := es.zip xs) (fun x _ y _ => rfl)
      rw [z, z1]
    have hr : RIs X.K H (es.mergeSort leD) (((es.zip xs).mergeSort (PySem.W.dataLe false fun z => py z.1)).map (·.2)) := by
      rw [← e2]
      exact RIs.of_pairs fun z m => ri.zip z (List.mem_mergeSort.mp m)
    exact q.lst hr hpn
/-! ### any, all -/
def blsD : List D → Option (List Bool)
  | [] => some []
  | .bl b :: r => (blsD r).map fun l => b :: l
  | _ => none
theorem blsD_all : ∀ {ds : List D} {bs : List Bool}, blsD ds = some bs → ds = bs.map D.bl
  | [], _, h => by cases h; rfl
  | d :: r, _, h => by
    cases d with
    | bl s =>
      obtain ⟨l, e1, e2⟩ := Option.map_eq_some_iff.mp h
      subst e2
      rw [blsD_all e1]; rfl
    | _ => cases h
theorem blsD_map : ∀ bs : List Bool, blsD (bs.map D.bl) = some bs
  | [] => rfl
  | s :: ss => by show (blsD (ss.map D.bl)).map _ = _; rw [blsD_map ss]; rfl
theorem ROs.bls {K : PySem.W.Frag} {H : Hp} : ∀ {ss : List Bool} {xs : List V} {f : List Addr}, ROs K H (ss.map D.bl) xs f → xs = ss.map V.bl
  | [], _, _, h => h.1
  | s :: ss, _, _, ⟨y, ys, f1, f2, h1, h2, h3, h4⟩ => by rw [h1, h4.bls, h3.2]; rfl
def gAny : List D → Option D
  | [.lst _ ds] => (blsD ds).map fun bs => .bl (bs.any id)
  | _ => none
def gAll : List D → Option D
  | [.lst _ ds] => (blsD ds).map fun bs => .bl (bs.all id)
  | _ => none
theorem c_any (hc : X.calm = true) : OC true X (.builtin "any") gAny := by
  refine ⟨_, cr_any hc, fun H vs ds fp d hv hg Q q => ?_⟩
  unfold gAny at hg
  split at hg
  · obtain ⟨ns, e1, e2⟩ := Option.map_eq_some_iff.mp hg
    subst e2
    obtain ⟨v, rfl, rr⟩ := hv.one
    obtain ⟨a, xs, f, h1, h2, h3⟩ := rr.rdl
    rw [blsD_all e1] at h3
    exact ⟨a, ns, by rw [h1], by rw [← h3.bls]; exact .inl h2, q.bl⟩
  · cases hg
theorem c_all (hc : X.calm = true) : OC true X (.builtin "all") gAll := by
  refine ⟨_, cr_all hc, fun H vs ds fp d hv hg Q q => ?_⟩
  unfold gAll at hg
  split at hg
  · obtain ⟨ns, e1, e2⟩ := Option.map_eq_some_iff.mp hg
    subst e2
    obtain ⟨v, rfl, rr⟩ := hv.one
    obtain ⟨a, xs, f, h1, h2, h3⟩ := rr.rdl
    rw [blsD_all e1] at h3
    exact ⟨a, ns, by rw [h1], by rw [← h3.bls]; exact .inl h2, q.bl⟩
  · cases hg
end
/-! ### d.get -/
def pGet1 (o k : PSm) : PSm := fun env => (o env).bind fun d => (k env).bind fun y => (dGet d y).map fun r => r.getD .non
def pGet2 (o k z : PSm) : PSm := fun env => (o env).bind fun d => (k env).bind fun y => (z env).bind fun w => (dGet d y).map fun r => r.getD w
theorem isD_of {K : PySem.W.Frag} {H : Hp} {d y : D} {v : V} {fp : List Addr} {o : Option D} (h : RO K H d v fp) (e : dGet d y = some o) : ∃ a, v = .ref a ∧ IsD H a := by
  cases d with
  | dcK fz ks ds =>
    rcases h with ⟨_, _, _, a, o, xs, h1, h2, _⟩ | ⟨_, a, xs, f, h1, _, h2, _⟩
    · exact ⟨a, h1, .inl ⟨_, .inr ⟨o, h2⟩⟩⟩
    · exact ⟨a, h1, .inl ⟨_, .inl h2⟩⟩
  | dcT fz ks ds =>
    rcases h with ⟨_, _, _, a, o, xs, h1, h2, _⟩ | ⟨_, a, xs, f, h1, _, h2, _⟩
    · exact ⟨a, h1, .inr ⟨_, .inr ⟨o, h2⟩⟩⟩
    · exact ⟨a, h1, .inr ⟨_, .inl h2⟩⟩
  | _ => cases e
section
variable {X : Cx} {o e f : Expr} {apos cpos : Pos}
theorem db_get1 {fo fe : PSm} (hu : X.A.units + 1 < cLine) (ho : DB false X o fo) (he : DB false X e fe) (m : M1 X o "get" apos e cpos) : DB false X (.Call (.Attribute o "get" apos) [e] [] cpos) (pGet1 fo fe) := by
  obtain ⟨to, po, ho⟩ := ho
  obtain ⟨te, pe, he⟩ := he
  refine ⟨_, pe_dget1 hu po pe m, fun σ H env fp d s nd hf Q q => ?_⟩
  obtain ⟨d0, e1, hf⟩ := Option.bind_eq_some_iff.mp hf
  obtain ⟨y, e2, hf⟩ := Option.bind_eq_some_iff.mp hf
  obtain ⟨r, e3, e4⟩ := Option.map_eq_some_iff.mp hf
  refine ho σ H env fp d0 s nd e1 _ fun v H1 fv s1 rv _ => ?_
  obtain ⟨a0, z0, ia⟩ := isD_of rv e3
  refine ⟨a0, z0, ia, he σ H1 env fp y (s.same s1) nd e2 _ fun w H2 fw s2 rw' _ => ?_⟩
  obtain ⟨a, o', h1, h2, h3⟩ := (rv.same s2).dget rw' e3
  rw [z0] at h1; cases h1
  refine ⟨o', h2, ?_⟩
  subst e4
  cases r with
  | none => rw [show o' = none from h3]; exact q .non H2 [] (s1.trans s2) ⟨rfl, rfl⟩ fun z => (nomatch z)
  | some d' =>
    obtain ⟨x, g, h4, h5⟩ := h3
    rw [h4]; exact q x H2 g (s1.trans s2) h5 fun z => (nomatch z)
theorem db_get2 {fo fe ff : PSm} (hu : X.A.units + 1 < cLine) (ho : DB false X o fo) (he : DB false X e fe) (hff : DB false X f ff) (m : M2 X o "get" apos e f cpos) : DB false X (.Call (.Attribute o "get" apos) [e, f] [] cpos) (pGet2 fo fe ff) := by
  obtain ⟨to, po, ho⟩ := ho
  obtain ⟨te, pe, he⟩ := he
  obtain ⟨tf, pf, hff⟩ := hff
  refine ⟨_, pe_dget2 hu po pe pf m, fun σ H env fp d s nd hf Q q => ?_⟩
  obtain ⟨d0, e1, hf⟩ := Option.bind_eq_some_iff.mp hf
  obtain ⟨y, e2, hf⟩ := Option.bind_eq_some_iff.mp hf
  obtain ⟨z, e5, hf⟩ := Option.bind_eq_some_iff.mp hf
  obtain ⟨r, e3, e4⟩ := Option.map_eq_some_iff.mp hf
  refine ho σ H env fp d0 s nd e1 _ fun v H1 fv s1 rv _ => ?_
  obtain ⟨a0, z0, ia⟩ := isD_of rv e3
  refine ⟨a0, z0, ia, he σ H1 env fp y (s.same s1) nd e2 _ fun w H2 fw s2 rw' _ => ?_⟩
  refine hff σ H2 env fp z ((s.same s1).same s2) nd e5 _ fun wz H3 fz s3 rz _ => ?_
  obtain ⟨a, o', h1, h2, h3⟩ := ((rv.same s2).same s3).dget (rw'.same s3) e3
  rw [z0] at h1; cases h1
  refine ⟨o', h2, ?_⟩
  subst e4
  have sm := (s1.trans s2).trans s3
  cases r with
  | none => rw [show o' = none from h3]; exact q wz H3 fz sm rz fun z => (nomatch z)
  | some d' =>
    obtain ⟨x, g, h4, h5⟩ := h3
    rw [h4]; exact q x H3 g sm h5 fun z => (nomatch z)
end
end DL

set_option maxHeartbeats 1000000
/-! DL, part n: comprehensions that make a table, keys of either kind -/
namespace DL
open PySem PySem.Spec PyProof.Rows L2
/-- a table's item written by a comprehension -/
theorem dict_put {X : Cx} {pins : List (Addr × Obj)} {σ : L2.St} {H H' : Hp} {s : Shared} {E : Value → Shared → Prop} {a : Addr} {y v : V} {u r : Value} {Q : Unit → Shared → Prop} (hu : X.A.units + 1 < cLine) (I : Inv X pins σ H s)
    (g : DPut H a y v H') (ry : RelV y u) (rv : RelV v r) (h : ∀ s', Inv X pins σ H' s' → Q () s') : wpAny (model X.prog X.w) X.A (dictSet a u r) Q E s := by
  rcases g with ⟨kvs, k, e, rfl, l, rfl⟩ | ⟨kvs, k, b, e, rfl, eb, l, rfl⟩
  · exact d_dictSet I e l ry rv h
  · obtain rfl : u = Value.ref b := ry
    obtain ⟨z, hd, xs, rel, dd⟩ := dt_of I.hok e
    have hl := length_putK kvs k v
    refine wpAny_dictSet_heap (hsz := by rw [← Paired.length rel]; exact z) (show (tupleKind (mixKind X.prog X.w)).room X.A from Nat.lt_of_succ_lt hu) (key_of I.hok eb) dd fun h' dd' hs => h _ ?_
    obtain ⟨q, es, ep, hq, k2, k3, k4, _, k5⟩ := dd'
    refine d_write I (by rw [e]; trivial) hs ⟨q, hq⟩ ⟨by omega, hd, _, (rel.put k eb rv).keeps fun c ys ec => ?_, q, es, ep, hq, k2, k3, k4, k5⟩
    rwa [upd_ne (ne_of ec e fun z => nomatch z)]
def tMk (o0 : HO) (wi : TI) (g : TG) (tt : TT) (tk tv : TE) (vs : List Nat) : TE := fun σ H Q => wi σ H fun J H1 => ∀ D, H1 D = none → ∃ W : Nat → Nat → Hp → Prop, (∃ m, W 0 m (upd H1 D o0)) ∧
  ∀ i m H, W i m H → (J.stop i H ∧ Q (.ref D) H) ∨ (J.go i H ∧ ∃ Nx : Hp → Prop, (∀ H', Nx H' → ∃ m', m' < m ∧ W (i + 1) m' H') ∧
    ∀ x H', J.yld i H x H' → g x (L2.wipe σ vs) H' fun σ2 H2 => L2.wipe σ2 vs = L2.wipe σ vs ∧ tt σ2 H2 fun b H3 => if b = true then tk σ2 H3 fun y H4 => tv σ2 H4 fun z H5 => ∃ H6, DPut H5 D y z H6 ∧ Nx H6 else Nx H3)
section
variable {X : Cx} {kx vx tg iter : Expr} {ifs : List Expr} {scope : Scope} {own : List (Str × Nat)} {pos : Pos} {wi : TI} {g : TG} {tt : TT} {tk tv : TE} {o0 : HO}
theorem mk_table_core {pins : List (Addr × Obj)} {s : Shared} {σ : L2.St} {H : Hp} {Q : VK} {pos' : Pos} {use : Option (Value → Sem Unit)} {Qf : Value → Shared → Prop} (I : Inv X pins σ H s) (hu : X.A.units + 1 < cLine) (hc : X.calm = true) (hN : X.N.Nodup) (hi : PI X tg iter wi) (ok : BlkOk X.N X.env.scope scope own) (hnew : ∀ (H : Hp) (h : Heap), sysModules < h.objs.size → ObjOk X.prog X.w H (h.push { cls := .type "dict", data := .dict #[] }) h.objs.size o0)
    (hg : ∀ (s : Shared) (H : Hp) (C : Addr) (cl : List (Str × Addr)) (fp : List Addr), PG (X.blk s H scope (compEnvC scope cl C X.env) fp) tg g)
    (ht : ∀ (s : Shared) (H : Hp) (C : Addr) (cl : List (Str × Addr)) (fp : List Addr), PTs (X.blk s H scope (compEnvC scope cl C X.env) fp) ifs tt)
    (hk : ∀ (s : Shared) (H : Hp) (C : Addr) (cl : List (Str × Addr)) (fp : List Addr), PE (X.blk s H scope (compEnvC scope cl C X.env) fp) kx tk)
    (hv : ∀ (s : Shared) (H : Hp) (C : Addr) (cl : List (Str × Addr)) (fp : List Addr), PE (X.blk s H scope (compEnvC scope cl C X.env) fp) vx tv)
    (hs : ∀ x, foldedSetIterable iter X.env x = pure x) (h : tMk o0 wi g tt tk tv (own.map (·.2)) σ H Q)
    (hend : ∀ D C s' m H', Inv X pins σ H' s' → Q (.ref D) H' → s'.heap.Ns C m → FpOk X pins H' C → compPost (model X.prog X.w) X.A X.xe use Qf (.ref D) C (.ok .next) s') :
    wpAny (model X.prog X.w) X.A (comprehension (.DictComp kx vx [⟨tg, iter, ifs, 0⟩] scope pos) scope X.env pos' newDict false (eval iter X.env) use) Qf X.xe s := by
  have cells : ∀ y ∈ scope.names, y.2 = .free → ∃ c, X.env.cells.lookup y.1 = some c := fun y hy e => I.ok.has _ ((ok.free y hy e).elim .inl .inr)
  refine wpAny_comprehension_free (use := use) rfl hs (closure_ok cells) ok.kind (fun y hy e => by rw [ok.uniq y hy, e]) (thn (hi.run pins s σ H _ I h) fun _ s1 hx => thn hx fun _ s2 ⟨it, fp, tn, J, H2, e, I2, T, st2, f2, q⟩ => ?_)
  subst e
  refine wpAny_newObj_type (newEnv_comp ?_)
  generalize eD : s2.heap.objs.size = D
  have nD : H2 D = none := I2.hok.fresh (Nat.le_of_eq eD)
  obtain ⟨W, ⟨m0, w0⟩, turn⟩ := q D nD
  generalize e3 : ({ s2 with heap := s2.heap.push { cls := .type "dict", data := .dict #[] } } : Shared) = s3
  have I3 : Inv X pins σ (upd H2 D o0) s3 := by
    rw [← e3]
    refine I2.laid (t' := s2.toks) (fun b o z => Heap.get?_push_of_some _ z) (Nat.le_of_eq eD) ?_
    rw [← eD]
    exact hnew _ s2.heap I2.big
  have e3h : s3.heap = s2.heap.push { cls := .type "dict", data := .dict #[] } := by rw [← e3]
  have lt2 : ∀ b ∈ fp, b < s2.heap.objs.size := fun b m => let ⟨_, z, _⟩ := T.obj _ _ st2 b m; Heap.lt_size z
  have f3 : ∀ b ∈ fp, FpOk X pins (upd H2 D o0) b ∧ b < s3.heap.objs.size := fun b m => by
    refine ⟨⟨?_, (f2 b m).2⟩, by rw [e3h, Heap.size_push]; exact Nat.lt_succ_of_lt (lt2 b m)⟩
    rw [upd_ne (by rw [← eD]; exact Nat.ne_of_lt (lt2 b m))]
    exact (f2 b m).1
  have st3 : tn 0 s3.heap := T.keep _ _ _ st2 fun b _ o z => by rw [e3h]; exact Heap.get?_push_of_some _ z
  have I4 := block_start I3 ok hN f3
  generalize eH : upd H2 D o0 = H3 at I3 I4 w0 f3
  have nfp : ∀ b ∈ fp, H3 b = none := fun b m => (f3 b m).1.1
  let cl := cellsFrom (s3.heap.objs.size + 1) scope.names (cloFrom X.env.cells scope.names [])
  have pg := hg s3 H3 s3.heap.objs.size cl fp
  have pt := ht s3 H3 s3.heap.objs.size cl fp
  have pk := hk s3 H3 s3.heap.objs.size cl fp
  have pv := hv s3 H3 s3.heap.objs.size cl fp
  show codeAny _ _ (.compStart (.DictComp kx vx [⟨tg, iter, ifs, 0⟩] scope pos) 0 (.ref it) (.ref D) (compEnvC scope cl s3.heap.objs.size X.env)) (compPost (model X.prog X.w) X.A X.xe use Qf (.ref D) s3.heap.objs.size) { s3 with heap := pushCells (s3.heap.push { cls := .type "dict", data := .dict #[] }) scope.names }
  have eL : (compEnvC scope cl s3.heap.objs.size X.env).locals = s3.heap.objs.size := rfl
  generalize ece : compEnvC scope cl s3.heap.objs.size X.env = ce at I4 pg pt pk pv eL ⊢
  generalize e4 : ({ s3 with heap := pushCells (s3.heap.push { cls := .type "dict", data := .dict #[] }) scope.names } : Shared) = s4 at I4 ⊢
  have st4 : tn 0 s4.heap := T.keep _ _ _ st3 fun b _ o z => by rw [← e4]; exact pushCells_keeps _ _ _ _ (Heap.get?_push_of_some _ z)
  let B := X.blk s3 H3 scope ce fp
  have still : ∀ {σ' : L2.St} {H' : Hp} {s' : Shared}, Inv B [] σ' H' s' → (∀ b ∈ fp, H' b = none) → ∀ b ∈ fp, FpOk B [] H' b := fun {σ' H' s'} I' hn b m =>
    ⟨hn b m, (I'.ok.exf b m).1, I'.ok.exfs b m, .inl m, fun x c z => (I'.ok.exf b m).2 x c z, fun p hp => (nomatch hp)⟩
  have turns : codeAny (model X.prog X.w) X.A (.compLoop (.DictComp kx vx [⟨tg, iter, ifs, 0⟩] scope pos) 0 (.ref it) (.ref D) ce) (compPost (model X.prog X.w) X.A X.xe use Qf (.ref D) s3.heap.objs.size) s4 := by
    refine compLoop_anyD (fun n s' => ∃ i H', Inv B [] (L2.wipe σ (own.map (·.2))) H' s' ∧ tn i s'.heap ∧ (∀ b ∈ fp, H' b = none) ∧ W i n H') ?_ m0 ⟨0, H3, I4, st4, nfp, w0⟩
    rintro n s5 ⟨i, H5, I5, st5, n5, w5⟩
    rcases turn i n H5 w5 with ⟨stop, fin⟩ | ⟨go, Nx, back, step⟩
    · refine thnF (T.done B rfl rfl rfl hc i [] s5 _ H5 (fun _ _ => False) I5 (still I5 n5) st5 stop) fun r s6 ⟨z, I6⟩ => ?_
      subst z
      have I7 : Inv X pins σ H5 s6 := I3.call' (ch := fp) I6.os I6.base I6.hok I6.bare fun b m => let f := (f3 b m).1.2; ⟨f.2.2.1, f.1, f.2.2.2.1, f.2.2.2.2⟩
      have nC : H5 s3.heap.objs.size = none := by rw [← eL]; exact I6.free
      obtain ⟨m, hn, _⟩ := I6.loc
      have hn : s6.heap.Ns ce.locals m := hn
      rw [eL] at hn
      exact hend D s3.heap.objs.size s6 m H5 I7 fin hn (I3.fpOk (Nat.le_refl _) nC)
    · refine thnF (T.item B rfl rfl rfl hc i [] s5 _ H5 (fun _ _ => False) I5 (still I5 n5) st5 go) fun r s6 ⟨u, z, h6⟩ => ?_
      subst z
      refine thnF h6 fun _ s7 ⟨x, H7, I7, r7, y7, st7, n7⟩ => ?_
      refine thnF (pg.run _ s7 _ H7 x u _ (I7.pinned (still I7 n7) (T.obj _ _ st7)) r7 (step x H7 y7)) fun _ s8 ⟨σ8, H8, I8, hw, q8⟩ => ?_
      refine thnF (pt.run _ s8 σ8 H8 _ I8 q8) fun b s9 ⟨H9, I9, q9⟩ => ?_
      have next : ∀ {s' : Shared} {H' : Hp}, Inv B ([] ++ pinsAt fp s7.heap) σ8 H' s' → Nx H' → ∃ m, m < n ∧ ∃ i H', Inv B [] (L2.wipe σ (own.map (·.2))) H' s' ∧ tn i s'.heap ∧ (∀ b ∈ fp, H' b = none) ∧ W i m H' := fun {s' H'} I' nx => by
        obtain ⟨m', lt, w'⟩ := back H' nx
        have held : ∀ b ∈ fp, ∀ o, s7.heap.get? b = some o → s'.heap.get? b = some o ∧ H' b = none := fun b m o z =>
          let w := I'.pin (b, o) (List.mem_append_right _ (List.mem_append_right _ (mem_pinsAt m z)))
          ⟨w.1, w.2.1⟩
        refine ⟨m', lt, i + 1, H', (I'.unpinned (pins := [])).weak (by rw [← hw, wipe_length]) (fun j v z => (wipe_some (by rw [← hw] at z; exact z)).1), T.keep _ _ _ st7 fun b m o z => (held b m o z).1, fun b m => ?_, w'⟩
        obtain ⟨o, z, _⟩ := T.obj _ _ st7 b m
        exact (held b m o z).2
      cases b with
      | false => exact next I9 (by simpa using q9)
      | true =>
        have q9 : tk σ8 H9 fun y H4 => tv σ8 H4 fun z H5 => ∃ H6, DPut H5 D y z H6 ∧ Nx H6 := by simpa using q9
        simp only [if_true]
        refine thnF (pk.run _ s9 σ8 H9 _ I9 q9) fun ku s10 ⟨yk, H10, I10, r10, q10⟩ => ?_
        refine thnF (pv.run _ s10 σ8 H10 _ I10 q10) fun vu s11 ⟨yv, H11, I11, r11, H12, pd, nx⟩ => ?_
        exact dict_put (X := B) hu I11 pd r10 r11 fun s12 I12 => next I12 nx
  exact codeAny_compStart_dict turns (T.self X.A 0 _ _ _ st4 turns)
theorem pe_mk_table (hu : X.A.units + 1 < cLine) (hc : X.calm = true) (hN : X.N.Nodup) (hi : PI X tg iter wi) (ok : BlkOk X.N X.env.scope scope own) (hnew : ∀ (H : Hp) (h : Heap), sysModules < h.objs.size → ObjOk X.prog X.w H (h.push { cls := .type "dict", data := .dict #[] }) h.objs.size o0)
    (hg : ∀ (s : Shared) (H : Hp) (C : Addr) (cl : List (Str × Addr)) (fp : List Addr), PG (X.blk s H scope (compEnvC scope cl C X.env) fp) tg g)
    (ht : ∀ (s : Shared) (H : Hp) (C : Addr) (cl : List (Str × Addr)) (fp : List Addr), PTs (X.blk s H scope (compEnvC scope cl C X.env) fp) ifs tt)
    (hk : ∀ (s : Shared) (H : Hp) (C : Addr) (cl : List (Str × Addr)) (fp : List Addr), PE (X.blk s H scope (compEnvC scope cl C X.env) fp) kx tk)
    (hv : ∀ (s : Shared) (H : Hp) (C : Addr) (cl : List (Str × Addr)) (fp : List Addr), PE (X.blk s H scope (compEnvC scope cl C X.env) fp) vx tv)
    (hs : ∀ x, foldedSetIterable iter X.env x = pure x := by intro _; rfl) : PE X (.DictComp kx vx [⟨tg, iter, ifs, 0⟩] scope pos) (tMk o0 wi g tt tk tv (own.map (·.2))) := by
  refine ⟨fun pins s σ H Q I h => ?_⟩
  rw [arm_eval_DictComp]
  refine mk_table_core I hu hc hN hi ok hnew hg ht hk hv hs h fun D C s' m H' I' q hn f => ⟨m, hn, fun h'' sb => ?_⟩
  obtain ⟨g0, g1, g2, g3, g4, g5⟩ := f
  exact ⟨.ref D, H', I'.turned (t' := s'.toks) (fun b o hb z => (sb.2 b hb).trans z) g0 g1 g3 g4 g5, rfl, q⟩
theorem ps_mk_table {i : Nat} {y : Str} {py spos : Pos} (hy : X.N[i]? = some y) (hyl : X.env.scope.names.lookup y = some .local) (hsw : swapsWith (.DictComp kx vx [⟨tg, iter, ifs, 0⟩] scope pos) (some (.Name y py)) spos.line X.env = pure true) (hu : X.A.units + 1 < cLine) (hc : X.calm = true) (hN : X.N.Nodup) (hi : PI X tg iter wi) (ok : BlkOk X.N X.env.scope scope own) (hnew : ∀ (H : Hp) (h : Heap), sysModules < h.objs.size → ObjOk X.prog X.w H (h.push { cls := .type "dict", data := .dict #[] }) h.objs.size o0)
    (hg : ∀ (s : Shared) (H : Hp) (C : Addr) (cl : List (Str × Addr)) (fp : List Addr), PG (X.blk s H scope (compEnvC scope cl C X.env) fp) tg g)
    (ht : ∀ (s : Shared) (H : Hp) (C : Addr) (cl : List (Str × Addr)) (fp : List Addr), PTs (X.blk s H scope (compEnvC scope cl C X.env) fp) ifs tt)
    (hk : ∀ (s : Shared) (H : Hp) (C : Addr) (cl : List (Str × Addr)) (fp : List Addr), PE (X.blk s H scope (compEnvC scope cl C X.env) fp) kx tk)
    (hv : ∀ (s : Shared) (H : Hp) (C : Addr) (cl : List (Str × Addr)) (fp : List Addr), PE (X.blk s H scope (compEnvC scope cl C X.env) fp) vx tv)
    (hs : ∀ x, foldedSetIterable iter X.env x = pure x := by intro _; rfl) :
    PS X (.Assign [.Name y py] (.DictComp kx vx [⟨tg, iter, ifs, 0⟩] scope pos) spos) (tAsg (tMk o0 wi g tt tk tv (own.map (·.2))) (gName i)) := by
  refine ⟨fun pins s σ H D I h => ?_⟩
  rw [exec_Assign_Name_used _ _ _ _ hsw]
  refine wpAny_bind (wpAny_standAt (wpAny_bind ?_))
  show wpAny _ X.A (do let _ ← comprehension (.DictComp kx vx [⟨tg, iter, ifs, 0⟩] scope pos) scope X.env (firstIterPos [⟨tg, iter, ifs, 0⟩] pos) newDict false (eval iter X.env) (some (assign (.Name y py) X.env))) _ _ s
  have h : tMk o0 wi g tt tk tv (own.map (·.2)) σ H (fun x H1 => gName i x σ H1 D.nx) := h
  refine wpAny_bind (thn (mk_table_core (Qf := fun _ s' => SP X pins D .next s') I hu hc hN hi ok hnew hg ht hk hv hs h fun L C s' m H' I' q hn f => ?_) fun _ s' hq => wpAny_pure (wpAny_pure hq))
  show wpAny _ _ (assign (.Name y py) X.env (.ref L)) _ _ _
  refine wpAny_assign_Name (store_ok2 (v := V.ref L) I' hN hy (.inl hyl) rfl (fun s2 I2 ⟨a, sb, ha⟩ => ?_) (.inr hyl))
  obtain ⟨g0, g1, g2, g3, g4, g5⟩ := f
  have ne : C ≠ a := ha.elim (fun z => by rw [z]; exact g1) fun z e => g4 y a z e.symm
  exact ⟨m, hn.sameBut sb ne, fun h3 sb3 => ⟨_, H', I2.turned (t' := s2.toks) (fun b o hb e => (sb3.2 b hb).trans e) g0 g1 g3 g4 g5, q⟩⟩
theorem swap_table {y : Str} {py : Pos} {l : Nat} {env : PySem.Env} (hk : env.scope.kind = .function) (hy : env.scope.names.lookup y = some .local) (hl : (py.line == pos.line) = true)
    (ha : (scope.names.any fun (n, k) => n == y && (k == .local || k == .cell)) = false) : swapsWith (.DictComp kx vx [⟨tg, iter, ifs, 0⟩] scope pos) (some (.Name y py)) l env = pure true := by
  have ky : env.kindOf y = some .local := hy
  have hb : env.blockKind = .function := by unfold Env.blockKind; rw [hk]; rfl
  unfold swapsWith
  simp only [hb, ky, ha, Expr.pos, hl]
  rfl
end
/-- the same as data -/
def isDc : D → Bool
  | .dcK false _ _ => true
  | .dcT false _ _ => true
  | _ => false
theorem put_dict {K : PySem.W.Frag} {H : Hp} {da dk d da' : D} {v w x : V} {fa fk fx : List Addr} (hd : isDc da = true) (ra : RO K H da v fa) (rk : RO K H dk w fk) (rd : RO K H d x fx) (nd : (fa ++ fx).Nodup) (h : dPut da dk d = some da') :
    ∃ a H' fa', v = .ref a ∧ DPut H a w x H' ∧ Evo (fa ++ fx) H fa' H' ∧ RO K H' da' v fa' ∧ fa'.Nodup := by
  have at_ : ∃ a o, v = .ref a ∧ H a = some o ∧ ∀ xs, o ≠ .lst xs := by
    cases da with
    | dcK fz ks ds =>
      cases fz with
      | true => cases hd
      | false =>
        rcases ra with ⟨z, _⟩ | ⟨_, a, xs, f, h1, _, h3, _⟩
        · cases z
        · exact ⟨a, _, h1, h3, fun _ z => nomatch z⟩
    | dcT fz ks ds =>
      cases fz with
      | true => cases hd
      | false =>
        rcases ra with ⟨z, _⟩ | ⟨_, a, xs, f, h1, _, h3, _⟩
        · cases z
        · exact ⟨a, _, h1, h3, fun _ z => nomatch z⟩
    | _ => cases hd
  obtain ⟨a0, o, h1, h2, h3⟩ := at_
  rcases put_core ra rk rd nd h (fun H' => ∃ fa', Evo (fa ++ fx) H fa' H' ∧ RO K H' da' v fa' ∧ fa'.Nodup) fun H' fa' e r n => ⟨fa', e, r, n⟩ with ⟨p, xs, k, j, z, _, hp, _⟩ | ⟨a, H', z, g, fa', e, r, n⟩
  · rw [h1] at z; cases z
    rw [h2] at hp; cases hp
    exact absurd rfl (h3 xs)
  · exact ⟨a, H', fa', z, g, e, r, n⟩
theorem isDc_put {da dk d da' : D} (hd : isDc da = true) (h : dPut da dk d = some da') : isDc da' = true := by
  cases da with
  | dcK fz ks ds =>
    cases fz with
    | true => cases hd
    | false =>
      simp only [dPut] at h
      obtain ⟨j, _, h⟩ := Option.bind_eq_some_iff.mp h
      split at h
      case isFalse => cases h
      split at h
      · cases h; rfl
      · split at h
        · cases h; rfl
        · cases h
  | dcT fz ks ds =>
    cases fz with
    | true => cases hd
    | false =>
      simp only [dPut] at h
      obtain ⟨j, _, h⟩ := Option.bind_eq_some_iff.mp h
      split at h
      case isFalse => cases h
      split at h
      · cases h; rfl
      · split at h
        · cases h; rfl
        · cases h
  | _ => cases hd
def dcL (vs : List Nat) (g : GSm) (c : TSm) (kx vx : ESm) : List D → Env → D → Option (D × Env)
  | [], env, acc => some (acc, wipeE env vs)
  | d :: ds, env, acc => (g d (wipeE env vs)).bind fun e1 => (c e1).bind fun b => if b.1 = true then (kx b.2).bind fun k => (vx k.2).bind fun v => (dPut acc k.1 v.1).bind fun acc' => dcL vs g c kx vx ds v.2 acc'
    else dcL vs g c kx vx ds b.2 acc
def eDc (d0 : D) (vs : List Nat) (it : ISm) (g : GSm) (c : TSm) (kx vx : ESm) : ESm := fun env => (it env).bind fun ds => dcL vs g c kx vx ds.1 ds.2 d0
theorem table_core {K : PySem.W.Frag} {it : ISm} {g : GSm} {c : TSm} {kx vx : ESm} {vs : List Nat} {σ : L2.St} {H : Hp} {Q : VK} {d0 : D} {o0 : HO} (hd0 : isDc d0 = true) (hm0 : Mut (some o0)) (h0 : ∀ (H : Hp) (p : Addr), H p = some o0 → RO K H d0 (.ref p) [p])
    (h : tE K (eDc d0 vs it g c kx vx) σ H Q) : tMk o0 (tI K it) (tG K (ownP vs) g) (tT K c) (tE K kx) (tE K vx) vs σ H Q := by
  obtain ⟨env, env', fp, d, s, nd, hf, q⟩ := h
  obtain ⟨⟨ds, en⟩, e1, e3⟩ := Option.bind_eq_some_iff.mp hf
  refine ⟨env, en, fp, ds, s, nd, e1, fun J H1 fp1 ev1 s1 n1 yl => ?_⟩
  intro Dl hD
  refine ⟨fun i m H2 => m = ds.length - i ∧ i ≤ ds.length ∧ ImmExt H1 H2 ∧ ∃ env2 acc2 fa fp2, isDc acc2 = true ∧ RO K H2 acc2 (.ref Dl) fa ∧ SR K H2 (wipeE env2 vs) (L2.wipe σ vs) fp2 ∧ (fa ++ fp2).Nodup ∧ Evo fp1 H1 (fa ++ fp2) H2 ∧
    dcL vs g c kx vx (ds.drop i) env2 acc2 = some (d, env'), ?_, ?_⟩
  · obtain ⟨fp2, s2, n2, m2⟩ := s1.wipe n1 vs
    have sm := same_new (o := o0) hD
    refine ⟨ds.length, by omega, Nat.zero_le _, .of_same sm, en, d0, [Dl], fp2, hd0, h0 _ _ upd_same, (s2.same sm).relax (by rw [wipe_length]) fun i d' hi => wipe_out (wipeE_some hi), List.nodup_cons.mpr ⟨fun m => ?_, n2⟩, ⟨fun a o ha _ => sm a o ha, fun a m => ?_, .of_same sm⟩, by rw [List.drop_zero]; exact e3⟩
    · obtain ⟨o, z, _⟩ := s1.live Dl (m2 Dl m)
      rw [hD] at z; cases z
    · rcases List.mem_cons.mp m with rfl | m
      · exact .inr hD
      · exact .inl (m2 a m)
  rintro i m H2 ⟨rfl, hi, im, env2, acc2, fa, fp2, hdc, ra, s2, n2, ev2, e5⟩
  have y2 := yl H2 im
  have nfp : fp2.Nodup := (List.nodup_append.mp n2).2.1
  by_cases hlt : i < ds.length
  · refine .inr ?_
    have ed : ds[i]? = some ds[i] := List.getElem?_eq_getElem hlt
    obtain ⟨go, yi⟩ := y2.1 i _ ed
    refine ⟨go, fun H2 => i + 1 ≤ ds.length ∧ ImmExt H1 H2 ∧ ∃ env2 acc2 fa fp2, isDc acc2 = true ∧ RO K H2 acc2 (.ref Dl) fa ∧ SR K H2 (wipeE env2 vs) (L2.wipe σ vs) fp2 ∧ (fa ++ fp2).Nodup ∧ Evo fp1 H1 (fa ++ fp2) H2 ∧
      dcL vs g c kx vx (ds.drop (i + 1)) env2 acc2 = some (d, env'), fun H' z => ⟨ds.length - (i + 1), by omega, rfl, z⟩, fun x H3 hy => ?_⟩
    obtain ⟨sm, rx⟩ := yi x H3 hy
    rw [List.drop_eq_getElem_cons hlt] at e5
    unfold dcL at e5
    obtain ⟨en6, e6, e5⟩ := Option.bind_eq_some_iff.mp e5
    obtain ⟨⟨k, en7⟩, e7, e5⟩ := Option.bind_eq_some_iff.mp e5
    refine ⟨ds[i], wipeE env2 vs, en6, fp2, [], s2.same sm, rx.ro, nfp, e6, fun σ4 H4 fp4 ev4 s4 n4 p4 => ?_⟩
    have ev4 : Evo fp2 H3 fp4 H4 := ev4
    have ev24 : Evo fp2 H2 fp4 H4 := (Evo.of_same (fr := []) sm fun a z => (nomatch z)).trans ev4
    have hlen : σ4.length = σ.length := p4.1.trans (wipe_length σ vs)
    have hw : L2.wipe σ4 vs = L2.wipe σ vs := by
      rw [wipe_ext (σ := L2.wipe σ vs) (by rw [wipe_length]; exact hlen) fun j hj => p4.2 j (by simp [ownP, hj])]
      exact wipe_ext (by rw [wipe_length]) fun j hj => wipe_out hj
    refine ⟨hw, ?_⟩
    have beside : ∀ {f5 : List Addr} {H5 : Hp}, Evo fp2 H2 f5 H5 → f5.Nodup → RO K H5 acc2 (.ref Dl) fa ∧ (fa ++ f5).Nodup ∧ Evo fp1 H1 (fa ++ f5) H5 := fun {f5 H5} e n => by
      have nf : ∀ a ∈ fa, a ∉ fp2 := fun a m m' => (List.nodup_append.mp n2).2.2 a m a m' rfl
      have lv : ∀ a ∈ fa, Live H2 a := RO.live _ _ _ ra
      refine ⟨RO.mono e.imm _ _ _ (e.stay lv nf) ra, List.nodup_append.mpr ⟨(List.nodup_append.mp n2).1, n, fun a m b m' z => by subst z; exact e.apart lv nf a m m'⟩, ev2.trans e.side⟩
    refine ⟨en6, en7, fp4, k, s4, n4, e7, fun H5 fp5 ev5 s5 n5 => ?_⟩
    have ev25 := ev24.trans ev5
    cases k with
    | false =>
      rw [if_neg Bool.false_ne_true] at e5
      refine iteF ?_
      obtain ⟨f6, s6, n6, m6⟩ := s5.wipe n5 vs
      obtain ⟨b2, b3, b4⟩ := beside (ev25.sub m6) n6
      exact ⟨hlt, im.trans ev25.imm, en7, acc2, fa, f6, hdc, b2, s6.relax (by rw [wipe_length, hlen]) fun j d' hj => by rw [← hw]; exact wipe_out (wipeE_some hj), b3, b4, e5⟩
    | true =>
      rw [if_pos rfl] at e5
      refine iteT ?_
      obtain ⟨⟨dk, en8⟩, e8, e5⟩ := Option.bind_eq_some_iff.mp e5
      obtain ⟨⟨dv, en9⟩, e9, e5⟩ := Option.bind_eq_some_iff.mp e5
      obtain ⟨acc3, e10, e5⟩ := Option.bind_eq_some_iff.mp e5
      refine ⟨en7, en8, fp5, dk, s5, n5, e8, fun y H6 fk fp6 ev6 s6 ry n6 => ?_⟩
      refine ⟨en8, en9, fp6, dv, s6, (List.nodup_append.mp n6).2.1, e9, fun z H7 fv fp7 ev7 s7 rz n7 => ?_⟩
      obtain ⟨ry7, ev57, n57⟩ := two (env := en) (σ := σ) ev6 ry n6 ev7 n7
      have ev57' : Evo fp5 H5 (fv ++ fp7) H7 := ev57.sub fun a m => by
        rw [List.append_assoc]; exact List.mem_append_right _ m
      obtain ⟨f8, s8, n8, m8⟩ := s7.wipe (List.nodup_append.mp n7).2.1 vs
      have nv : (fv ++ f8).Nodup := List.nodup_append.mpr ⟨(List.nodup_append.mp n7).1, n8, fun a m b m' => (List.nodup_append.mp n7).2.2 a m b (m8 b m')⟩
      have ev8 : Evo fp5 H5 (fv ++ f8) H7 := ev57'.sub fun a m => (List.mem_append.mp m).elim (List.mem_append_left _) fun z => List.mem_append_right _ (m8 a z)
      obtain ⟨b2, b3, b4⟩ := beside (ev25.trans ev8) nv
      have b3' : ((fa ++ fv) ++ f8).Nodup := by rw [List.append_assoc]; exact b3
      have nn := List.nodup_append.mp b3'
      obtain ⟨a0, H8, fa3, z0, pd, evp, rap, np⟩ := put_dict hdc b2 ry7 rz nn.1 e10
      cases z0
      have lv8 : ∀ a ∈ f8, Live H7 a := s8.live
      have nf8 : ∀ a ∈ f8, a ∉ fa ++ fv := fun a m m' => nn.2.2 a m' a m rfl
      refine ⟨H8, pd, hlt, (im.trans (ev25.imm.trans ev8.imm)).trans evp.imm, en9, acc3, fa3, f8, isDc_put hdc e10, rap, ?_, ?_, ?_, e5⟩
      · exact (s8.mono evp.imm (evp.stay lv8 nf8)).relax (by rw [wipe_length, hlen]) fun j d' hj => by rw [← hw]; exact wipe_out (wipeE_some hj)
      · exact List.nodup_append.mpr ⟨np, nn.2.1, fun a m b m' z => by subst z; exact evp.apart lv8 nf8 a m' m⟩
      · have e1' : Evo (f8 ++ (fa ++ fv)) H7 (f8 ++ fa3) H8 := evp.side
        refine ((b4.sub fun a m => ?_).trans e1').sub fun a m => (List.mem_append.mp m).elim (List.mem_append_right _) (List.mem_append_left _)
        rcases List.mem_append.mp m with m | m
        · exact List.mem_append_right _ (List.mem_append_right _ m)
        · exact (List.mem_append.mp m).elim (List.mem_append_left _) fun m => List.mem_append_right _ (List.mem_append_left _ m)
  · have e : i = ds.length := by omega
    subst e
    rw [List.drop_length] at e5
    cases e5
    refine .inl ⟨y2.2, q (.ref Dl) H2 fa fp2 (ev1.trans ev2) ?_ ra n2⟩
    exact s2.relax (by rw [wipe_length]) fun j d' hj => (wipe_out (wipeE_some hj)).symm
section
variable {X : Cx} {kx vx tg iter : Expr} {ifs : List Expr} {scope : Scope} {own : List (Str × Nat)} {pos : Pos} {it : ISm} {g : GSm} {c : TSm} {ek ev : ESm}
theorem de_dcT (hu : X.A.units + 1 < cLine) (hc : X.calm = true) (hN : X.N.Nodup) (hi : DI X tg iter it) (ok : BlkOk X.N X.env.scope scope own)
    (hg : ∀ (s : Shared) (H : Hp) (C : Addr) (cl : List (Str × Addr)) (fp : List Addr), DG (ownP (own.map (·.2))) (X.blk s H scope (compEnvC scope cl C X.env) fp) tg g)
    (ht : ∀ (s : Shared) (H : Hp) (C : Addr) (cl : List (Str × Addr)) (fp : List Addr), PTs (X.blk s H scope (compEnvC scope cl C X.env) fp) ifs (tT X.K c))
    (hk : ∀ (s : Shared) (H : Hp) (C : Addr) (cl : List (Str × Addr)) (fp : List Addr), DE (X.blk s H scope (compEnvC scope cl C X.env) fp) kx ek)
    (hv : ∀ (s : Shared) (H : Hp) (C : Addr) (cl : List (Str × Addr)) (fp : List Addr), DE (X.blk s H scope (compEnvC scope cl C X.env) fp) vx ev) (hs : ∀ x, foldedSetIterable iter X.env x = pure x := by intro _; rfl) :
    DE X (.DictComp kx vx [⟨tg, iter, ifs, 0⟩] scope pos) (eDc (.dcT false [] []) (own.map (·.2)) it g c ek ev) :=
  ⟨_, pe_mk_table (o0 := .dT []) (g := tG X.K (ownP (own.map (fun x : Str × Nat => x.2))) g) (tk := tE X.K ek) (tv := tE X.K ev) hu hc hN hi ok (fun H h z => dt_empty h z) (fun s H C cl fp => hg s H C cl fp) ht (fun s H C cl fp => (hk s H C cl fp).pe) (fun s H C cl fp => (hv s H C cl fp).pe) hs,
    fun σ H env env' fp d s nd hf Q q => table_core (d0 := .dcT false [] []) rfl trivial (fun H p z => .inr ⟨rfl, p, [], [], rfl, rfl, z, rfl, rfl, rfl⟩) ⟨env, env', fp, d, s, nd, hf, q⟩⟩
theorem de_dcK (hu : X.A.units + 1 < cLine) (hc : X.calm = true) (hN : X.N.Nodup) (hi : DI X tg iter it) (ok : BlkOk X.N X.env.scope scope own)
    (hg : ∀ (s : Shared) (H : Hp) (C : Addr) (cl : List (Str × Addr)) (fp : List Addr), DG (ownP (own.map (·.2))) (X.blk s H scope (compEnvC scope cl C X.env) fp) tg g)
    (ht : ∀ (s : Shared) (H : Hp) (C : Addr) (cl : List (Str × Addr)) (fp : List Addr), PTs (X.blk s H scope (compEnvC scope cl C X.env) fp) ifs (tT X.K c))
    (hk : ∀ (s : Shared) (H : Hp) (C : Addr) (cl : List (Str × Addr)) (fp : List Addr), DE (X.blk s H scope (compEnvC scope cl C X.env) fp) kx ek)
    (hv : ∀ (s : Shared) (H : Hp) (C : Addr) (cl : List (Str × Addr)) (fp : List Addr), DE (X.blk s H scope (compEnvC scope cl C X.env) fp) vx ev) (hs : ∀ x, foldedSetIterable iter X.env x = pure x := by intro _; rfl) :
    DE X (.DictComp kx vx [⟨tg, iter, ifs, 0⟩] scope pos) (eDc (.dcK false [] []) (own.map (·.2)) it g c ek ev) :=
  ⟨_, pe_mk_table (o0 := .dK []) (g := tG X.K (ownP (own.map (fun x : Str × Nat => x.2))) g) (tk := tE X.K ek) (tv := tE X.K ev) hu hc hN hi ok (fun H h z => dk_empty h z) (fun s H C cl fp => hg s H C cl fp) ht (fun s H C cl fp => (hk s H C cl fp).pe) (fun s H C cl fp => (hv s H C cl fp).pe) hs,
    fun σ H env env' fp d s nd hf Q q => table_core (d0 := .dcK false [] []) rfl trivial (fun H p z => .inr ⟨rfl, p, [], [], rfl, rfl, z, rfl, rfl, rfl⟩) ⟨env, env', fp, d, s, nd, hf, q⟩⟩
end
theorem ds_setDcT {P : Nat → Bool} {X : Cx} {kx vx tg iter : Expr} {ifs : List Expr} {scope : Scope} {own : List (Str × Nat)} {pos spos py : Pos} {it : ISm} {g : GSm} {c : TSm} {ek ev : ESm} {i : Nat} {y : Str} (hu : X.A.units + 1 < cLine) (hc : X.calm = true) (hN : X.N.Nodup)
    (hy : X.N[i]? = some y) (hyl : X.env.scope.names.lookup y = some .local) (hP : P i = false) (hsw : swapsWith (.DictComp kx vx [⟨tg, iter, ifs, 0⟩] scope pos) (some (.Name y py)) spos.line X.env = pure true) (hi : DI X tg iter it) (ok : BlkOk X.N X.env.scope scope own)
    (hg : ∀ (s : Shared) (H : Hp) (C : Addr) (cl : List (Str × Addr)) (fp : List Addr), DG (ownP (own.map (·.2))) (X.blk s H scope (compEnvC scope cl C X.env) fp) tg g)
    (ht : ∀ (s : Shared) (H : Hp) (C : Addr) (cl : List (Str × Addr)) (fp : List Addr), PTs (X.blk s H scope (compEnvC scope cl C X.env) fp) ifs (tT X.K c))
    (hk : ∀ (s : Shared) (H : Hp) (C : Addr) (cl : List (Str × Addr)) (fp : List Addr), DE (X.blk s H scope (compEnvC scope cl C X.env) fp) kx ek)
    (hv : ∀ (s : Shared) (H : Hp) (C : Addr) (cl : List (Str × Addr)) (fp : List Addr), DE (X.blk s H scope (compEnvC scope cl C X.env) fp) vx ev) (hs : ∀ x, foldedSetIterable iter X.env x = pure x := by intro _; rfl) :
    DS P X (.Assign [.Name y py] (.DictComp kx vx [⟨tg, iter, ifs, 0⟩] scope pos) spos) (sAsg (eDc (.dcT false [] []) (own.map (·.2)) it g c ek ev) (gNm i)) :=
  fun W tk => ps_of (ps_mk_table (o0 := .dT []) (g := tG X.K (ownP (own.map (fun x : Str × Nat => x.2))) g) (tk := tE X.K ek) (tv := tE X.K ev) hy hyl hsw hu hc hN hi ok (fun H h z => dt_empty h z) (fun s H C cl fp => hg s H C cl fp) ht (fun s H C cl fp => (hk s H C cl fp).pe) (fun s H C cl fp => (hv s H C cl fp).pe) hs)
    fun D σ H z => asg_core (fun _ _ _ z => table_core (d0 := .dcT false [] []) rfl trivial (fun H p z => .inr ⟨rfl, p, [], [], rfl, rfl, z, rfl, rfl, rfl⟩) z) (fun v σ H Q ⟨d, env, env', fp, fr, s, r, nd, hg, q⟩ => by
      unfold gNm at hg
      split at hg
      case isFalse => cases hg
      rename_i hl
      cases hg
      obtain ⟨fp', s', n', m'⟩ := put_slot s r nd hl
      exact q _ H fp' ((Evo.refl _ H).sub m') s' n' (Pin.set hP)) z
theorem ds_setDcK {P : Nat → Bool} {X : Cx} {kx vx tg iter : Expr} {ifs : List Expr} {scope : Scope} {own : List (Str × Nat)} {pos spos py : Pos} {it : ISm} {g : GSm} {c : TSm} {ek ev : ESm} {i : Nat} {y : Str} (hu : X.A.units + 1 < cLine) (hc : X.calm = true) (hN : X.N.Nodup)
    (hy : X.N[i]? = some y) (hyl : X.env.scope.names.lookup y = some .local) (hP : P i = false) (hsw : swapsWith (.DictComp kx vx [⟨tg, iter, ifs, 0⟩] scope pos) (some (.Name y py)) spos.line X.env = pure true) (hi : DI X tg iter it) (ok : BlkOk X.N X.env.scope scope own)
    (hg : ∀ (s : Shared) (H : Hp) (C : Addr) (cl : List (Str × Addr)) (fp : List Addr), DG (ownP (own.map (·.2))) (X.blk s H scope (compEnvC scope cl C X.env) fp) tg g)
    (ht : ∀ (s : Shared) (H : Hp) (C : Addr) (cl : List (Str × Addr)) (fp : List Addr), PTs (X.blk s H scope (compEnvC scope cl C X.env) fp) ifs (tT X.K c))
    (hk : ∀ (s : Shared) (H : Hp) (C : Addr) (cl : List (Str × Addr)) (fp : List Addr), DE (X.blk s H scope (compEnvC scope cl C X.env) fp) kx ek)
    (hv : ∀ (s : Shared) (H : Hp) (C : Addr) (cl : List (Str × Addr)) (fp : List Addr), DE (X.blk s H scope (compEnvC scope cl C X.env) fp) vx ev) (hs : ∀ x, foldedSetIterable iter X.env x = pure x := by intro _; rfl) :
    DS P X (.Assign [.Name y py] (.DictComp kx vx [⟨tg, iter, ifs, 0⟩] scope pos) spos) (sAsg (eDc (.dcK false [] []) (own.map (·.2)) it g c ek ev) (gNm i)) :=
  fun W tk => ps_of (ps_mk_table (o0 := .dK []) (g := tG X.K (ownP (own.map (fun x : Str × Nat => x.2))) g) (tk := tE X.K ek) (tv := tE X.K ev) hy hyl hsw hu hc hN hi ok (fun H h z => dk_empty h z) (fun s H C cl fp => hg s H C cl fp) ht (fun s H C cl fp => (hk s H C cl fp).pe) (fun s H C cl fp => (hv s H C cl fp).pe) hs)
    fun D σ H z => asg_core (fun _ _ _ z => table_core (d0 := .dcK false [] []) rfl trivial (fun H p z => .inr ⟨rfl, p, [], [], rfl, rfl, z, rfl, rfl, rfl⟩) z) (fun v σ H Q ⟨d, env, env', fp, fr, s, r, nd, hg, q⟩ => by
      unfold gNm at hg
      split at hg
      case isFalse => cases hg
      rename_i hl
      cases hg
      obtain ⟨fp', s', n', m'⟩ := put_slot s r nd hl
      exact q _ H fp' ((Evo.refl _ H).sub m') s' n' (Pin.set hP)) z
end DL

set_option maxHeartbeats 1000000
/-! DL, part o: what a printed derivation leans on; the law's end -/
namespace DL
open PySem PySem.Spec PyProof.Rows L2 C8
def pinP (l : List Nat) : Nat → Bool := fun i => l.contains i
def fuelN : Nat := 1000000000
theorem units_of {k : Nat} {A : Around} (hr : Room k A) : A.units < cLine ∧ A.units + 1 < cLine ∧ A.units + 64 < cLine ∧ A.units + 65 < cLine := by
  have := hr.un
  refine ⟨?_, ?_, ?_, ?_⟩ <;> omega
section
variable {X : Cx} {e : Expr} {es : List Expr}
theorem dapo_nil : DAP true X [] aNil := ⟨_, pa_nil, fun σ H env fp ds s nd hf Q q => by cases hf; exact q [] H [] (Same.refl H) ⟨rfl, rfl⟩ fun _ => .nil⟩
theorem dapo_cons {f : PSm} {g : APm} (h : DB true X e f) (h' : DAP true X es g) (hs : starEach (e :: es) X.env = (false, eval e X.env) :: starEach es X.env := by rfl) : DAP true X (e :: es) (aCons f g) := by
  obtain ⟨t, p, h⟩ := h
  obtain ⟨t', p', h'⟩ := h'
  refine ⟨_, pa_cons p p' hs, fun σ H env fp ds s nd hf Q q => ?_⟩
  obtain ⟨d, e1, hf⟩ := Option.bind_eq_some_iff.mp hf
  obtain ⟨dr, e2, e3⟩ := Option.map_eq_some_iff.mp hf
  cases e3
  refine h σ H env fp d s nd e1 _ fun v H1 fr s1 r fo => ?_
  refine h' σ H1 env fp dr (s.same s1) nd e2 _ fun vs H2 fr2 s2 rs fo2 => ?_
  have lv : ∀ a ∈ fr, Live H1 a := RO.live d v fr r
  refine q (v :: vs) H2 (fr ++ fr2) (s1.trans s2) ⟨v, vs, fr, fr2, rfl, rfl, r.same s2, rs⟩ fun _ => ?_
  have f1 := fo rfl
  have f2 := fo2 rfl
  refine ⟨List.nodup_append.mpr ⟨f1.1, f2.1, fun a m b m' z => ?_⟩, fun a m => (List.mem_append.mp m).elim (f1.2 a) fun m => s1.free (f2.2 a m)⟩
  subst z
  obtain ⟨o, ho, _⟩ := lv a m
  rw [f2.2 a m'] at ho; cases ho
end
theorem ints_ri {K : PySem.W.Frag} {H : Hp} : ∀ ns : List Int, RIs K H (ns.map D.int) (ns.map V.int)
  | [] => rfl
  | n :: r => ⟨.int n, r.map V.int, rfl, rfl, ints_ri r⟩
/-- the law's script, as its def gets it -/
theorem script_ri {K : PySem.W.Frag} {H : Hp} {a : Addr} {ns : List Int} (hO : Only H) (hS : SqL K H a (ns.map V.int)) : RO K H (.scr (ns.map D.int)) (.ref a) [] := by
  refine ⟨rfl, a, ns.map V.int, rfl, ?_, ?_⟩
  · rcases hS with h | h
    · rcases h with h | h
      · rcases hO a with z | ⟨o, xs, z⟩
        · rw [z] at h; cases h
        · rw [z] at h; cases h
      · exact .inl h
    · exact .inr h
  · exact ints_ri ns
/-- a def of the top, from what the top's heap says of it -/
theorem def_at {K : PySem.W.Frag} {h : Heap} {mg : Str → Option Value} {x : Str} {st : Stmt} {f : Addr} {oc : Value} {od an : Option Addr} {sl : Array (Option Value)} {kV dc pm cd ct : Value} (X : K.In h) (G : h.Ns mainGlobals mg)
    (a : PySem.W.nsIn K mainGlobals x = some (some (.ref f))) (l : K.lookup f = some ⟨oc, od, .func (PySem.W.fnOf x x (fnArgs st) (fnBody st) (fnScope st) .none kV dc pm an cd ct), sl⟩)
    (c : PySem.W.codeIn K cd x = true) (k : PySem.W.keepIn K (.ref f) = true) : Def K mg x st f (PySem.W.fnOf x x (fnArgs st) (fnBody st) (fnScope st) .none kV dc pm an cd ct) :=
  ⟨⟨⟨oc, od, .none, kV, dc, pm, an, cd, ct, sl, rfl, l, c⟩⟩, PySem.W.mg_of X G a, k⟩
theorem prom_law {K : PySem.W.Frag} {F : FSm} {H : Hp} {a : Addr} {ns : List Int} {outs : List (Option D)} {E : XK} (hO : Only H) (hS : SqL K H a (ns.map V.int)) (h : F [.scr (ns.map D.int)] = some (.bl true, outs)) :
    Prom K F [.ref a] H (fun v _ => v = .bl true) E :=
  ⟨[.scr (ns.map D.int)], [], .bl true, outs, ⟨.ref a, [], [], [], rfl, rfl, script_ri hO hS, rfl, rfl⟩, List.nodup_nil, h, fun _ _ _ _ _ r _ _ => r.2⟩
/-! ### a op b op c -/
def pCh (g g' : D → D → Option D) (fa fb fc : PSm) : PSm := fun env => (fa env).bind fun x => (fb env).bind fun y => (g x y).bind fun r => match r with
  | .bl true => (fc env).bind fun z => g' y z
  | .bl false => some (.bl false)
  | _ => none
def pChT (g g' : D → D → Option D) (fa fb fc : PSm) : TPm := fun env => match pCh g g' fa fb fc env with
  | some (.bl b) => some b
  | _ => none
section
variable {X : Cx} {a b c : Expr} {op op' : CmpOp} {g g' : D → D → Option D} {fa fb fc : PSm} {pos : Pos}
theorem ch_core {r r' : R2} {ta tb tc : TE} (ho : ∀ (H : Hp) (x y : V) (dx dy d : D) (fx fy : List Addr), RO X.K H dx x fx → RO X.K H dy y fy → g dx dy = some d → ∀ Q : VK, Res true X.K H d Q → r x y H Q)
    (ho' : ∀ (H : Hp) (x y : V) (dx dy d : D) (fx fy : List Addr), RO X.K H dx x fx → RO X.K H dy y fy → g' dx dy = some d → ∀ Q : VK, Res true X.K H d Q → r' x y H Q)
    (ha : ∀ (σ : L2.St) (H : Hp) (env : Env) (fp : List Addr) (d : D), SR X.K H env σ fp → fp.Nodup → fa env = some d → ∀ Q : VK, Res false X.K H d Q → ta σ H Q) (hb : ∀ (σ : L2.St) (H : Hp) (env : Env) (fp : List Addr) (d : D), SR X.K H env σ fp → fp.Nodup → fb env = some d → ∀ Q : VK, Res false X.K H d Q → tb σ H Q)
    (hc : ∀ (σ : L2.St) (H : Hp) (env : Env) (fp : List Addr) (d : D), SR X.K H env σ fp → fp.Nodup → fc env = some d → ∀ Q : VK, Res false X.K H d Q → tc σ H Q)
    {σ : L2.St} {H : Hp} {env : Env} {fp : List Addr} {d : D} (s : SR X.K H env σ fp) (nd : fp.Nodup) (hf : pCh g g' fa fb fc env = some d) {Q : VK} (q : Res true X.K H d Q) : tChain r r' ta tb tc σ H Q := by
  obtain ⟨x, e1, hf⟩ := Option.bind_eq_some_iff.mp hf
  obtain ⟨y, e2, hf⟩ := Option.bind_eq_some_iff.mp hf
  obtain ⟨k, e3, hf⟩ := Option.bind_eq_some_iff.mp hf
  refine ha σ H env fp x s nd e1 _ fun vx H1 fx s1 rx _ => hb σ H1 env fp y (s.same s1) nd e2 _ fun vy H2 fy s2 ry _ => ?_
  refine ho H2 vx vy x y k fx fy (rx.same s2) ry e3 _ fun vk H3 fk s3 rk _ => ?_
  cases k with
  | bl k =>
    refine ⟨k, rk.2, ?_⟩
    cases k with
    | false =>
      cases hf
      rw [if_neg Bool.false_ne_true]
      exact (((q.via s1).via s2).via s3).bl
    | true =>
      obtain ⟨z, e4, e5⟩ := Option.bind_eq_some_iff.mp hf
      rw [if_pos rfl]
      refine hc σ H3 env fp z (((s.same s1).same s2).same s3) nd e4 _ fun vz H4 fz' s4 rz _ => ?_
      exact ho' H4 vy vz y z d fy fz' ((ry.same s3).same s4) rz e5 Q ((((q.via s1).via s2).via s3).via s4)
  | _ => cases hf
theorem db_chain (ho : O2 true X (compareOp op) g) (ho' : O2 true X (compareOp op') g') (ha : DB false X a fa) (hb : DB false X b fb) (hc : DB false X c fc) (hm : lastMarks [op, op'] [b, c] = false := by with_unfolding_all rfl) : DB true X (.Compare a [op, op'] [b, c] pos) (pCh g g' fa fb fc) := by
  obtain ⟨r, hr, ho⟩ := ho
  obtain ⟨r', hr', ho'⟩ := ho'
  obtain ⟨ta, pa, ha⟩ := ha
  obtain ⟨tb, pb, hb⟩ := hb
  obtain ⟨tc, pc, hc⟩ := hc
  exact ⟨_, pe_chain hr hr' pa pb pc hm, fun σ H env fp d s nd hf Q q => ch_core ho ho' ha hb hc s nd hf q⟩
theorem dtp_chain (ho : O2 true X (compareOp op) g) (ho' : O2 true X (compareOp op') g') (ha : DB false X a fa) (hb : DB false X b fb) (hc : DB false X c fc) (hm : lastMarks [op, op'] [b, c] = false := by with_unfolding_all rfl) : DTP X (.Compare a [op, op'] [b, c] pos) (pChT g g' fa fb fc) := by
  obtain ⟨r, hr, ho⟩ := ho
  obtain ⟨r', hr', ho'⟩ := ho'
  obtain ⟨ta, pa, ha⟩ := ha
  obtain ⟨tb, pb, hb⟩ := hb
  obtain ⟨tc, pc, hc⟩ := hc
  refine ⟨_, pt_chain hr hr' pa pb pc hm, fun σ H env fp k s nd hf Q q => ?_⟩
  unfold pChT at hf
  split at hf
  case h_2 => cases hf
  rename_i kk e0
  cases hf
  exact ch_core ho ho' ha hb hc s nd e0 fun v H' fr sm r fo => ⟨_, r.2, q H' sm⟩
end
end DL

set_option maxHeartbeats 1000000
/-! DL, part r: calls with keywords -/
namespace DL
open PySem PySem.Spec PyProof.Rows L2 C8
def gP (perm : List Nat) (a b : Nat) (us ws : List Value) : List Value := if us.length = a ∧ ws.length = b then perm.map fun i => (us ++ ws).getD i .none else []
def gPV (perm : List Nat) (a b : Nat) (us ws : List V) : List V := if us.length = a ∧ ws.length = b then perm.map fun i => (us ++ ws).getD i .non else []
theorem vals_getD {vs : List V} {us : List Value} (r : Vals vs us) (i : Nat) : RelV (vs.getD i .non) (us.getD i .none) := by
  rw [List.getD_eq_getElem?_getD, List.getD_eq_getElem?_getD]
  by_cases h : i < vs.length
  · obtain ⟨u, e1, e2⟩ := r.get (List.getElem?_eq_getElem h)
    rw [List.getElem?_eq_getElem h, e1]
    exact e2
  · rw [List.getElem?_eq_none (by omega), List.getElem?_eq_none (by rw [← r.length]; omega)]
    rfl
theorem vals_map (perm : List Nat) {vs : List V} {us : List Value} (r : Vals vs us) : Vals (perm.map fun i => vs.getD i .non) (perm.map fun i => us.getD i .none) := by
  induction perm with
  | nil => exact .nil
  | cons i p ih => exact .cons (vals_getD r i) ih
theorem kbinds_mk {K : PySem.W.Frag} {fd : FuncData} {ps ks : List Str} {perm : List Nat} {a b : Nat} (hp : ps.length ≠ 0) (h : ∀ (s : Shared) (us ws : List Value), us.length = a → ws.length = b → BindsTo s fd ⟨us, ks.zip ws⟩ (ps.zip (perm.map fun i => (us ++ ws).getD i .none))) :
    KBinds K fd ps ks (gP perm a b) (gPV perm a b) := by
  refine ⟨fun s us ws _ hl => ?_, fun {vs us zs ws} r1 r2 => ?_⟩
  · unfold gP at hl ⊢
    by_cases c : us.length = a ∧ ws.length = b
    · rw [if_pos c]; exact h s us ws c.1 c.2
    · rw [if_neg c] at hl; exact absurd hl.symm hp
  · unfold gP gPV
    rw [r1.length, r2.length]
    by_cases c : us.length = a ∧ ws.length = b
    · rw [if_pos c, if_pos c]; exact vals_map perm (r1.append r2)
    · rw [if_neg c, if_neg c]; exact .nil
structure KCal (P : Program) (w : World) (K : PySem.W.Frag) (mg : Str → Option Value) (base : Heap) (k : Nat) (x : Str) (sp : Sp) (ks : List Str) (perm : List Nat) (a b : Nat) : Prop where
  ex : ∃ (f : Addr) (fd : FuncData) (ps : List Str), FnOk P w K mg base C8.CX0 k f fd ps sp ∧ mg x = some (.ref f) ∧ PySem.W.keepIn K (.ref f) = true ∧ KBinds K fd ps ks (gP perm a b) (gPV perm a b)
/-- the keywords' values -/
def DCK (X : Cx) (kws : List Keyword) (f : CSm) : Prop := ∃ t : TA, PK X kws t ∧ ∀ (σ : L2.St) (H : Hp) (env env' : Env) (fp : List Addr) (xs : List (D ⊕ Nat)), SR X.K H env σ fp → fp.Nodup → f env = some (xs, env') →
  ∀ Q : List V → Hp → Prop, (∀ vs H' fr fp', Evo fp H (fr ++ fp') H' → SR X.K H' env' σ fp' → CArg X.K H' σ xs vs fr → (fr ++ fp').Nodup → Q vs H') → t σ H Q
section
variable {X : Cx} {K : PySem.W.Frag} {H : Hp} {σ : L2.St} {e : Expr} {es : List Expr} {kws : List Keyword} {nm : Option Str} {kpos : Pos}
theorem dck_nil : DCK X [] cNil := ⟨_, pk_nil, fun σ H env env' fp xs s nd hf Q q => by
  cases hf
  exact q [] H [] fp (Evo.refl fp H) s ⟨rfl, rfl⟩ nd⟩
theorem dck_val {f : ESm} {r : CSm} (he : DE X e f) (hr : DCK X kws r) : DCK X (⟨nm, e, kpos⟩ :: kws) (cVal f r) := by
  obtain ⟨te, pe, he⟩ := he
  obtain ⟨ta, pa, hr⟩ := hr
  refine ⟨_, pk_cons pe pa, fun σ H env env' fp xs s nd hf Q q => ?_⟩
  obtain ⟨⟨d, en⟩, e1, hf⟩ := Option.bind_eq_some_iff.mp hf
  obtain ⟨⟨ys, en2⟩, e2, e3⟩ := Option.map_eq_some_iff.mp hf
  cases e3
  refine he σ H env en fp d s nd e1 _ fun v H1 f1 fp1 v1 s1 r1 n1 => ?_
  refine hr σ H1 en _ fp1 ys s1 (List.nodup_append.mp n1).2.1 e2 _ fun vs H2 f2 fp2 v2 s2 r2 n2 => ?_
  obtain ⟨r12, v12, n12⟩ := two (env := env) (σ := σ) v1 r1 n1 v2 n2
  exact q (v :: vs) H2 (f1 ++ f2) fp2 v12 s2 ⟨v, vs, f1, f2, rfl, rfl, r12, r2⟩ n12
theorem dck_bor {i : Nat} {r : CSm} (he : PE X e (tVar i)) (hr : DCK X kws r) : DCK X (⟨nm, e, kpos⟩ :: kws) (cBor i r) := by
  obtain ⟨ta, pa, hr⟩ := hr
  refine ⟨_, pk_cons he pa, fun σ H env env' fp xs s nd hf Q q => ?_⟩
  unfold cBor at hf
  split at hf
  case h_2 => cases hf
  rename_i d hd
  obtain ⟨⟨ys, en2⟩, e2, e3⟩ := Option.map_eq_some_iff.mp hf
  cases e3
  obtain ⟨v, pre, f, post, e1, _⟩ := s.at hd
  refine ⟨v, e1, ?_⟩
  exact hr σ H env _ fp ys s nd e2 _ fun vs H2 f2 fp2 v2 s2 r2 n2 => q (v :: vs) H2 f2 fp2 v2 s2 ⟨v, vs, rfl, e1, r2⟩ n2
theorem CArg.len : ∀ {xs : List (D ⊕ Nat)} {vs : List V} {f : List Addr}, CArg K H σ xs vs f → vs.length = xs.length
  | [], _, _, h => by rw [h.1]; rfl
  | .inl d :: r, _, _, ⟨x, xs, f, f', h0, _, _, h2⟩ => by rw [h0]; simp [h2.len]
  | .inr i :: r, _, _, ⟨x, xs, h0, _, h2⟩ => by rw [h0]; simp [h2.len]
theorem CArg.app : ∀ {xs ys : List (D ⊕ Nat)} {vs us : List V} {f g : List Addr}, CArg K H σ xs vs f → CArg K H σ ys us g → CArg K H σ (xs ++ ys) (vs ++ us) (f ++ g)
  | [], _, _, _, _, _, h, r => by rw [h.1, h.2]; exact r
  | .inl d :: r, _, _, _, _, _, ⟨x, xs, f, f', h0, h1, h2, h3⟩, q => by
    rw [h0, h1, List.append_assoc]
    exact ⟨x, _, f, _, rfl, rfl, h2, h3.app q⟩
  | .inr i :: r, _, _, _, _, _, ⟨x, xs, h0, h1, h2⟩, q => by
    rw [h0]
    exact ⟨x, _, rfl, h1, h2.app q⟩
theorem CArg.perm {zs zs' : List ((D ⊕ Nat) × V)} (p : zs.Perm zs') : ∀ {fp : List Addr}, CArg K H σ (zs.map (·.1)) (zs.map (·.2)) fp → ∃ fp', fp'.Perm fp ∧ CArg K H σ (zs'.map (·.1)) (zs'.map (·.2)) fp' := by
  induction p with
  | nil => exact fun {fp} h => ⟨fp, .refl _, h⟩
  | cons z p ih =>
    obtain ⟨x, v⟩ := z
    intro fp h
    cases x with
    | inl d =>
      obtain ⟨x, xs, f, f', h0, h1, h2, h3⟩ := h
      obtain ⟨rfl, rfl⟩ := List.cons.inj h0
      obtain ⟨g, k1, k2⟩ := ih h3
      exact ⟨f ++ g, by rw [h1]; exact k1.append_left f, ⟨_, _, f, g, rfl, rfl, h2, k2⟩⟩
    | inr i =>
      obtain ⟨x, xs, h0, h1, h2⟩ := h
      obtain ⟨rfl, rfl⟩ := List.cons.inj h0
      obtain ⟨g, k1, k2⟩ := ih h2
      exact ⟨g, k1, ⟨_, _, rfl, h1, k2⟩⟩
  | swap y z l =>
    obtain ⟨x1, v1⟩ := z
    obtain ⟨x2, v2⟩ := y
    intro fp h
    cases x1 with
    | inl d1 =>
      obtain ⟨x, xs, f, f', h0, h1, h2, h3⟩ := h
      obtain ⟨rfl, rfl⟩ := List.cons.inj h0
      cases x2 with
      | inl d2 =>
        obtain ⟨x, xs, g, g', h4, h5, h6, h7⟩ := h3
        obtain ⟨rfl, rfl⟩ := List.cons.inj h4
        refine ⟨g ++ (f ++ g'), ?_, ⟨_, _, g, _, rfl, rfl, h6, ⟨_, _, f, g', rfl, rfl, h2, h7⟩⟩⟩
        rw [h1, h5, ← List.append_assoc, ← List.append_assoc]
        exact List.perm_append_comm.append_right g'
      | inr i2 =>
        obtain ⟨x, xs, h4, h5, h6⟩ := h3
        obtain ⟨rfl, rfl⟩ := List.cons.inj h4
        exact ⟨f ++ f', by rw [h1], ⟨_, _, rfl, h5, ⟨_, _, f, f', rfl, rfl, h2, h6⟩⟩⟩
    | inr i1 =>
      obtain ⟨x, xs, h0, h1, h2⟩ := h
      obtain ⟨rfl, rfl⟩ := List.cons.inj h0
      cases x2 with
      | inl d2 =>
        obtain ⟨x, xs, g, g', h4, h5, h6, h7⟩ := h2
        obtain ⟨rfl, rfl⟩ := List.cons.inj h4
        exact ⟨g ++ g', by rw [h5], ⟨_, _, g, g', rfl, rfl, h6, ⟨_, _, rfl, h1, h7⟩⟩⟩
      | inr i2 =>
        obtain ⟨x, xs, h4, h5, h6⟩ := h2
        obtain ⟨rfl, rfl⟩ := List.cons.inj h4
        exact ⟨fp, .refl _, ⟨_, _, rfl, h5, ⟨_, _, rfl, h1, h6⟩⟩⟩
  | trans _ _ ih1 ih2 =>
    intro fp h
    obtain ⟨g, k1, k2⟩ := ih1 h
    obtain ⟨g', k3, k4⟩ := ih2 k2
    exact ⟨g', k3.trans k1, k4⟩
end
/-- f(.., k = ..): the written values put in the parameters' order -/
def eDefK (n : Nat) (perm : List Nat) (F : FSm) (c1 c2 : CSm) : ESm := fun env => (c1 env).bind fun a => (c2 a.2).bind fun b => if (a.1 ++ b.1).length = n then (takeB (perm.map fun i => (a.1 ++ b.1).getD i (.inl .non)) b.2).bind fun t => (F t.1).map fun r => (r.1, giveB (perm.map fun i => (a.1 ++ b.1).getD i (.inl .non)) t.1 r.2 t.2)
  else none
section
variable {X : Cx}
theorem perm_map {α : Type} {perm : List Nat} {d : α} {l : List α} (hp : perm.Perm (List.range l.length)) : (perm.map fun i => l.getD i d).Perm l := by
  have e : (List.range l.length).map (fun i => l.getD i d) = l := by
    apply List.ext_getElem
    · simp
    · intro k h1 h2
      simp [List.getD_eq_getElem?_getD, h2]
  have z := hp.map fun i => l.getD i d
  rwa [e] at z
theorem zip_getD {xs : List (D ⊕ Nat)} {vs : List V} (h : vs.length = xs.length) (perm : List Nat) (hb : ∀ i ∈ perm, i < xs.length) :
    (perm.map fun i => (xs.zip vs).getD i (.inl .non, .non)).map (·.1) = (perm.map fun i => xs.getD i (.inl .non)) ∧ (perm.map fun i => (xs.zip vs).getD i (.inl .non, .non)).map (·.2) = perm.map fun i => vs.getD i .non := by
  rw [List.map_map, List.map_map]
  constructor <;>
  · apply List.map_congr_left
    intro i hi
    have h1 := hb i hi
    have h2 : i < vs.length := by omega
    have h3 : i < (xs.zip vs).length := by rw [List.length_zip]; omega
    simp [List.getD_eq_getElem?_getD, List.getElem?_eq_getElem h3, List.getElem?_eq_getElem h1, List.getElem?_eq_getElem h2]
theorem callK_core {n a b : Nat} {perm : List Nat} {F : FSm} {xs ys : List (D ⊕ Nat)} {env1 env2 : Env} {ds : List D} {r : D} {outs : List (Option D)} {vs us : List V} {fp fr fp1 : List Addr} {H H1 : Hp} {σ : L2.St} {Q : VK} {E : XK} (hab : a + b = n) (hperm : perm.Perm (List.range n))
    (lx : xs.length = a) (v1 : Evo fp H (fr ++ fp1) H1) (s1 : SR X.K H1 env1 σ fp1) (c1 : CArg X.K H1 σ (xs ++ ys) (vs ++ us) fr) (lv : vs.length = xs.length) (n1 : (fr ++ fp1).Nodup) (hn : (xs ++ ys).length = n)
    (ht : takeB (perm.map fun i => (xs ++ ys).getD i (.inl .non)) env1 = some (ds, env2)) (hF : F ds = some (r, outs)) (q : EQ X.K σ H fp r (giveB (perm.map fun i => (xs ++ ys).getD i (.inl .non)) ds outs env2) Q) : Prom X.K F (gPV perm a b vs us) H1 Q E := by
  have ll := c1.len
  have e1 : gPV perm a b vs us = perm.map fun i => (vs ++ us).getD i .non := by
    unfold gPV
    rw [if_pos]
    rw [List.length_append] at hn ll
    simp only [List.length_append] at hn ll
    constructor <;> omega
  rw [e1]
  have lz : ((xs ++ ys).zip (vs ++ us)).length = n := by rw [List.length_zip, ll, Nat.min_self, hn]
  have pz : (perm.map fun i => ((xs ++ ys).zip (vs ++ us)).getD i (.inl .non, .non)).Perm ((xs ++ ys).zip (vs ++ us)) := perm_map (by rw [lz]; exact hperm)
  obtain ⟨z1, z2⟩ := zip_getD ll perm fun i hi => by rw [hn]; exact List.mem_range.mp (hperm.mem_iff.mp hi)
  have c1' : CArg X.K H1 σ (((xs ++ ys).zip (vs ++ us)).map (·.1)) (((xs ++ ys).zip (vs ++ us)).map (·.2)) fr := by
    rw [List.map_fst_zip (by omega), List.map_snd_zip (by omega)]
    exact c1
  obtain ⟨fr', p1, c2⟩ := c1'.perm pz.symm
  rw [z1, z2] at c2
  have n2 : (fr' ++ fp1).Nodup := (p1.append_right fp1).nodup_iff.mpr n1
  exact call_core (v1.sub fun a m => (List.mem_append.mp m).elim (fun m => List.mem_append_left _ (p1.mem_iff.mp m)) (List.mem_append_right _)) s1 c2 n2 ht hF q
theorem de_callK {x : Str} {p pos : Pos} {e : Expr} {es : List Expr} {kws : List Keyword} {k j n a b : Nat} {perm : List Nat} {ks : List Str} {F : FSm} {c1 c2 : CSm} (c : KCal X.prog X.w X.K X.mg X.base k x (Prom X.K F) ks perm a b) (hr : Room j X.A) (hk : k ≤ j) (hg : Gl X x) (hab : a + b = n)
    (la : (e :: es).length = a) (hperm : perm.Perm (List.range n)) (ha : DC X (e :: es) c1) (hkw : DCK X kws c2) (hl1 : ∀ env r, c1 env = some r → r.1.length = a) (hall : (backToKw pos (keywordEach kws X.env)).all (·.1.isSome) = true := by rfl) (hks : (backToKw pos (keywordEach kws X.env)).filterMap (·.1) = ks := by rfl)
    (hdb : (x == ("__debug__" : Str)) = false := by decide) (he : starEach (e :: es) X.env = (false, eval e X.env) :: starEach es X.env := by rfl)
    (hpl : ((backTo pos (starEach (e :: es) X.env)).any (·.1) || (backToKw pos (keywordEach kws X.env)).any (·.1.isNone)) = false := by rfl) : DE X (.Call (.Name x p) (e :: es) kws pos) (eDefK n perm F c1 c2) := by
  obtain ⟨f, fd, ps, hF, hm, kp, kb⟩ := c.ex
  obtain ⟨t, pa, ha⟩ := ha
  obtain ⟨tk, pk, hkw⟩ := hkw
  refine ⟨_, pe_callK (E := C8.E0) hF (hr.mono hk) hg hm kp kb C8.pass0 pa pk hall hks hdb he hpl, fun σ H env env' fp d s nd hf Q q => ?_⟩
  obtain ⟨⟨xs, en1⟩, e1, hf⟩ := Option.bind_eq_some_iff.mp hf
  obtain ⟨⟨ys, en2⟩, e2, hf⟩ := Option.bind_eq_some_iff.mp hf
  simp only at hf
  split at hf
  case isFalse => cases hf
  rename_i hn
  obtain ⟨⟨ds, en3⟩, e3, hf⟩ := Option.bind_eq_some_iff.mp hf
  obtain ⟨⟨r, outs⟩, e4, e5⟩ := Option.map_eq_some_iff.mp hf
  cases e5
  refine ha σ H env en1 fp xs s nd e1 _ fun vs H1 fr fp1 v1 s1 a1 n1 => ?_
  refine hkw σ H1 en1 en2 fp1 ys s1 (List.nodup_append.mp n1).2.1 e2 _ fun us H2 fr2 fp2 v2 s2 a2 n2 => ?_
  have nf : ∀ b ∈ fr, b ∉ fp1 := fun b m m' => (List.nodup_append.mp n1).2.2 b m b m' rfl
  have a1' := a1.mono v2.imm (v2.stay a1.live nf)
  have v12 : Evo fp H ((fr ++ fr2) ++ fp2) H2 := by rw [List.append_assoc]; exact v1.trans v2.side
  have n12 : ((fr ++ fr2) ++ fp2).Nodup := by
    rw [List.append_assoc]
    exact List.nodup_append.mpr ⟨(List.nodup_append.mp n1).1, n2, fun b m c m' z => by subst z; exact v2.apart a1.live nf b m m'⟩
  exact callK_core hab hperm (hl1 env _ e1) v12 s2 (a1'.app a2) a1.len n12 hn e3 e4 q
theorem de_callK0 {x : Str} {p pos : Pos} {kws : List Keyword} {k j b : Nat} {perm : List Nat} {ks : List Str} {F : FSm} {c2 : CSm} (c : KCal X.prog X.w X.K X.mg X.base k x (Prom X.K F) ks perm 0 b) (hr : Room j X.A) (hk : k ≤ j) (hg : Gl X x) (hperm : perm.Perm (List.range b)) (hkw : DCK X kws c2)
    (hall : (backToKw pos (keywordEach kws X.env)).all (·.1.isSome) = true := by rfl) (hks : (backToKw pos (keywordEach kws X.env)).filterMap (·.1) = ks := by rfl) (hdb : (x == ("__debug__" : Str)) = false := by decide)
    (hpl : ((backTo pos (starEach [] X.env)).any (·.1) || (backToKw pos (keywordEach kws X.env)).any (·.1.isNone)) = false := by rfl) : DE X (.Call (.Name x p) [] kws pos) (eDefK b perm F cNil c2) := by
  obtain ⟨f, fd, ps, hF, hm, kp, kb⟩ := c.ex
  obtain ⟨tk, pk, hkw⟩ := hkw
  have pe : PE X (.Call (.Name x p) [] kws pos) (tCallK (Prom X.K F) (gPV perm 0 b) C8.E0 tNil tk) := by
    refine ⟨fun pins s σ H Q I h => ?_⟩
    refine wpAny_Call_Name_kw (ld_glob I hg hm ?_ hdb)
    refine PySem.W.callWith_KW0 (h₀ := X.base) I.ok.mod.kin kp hall (thn (pk.run pos pins s σ H _ I h) fun ws s2 ⟨zs, H2, I2, rz, q2⟩ => ⟨I2.kIn, ?_⟩) hpl
    rw [hks]
    exact run_fnk hF (hr.mono hk) kb C8.pass0 I2 (us := []) (vs := []) .nil rz q2
  refine ⟨_, pe, fun σ H env env' fp d s nd hf Q q => ?_⟩
  obtain ⟨⟨xs, en1⟩, e1, hf⟩ := Option.bind_eq_some_iff.mp hf
  cases e1
  obtain ⟨⟨ys, en2⟩, e2, hf⟩ := Option.bind_eq_some_iff.mp hf
  simp only at hf
  split at hf
  case isFalse => cases hf
  rename_i hn
  obtain ⟨⟨ds, en3⟩, e3, hf⟩ := Option.bind_eq_some_iff.mp hf
  obtain ⟨⟨r, outs⟩, e4, e5⟩ := Option.map_eq_some_iff.mp hf
  cases e5
  refine hkw σ H env en2 fp ys s nd e2 _ fun us H2 fr2 fp2 v2 s2 a2 n2 => ?_
  exact callK_core (a := 0) (b := b) (xs := []) (vs := []) (by omega) hperm rfl v2 s2 a2 rfl n2 hn e3 e4 q
end
theorem cl_nil : ∀ env r, cNil env = some r → r.1.length = 0 := fun env r h => by cases h; rfl
theorem cl_val {f : ESm} {c : CSm} {n : Nat} (h : ∀ env r, c env = some r → r.1.length = n) : ∀ env r, cVal f c env = some r → r.1.length = n + 1 := fun env r e => by
  obtain ⟨d, e1, e⟩ := Option.bind_eq_some_iff.mp e
  obtain ⟨p, e2, e3⟩ := Option.map_eq_some_iff.mp e
  rw [← e3]
  simp [h _ _ e2]
theorem cl_bor {i : Nat} {c : CSm} {n : Nat} (h : ∀ env r, c env = some r → r.1.length = n) : ∀ env r, cBor i c env = some r → r.1.length = n + 1 := fun env r e => by
  unfold cBor at e
  split at e
  case h_2 => cases e
  obtain ⟨p, e2, e3⟩ := Option.map_eq_some_iff.mp e
  rw [← e3]
  simp [h _ _ e2]
end DL

set_option maxHeartbeats 1000000
/-! DL, part s: methods that only read -/
namespace DL
open PySem L2
def OM (X : Cx) (T id : String) (m : D → List D → Option D) : Prop := ∃ r, MtR X id r ∧ ∀ (H : Hp) (x : V) (dx : D) (fx : List Addr) (ds : List D) (d : D), RO X.K H dx x fx → m dx ds = some d → tyV X.K T x H ∧
  ∀ (vs : List V) (fv : List Addr), ROs X.K H ds vs fv → ∀ Q : VK, Res true X.K H d Q → r x vs H Q
def pLMet (o : PSm) (m : D → List D → Option D) (f : APm) : PSm := fun env => (o env).bind fun x => (f env).bind fun ds => m x ds
section
variable {X : Cx} {o e : Expr} {es : List Expr} {name : Str} {apos cpos : Pos} {T id : String} {m : D → List D → Option D}
theorem db_lmet {f0 : PSm} {f : APm} (pa : PlainAttrs T) (slot : Slot T name id) (hty : typeOf (.builtin id) = pure (.type "method_descriptor")) (hm : OM X T id m) (ho : DB false X o f0) (ha : DAP false X (e :: es) f)
    (hbase : attributeBase o name X.env (eval o X.env) = eval o X.env := by rfl)
    (hfew : ((backTo cpos (starEach (e :: es) X.env)).all (fun x => !x.1) && (backToKw cpos (keywordEach [] X.env)).all (fun x => x.1.isSome) && decide ((e :: es).length + ([] : List Keyword).length + (if ([] : List Keyword).isEmpty then 0 else 1) < 30)) = true := by rfl)
    (hline : (apos.endLine == cpos.line) = true := by rfl) (hs : starEach (e :: es) X.env = (false, eval e X.env) :: starEach es X.env := by rfl) (hplain : (backTo cpos (starEach es X.env)).any (·.1) = false := by rfl) :
    DB true X (.Call (.Attribute o name apos) (e :: es) [] cpos) (pLMet f0 m f) := by
  obtain ⟨r, hr, hm⟩ := hm
  obtain ⟨to, po, ho⟩ := ho
  obtain ⟨ta, pa', ha⟩ := ha
  refine ⟨_, pe_bm pa slot hty hr po pa' hbase hfew hline hs hplain, fun σ H env fp d s nd hf Q q => ?_⟩
  obtain ⟨dx, e0, hf⟩ := Option.bind_eq_some_iff.mp hf
  obtain ⟨ds, e1, hf⟩ := Option.bind_eq_some_iff.mp hf
  refine ho σ H env fp dx s nd e0 _ fun v H1 fx sm1 rx _ => ⟨(hm H1 v dx fx ds d rx hf).1, ?_⟩
  refine ha σ H1 env fp ds (s.same sm1) nd e1 _ fun vs H2 fr sm2 rs _ => ?_
  exact (hm H2 v dx fx ds d (rx.same sm2) hf).2 vs fr rs Q ((q.via sm1).via sm2)
/-- l.index(x), flat things -/
def lIndex : D → List D → Option D
  | .lst z ds, [x] => if flatD x = true ∧ ds.all flatD = true then ((ds.map fv).findIdx? fun y => eqV y (fv x)).map fun j => .int (j : Nat) else none
  | .scr ds, [x] => if flatD x = true ∧ ds.all flatD = true then ((ds.map fv).findIdx? fun y => eqV y (fv x)).map fun j => .int (j : Nat) else none
  | _, _ => none
theorem om_index : OM X "list" "list.index" lIndex := by
  refine ⟨_, mt_index, fun H x dx fx ds d r hm => ?_⟩
  have key : ∀ (es : List D) (xs : List V) (f : List Addr) (a : Addr) (y : D), x = .ref a → ROs X.K H es xs f → SqL X.K H a xs → ds = [y] →
      (if flatD y = true ∧ es.all flatD = true then ((es.map fv).findIdx? fun z => eqV z (fv y)).map fun j => D.int (j : Nat) else none) = some d →
      tyV X.K "list" x H ∧ ∀ (vs : List V) (g : List Addr), ROs X.K H ds vs g → ∀ Q : VK, Res true X.K H d Q → rIndex X.K x vs H Q := by
    intro es xs f a y hx hr hs hd hi
    subst hx hd
    split at hi
    case isFalse => cases hi
    rename_i hfl
    obtain ⟨j, h1, h2⟩ := Option.map_eq_some_iff.mp hi
    subst h2
    have ex := hr.fvs hfl.2
    refine ⟨.inl ⟨rfl, xs, hs⟩, fun vs g rs Q q => ?_⟩
    obtain ⟨v, rfl, rv⟩ := rs.one
    have ev := rv.fv hfl.1
    subst ev ex
    obtain ⟨hj, h3, h4⟩ := List.findIdx?_eq_some_iff_getElem.mp h1
    refine ⟨a, _, _, j, (es.map fv)[j], rfl, rfl, hs, flat_fv hfl.1, all_fv hfl.2, List.getElem?_eq_getElem hj, h3, fun k z hk hz => ?_, q.int⟩
    obtain ⟨hk', e⟩ := List.getElem?_eq_some_iff.mp hz
    have := h4 k hk
    rw [e] at this
    simpa using this
  unfold lIndex at hm
  split at hm
  · rename_i z es y
    obtain ⟨a, xs, f, h1, h2, h3⟩ := r.rdl
    exact key es xs f a y h1 h3 (.inl h2) rfl hm
  · rename_i es y
    obtain ⟨_, a, xs, h1, h2, h3⟩ := r
    exact key es xs [] a y h1 h3.ros h2.sq rfl hm
  · cases hm
end
/-! ### list(range(..)) -/
def rngP (a b : Int) : Option D := if -4611686018427387904 ≤ a ∧ a < 4611686018427387904 ∧ -4611686018427387904 ≤ b ∧ b < 4611686018427387904 ∧ (b - a).toNat ≤ 16777216 then some (.lst false (rngD a (b - a).toNat)) else none
def pLR1 (f : PSm) : PSm := fun env => (f env).bind fun d => match d with | .int b => rngP 0 b | _ => none
def pLR2 (f g : PSm) : PSm := fun env => (f env).bind fun d => (g env).bind fun e => match d, e with | .int a, .int b => rngP a b | _, _ => none
theorem rng_ris {K : PySem.W.Frag} {H : Hp} (a b : Int) : RIs K H (rngD a (b - a).toNat) (rgV a b) := by
  unfold rngD rgV
  generalize (b - a).toNat = n
  induction List.range n with
  | nil => exact rfl
  | cons k l ih => exact ⟨_, _, rfl, rfl, ih⟩
theorem rngP_ok {a b : Int} {d : D} (h : rngP a b = some d) : RgOk a b ∧ d = .lst false (rngD a (b - a).toNat) := by
  unfold rngP at h
  split at h
  · rename_i c
    cases h
    exact ⟨⟨c.1, c.2.1, c.2.2.1, c.2.2.2.1, c.2.2.2.2⟩, rfl⟩
  · cases h
section
variable {X : Cx} {a b : Expr} {p pos p2 pos2 : Pos} {f g : PSm}
theorem db_lr1 (hc : X.calm = true) (hg : Gl X "list") (hm : X.mg "list" = none) (hg2 : Gl X "range") (hm2 : X.mg "range" = none) (ha : DB false X a f) (na : starEach [a] X.env = (false, eval a X.env) :: starEach [] X.env := by rfl)
    (nb : starEach [.Call (.Name "range" p2) [a] [] pos2] X.env = (false, eval (.Call (.Name "range" p2) [a] [] pos2) X.env) :: starEach [] X.env := by rfl) : DB true X (.Call (.Name "list" p) [.Call (.Name "range" p2) [a] [] pos2] [] pos) (pLR1 f) := by
  obtain ⟨ta, pa, ha⟩ := ha
  refine ⟨_, pe_listRg hc hg hm (prg_1 hg2 hm2 pa na) nb, fun σ H env fp d s nd hf Q q => ?_⟩
  obtain ⟨d0, e1, hf⟩ := Option.bind_eq_some_iff.mp hf
  cases d0 with
  | int n =>
    obtain ⟨ok, rfl⟩ := rngP_ok hf
    refine ha σ H env fp _ s nd e1 _ fun v H1 fr s1 r _ => ⟨n, r.2, ok, fun pp hp => ?_⟩
    exact (q.via s1).lst (rng_ris 0 n) hp
  | _ => cases hf
theorem db_lr2 (hc : X.calm = true) (hg : Gl X "list") (hm : X.mg "list" = none) (hg2 : Gl X "range") (hm2 : X.mg "range" = none) (ha : DB false X a f) (hb : DB false X b g) (na : starEach [a, b] X.env = (false, eval a X.env) :: starEach [b] X.env := by rfl)
    (nb : starEach [b] X.env = (false, eval b X.env) :: starEach [] X.env := by rfl) (hp : (backTo pos2 (starEach [b] X.env)).any (·.1) = false := by rfl)
    (nc : starEach [.Call (.Name "range" p2) [a, b] [] pos2] X.env = (false, eval (.Call (.Name "range" p2) [a, b] [] pos2) X.env) :: starEach [] X.env := by rfl) : DB true X (.Call (.Name "list" p) [.Call (.Name "range" p2) [a, b] [] pos2] [] pos) (pLR2 f g) := by
  obtain ⟨ta, pa, ha⟩ := ha
  obtain ⟨tb, pb, hb⟩ := hb
  refine ⟨_, pe_listRg hc hg hm (prg_2 hg2 hm2 pa pb na nb hp) nc, fun σ H env fp d s nd hf Q q => ?_⟩
  obtain ⟨d0, e1, hf⟩ := Option.bind_eq_some_iff.mp hf
  obtain ⟨d1, e2, hf⟩ := Option.bind_eq_some_iff.mp hf
  have key : ∃ i j, d0 = .int i ∧ d1 = .int j ∧ rngP i j = some d := by
    cases d0 with
    | int i => cases d1 with
      | int j => exact ⟨i, j, rfl, rfl, hf⟩
      | _ => cases hf
    | _ => cases d1 <;> cases hf
  obtain ⟨i, j, rfl, rfl, hf⟩ := key
  obtain ⟨ok, rfl⟩ := rngP_ok hf
  refine ha σ H env fp _ s nd e1 _ fun v H1 fr s1 r _ => hb σ H1 env fp _ (s.same s1) nd e2 _ fun u H2 fr2 s2 r2 _ => ⟨i, j, r.2, r2.2, ok, fun pp hp => ?_⟩
  exact ((q.via s1).via s2).lst (rng_ris i j) hp
end
/-! ### name[index with effects]: the name is only looked at -/
def eIxV (i : Nat) (f : ESm) : ESm := fun env => match env[i]? with
  | some (some _) => (f env).bind fun y => match y.2[i]? with
    | some (some d) => (dIxI d y.1).map fun r => (r, y.2)
    | _ => none
  | _ => none
theorem de_ixV {X : Cx} {a b : Expr} {pos : Pos} {i : Nat} {f : ESm} (hu : X.A.units + 1 < cLine) (ha : PE X a (tVar i)) (hb : DE X b f) (hs : PlainIx b) : DE X (.Subscript a b pos) (eIxV i f) := by
  obtain ⟨r, hr, ho⟩ := o_ix hu
  obtain ⟨tb, pb, hb⟩ := hb
  refine ⟨_, pe_ix hr ha pb hs, fun σ H env env' fp d s nd hf Q q => ?_⟩
  unfold eIxV at hf
  split at hf
  case h_2 => cases hf
  rename_i d0 h0
  obtain ⟨⟨y, en⟩, e1, hf⟩ := Option.bind_eq_some_iff.mp hf
  simp only at hf
  split at hf
  case h_2 => cases hf
  rename_i d1 h1
  obtain ⟨r0, e2, e3⟩ := Option.map_eq_some_iff.mp hf
  cases e3
  obtain ⟨d', e4, e5⟩ := Option.bind_eq_some_iff.mp e2
  have hi : isImm d' = true ∧ d' = d := by
    by_cases c : isImm d' = true
    · rw [if_pos c] at e5; cases e5; exact ⟨c, rfl⟩
    · rw [if_neg c] at e5; cases e5
  obtain ⟨hi, rfl⟩ := hi
  obtain ⟨v, _, _, _, hv, _⟩ := s.at h0
  refine ⟨v, hv, hb σ H env _ fp y s nd e1 _ fun w H1 fr fp1 v1 s1 ry n1 => ?_⟩
  obtain ⟨v', _, fx, _, hv', _, rx, _⟩ := s1.at h1
  rw [hv] at hv'; cases hv'
  have nn := (List.nodup_append.mp n1).2.1
  refine ho H1 v w d1 y d' fx fr rx ry e4 Q fun u H2 fr2 sm ru _ => ?_
  obtain ⟨zf, ri⟩ := ru.imm hi
  exact q u H2 [] fp1 ((v1.sub fun a m => List.mem_append_right _ m).trans (.of_same (fr := []) sm fun a m => (nomatch m))) (s1.same sm) ri.ro nn
end DL

set_option maxHeartbeats 1000000
/-! DL, part p: plain laws of the meanings: while without a count, loops by invariants -/
namespace DL
open PySem PySem.Spec PyProof.Rows L2
/-! ### while, as many turns as it takes -/
noncomputable def sWhl (c : TSm) (body : SSm) : SSm := open Classical in fun env => if h : ∃ n, (whL c body n env).isSome = true then whL c body h.choose env else none
theorem whL_succ {c : TSm} {body : SSm} : ∀ {n : Nat} {env : Env} {r : Out × Env}, whL c body n env = some r → whL c body (n + 1) env = some r
  | 0, _, _, h => by cases h
  | n + 1, env, r, h => by
    unfold whL at h ⊢
    obtain ⟨⟨k, e1⟩, h1, h⟩ := Option.bind_eq_some_iff.mp h
    rw [h1]
    show (if k = true then _ else _) = _
    cases k with
    | false => exact h
    | true =>
      rw [if_pos rfl] at h ⊢
      obtain ⟨⟨o, e2⟩, h2, h⟩ := Option.bind_eq_some_iff.mp h
      show (body e1).bind _ = _
      rw [h2]
      cases o with
      | nx => exact whL_succ (show whL c body n e2 = some r from h)
      | ct => exact whL_succ (show whL c body n e2 = some r from h)
      | bk => exact h
      | rt d => exact h
      | xc _ _ _ => exact h
theorem whL_le {c : TSm} {body : SSm} {n m : Nat} {env : Env} {r : Out × Env} (h : whL c body n env = some r) (l : n ≤ m) : whL c body m env = some r := by
  induction l with
  | refl => exact h
  | step _ ih => exact whL_succ ih
theorem sWhl_of {c : TSm} {body : SSm} {n : Nat} {env : Env} {r : Out × Env} (h : whL c body n env = some r) : sWhl c body env = some r := by
  have hx : ∃ n, (whL c body n env).isSome = true := ⟨n, by rw [h]; rfl⟩
  unfold sWhl
  rw [dif_pos hx]
  obtain ⟨r', h'⟩ := Option.isSome_iff_exists.mp hx.choose_spec
  have a := whL_le h' (Nat.le_max_left hx.choose n)
  have b := whL_le h (Nat.le_max_right hx.choose n)
  rw [a] at b
  rw [h', b]
theorem sWhl_inv {c : TSm} {body : SSm} {env : Env} {r : Out × Env} (h : sWhl c body env = some r) : ∃ n, whL c body n env = some r := by
  unfold sWhl at h
  split at h
  · exact ⟨_, h⟩
  · cases h
theorem ds_whl {P : Nat → Bool} {X : Cx} {pos : Pos} {c : Expr} {body : List Stmt} {t : TSm} {f : SSm} (hp : PassesOwn (model X.prog X.w) X.A X.env X.xe) (hc : DT X c t) (hb : DSs P X body f) : DS P X (.While c body [] pos) (sWhl t f) :=
  fun W tk => ⟨fun pins s σ H D I ⟨env, env', fp, o, sr, nd, hf, q⟩ => by
    obtain ⟨n, hn⟩ := sWhl_inv hf
    exact (ds_while n hp hc hb W tk).run pins s σ H D I ⟨env, env', fp, o, sr, nd, hn, q⟩⟩
section
variable {c : TSm} {body : SSm} {env e1 e2 : Env} {r : Out × Env} {d : D}
theorem whl_stop (h : c env = some (false, e1)) : sWhl c body env = some (.nx, e1) := sWhl_of (n := 1) (by unfold whL; rw [h]; rfl)
theorem whl_nx (h : c env = some (true, e1)) (hb : body e1 = some (.nx, e2)) (hr : sWhl c body e2 = some r) : sWhl c body env = some r := by
  obtain ⟨n, hn⟩ := sWhl_inv hr
  refine sWhl_of (n := n + 1) ?_
  unfold whL
  rw [h]
  show (body e1).bind _ = _
  rw [hb]
  exact hn
theorem whl_ct (h : c env = some (true, e1)) (hb : body e1 = some (.ct, e2)) (hr : sWhl c body e2 = some r) : sWhl c body env = some r := by
  obtain ⟨n, hn⟩ := sWhl_inv hr
  refine sWhl_of (n := n + 1) ?_
  unfold whL
  rw [h]
  show (body e1).bind _ = _
  rw [hb]
  exact hn
theorem whl_bk (h : c env = some (true, e1)) (hb : body e1 = some (.bk, e2)) : sWhl c body env = some (.nx, e2) := by
  refine sWhl_of (n := 1) ?_
  unfold whL
  rw [h]
  show (body e1).bind _ = _
  rw [hb]; rfl
theorem whl_rt (h : c env = some (true, e1)) (hb : body e1 = some (.rt d, e2)) : sWhl c body env = some (.rt d, e2) := by
  refine sWhl_of (n := 1) ?_
  unfold whL
  rw [h]
  show (body e1).bind _ = _
  rw [hb]; rfl
end
/-! ### for, comprehensions: by invariants -/
theorem forL_inv {g : GSm} {body : SSm} (I : Nat → Env → Prop) : ∀ {ds : List D} {env : Env}, I 0 env → (∀ i d e, ds[i]? = some d → I i e → ∃ e1 e2, g d e = some e1 ∧ (body e1 = some (.nx, e2) ∨ body e1 = some (.ct, e2)) ∧ I (i + 1) e2) →
    ∃ e', forL g body ds env = some (.nx, e') ∧ I ds.length e'
  | [], env, h0, _ => ⟨env, rfl, h0⟩
  | d :: ds, env, h0, hs => by
    obtain ⟨e1, e2, k1, k2, k3⟩ := hs 0 d env rfl h0
    obtain ⟨e', k4, k5⟩ := forL_inv (fun i e => I (i + 1) e) (ds := ds) (env := e2) k3 fun i x e hx hi => hs (i + 1) x e (by simpa using hx) hi
    refine ⟨e', ?_, k5⟩
    unfold forL
    rw [k1]
    show (body e1).bind _ = _
    rcases k2 with k2 | k2 <;> rw [k2] <;> exact k4
theorem compL_inv {vs : List Nat} {g : GSm} {c : TSm} {el : ESm} (I : Nat → Env → List D → Prop) : ∀ {ds : List D} {env : Env} {acc : List D}, I 0 env acc →
    (∀ i d e acc, ds[i]? = some d → I i e acc → ∃ e1 b, g d (wipeE e vs) = some e1 ∧ c e1 = some b ∧ ((b.1 = false ∧ I (i + 1) b.2 acc) ∨ (b.1 = true ∧ ∃ r, el b.2 = some r ∧ acc.length < szL ∧ I (i + 1) r.2 (acc ++ [r.1])))) →
    ∃ acc' e', compL vs g c el ds env acc = some (acc', wipeE e' vs) ∧ I ds.length e' acc'
  | [], env, acc, h0, _ => ⟨acc, env, rfl, h0⟩
  | d :: ds, env, acc, h0, hs => by
    obtain ⟨e1, ⟨b, e2⟩, k1, k2, k3⟩ := hs 0 d env acc rfl h0
    have go : ∀ e3 acc3, I 1 e3 acc3 → ∃ acc' e', compL vs g c el ds e3 acc3 = some (acc', wipeE e' vs) ∧ I (ds.length + 1) e' acc' := fun e3 acc3 h3 =>
      compL_inv (fun i e a => I (i + 1) e a) (ds := ds) h3 fun i x e a hx hi => hs (i + 1) x e a (by simpa using hx) hi
    rcases k3 with ⟨z, k3⟩ | ⟨z, ⟨r, e3⟩, k4, k5, k6⟩
    · obtain ⟨acc', e', k7, k8⟩ := go _ _ k3
      refine ⟨acc', e', ?_, k8⟩
      unfold compL
      rw [k1]
      show (c e1).bind _ = _
      rw [k2]
      show (if b = true then _ else _) = _
      rw [if_neg (by simp at z; simp [z])]
      exact k7
    · obtain ⟨acc', e', k7, k8⟩ := go _ _ k6
      refine ⟨acc', e', ?_, k8⟩
      unfold compL
      rw [k1]
      show (c e1).bind _ = _
      rw [k2]
      show (if b = true then _ else _) = _
      rw [if_pos z]
      show (el e2).bind _ = _
      rw [k4]
      show (if acc.length < szL then _ else _) = _
      rw [if_pos k5]
      exact k7
/-- a comprehension that reads its frame and leaves it: each item by itself -/
theorem compL_map {vs : List Nat} {g : GSm} {c : TSm} {el : ESm} {w : Env} (f : D → Option D) : ∀ {ds : List D} {env : Env} {acc : List D}, wipeE env vs = w →
    (∀ d ∈ ds, ∃ e1 b, g d w = some e1 ∧ c e1 = some b ∧ ((b.1 = false ∧ f d = none ∧ wipeE b.2 vs = w) ∨ (b.1 = true ∧ ∃ r, el b.2 = some r ∧ f d = some r.1 ∧ wipeE r.2 vs = w))) → acc.length + ds.length ≤ szL →
    compL vs g c el ds env acc = some (acc ++ ds.filterMap f, w)
  | [], env, acc, h0, _, _ => by rw [List.filterMap_nil, List.append_nil]; exact congrArg (fun z => some (acc, z)) h0
  | d :: ds, env, acc, h0, hs, hz => by
    obtain ⟨e1, ⟨b, e2⟩, k1, k2, k3⟩ := hs d List.mem_cons_self
    have hz' : acc.length + (ds.length + 1) ≤ szL := hz
    unfold compL
    rw [h0, k1]
    show (c e1).bind _ = _
    rw [k2]
    show (if b = true then _ else _) = _
    rcases k3 with ⟨z, z1, z2⟩ | ⟨z, ⟨r, e3⟩, k4, k5, k6⟩
    · rw [if_neg (by simp at z; simp [z]), List.filterMap_cons_none z1]
      exact compL_map f z2 (fun x m => hs x (List.mem_cons_of_mem _ m)) (by omega)
    · rw [if_pos z]
      show (el e2).bind _ = _
      rw [k4]
      show (if acc.length < szL then _ else _) = _
      rw [if_pos (by omega), List.filterMap_cons_some k5]
      have e : acc ++ r :: ds.filterMap f = (acc ++ [r]) ++ ds.filterMap f := by simp
      rw [e]
      exact compL_map f k6 (fun x m => hs x (List.mem_cons_of_mem _ m)) (by rw [List.length_append]; show acc.length + 1 + ds.length ≤ szL; omega)
end DL

set_option maxHeartbeats 1000000
/-! DL, part q: what comes of a meaning, forward: Ok x Q = x comes to something of which Q holds -/
namespace DL
open PySem PySem.Spec PyProof.Rows L2
/-- so that simp leaves the wish alone -/
structure Tag {α : Type} (Q : α → Prop) : Type where
def Ok {α : Type} (x : Option α) (Q : α → Prop) (_t : Tag Q := ⟨⟩) : Prop := ∃ a, x = some a ∧ Q a
theorem ok_cg {α : Type} {x : Option α} {Q Q' : α → Prop} (h : ∀ a, Q a = Q' a) : Ok x Q = Ok x Q' := by rw [show Q = Q' from funext h]
section
variable {α β : Type} {x : Option α} {Q : α → Prop}
theorem ok_some {a : α} : Ok (some a) Q = Q a := propext ⟨fun ⟨_, e, q⟩ => by cases e; exact q, fun q => ⟨a, rfl, q⟩⟩
theorem ok_bind {y : Option β} {f : β → Option α} : Ok (y.bind f) Q = Ok y fun b => Ok (f b) Q := propext ⟨fun ⟨a, e, q⟩ => by
  obtain ⟨b, h1, h2⟩ := Option.bind_eq_some_iff.mp e
  exact ⟨b, h1, a, h2, q⟩, fun ⟨b, h1, a, h2, q⟩ => ⟨a, Option.bind_eq_some_iff.mpr ⟨b, h1, h2⟩, q⟩⟩
theorem ok_map {y : Option β} {f : β → α} : Ok (y.map f) Q = Ok y fun b => Q (f b) := propext ⟨fun ⟨a, e, q⟩ => by
  obtain ⟨b, h1, h2⟩ := Option.map_eq_some_iff.mp e
  exact ⟨b, h1, by show Q (f b); rw [h2]; exact q⟩, fun ⟨b, h1, q⟩ => ⟨f b, Option.map_eq_some_iff.mpr ⟨b, h1, rfl⟩, q⟩⟩
theorem ok_of {a : α} (e : x = some a) (q : Q a) : Ok x Q := ⟨a, e, q⟩
theorem ok_mono {Q' : α → Prop} (h : Ok x Q) (i : ∀ a, Q a → Q' a) : Ok x Q' := let ⟨a, e, q⟩ := h; ⟨a, e, i a q⟩
theorem ok_ite {c : Prop} [Decidable c] {y : Option α} : Ok (if c then x else y) Q = if c then Ok x Q else Ok y Q := by split <;> rfl
end
section
variable {env : Env} {d : D} {i : Nat}
-- without effects
theorem w_pC {Q : D → Prop} : Ok (pC d env) Q = Q d := ok_some
theorem w_pVar {Q : D → Prop} : Ok (pVar i env) Q = Ok (env[i]?).join Q := rfl
theorem w_pOwn {f : PSm} {Q : D → Prop} : Ok (pOwn f env) Q = Ok (f env) fun d => isImm d = true ∧ Q d := by
  unfold pOwn
  rw [ok_bind]
  refine ok_cg fun d => ?_
  rw [ok_ite, ok_some]
  by_cases h : isImm d = true
  · rw [if_pos h]; simp [h]
  · rw [if_neg h]; exact propext ⟨fun ⟨_, e, _⟩ => (nomatch e), fun z => absurd z.1 h⟩
theorem w_p1 {g : D → Option D} {f : PSm} {Q : D → Prop} : Ok (p1 g f env) Q = Ok (f env) fun d => Ok (g d) Q := ok_bind
theorem w_p2 {g : D → D → Option D} {fa fb : PSm} {Q : D → Prop} : Ok (p2 g fa fb env) Q = Ok (fa env) fun x => Ok (fb env) fun y => Ok (g x y) Q := by unfold p2; rw [ok_bind]; refine ok_cg fun x => ?_; rw [ok_bind]
theorem w_pSl {f : PSm} {l h : Env → Option (Option Int)} {Q : D → Prop} : Ok (pSl f l h env) Q = Ok (f env) fun d => Ok (l env) fun i => Ok (h env) fun j => Ok (dSl d i j) Q := by
  unfold pSl; rw [ok_bind]; refine ok_cg fun x => ?_; rw [ok_bind]; refine ok_cg fun y => ?_; rw [ok_bind]
theorem w_oNo {Q : Option Int → Prop} : Ok (oNo env) Q = Q none := ok_some
theorem w_oSome {f : PSm} {Q : Option Int → Prop} : Ok (oSome f env) Q = Ok (f env) fun d => ∃ i, d = .int i ∧ Q (some i) := by
  unfold oSome Ok
  refine propext ⟨?_, ?_⟩
  · rintro ⟨a, e, q⟩
    split at e
    · rename_i i h; cases e; exact ⟨_, h, i, rfl, q⟩
    · cases e
  · rintro ⟨_, h, i, rfl, q⟩
    exact ⟨some i, by rw [h], q⟩
theorem w_pTup {f : APm} {Q : D → Prop} : Ok (pTup f env) Q = Ok (f env) fun ds => (ds.all isImm = true ∧ ds.length ≤ szL) ∧ Q (.tup ds) := by
  unfold pTup
  rw [ok_bind]
  refine ok_cg fun ds => ?_
  rw [ok_ite, ok_some]
  by_cases h : ds.all isImm = true ∧ ds.length ≤ szL
  · rw [if_pos h]; exact propext ⟨fun q => ⟨h, q⟩, fun q => q.2⟩
  · rw [if_neg h]; exact propext ⟨fun ⟨_, e, _⟩ => (nomatch e), fun z => absurd z.1 h⟩
theorem w_pCall {g : List D → Option D} {f : APm} {Q : D → Prop} : Ok (pCall g f env) Q = Ok (f env) fun ds => Ok (g ds) Q := ok_bind
theorem w_aNil {Q : List D → Prop} : Ok (aNil env) Q = Q [] := ok_some
theorem w_aCons {f : PSm} {g : APm} {Q : List D → Prop} : Ok (aCons f g env) Q = Ok (f env) fun d => Ok (g env) fun ds => Q (d :: ds) := by unfold aCons; rw [ok_bind]; refine ok_cg fun x => ?_; rw [ok_map]
theorem w_pIsi {T : String} {f : PSm} {Q : D → Prop} : Ok (pIsi T f env) Q = Ok (f env) fun d => notFT d = true ∧ Q (.bl (isD T d)) := by
  unfold pIsi
  rw [ok_bind]; refine ok_cg fun d => ?_; rw [ok_ite, ok_some]
  by_cases h : notFT d = true
  · rw [if_pos h]; simp [h]
  · rw [if_neg h]; exact propext ⟨fun ⟨_, e, _⟩ => (nomatch e), fun z => absurd z.1 h⟩
theorem w_pIsi2 {T U : String} {f : PSm} {Q : D → Prop} : Ok (pIsi2 T U f env) Q = Ok (f env) fun d => notFT d = true ∧ Q (.bl (isD T d || isD U d)) := by
  unfold pIsi2
  rw [ok_bind]; refine ok_cg fun d => ?_; rw [ok_ite, ok_some]
  by_cases h : notFT d = true
  · rw [if_pos h]; simp [h]
  · rw [if_neg h]; exact propext ⟨fun ⟨_, e, _⟩ => (nomatch e), fun z => absurd z.1 h⟩
-- expressions
theorem w_eP {f : PSm} {Q : D × Env → Prop} : Ok (eP f env) Q = Ok (f env) fun d => Q (d, env) := ok_map
theorem w_eMove {Q : D × Env → Prop} : Ok (eMove i env) Q = Ok (env[i]?).join fun d => Q (d, if isImm d = true then env else env.set i none) := by
  unfold eMove Ok
  refine propext ⟨?_, ?_⟩
  · rintro ⟨a, e, q⟩
    split at e
    · rename_i d h; cases e; exact ⟨d, by rw [h]; rfl, q⟩
    · cases e
  · rintro ⟨d, h, q⟩
    have h' : env[i]? = some (some d) := by
      cases e1 : env[i]? with
      | none => rw [e1] at h; cases h
      | some o => rw [e1] at h; cases o with
        | none => cases h
        | some d' => cases h; rfl
    exact ⟨_, by rw [h'], q⟩
theorem w_e1 {g : D → Option D} {f : ESm} {Q : D × Env → Prop} : Ok (e1 g f env) Q = Ok (f env) fun d => Ok (g d.1) fun r => Q (r, d.2) := by unfold e1; rw [ok_bind]; refine ok_cg fun x => ?_; rw [ok_map]
theorem w_e2 {g : D → D → Option D} {fa fb : ESm} {Q : D × Env → Prop} : Ok (e2 g fa fb env) Q = Ok (fa env) fun x => Ok (fb x.2) fun y => Ok (g x.1 y.1) fun d => Q (d, y.2) := by
  unfold e2; rw [ok_bind]; refine ok_cg fun x => ?_; rw [ok_bind]; refine ok_cg fun y => ?_; rw [ok_map]
theorem w_eTup {f : ASm} {Q : D × Env → Prop} : Ok (eTup f env) Q = Ok (f env) fun ds => (ds.1.all isImm = true ∧ ds.1.length ≤ szL) ∧ Q (.tup ds.1, ds.2) := by
  unfold eTup
  rw [ok_bind]
  refine ok_cg fun ds => ?_
  rw [ok_ite, ok_some]
  by_cases h : ds.1.all isImm = true ∧ ds.1.length ≤ szL
  · rw [if_pos h]; exact propext ⟨fun q => ⟨h, q⟩, fun q => q.2⟩
  · rw [if_neg h]; exact propext ⟨fun ⟨_, e, _⟩ => (nomatch e), fun z => absurd z.1 h⟩
theorem w_eLst {f : ASm} {Q : D × Env → Prop} : Ok (eLst f env) Q = Ok (f env) fun ds => ds.1.length ≤ szL ∧ Q (.lst false ds.1, ds.2) := by
  unfold eLst
  rw [ok_bind]
  refine ok_cg fun ds => ?_
  rw [ok_ite, ok_some]
  by_cases h : ds.1.length ≤ szL
  · rw [if_pos h]; exact propext ⟨fun q => ⟨h, q⟩, fun q => q.2⟩
  · rw [if_neg h]; exact propext ⟨fun ⟨_, e, _⟩ => (nomatch e), fun z => absurd z.1 h⟩
theorem w_eFz {f : ESm} {Q : D × Env → Prop} : Ok (eFz f env) Q = Ok (f env) fun d => Q (fz d.1, d.2) := ok_map
theorem w_eCall {g : List D → Option D} {f : ASm} {Q : D × Env → Prop} : Ok (eCall g f env) Q = Ok (f env) fun ds => Ok (g ds.1) fun d => Q (d, ds.2) := by unfold eCall; rw [ok_bind]; refine ok_cg fun x => ?_; rw [ok_map]
theorem w_aNilE {Q : List D × Env → Prop} : Ok (aNilE env) Q = Q ([], env) := ok_some
theorem w_aConsE {f : ESm} {g : ASm} {Q : List D × Env → Prop} : Ok (aConsE f g env) Q = Ok (f env) fun d => Ok (g d.2) fun ds => Q (d.1 :: ds.1, ds.2) := by unfold aConsE; rw [ok_bind]; refine ok_cg fun x => ?_; rw [ok_map]
theorem w_eIf {c : TSm} {f g : ESm} {Q : D × Env → Prop} : Ok (eIf c f g env) Q = Ok (c env) fun b => if b.1 = true then Ok (f b.2) Q else Ok (g b.2) Q := by unfold eIf; rw [ok_bind]; refine ok_cg fun x => ?_; rw [ok_ite]
theorem w_eComp {vs : List Nat} {it : ISm} {g : GSm} {c : TSm} {el : ESm} {Q : D × Env → Prop} : Ok (eComp vs it g c el env) Q = Ok (it env) fun ds => Ok (compL vs g c el ds.1 ds.2 []) fun r => Q (.lst false r.1, r.2) := by
  unfold eComp; rw [ok_bind]; refine ok_cg fun x => ?_; rw [ok_map]
theorem w_eDc {d0 : D} {vs : List Nat} {it : ISm} {g : GSm} {c : TSm} {kx vx : ESm} {Q : D × Env → Prop} : Ok (eDc d0 vs it g c kx vx env) Q = Ok (it env) fun ds => Ok (dcL vs g c kx vx ds.1 ds.2 d0) Q := ok_bind
theorem w_eDef {F : FSm} {c : CSm} {Q : D × Env → Prop} : Ok (eDef F c env) Q = Ok (c env) fun a => Ok (takeB a.1 a.2) fun t => Ok (F t.1) fun r => Q (r.1, giveB a.1 t.1 r.2 t.2) := by
  unfold eDef; rw [ok_bind]; refine ok_cg fun x => ?_; rw [ok_bind]; refine ok_cg fun y => ?_; rw [ok_map]
theorem w_cNil {Q : List (D ⊕ Nat) × Env → Prop} : Ok (cNil env) Q = Q ([], env) := ok_some
theorem w_cVal {f : ESm} {r : CSm} {Q : List (D ⊕ Nat) × Env → Prop} : Ok (cVal f r env) Q = Ok (f env) fun d => Ok (r d.2) fun p => Q (.inl d.1 :: p.1, p.2) := by unfold cVal; rw [ok_bind]; refine ok_cg fun x => ?_; rw [ok_map]
theorem w_cBor {r : CSm} {Q : List (D ⊕ Nat) × Env → Prop} : Ok (cBor i r env) Q = Ok (env[i]?).join fun _ => Ok (r env) fun p => Q (.inr i :: p.1, p.2) := by
  unfold cBor
  cases e1 : env[i]? with
  | none => exact propext ⟨fun ⟨_, e, _⟩ => (nomatch e), fun ⟨_, e, _⟩ => (nomatch e)⟩
  | some o => cases o with
    | none => exact propext ⟨fun ⟨_, e, _⟩ => (nomatch e), fun ⟨_, e, _⟩ => (nomatch e)⟩
    | some d => show Ok ((r env).map _) Q = _; rw [ok_map, Option.join_some, ok_some]
theorem w_eMeth {T : String} {m : D → List D → Option (D × D)} {f : ASm} {Q : D × Env → Prop} : Ok (eMeth i T m f env) Q = Ok (env[i]?).join fun d0 => okRecv T d0 = true ∧ Ok (f env) fun ds => Ok (ds.2[i]?).join fun d => Ok (m d ds.1) fun r => Q (r.1, ds.2.set i (some r.2)) := by
  unfold eMeth
  cases e1 : env[i]? with
  | none => exact propext ⟨fun ⟨_, e, _⟩ => (nomatch e), fun ⟨_, e, _⟩ => (nomatch e)⟩
  | some o => cases o with
    | none => exact propext ⟨fun ⟨_, e, _⟩ => (nomatch e), fun ⟨_, e, _⟩ => (nomatch e)⟩
    | some d =>
      rw [Option.join_some, ok_some]
      show Ok (if okRecv T d = true then _ else _) Q = _
      by_cases h : okRecv T d = true
      · rw [if_pos h, ok_bind]
        have e2 : (∀ P : Prop, (okRecv T d = true ∧ P) = P) := fun P => propext ⟨fun z => z.2, fun z => ⟨h, z⟩⟩
        rw [e2]
        refine ok_cg fun ds => ?_
        cases e3 : ds.2[i]? with
        | none => exact propext ⟨fun ⟨_, e, _⟩ => (nomatch e), fun ⟨_, e, _⟩ => (nomatch e)⟩
        | some o => cases o with
          | none => exact propext ⟨fun ⟨_, e, _⟩ => (nomatch e), fun ⟨_, e, _⟩ => (nomatch e)⟩
          | some d => show Ok ((m d ds.1).map _) Q = _; rw [ok_map, Option.join_some, ok_some]
      · rw [if_neg h]; exact propext ⟨fun ⟨_, e, _⟩ => (nomatch e), fun z => absurd z.1 h⟩
theorem w_eMetP {p : PlSm} {T : String} {m : D → List D → Option (D × D)} {f : APm} {Q : D × Env → Prop} : Ok (eMetP p T m f env) Q = Ok (p env) fun q => okRecv T q.1 = true ∧ Ok (f env) fun ds => Ok (m q.1 ds) fun r => Q (r.1, q.2 r.2) := by
  unfold eMetP
  rw [ok_bind]
  refine ok_cg fun q => ?_
  rw [ok_ite]
  by_cases h : okRecv T q.1 = true
  · rw [if_pos h, ok_bind]
    have e2 : (∀ P : Prop, (okRecv T q.1 = true ∧ P) = P) := fun P => propext ⟨fun z => z.2, fun z => ⟨h, z⟩⟩
    rw [e2]
    refine ok_cg fun ds => ?_; rw [ok_map]
  · rw [if_neg h]; exact propext ⟨fun ⟨_, e, _⟩ => (nomatch e), fun z => absurd z.1 h⟩
theorem w_plVar {Q : D × (D → Env) → Prop} : Ok (plVar i env) Q = Ok (env[i]?).join fun d => Q (d, fun d' => env.set i (some d')) := by
  unfold plVar
  cases e1 : env[i]? with
  | none => exact propext ⟨fun ⟨_, e, _⟩ => (nomatch e), fun ⟨_, e, _⟩ => (nomatch e)⟩
  | some o => cases o with
    | none => exact propext ⟨fun ⟨_, e, _⟩ => (nomatch e), fun ⟨_, e, _⟩ => (nomatch e)⟩
    | some d => rw [Option.join_some, ok_some, ok_some]
theorem w_plIx {p : PlSm} {idx : PSm} {Q : D × (D → Env) → Prop} : Ok (plIx p idx env) Q = Ok (p env) fun q => Ok (idx env) fun k => Ok (subP q.1 k q.2) Q := by unfold plIx; rw [ok_bind]; refine ok_cg fun x => ?_; rw [ok_bind]
theorem w_eSMet {o : PSm} {m : Str → List D → Option D} {f : ASm} {Q : D × Env → Prop} : Ok (eSMet o m f env) Q = Ok (o env) fun d => ∃ s, d = .str s ∧ Ok (f env) fun ds => Ok (m s ds.1) fun d => Q (d, ds.2) := by
  unfold eSMet
  cases e1 : o env with
  | none => exact propext ⟨fun ⟨_, e, _⟩ => (nomatch e), fun ⟨_, e, _⟩ => (nomatch e)⟩
  | some d =>
    rw [ok_some]
    cases d with
    | str s =>
      show Ok ((f env).bind _) Q = _
      rw [ok_bind]
      refine propext ⟨fun q => ⟨s, rfl, ?_⟩, fun ⟨_, e, q⟩ => ?_⟩
      · exact ok_mono q fun ds q => by rw [ok_map] at q; exact q
      · cases e; exact ok_mono q fun ds q => by rw [ok_map]; exact q
    | _ => exact propext ⟨fun ⟨_, e, _⟩ => (nomatch e), fun ⟨_, e, _⟩ => (nomatch e)⟩
-- tests
theorem w_yesT {Q : Bool × Env → Prop} : Ok (yesT env) Q = Q (true, env) := ok_some
theorem w_tP {f : TPm} {Q : Bool × Env → Prop} : Ok (tP f env) Q = Ok (f env) fun b => Q (b, env) := ok_map
theorem w_p2t {g : D → D → Option D} {fa fb : PSm} {Q : Bool → Prop} : Ok (p2t g fa fb env) Q = Ok (fa env) fun x => Ok (fb env) fun y => Ok (g x y) fun d => ∃ b, d = .bl b ∧ Q b := by
  have e : Ok (p2t g fa fb env) Q = Ok (p2 g fa fb env) fun d => ∃ b, d = .bl b ∧ Q b := by
    unfold p2t Ok
    refine propext ⟨?_, ?_⟩
    · rintro ⟨a, e, q⟩
      split at e
      · rename_i b h; cases e; exact ⟨_, h, _, rfl, q⟩
      · cases e
    · rintro ⟨d, h, b, z, q⟩
      subst z
      exact ⟨b, by rw [h], q⟩
  rw [e, w_p2]
theorem w_e2t {g : D → D → Option D} {fa fb : ESm} {Q : Bool × Env → Prop} : Ok (e2t g fa fb env) Q = Ok (fa env) fun x => Ok (fb x.2) fun y => Ok (g x.1 y.1) fun d => ∃ b, d = .bl b ∧ Q (b, y.2) := by
  have e : Ok (e2t g fa fb env) Q = Ok (e2 g fa fb env) fun r => ∃ b, r.1 = .bl b ∧ Q (b, r.2) := by
    unfold e2t Ok
    refine propext ⟨?_, ?_⟩
    · rintro ⟨a, e, q⟩
      split at e
      · rename_i b en h; cases e; exact ⟨_, h, b, rfl, q⟩
      · cases e
    · rintro ⟨⟨d, en⟩, h, b, z, q⟩
      have z : d = .bl b := z
      subst z
      exact ⟨(b, en), by rw [h], q⟩
  rw [e, w_e2]
theorem w_tTruP {f : PSm} {Q : Bool → Prop} : Ok (tTruP f env) Q = Ok (f env) fun d => Ok (tru d) Q := ok_bind
theorem w_tTru {f : ESm} {Q : Bool × Env → Prop} : Ok (tTru f env) Q = Ok (f env) fun d => Ok (tru d.1) fun b => Q (b, d.2) := by unfold tTru; rw [ok_bind]; refine ok_cg fun x => ?_; rw [ok_map]
theorem w_tNo {f : TSm} {Q : Bool × Env → Prop} : Ok (tNo f env) Q = Ok (f env) fun b => Q (!b.1, b.2) := ok_map
theorem w_tAnd2 {f g : TSm} {Q : Bool × Env → Prop} : Ok (tAnd2 f g env) Q = Ok (f env) fun b => if b.1 = true then Ok (g b.2) Q else Q (false, b.2) := by unfold tAnd2; rw [ok_bind]; refine ok_cg fun x => ?_; rw [ok_ite, ok_some]
theorem w_tOr2 {f g : TSm} {Q : Bool × Env → Prop} : Ok (tOr2 f g env) Q = Ok (f env) fun b => if b.1 = true then Q (true, b.2) else Ok (g b.2) Q := by unfold tOr2; rw [ok_bind]; refine ok_cg fun x => ?_; rw [ok_ite, ok_some]
-- iterators
theorem w_iSeq {f : ESm} {Q : List D × Env → Prop} : Ok (iSeq f env) Q = Ok (f env) fun d => Ok (walkD d.1) fun ds => Q (ds, d.2) := by unfold iSeq; rw [ok_bind]; refine ok_cg fun x => ?_; rw [ok_map]
-- targets
theorem w_gNm {Q : Env → Prop} : Ok (gNm i d env) Q = (i < env.length ∧ Q (env.set i (some d))) := by
  unfold gNm
  rw [ok_ite, ok_some]
  by_cases h : i < env.length
  · rw [if_pos h]; simp [h]
  · rw [if_neg h]; exact propext ⟨fun ⟨_, e, _⟩ => (nomatch e), fun z => absurd z.1 h⟩
theorem w_gTu {n : Nat} {g : GsSm} {Q : Env → Prop} : Ok (gTu n g d env) Q = ∃ ds, d = .tup ds ∧ ds.length = n ∧ Ok (g ds env) Q := by
  unfold gTu
  cases d with
  | tup ds =>
    show Ok (if ds.length = n then _ else _) Q = _
    rw [ok_ite]
    by_cases h : ds.length = n
    · rw [if_pos h]; exact propext ⟨fun q => ⟨ds, rfl, h, q⟩, fun ⟨_, e, _, q⟩ => by cases e; exact q⟩
    · rw [if_neg h]; exact propext ⟨fun ⟨_, e, _⟩ => (nomatch e), fun ⟨_, e, z, _⟩ => by cases e; exact absurd z h⟩
  | _ => exact propext ⟨fun ⟨_, e, _⟩ => (nomatch e), fun ⟨_, e, _⟩ => (nomatch e)⟩
theorem w_gTup {n : Nat} {g : GsSm} {ds : List D} {Q : Env → Prop} : Ok (gTu n g (.tup ds) env) Q = (ds.length = n ∧ Ok (g ds env) Q) := by
  rw [w_gTu]
  exact propext ⟨fun ⟨_, e, h, q⟩ => by cases e; exact ⟨h, q⟩, fun ⟨h, q⟩ => ⟨ds, rfl, h, q⟩⟩
theorem w_gsNil {Q : Env → Prop} : Ok (gsNil [] env) Q = Q env := ok_some
theorem w_gsCons {g : GSm} {h : GsSm} {ds : List D} {Q : Env → Prop} : Ok (gsCons g h (d :: ds) env) Q = Ok (g d env) fun e => Ok (h ds e) Q := ok_bind
theorem w_gPut {p : PlSm} {idx : PSm} {Q : Env → Prop} : Ok (gPut p idx d env) Q = Ok (p env) fun q => Ok (idx env) fun k => Ok (dPut q.1 k d) fun x => Q (q.2 x) := by
  unfold gPut; rw [ok_bind]; refine ok_cg fun x => ?_; rw [ok_bind]; refine ok_cg fun y => ?_; rw [ok_map]
-- statements
theorem w_sNil {Q : Out × Env → Prop} : Ok (sNil env) Q = Q (.nx, env) := ok_some
theorem w_sRet {f : ESm} {Q : Out × Env → Prop} : Ok (sRet f env) Q = Ok (f env) fun d => Q (.rt d.1, d.2) := ok_map
theorem w_sExpr {f : ESm} {Q : Out × Env → Prop} : Ok (sExpr f env) Q = Ok (f env) fun d => Q (.nx, d.2) := ok_map
theorem w_sAsg {f : ESm} {g : GSm} {Q : Out × Env → Prop} : Ok (sAsg f g env) Q = Ok (f env) fun d => Ok (g d.1 d.2) fun e => Q (.nx, e) := by unfold sAsg; rw [ok_bind]; refine ok_cg fun x => ?_; rw [ok_map]
theorem w_sIf {c : TSm} {f g : SSm} {Q : Out × Env → Prop} : Ok (sIf c f g env) Q = Ok (c env) fun b => if b.1 = true then Ok (f b.2) Q else Ok (g b.2) Q := by unfold sIf; rw [ok_bind]; refine ok_cg fun x => ?_; rw [ok_ite]
theorem w_sFor {it : ISm} {g : GSm} {body : SSm} {Q : Out × Env → Prop} : Ok (sFor it g body env) Q = Ok (it env) fun ds => Ok (forL g body ds.1 ds.2) Q := ok_bind
theorem w_sFz {f : SSm} {Q : Out × Env → Prop} : Ok (sFz i f env) Q = Ok (env[i]?).join fun d => Ok (f (env.set i (some (fz d)))) Q := by
  unfold sFz
  cases e1 : env[i]? with
  | none => exact propext ⟨fun ⟨_, e, _⟩ => (nomatch e), fun ⟨_, e, _⟩ => (nomatch e)⟩
  | some o => cases o with
    | none => exact propext ⟨fun ⟨_, e, _⟩ => (nomatch e), fun ⟨_, e, _⟩ => (nomatch e)⟩
    | some d => rw [Option.join_some, ok_some]
theorem seq_ok {f g : SSm} {Q : Out × Env → Prop} (h : Ok (f env) fun r => r.1 = .nx ∧ Ok (g r.2) Q) : Ok (sSeq f g env) Q := by
  obtain ⟨⟨o, e⟩, h1, h2, h3⟩ := h
  have h2 : o = .nx := h2
  subst h2
  unfold sSeq
  rw [ok_bind]
  exact ⟨(.nx, e), h1, h3⟩
/-- .. or it ends there -/
theorem seq_ok2 {f g : SSm} {Q : Out × Env → Prop} (h : Ok (f env) fun r => match r.1 with | .nx => Ok (g r.2) Q | o => Q (o, r.2)) : Ok (sSeq f g env) Q := by
  obtain ⟨⟨o, e⟩, h1, h2⟩ := h
  unfold sSeq
  rw [ok_bind]
  refine ⟨(o, e), h1, ?_⟩
  cases o with
  | nx => exact h2
  | _ => exact ok_of rfl h2
theorem fn_ok {P : Nat → Bool} {n m : Nat} {body : SSm} {ds : List D} {Q : D × List (Option D) → Prop} (hl : ds.length = n) (h : Ok (body (ds.map some ++ List.replicate m none)) fun r => ∃ d, r.1 = .rt d ∧ Q (d, outsOf P n r.2)) : Ok (fnF P n m body ds) Q := by
  obtain ⟨⟨o, e⟩, h1, d, h2, h3⟩ := h
  have h2 : o = .rt d := h2
  subst h2
  unfold fnF
  rw [if_pos hl, h1]
  exact ⟨_, rfl, h3⟩
theorem for_ok {g : GSm} {body : SSm} {ds : List D} {Q : Out × Env → Prop} (I : Nat → Env → Prop) (h0 : I 0 env) (hs : ∀ i d e, ds[i]? = some d → I i e → Ok (g d e) fun e1 => Ok (body e1) fun r => r.1 = .nx ∧ I (i + 1) r.2) (hq : ∀ e, I ds.length e → Q (.nx, e)) : Ok (forL g body ds env) Q := by
  obtain ⟨e', h1, h2⟩ := forL_inv I h0 fun i d e hi hI => by
    obtain ⟨e1, k1, ⟨o, e2⟩, k2, k3, k4⟩ := hs i d e hi hI
    have k3 : o = .nx := k3
    subst k3
    exact ⟨e1, e2, k1, .inl k2, k4⟩
  exact ⟨_, h1, hq e' h2⟩
theorem comp_ok {vs : List Nat} {g : GSm} {c : TSm} {el : ESm} {ds acc : List D} {Q : List D × Env → Prop} (I : Nat → Env → List D → Prop) (h0 : I 0 env acc)
    (hs : ∀ i d e acc, ds[i]? = some d → I i e acc → Ok (g d (wipeE e vs)) fun e1 => Ok (c e1) fun b => if b.1 = true then Ok (el b.2) fun r => acc.length < szL ∧ I (i + 1) r.2 (acc ++ [r.1]) else I (i + 1) b.2 acc)
    (hq : ∀ e acc, I ds.length e acc → Q (acc, wipeE e vs)) : Ok (compL vs g c el ds env acc) Q := by
  obtain ⟨acc', e', h1, h2⟩ := compL_inv I h0 fun i d e a hi hI => by
    obtain ⟨e1, k1, ⟨b, e2⟩, k2, k3⟩ := hs i d e a hi hI
    refine ⟨e1, (b, e2), k1, k2, ?_⟩
    cases b with
    | false => exact .inl ⟨rfl, by simpa using k3⟩
    | true =>
      have k3 : Ok (el e2) fun r => a.length < szL ∧ I (i + 1) r.2 (a ++ [r.1]) := by simpa using k3
      obtain ⟨r, k4, k5, k6⟩ := k3
      exact .inr ⟨rfl, r, k4, k5, k6⟩
  exact ⟨_, h1, hq e' acc' h2⟩
end
/-! ### data, by its form -/
section
variable {i j : Int} {b : Bool} {s : Str} {ds es : List D} {z : Bool} {d x : D}
theorem im_non : isImm .non = true := rfl
theorem im_bl : isImm (.bl b) = true := rfl
theorem im_int : isImm (.int i) = true := rfl
theorem im_str : isImm (.str s) = true := rfl
theorem im_tup : isImm (.tup ds) = true := rfl
theorem im_scr : isImm (.scr ds) = true := rfl
theorem im_lst : isImm (.lst z ds) = z := rfl
theorem im_dcK {ks : List Key} : isImm (.dcK z ks ds) = z := rfl
theorem im_dcT {ks : List (List Key)} : isImm (.dcT z ks ds) = z := rfl
theorem fz_non : fz .non = .non := rfl
theorem fz_bl : fz (.bl b) = .bl b := rfl
theorem fz_int : fz (.int i) = .int i := rfl
theorem fz_str : fz (.str s) = .str s := rfl
theorem fz_tup : fz (.tup ds) = .tup ds := rfl
theorem fz_scr : fz (.scr ds) = .scr ds := rfl
theorem fz_lstT : fz (.lst true ds) = .lst true ds := rfl
theorem fz_lst : fz (.lst false ds) = .lst true (fzs ds) := rfl
theorem fz_dcT {ks : List (List Key)} : fz (.dcT false ks ds) = .dcT true ks (fzs ds) := rfl
theorem fz_dcK {ks : List Key} : fz (.dcK false ks ds) = .dcK true ks (fzs ds) := rfl
theorem wk_tup : walkD (.tup ds) = some ds := rfl
theorem wk_lst : walkD (.lst true ds) = some ds := rfl
theorem wk_scr : walkD (.scr ds) = some ds := rfl
theorem wk_str : walkD (.str s) = some (strD s) := rfl
theorem sI_tup : seqI (.tup ds) = some ds := rfl
theorem sI_lst : seqI (.lst true ds) = some ds := rfl
theorem tr_bl : tru (.bl b) = some b := rfl
theorem tr_tup : tru (.tup ds) = some (!ds.isEmpty) := rfl
theorem tr_lst : tru (.lst z ds) = some (!ds.isEmpty) := rfl
theorem tr_int : tru (.int i) = some (i != 0) := rfl
theorem lt_int : dLtX (.int i) (.int j) = some (.bl (decide (i < j))) := rfl
theorem gt_int : dGt (.int i) (.int j) = some (.bl (decide (j < i))) := rfl
theorem le_int : dLe (.int i) (.int j) = some (.bl (decide (i ≤ j))) := rfl
theorem ge_int : dGe (.int i) (.int j) = some (.bl (decide (j ≤ i))) := rfl
theorem eq_int : dEq (.int i) (.int j) = some (.bl (i == j)) := rfl
theorem ne_int : dNe (.int i) (.int j) = some (.bl (!(i == j))) := rfl
theorem eq_str {t : Str} : dEq (.str s) (.str t) = some (.bl (decide (s = t))) := rfl
theorem ne_str {t : Str} : dNe (.str s) (.str t) = some (.bl (!decide (s = t))) := rfl
theorem ne_bl {c : Bool} : dNe (.bl b) (.bl c) = some (.bl (!(b == c))) := rfl
theorem eq_bl {c : Bool} : dEq (.bl b) (.bl c) = some (.bl (b == c)) := rfl
theorem add_int : dAdd (.int i) (.int j) = some (.int (i + j)) := rfl
theorem sub_int : dSub (.int i) (.int j) = some (.int (i - j)) := rfl
theorem neg_int : dNeg (.int i) = some (.int (-i)) := rfl
theorem g_int : gInt [.int i] = some (.int i) := rfl
theorem g_abs : gAbs [.int i] = some (.int (if i < 0 then -i else i)) := rfl
theorem ix_tup {z : Int} : dIx (.tup ds) (.int z) = L2.atI ds z := by simp [dIx, dGet, seqD]
theorem ix_lst {fz : Bool} {z : Int} : dIx (.lst fz ds) (.int z) = L2.atI ds z := by simp [dIx, dGet, seqD]
theorem at_nat {α : Type} {l : List α} {n : Nat} (h : n < l.length) : L2.atI l (n : Int) = some l[n] := by
  unfold L2.atI L2.ixN
  rw [if_pos (by omega), if_pos (by omega)]
  simp [h]
theorem at0 {α : Type} {a : α} {l : List α} : L2.atI (a :: l) 0 = some a := at_nat (l := a :: l) (n := 0) (by simp)
theorem at1 {α : Type} {a b : α} {l : List α} : L2.atI (a :: b :: l) 1 = some b := at_nat (l := a :: b :: l) (n := 1) (by simp)
theorem at2 {α : Type} {a b c : α} {l : List α} : L2.atI (a :: b :: c :: l) 2 = some c := at_nat (l := a :: b :: c :: l) (n := 2) (by simp)
theorem g_len_tup : gLen [.tup ds] = some (.int ds.length) := rfl
theorem g_len_lst : gLen [.lst z ds] = some (.int ds.length) := rfl
theorem len_le (h : ds.length ≤ 16777216) : ds.length ≤ szL := h
theorem mu_int (h : i.natAbs < 2 ^ 64) (h' : j.natAbs < 2 ^ 64) : dMu (.int i) (.int j) = some (.int (i * j)) := by
  have a : bitsI i ≤ 64 := PySem.intBits_le_iff.mpr h
  have b : bitsI j ≤ 64 := PySem.intBits_le_iff.mpr h'
  simp only [dMu]
  rw [if_pos (by omega)]
theorem mod_int (h : 0 < j) : dMod (.int i) (.int j) = some (.int (i % j)) := by simp only [dMod, if_pos h]
theorem div_int (h : 0 < j) (h' : j < 1073741824) : dDiv (.int i) (.int j) = some (.int (i / j)) := by simp only [dDiv]; rw [if_pos ⟨h, h'⟩]
theorem put0 : dPut (.lst false (d :: ds)) (.int 0) x = some (.lst false (x :: ds)) := by
  simp [dPut, L2.ixN]
theorem pop0 : mPop (.lst false (d :: ds)) [.int 0] = some (d, .lst false ds) := by
  simp [mPop, seqIndex?]
theorem fzs_imm : ∀ {l : List D}, (∀ d ∈ l, fz d = d) → fzs l = l
  | [], _ => rfl
  | x :: l, h => by show fz x :: fzs l = _; rw [fzs_imm fun d m => h d (List.mem_cons_of_mem _ m), h x List.mem_cons_self]
theorem fz_imm {d : D} (h : isImm d = true) : fz d = d := by
  cases d with
  | lst z ds => cases z with
    | true => rfl
    | false => cases h
  | dcK z ks ds => cases z with
    | true => rfl
    | false => cases h
  | dcT z ks ds => cases z with
    | true => rfl
    | false => cases h
  | _ => rfl
end
section
theorem rngD_len (a : Int) (n : Nat) : (rngD a n).length = n := by simp [rngD]
theorem rngD_at {a : Int} {n k : Nat} {d : D} (h : (rngD a n)[k]? = some d) : d = .int (a + k) ∧ k < n := by
  unfold rngD at h
  rw [List.getElem?_map] at h
  obtain ⟨i, h1, h2⟩ := Option.map_eq_some_iff.mp h
  obtain ⟨h3, h4⟩ := List.getElem?_eq_some_iff.mp h1
  rw [List.getElem_range] at h4
  rw [List.length_range] at h3
  exact ⟨by rw [← h2, ← h4], h3⟩
theorem w_iRange1 {f : ASm} {env : Env} {Q : List D × Env → Prop} : Ok (iRange1 f env) Q = Ok (f env) fun r => ∃ j, r.1 = [.int j] ∧ smallI j ∧ Q (rngD 0 j.toNat, r.2) := by
  unfold iRange1
  rw [ok_bind]
  refine ok_cg fun r => ?_
  unfold Ok
  refine propext ⟨?_, ?_⟩
  · rintro ⟨a, e, q⟩
    split at e
    · split at e
      · cases e; rename_i j h1 h2; exact ⟨j, h1, h2, q⟩
      · cases e
    · cases e
  · rintro ⟨j, h1, h2, q⟩
    exact ⟨_, by rw [h1]; simp only [if_pos h2], q⟩
theorem w_iRange2 {f : ASm} {env : Env} {Q : List D × Env → Prop} : Ok (iRange2 f env) Q = Ok (f env) fun r => ∃ i j, r.1 = [.int i, .int j] ∧ (smallI i ∧ smallI j) ∧ Q (rngD i (j - i).toNat, r.2) := by
  unfold iRange2
  rw [ok_bind]
  refine ok_cg fun r => ?_
  unfold Ok
  refine propext ⟨?_, ?_⟩
  · rintro ⟨a, e, q⟩
    split at e
    · split at e
      · cases e; rename_i i j h1 h2; exact ⟨i, j, h1, h2, q⟩
      · cases e
    · cases e
  · rintro ⟨i, j, h1, h2, q⟩
    exact ⟨_, by rw [h1]; simp only [if_pos h2], q⟩
theorem w_iEnumE {f : ASm} {env : Env} {Q : List D × Env → Prop} : Ok (iEnumE f env) Q = Ok (f env) fun r => ∃ d ds, r.1 = [d] ∧ seqI d = some ds ∧ Q (enumD ds, r.2) := by
  unfold iEnumE
  rw [ok_bind]
  refine ok_cg fun r => ?_
  refine propext ⟨?_, ?_⟩
  · rintro ⟨a, e, q⟩
    split at e
    · obtain ⟨ds, h1, h2⟩ := Option.map_eq_some_iff.mp e
      subst h2
      rename_i d h
      exact ⟨d, ds, h, h1, q⟩
    · cases e
  · rintro ⟨d, ds, h1, h2, q⟩
    exact ⟨_, by rw [h1]; simp only [h2, Option.map_some], q⟩
theorem pick_list {ds : List D} {r : Int} (hi : ds.all isImm = true) (h0 : 0 ≤ r) (h1 : r < ds.length) : ∃ d ∈ ds, dIxI (.lst false ds) (.int r) = some d := by
  obtain ⟨n, rfl⟩ := Int.eq_ofNat_of_zero_le h0
  have hn : n < ds.length := by omega
  refine ⟨ds[n], List.getElem_mem hn, ?_⟩
  unfold dIxI
  rw [ix_lst, at_nat hn]
  show (if isImm ds[n] = true then _ else _) = _
  rw [if_pos (List.all_eq_true.mp hi _ (List.getElem_mem hn))]
theorem ix_str {s : Str} {r : Int} (h0 : 0 ≤ r) (h1 : r < s.length) (hz : s.length ≤ 16777216) : ∃ c, dIx (.str s) (.int r) = some (.str ⟨#[c]⟩) := by
  obtain ⟨n, rfl⟩ := Int.eq_ofNat_of_zero_le h0
  have hn : n < s.cps.toList.length := by rw [Array.length_toList]; exact_mod_cast h1
  refine ⟨s.cps.toList[n], ?_⟩
  show (if s.length ≤ szL then (L2.atI s.cps.toList (n : Int)).map fun c => D.str ⟨#[c]⟩ else none) = _
  rw [if_pos hz, at_nat hn]
  rfl
theorem add_str {a b : Str} (h : a.length + b.length ≤ 16777216) : dAdd (.str a) (.str b) = some (.str (a ++ b)) := by
  show (if a.length + b.length ≤ szL then _ else _) = _
  rw [if_pos h]
theorem add_lst {z y : Bool} {a b : List D} (h : a.length + b.length ≤ 16777216) (ha : a.all isImm = true) (hb : b.all isImm = true) : dAdd (.lst z a) (.lst y b) = some (.lst false (a ++ b)) := by
  show (if a.length + b.length ≤ szL ∧ a.all isImm = true ∧ b.all isImm = true then _ else _) = _
  rw [if_pos ⟨h, ha, hb⟩]
theorem app_lst {a : List D} {d : D} (h : a.length < 16777216) : mAppend (.lst false a) [d] = some (.non, .lst false (a ++ [d])) := by
  show (if a.length < szL then _ else _) = _
  rw [if_pos h]
theorem ext_lst {a b : List D} (h : a.length + b.length ≤ 16777216) (hb : b.all isImm = true) : mExtend (.lst false a) [.lst false b] = some (.non, .lst false (a ++ b)) := by
  show (if a.length + b.length ≤ szL ∧ b.all isImm = true then _ else _) = _
  rw [if_pos ⟨h, hb⟩]
theorem g_len_str {s : Str} (h : s.length ≤ 16777216) : gLen [.str s] = some (.int s.length) := by
  show (if s.length ≤ szL then _ else _) = _
  rw [if_pos h]
theorem small_nat {n : Nat} (h : n ≤ 16777216) : smallI (n : Int) := by
  unfold smallI; omega
theorem g_tuple {z : Bool} {ds : List D} (h : ds.all isImm = true) : gTuple [.lst z ds] = some (.tup ds) := by
  show (if ds.all isImm = true then _ else _) = _
  rw [if_pos h]
theorem g_list_tup {ds : List D} (h : ds.all isImm = true) : gList [.tup ds] = some (.lst false ds) := by
  show (if ds.all isImm = true then _ else _) = _
  rw [if_pos h]
theorem g_list_lst {z : Bool} {ds : List D} (h : ds.all isImm = true) : gList [.lst z ds] = some (.lst false ds) := by
  show (if ds.all isImm = true then _ else _) = _
  rw [if_pos h]
theorem join_str {z : Bool} {ss : List Str} (h : (ss.map (·.length)).sum ≤ 16777216) : ∃ t : Str, mJoin "" [.lst z (ss.map D.str)] = some (.str t) ∧ t.length ≤ (ss.map (·.length)).sum := by
  have e : (("" : Str).length) = 0 := by decide +kernel
  refine ⟨Txt.join "" ss, ?_, ?_⟩
  · show ((strsD (ss.map D.str)).bind fun ys => if (ys.map (·.length)).sum + ys.length * ("" : Str).length ≤ 16777216 then some (D.str (Txt.join "" ys)) else none) = _
    rw [strsD_map, Option.bind_some, if_pos (by rw [e]; simpa using h)]
  · have z := StrLaws.join_length_le ("" : Str) ss
    rw [e, Nat.mul_zero, Nat.add_zero] at z
    rw [eq_of_beq (join_plain_closes ("" : Str) ss)]
    exact z
theorem alike_strs (l : List Str) : alikeB (l.map D.str) = true := by
  unfold alikeB
  simp [List.all_eq_true, py, PySem.W.alike]
theorem all_map {α : Type} {f : α → D} {p : D → Bool} (l : List α) (h : ∀ a, p (f a) = true) : (l.map f).all p = true := by simp [h]
theorem nodics_all : ∀ {ds : List D}, (∀ d ∈ ds, nodic d = true) → nodics ds = true
  | [], _ => by unfold nodics; rfl
  | d :: ds, h => by
    unfold nodics
    rw [h d List.mem_cons_self, nodics_all fun e m => h e (List.mem_cons_of_mem _ m)]; rfl
theorem sorted_strs (l : List Str) (h : l.length ≤ 16777216) : ∃ l' : List Str, l'.length = l.length ∧ gSorted [.lst false (l.map D.str)] = some (.lst false (l'.map D.str)) ∧ ∀ s ∈ l', s ∈ l := by
  have h1 : ((l.map D.str).all isImm = true ∧ nodics (l.map D.str) = true) ∧ alikeB (l.map D.str) = true ∧ ((l.map D.str).all tupNe = true ∨ (l.map D.str).all notTup = true) ∧ (l.map D.str).length ≤ szL ∧ ((l.map D.str).all fun z => decide ((py z).depth ≤ 20)) = true :=
    ⟨⟨all_map _ fun _ => rfl, nodics_all fun d m => by obtain ⟨a, _, rfl⟩ := List.mem_map.mp m; simp [nodic]⟩, alike_strs l, .inr (all_map _ fun _ => rfl), by rw [List.length_map]; exact h, all_map _ fun a => by simp [py, PyData.depth]⟩
  have key : ∀ ds : List D, (∀ d ∈ ds, ∃ s, d = .str s) → ∃ l' : List Str, ds = l'.map D.str := fun ds => by
    induction ds with
    | nil => exact fun _ => ⟨[], rfl⟩
    | cons d ds ih =>
      intro h
      obtain ⟨s, rfl⟩ := h d List.mem_cons_self
      obtain ⟨l', rfl⟩ := ih fun e m => h e (List.mem_cons_of_mem _ m)
      exact ⟨s :: l', rfl⟩
  obtain ⟨l', hl'⟩ := key ((l.map D.str).mergeSort leD) fun d m => by
    obtain ⟨a, _, rfl⟩ := List.mem_map.mp (List.mem_mergeSort.mp m)
    exact ⟨a, rfl⟩
  refine ⟨l', ?_, ?_, ?_⟩
  · have := congrArg List.length hl'
    simpa using this.symm
  · show (if _ then some (D.lst false ((l.map D.str).mergeSort leD)) else none) = _
    rw [if_pos h1, hl']
  · intro s m
    have : D.str s ∈ (l.map D.str).mergeSort leD := by rw [hl']; exact List.mem_map_of_mem m
    obtain ⟨a, ma, e⟩ := List.mem_map.mp (List.mem_mergeSort.mp this)
    cases e; exact ma
end
end DL

set_option maxHeartbeats 1000000
/-! DL, part t: a, b = e1, e2 on one line -/
namespace DL
open PySem L2
def sPar (i j : Nat) (f : ASm) : SSm := fun env => (f env).bind fun r => match r.1 with
  | [d, e] => if i < r.2.length ∧ j < r.2.length then some (.nx, (r.2.set i (some d)).set j (some e)) else none
  | _ => none
theorem ds_par {P : Nat → Bool} {X : Cx} {i j : Nat} {x y : Str} {a b : Expr} {f : ASm} {px py pt pos : Pos} {kt k2 pt2} (hc : X.calm = true) (hN : X.N.Nodup) (hi : X.N[i]? = some x) (hj : X.N[j]? = some y) (hij : i ≠ j)
    (hx : X.env.scope.names.lookup x = some .local) (hy : X.env.scope.names.lookup y = some .local) (hPi : P i = false) (hPj : P j = false) (ha : DA X [a, b] f)
    (hw : swappedStores [.Tuple [.Name x px, .Name y py] kt pt] (.Tuple [a, b] k2 pt2) X.env = pure (some [x, y]))
    (hs : swapsWithSole [.Tuple [.Name x px, .Name y py] kt pt] (.Tuple [a, b] k2 pt2) pos.line X.env = pure false := by rfl) :
    DS P X (.Assign [.Tuple [.Name x px, .Name y py] kt pt] (.Tuple [a, b] k2 pt2) pos) (sPar i j f) := by
  refine fun W tk => ps_of (ps_par hc hN hi hj hij hx hy ha.pa hw hs) fun D σ H ⟨env, env', fp, o, s, nd, hf, q⟩ => ?_
  obtain ⟨⟨ds, en⟩, e1, hf⟩ := Option.bind_eq_some_iff.mp hf
  refine ⟨env, en, fp, ds, s, nd, e1, fun vs H' fr fp' ev s' r n' => ?_⟩
  dsimp only at hf
  split at hf
  case h_2 => cases hf
  rename_i d e
  split at hf
  case isFalse => cases hf
  rename_i hl
  cases hf
  obtain ⟨v, vs1, f1, f2, rfl, rfl, r1, w, vs2, f3, f4, rfl, rfl, r2, rfl, rfl⟩ := r
  rw [List.append_nil] at n' ev
  have nA := List.nodup_append.mp n'
  have nB := List.nodup_append.mp nA.1
  have n1 : (f1 ++ fp').Nodup := List.nodup_append.mpr ⟨nB.1, nA.2.1, fun c m c' m' => nA.2.2 c (List.mem_append_left _ m) c' m'⟩
  obtain ⟨fp1, s1, m1, k1⟩ := put_slot s' r1 n1 hl.1
  have n2 : (f3 ++ fp1).Nodup := List.nodup_append.mpr ⟨nB.2.1, m1, fun c m c' m' => by
    rcases List.mem_append.mp (k1 c' m') with z | z
    · exact fun e => nB.2.2 c' z c m e.symm
    · exact nA.2.2 c (List.mem_append_right _ m) c' z⟩
  obtain ⟨fp2, s2, m2, k2⟩ := put_slot s1 r2 n2 (by rw [List.length_set]; exact hl.2)
  refine ⟨v, w, rfl, q _ H' fp2 (ev.sub fun c m => ?_) s2 m2 ((Pin.set hPi).trans (Pin.set hPj))⟩
  rcases List.mem_append.mp (k2 c m) with z | z
  · exact List.mem_append_left _ (List.mem_append_right _ z)
  · rcases List.mem_append.mp (k1 c z) with z | z
    · exact List.mem_append_left _ (List.mem_append_left _ z)
    · exact List.mem_append_right _ z
theorem w_sPar {i j : Nat} {f g : ESm} {env : Env} {Q : Out × Env → Prop} : Ok (sPar i j (aConsE f (aConsE g aNilE)) env) Q = Ok (f env) fun x => Ok (g x.2) fun y => i < y.2.length ∧ j < y.2.length ∧ Q (.nx, (y.2.set i (some x.1)).set j (some y.1)) := by
  unfold sPar
  rw [ok_bind, w_aConsE]
  refine ok_cg fun x => ?_
  rw [w_aConsE]
  refine ok_cg fun y => ?_
  rw [w_aNilE]
  show Ok (if i < y.2.length ∧ j < y.2.length then some (Out.nx, (y.2.set i (some x.1)).set j (some y.1)) else none) Q = _
  by_cases h : i < y.2.length ∧ j < y.2.length
  · rw [if_pos h, ok_some]
    exact propext ⟨fun q => ⟨h.1, h.2, q⟩, fun q => q.2.2⟩
  · rw [if_neg h]
    exact propext ⟨fun ⟨_, z, _⟩ => (nomatch z), fun q => absurd ⟨q.1, q.2.1⟩ h⟩
end DL

set_option maxHeartbeats 1000000
/-! DL, part y: d[k] op= e; dict(d) -/
namespace DL
open PySem L2
def sAugD (p : PlSm) (idx : PSm) (h : Int → Int → Int) (f : PSm) : SSm := fun env => (p env).bind fun q => (idx env).bind fun k => match dGet q.1 k with
  | some (some (.int a)) => (f env).bind fun r => match r with
    | .int b => (dPut q.1 k (.int (h a b))).map fun d => (.nx, q.2 d)
    | _ => none
  | _ => none
theorem ds_augD {P : Nat → Bool} {X : Cx} {o e v : Expr} {op : Operator} {h : Int → Int → Int} {p : PlSm} {idx f : PSm} {pos tpos : Pos} (hu : X.A.units + 1 < cLine) (ho : DPl X o p) (hi : DB false X e idx) (hop : PIp X op (ipI h)) (hv : DB false X v f)
    (ha : ∀ ov iv new, augStore e ov iv new = (do holding [new, ov, iv] (setItem ov iv new); release [new, ov, iv] []; pure .next) := by intros; rfl) : DS P X (.AugAssign (.Subscript o e tpos) op v pos) (sAugD p idx h f) := by
  obtain ⟨to, po, ho⟩ := ho
  obtain ⟨ti, pi, hi⟩ := hi
  obtain ⟨tv, pv, hv⟩ := hv
  refine fun W tk => ps_of (ps_daug hu po pi pv hop ha) fun D σ H ⟨env, env', fp, o, s, nd, hf, q⟩ => ?_
  obtain ⟨⟨d0, put⟩, e1, hf⟩ := Option.bind_eq_some_iff.mp hf
  obtain ⟨k, e2, hf⟩ := Option.bind_eq_some_iff.mp hf
  simp only at hf
  split at hf
  case h_2 => cases hf
  rename_i a hg
  obtain ⟨r, e3, hf⟩ := Option.bind_eq_some_iff.mp hf
  split at hf
  case h_2 => cases hf
  rename_i b
  obtain ⟨d1, e4, e6⟩ := Option.map_eq_some_iff.mp hf
  cases e6
  refine ho σ H env fp d0 put s nd e1 _ fun va H1 sm1 fc => ?_
  refine hi σ H1 env fp k (s.same sm1) nd e2 _ fun vk H2 fk sm2 rk _ => ?_
  have s1 := s.same sm1
  have sm := sm1.trans sm2
  obtain ⟨_, _, _, _, rA, _⟩ := fc.same s1 sm2
  obtain ⟨a', w, ea, g, rel⟩ := rA.dget rk hg
  obtain ⟨x, fx, rfl, rx⟩ := rel
  refine ⟨a', x, ea, g, ?_⟩
  refine hv σ H2 env fp (.int b) (s.same sm) nd e3 _ fun vb H3 fb sm3 rb _ => ?_
  refine ⟨a, b, rx.2, rb.2, ?_⟩
  have sm4 := sm.trans sm3
  have s2 := s.same sm4
  obtain ⟨pre, f', post, e5, r0, pp⟩ := fc.same s1 (sm2.trans sm3)
  have n1 := List.nodup_append.mp (e5 ▸ nd)
  have n2 := List.nodup_append.mp n1.2.1
  have inF : ∀ a ∈ f', a ∈ fp := fun a m => by rw [e5]; exact List.mem_append_right _ (List.mem_append_left _ m)
  have inP : ∀ a, a ∈ pre ∨ a ∈ post → a ∈ fp := fun a m => by
    rw [e5]
    exact m.elim (List.mem_append_left _) fun m => List.mem_append_right _ (List.mem_append_right _ m)
  have fin := put_core (x := .int (h a b)) (fx := []) (d := .int (h a b)) r0 (rk.same sm3) ⟨rfl, rfl⟩ (by rw [List.append_nil]; exact n2.1) e4 (fun H' => D.nx σ H') fun H' fa ev ra nn => by
    have nP : ∀ a, a ∈ pre ∨ a ∈ post → a ∉ f' ++ [] := fun a m m' => by
      rw [List.append_nil] at m'
      exact m.elim (fun m => n1.2.2 a m a (List.mem_append_left _ m') rfl) fun m => n2.2.2 a m' a m rfl
    have lvP : ∀ a, a ∈ pre ∨ a ∈ post → Live H3 a := fun a m => s2.live a (inP a m)
    have st : ∀ a, a ∈ pre ∨ a ∈ post → H' a = H3 a := fun a m => by
      obtain ⟨ob, h, _⟩ := lvP a m
      rw [h]; exact ev.keep a ob h (nP a m)
    have ap : ∀ a, a ∈ pre ∨ a ∈ post → a ∉ fa := fun a m m' => by
      rcases ev.own a m' with z | z
      · exact nP a m z
      · obtain ⟨ob, h, _⟩ := lvP a m
        rw [h] at z; cases z
    have ev' : Evo fp H3 (pre ++ (fa ++ post)) H' := ⟨fun a ob h n => ev.keep a ob h fun m => n (inF a (by rwa [List.append_nil] at m)), fun a m => by
      rcases List.mem_append.mp m with m | m
      · exact .inl (inP a (.inl m))
      · rcases List.mem_append.mp m with m | m
        · exact (ev.own a m).imp (fun m => inF a (by rwa [List.append_nil] at m)) id
        · exact .inl (inP a (.inr m)), ev.imm⟩
    refine q σ H' _ ((Evo.of_same (fp := fp) (fr := []) sm4 fun a m => (nomatch m)).trans ev') (pp H' d1 fa ev.imm st ra) ?_ (Pin.refl σ)
    refine List.nodup_append.mpr ⟨n1.1, List.nodup_append.mpr ⟨nn, n2.2.1, fun a m b m' z => ap b (.inr m') (by rw [← z]; exact m)⟩, fun a m b m' z => ?_⟩
    subst z
    rcases List.mem_append.mp m' with m' | m'
    · exact ap a (.inl m) m'
    · exact n1.2.2 a m a (List.mem_append_right _ m') rfl
  rcases fin with ⟨p0, xs, kk, j, e7, _, hp, _⟩ | ⟨a2, H5, e7, hput, q5⟩
  · rw [ea] at e7
    cases e7
    exfalso
    have up : ∀ u, Rd H2 a' u → H3 a' = some u ∨ ∃ o, H3 a' = some (.frz o u) := fun u r => r.imp (fun z => sm3 _ _ z) fun ⟨o, z⟩ => ⟨o, sm3 _ _ z⟩
    rcases g with ⟨kvs, k', e8, _, _⟩ | ⟨kvs, k', b', e8, _, _, _⟩
    · rcases up _ e8 with z | ⟨o, z⟩ <;> rw [z] at hp <;> cases hp
    · rcases up _ e8 with z | ⟨o, z⟩ <;> rw [z] at hp <;> cases hp
  · rw [ea] at e7
    cases e7
    exact ⟨H5, hput, q5⟩
def gDict : List D → Option D
  | [.dcK _ ks ds] => if ds.all isImm = true then some (.dcK false ks ds) else none
  | _ => none
theorem call_dictOf {X : Cx} : CallR X (.type "dict") (fun xs H Q => ∃ a kvs, xs = [.ref a] ∧ Rd H a (.dK kvs) ∧ ∀ p, H p = none → Q (.ref p) (upd H p (.dK kvs))) := by
  rintro pins s σ H xs us Q I r ⟨a, kvs, rfl, hr, q⟩
  rw [Vals.ref1 r]
  exact d_copyOf I hr fun p s' hp I' => ⟨.ref p, _, I', rfl, q p hp⟩
theorem c_dict {X : Cx} : OC true X (.type "dict") gDict := by
  refine ⟨_, call_dictOf, fun H vs ds fp d hv hg Q q => ?_⟩
  unfold gDict at hg
  split at hg
  · rename_i fz ks ds
    split at hg
    case isFalse => cases hg
    rename_i hi
    cases hg
    obtain ⟨v, rfl, r⟩ := hv.one
    have fin : ∀ {a : Addr} {xs : List V}, v = .ref a → Rd H a (.dK (ks.zip xs)) → ks.length = xs.length → RIs X.K H ds xs → ∃ a kvs, [v] = [V.ref a] ∧ Rd H a (.dK kvs) ∧ ∀ p, H p = none → Q (.ref p) (upd H p (.dK kvs)) := fun {a xs} e1 e2 e3 e4 =>
      ⟨a, _, by rw [e1], e2, fun p hp => by
        have ie : ImmExt H (upd H p (.dK (ks.zip xs))) := ⟨fun b ys hb => by rw [upd_ne (by rintro rfl; rw [hp] at hb; cases hb)]; exact hb, fun b o u hb => by rw [upd_ne (by rintro rfl; rw [hp] at hb; cases hb)]; exact hb, fun b u hb => by rw [upd_ne (by rintro rfl; rw [hp] at hb; cases hb)]; exact hb⟩
        exact q _ _ [p] (fun b ob hb => by rw [upd_ne (by rintro rfl; rw [hp] at hb; cases hb)]; exact hb) (.inr ⟨rfl, p, xs, [], rfl, rfl, upd_same, e3, (RIs.mono ie _ _ e4).ros⟩) fun _ => .one hp⟩
    rcases r with ⟨_, _, _, a, o, xs, h1, h2, h3, h4⟩ | ⟨_, a, xs, f, h1, _, h2, h3, h4⟩
    · exact fin h1 (.inr ⟨o, h2⟩) h3 h4
    · exact fin h1 (.inl h2) h3 (h4.imms hi).2
  · cases hg
end DL

set_option maxHeartbeats 4000000
/-! DL: exceptions, part a: defs that raise, their calls, raise -/
namespace DL
open PySem PySem.Spec PyProof.Rows L2 C8
/-! ### a def that may raise: what comes of it, and what its parameters hold behind -/
abbrev FXm := List D → Option (Out × List (Option D))
def PromX (K : PySem.W.Frag) (mg : Str → Option Value) (F : FXm) : Sp := fun vs H Q E => ∃ ds fp o outs, ROs K H ds vs fp ∧ fp.Nodup ∧ F ds = some (o, outs) ∧ match o with
  | .rt r => ∀ v H' fr fo, Evo fp H (fr ++ fo) H' → RO K H' r v fr → SR K H' outs (vs.map some) fo → (fr ++ fo).Nodup → Q v H'
  | .xc x ns es => ∀ H' fo dd xs, Evo fp H fo H' → SR K H' outs (vs.map some) fo → fo.Nodup → H' dd = some (.xd (ns.zip xs)) → ns.length = xs.length → RIs K H' es xs → ∀ C, mg x = some (.ref C) → E (.ref C) (some dd) H'
  | _ => False
def fnX (P : Nat → Bool) (n m : Nat) (body : SSm) : FXm := fun ds => if ds.length = n then (body (ds.map some ++ List.replicate m none)).bind fun r => match r.1 with
    | .rt d => some (.rt d, outsOf P n r.2)
    | .nx => some (.rt .non, outsOf P n r.2)
    | .xc x ns es => some (.xc x ns es, outsOf P n r.2)
    | _ => none
  else none
theorem fnX_len {P : Nat → Bool} {n m : Nat} {body : SSm} {ds : List D} {r : Out × List (Option D)} (h : fnX P n m body ds = some r) : ds.length = n := by
  unfold fnX at h
  split at h
  · assumption
  · cases h
/-- .. where nothing is raised -/
def noX (F : FXm) : FSm := fun ds => (F ds).bind fun r => match r.1 with
  | .rt d => some (d, r.2)
  | _ => none
theorem noX_ok {F : FXm} {ds : List D} {d : D} {outs : List (Option D)} (h : noX F ds = some (d, outs)) : F ds = some (.rt d, outs) := by
  obtain ⟨⟨o, os⟩, e1, e2⟩ := Option.bind_eq_some_iff.mp h
  cases o with
  | rt r => cases e2; exact e1
  | _ => cases e2
theorem promX_of {K : PySem.W.Frag} {mg : Str → Option Value} {F : FXm} {vs : List V} {H : Hp} {Q : VK} {E : XK} (h : Prom K (noX F) vs H Q E) : PromX K mg F vs H Q E := by
  obtain ⟨ds, fp, r, outs, h1, h2, h3, h4⟩ := h
  exact ⟨ds, fp, .rt r, outs, h1, h2, noX_ok h3, h4⟩
/-- a def of the top that may raise -/
structure CalX (P : Program) (w : World) (K : PySem.W.Frag) (mg : Str → Option Value) (base : Heap) (k : Nat) (x : Str) (sp : Sp) : Prop where
  ex : ∃ (f : Addr) (fd : FuncData) (ps : List Str), FnOk P w K mg base (L2N.CX P w) k f fd ps sp ∧ mg x = some (.ref f) ∧ PySem.W.keepIn K (.ref f) = true ∧ Binds K fd ps []
theorem fnokX_of {Pr : Program} {w : World} {K : PySem.W.Frag} {mg : Str → Option Value} {base : Heap} {x : Str} {st : Stmt} {f : Addr} {fd : FuncData} {N ps : List Str} {k m : Nat} {P : Nat → Bool} {body : SSm}
    (F : C8.Fun K x x st f fd) (S : FnScope N ps (fnScope st)) (hm : N.length - ps.length = m)
    (hb : ∀ (cdv : Value) (A : Around) (outer : List PySem.Env) (s : Shared) (H : Hp) (E : XK), Room k (A.deeper (envOfC x (fnScope st) s.heap.objs.size f cdv)) →
      DSs P (cxOf (L2N.CX Pr w) Pr w K mg base N x (fnScope st) f cdv A outer s H E) (fnBody st) body) : FnOk Pr w K mg base (L2N.CX Pr w) (k + 1) f fd ps (PromX K mg (fnX P ps.length m body)) := by
  have hlen : ∀ (vs : List V) (H : Hp) (Q : VK) (E : XK), PromX K mg (fnX P ps.length m body) vs H Q E → vs.length = ps.length := fun vs H Q E ⟨ds, fp, r, outs, h1, _, h2, _⟩ => by
    rw [h1.length, fnX_len h2]
  obtain ⟨oc, od, dV, kV, doc, pm, an, cdv, ct, osl, rfl, lk, hcd⟩ := F.ex
  refine fn_of lk hcd S hlen fun A outer s H vs Q E hr hsp => ⟨_, hb cdv A outer s H E hr (fun cls d _ H => E cls d H) (L2N.takes_of rfl rfl rfl rfl), ?_⟩
  have hl := hlen vs H Q E hsp
  obtain ⟨ds, fp, o1, outs, h1, nd, h2, q⟩ := hsp
  have hd := fnX_len h2
  unfold fnX at h2
  rw [if_pos hd] at h2
  obtain ⟨⟨o, env'⟩, e1, e2⟩ := Option.bind_eq_some_iff.mp h2
  have sr : SR K H (ds.map some ++ List.replicate m none) (L2.start N vs) fp := by
    unfold L2.start
    rw [hl, hm]
    exact sr_start h1
  have fin : ∀ {σ' : L2.St} {H' : Hp} {fp' : List Addr}, SR K H' env' σ' fp' → fp'.Nodup → Pin P (L2.start N vs) σ' → ∃ fo, SR K H' (outsOf P ps.length env') (vs.map some) fo ∧ fo.Nodup ∧ ∀ a ∈ fo, a ∈ fp' := fun {σ' H' fp'} s n p => by
    have z := outs_ok (P := P) (vs := vs) (rest := List.replicate (N.length - vs.length) none) s n p.1 fun i hi => p.2 i hi
    rw [hl] at z
    exact z
  refine ⟨_, env', fp, o, sr, nd, e1, ?_⟩
  cases o with
  | bk => cases e2
  | ct => cases e2
  | nx =>
    cases e2
    intro σ' H' fp' ev s' n' p'
    obtain ⟨fo, k1, k2, k3⟩ := fin s' n' p'
    exact q .non H' [] fo (ev.sub k3) ⟨rfl, rfl⟩ k1 k2
  | rt d =>
    cases e2
    intro v σ' H' fr fp' ev s' rr n' p'
    have n1 := List.nodup_append.mp n'
    obtain ⟨fo, k1, k2, k3⟩ := fin s' n1.2.1 p'
    exact q v H' fr fo (ev.sub fun a m => (List.mem_append.mp m).elim (List.mem_append_left _) fun m => List.mem_append_right _ (k3 a m)) rr k1 (List.nodup_append.mpr ⟨n1.1, k2, fun a m b m' => n1.2.2 a m b (k3 b m')⟩)
  | xc y ns es =>
    cases e2
    intro σ' H' fp' dd xs ev s' n' p' hd hn hr C hC
    obtain ⟨fo, k1, k2, k3⟩ := fin s' n' p'
    exact q H' fo dd xs (ev.sub k3) k1 k2 hd hn hr C hC
theorem calX_of {Pr : Program} {w : World} {K : PySem.W.Frag} {mg : Str → Option Value} {base : Heap} {x : Str} {st : Stmt} {f : Addr} {fd : FuncData} {N ps : List Str} {k m : Nat} {P : Nat → Bool} {body : SSm}
    (F : Def K mg x st f fd) (b : Binds K fd ps []) (S : FnScope N ps (fnScope st)) (hm : N.length - ps.length = m)
    (hb : ∀ (cdv : Value) (A : Around) (outer : List PySem.Env) (s : Shared) (H : Hp) (E : XK), Room k (A.deeper (envOfC x (fnScope st) s.heap.objs.size f cdv)) →
      DSs P (cxOf (L2N.CX Pr w) Pr w K mg base N x (fnScope st) f cdv A outer s H E) (fnBody st) body) : CalX Pr w K mg base (k + 1) x (PromX K mg (fnX P ps.length m body)) :=
  ⟨f, fd, ps, fnokX_of F.fn S hm hb, F.mgf, F.kp, b⟩

/-! ### expressions that may raise -/
abbrev EXm := Env → Option (Out × Env)
def OQ (K : PySem.W.Frag) (W : WN) (σ : L2.St) (H : Hp) (fp : List Addr) (env' : Env) (Q : VK) : Out → Prop
  | .rt d => EQ K σ H fp d env' Q
  | .xc x ns es => ∀ H' fp' dd xs, Evo fp H fp' H' → SR K H' env' σ fp' → fp'.Nodup → H' dd = some (.xd (ns.zip xs)) → ns.length = xs.length → RIs K H' es xs → W x (some dd) σ H'
  | _ => False
def tX (K : PySem.W.Frag) (W : WN) (f : EXm) : TE := fun σ H Q => ∃ env env' fp o, SR K H env σ fp ∧ fp.Nodup ∧ f env = some (o, env') ∧ OQ K W σ H fp env' Q o
def DX (X : Cx) (e : Expr) (f : EXm) : Prop := ∀ W, L2N.Takes X W → PE X e (tX X.K (wn X.mg W) f)
section
variable {P : Nat → Bool} {X : Cx} {e : Expr} {es : List Expr} {pos : Pos}
theorem pe_of {t t' : TE} (h : PE X e t) (i : ∀ σ H Q, t' σ H Q → t σ H Q) : PE X e t' := ⟨fun pins s σ H Q I q => h.run pins s σ H Q I (i σ H Q q)⟩
/-- nothing raised here -/
def xOf (f : ESm) : EXm := fun env => (f env).map fun r => (.rt r.1, r.2)
theorem dx_of {f : ESm} (h : DE X e f) : DX X e (xOf f) := fun W tk => pe_of h.pe fun σ H Q ⟨env, env', fp, o, s, nd, hf, q⟩ => by
  obtain ⟨⟨d, en⟩, e1, e2⟩ := Option.map_eq_some_iff.mp hf
  cases e2
  exact ⟨env, _, fp, d, s, nd, e1, q⟩
/-- f(..), f may raise -/
def xDef (F : FXm) (c : CSm) : EXm := fun env => (c env).bind fun a => (takeB a.1 a.2).bind fun t => (F t.1).map fun r => (r.1, giveB a.1 t.1 r.2 t.2)
theorem callX_core {K : PySem.W.Frag} {mg : Str → Option Value} {W : WX} {F : FXm} {xs : List (D ⊕ Nat)} {env1 env2 : Env} {ds : List D} {o : Out} {outs : List (Option D)} {vs : List V} {fp fr fp1 : List Addr} {σ : L2.St} {H H1 : Hp} {Q : VK}
    (v1 : Evo fp H (fr ++ fp1) H1) (s1 : SR K H1 env1 σ fp1) (c1 : CArg K H1 σ xs vs fr) (n1 : (fr ++ fp1).Nodup) (ht : takeB xs env1 = some (ds, env2)) (hF : F ds = some (o, outs)) (q : OQ K (wn mg W) σ H fp (giveB xs ds outs env2) Q o) : PromX K mg F vs H1 Q (WE W σ) := by
  obtain ⟨fr2, fp2, k1, k2, k3, k4⟩ := take_ok s1 c1 n1 ht
  have v2 : Evo fp H (fr2 ++ fp2) H1 := v1.sub k4
  have n2 := List.nodup_append.mp k3
  refine ⟨ds, fr2, o, outs, k1, n2.1, hF, ?_⟩
  have lv2 : ∀ a ∈ fp2, Live H1 a := k2.live
  have nf2 : ∀ a ∈ fp2, a ∉ fr2 := fun a m m' => n2.2.2 a m' a m rfl
  cases o with
  | nx => exact q.elim
  | bk => exact q.elim
  | ct => exact q.elim
  | rt r =>
    intro v H2 fr3 fo v3 rr so n3
    have s2 : SR K H2 env2 σ fp2 := k2.mono v3.imm (v3.stay lv2 nf2)
    have ap : ∀ a ∈ fp2, a ∉ fr3 ++ fo := v3.apart lv2 nf2
    have n4 := List.nodup_append.mp n3
    have nfo : (fo ++ fp2).Nodup := List.nodup_append.mpr ⟨n4.2.1, n2.2.1, fun a m b m' z => ap b m' (by rw [← z]; exact List.mem_append_right _ m)⟩
    obtain ⟨fp', g1, g2, g3⟩ := give_ok (ds := ds) c1.pos so s2 nfo
    have v4 : Evo (fp2 ++ fr2) H1 (fp2 ++ (fr3 ++ fo)) H2 := v3.side
    have v5 : Evo fp H (fp2 ++ (fr3 ++ fo)) H2 := (v2.sub fun a m => (List.mem_append.mp m).elim (List.mem_append_right _) (List.mem_append_left _)).trans v4
    refine q v H2 fr3 fp' (v5.sub fun a m => ?_) g1 rr ?_
    · rcases List.mem_append.mp m with m | m
      · exact List.mem_append_right _ (List.mem_append_left _ m)
      · exact (List.mem_append.mp (g3 a m)).elim (fun m => List.mem_append_right _ (List.mem_append_right _ m)) (List.mem_append_left _)
    · refine List.nodup_append.mpr ⟨n4.1, g2, fun a m b m' z => ?_⟩
      subst z
      rcases List.mem_append.mp (g3 a m') with m2 | m2
      · exact n4.2.2 a m a m2 rfl
      · exact ap a m2 (List.mem_append_left _ m)
  | xc y ns es =>
    intro H2 fo dd ys v3 so n3 hd hn hr C hC
    have s2 : SR K H2 env2 σ fp2 := k2.mono v3.imm (v3.stay lv2 nf2)
    have ap : ∀ a ∈ fp2, a ∉ fo := v3.apart lv2 nf2
    have nfo : (fo ++ fp2).Nodup := List.nodup_append.mpr ⟨n3, n2.2.1, fun a m b m' z => ap b m' (by rw [← z]; exact m)⟩
    obtain ⟨fp', g1, g2, g3⟩ := give_ok (ds := ds) c1.pos so s2 nfo
    have v4 : Evo (fp2 ++ fr2) H1 (fp2 ++ fo) H2 := v3.side
    have v5 : Evo fp H (fp2 ++ fo) H2 := (v2.sub fun a m => (List.mem_append.mp m).elim (List.mem_append_right _) (List.mem_append_left _)).trans v4
    exact q H2 fp' dd ys (v5.sub fun a m => (List.mem_append.mp (g3 a m)).elim (List.mem_append_right _) (List.mem_append_left _)) g1 g2 hd hn hr C hC
theorem dx_call {x : Str} {p pos : Pos} {k j : Nat} {F : FXm} {f : CSm} (c : CalX X.prog X.w X.K X.mg X.base k x (PromX X.K X.mg F)) (hr : Room j X.A) (hk : k ≤ j) (hg : Gl X x) (ha : DC X (e :: es) f)
    (hdb : (x == ("__debug__" : Str)) = false := by decide) (he : starEach (e :: es) X.env = (false, eval e X.env) :: starEach es X.env := by rfl) (hpl : (backTo pos (starEach es X.env)).any (·.1) = false := by rfl) :
    DX X (.Call (.Name x p) (e :: es) [] pos) (xDef F f) := by
  intro W tk
  obtain ⟨t, pa, ha⟩ := ha
  obtain ⟨g, fd, ps, G, hm, kp, b⟩ := c.ex
  refine pe_of (pe_callS G (hr.mono hk) hg hm kp b (fun σ => L2N.passAt tk σ) pa hdb he hpl) fun σ H Q ⟨env, env', fp, o, s, nd, hf, q⟩ => ?_
  obtain ⟨⟨xs, en1⟩, e1, hf⟩ := Option.bind_eq_some_iff.mp hf
  obtain ⟨⟨ds, en2⟩, e2, hf⟩ := Option.bind_eq_some_iff.mp hf
  obtain ⟨⟨r, outs⟩, e3, e4⟩ := Option.map_eq_some_iff.mp hf
  cases e4
  exact ha σ H env en1 fp xs s nd e1 _ fun vs H1 fr fp1 v1 s1 c1 n1 => callX_core v1 s1 c1 n1 e2 e3 q
/-- f(..), f may raise, but not here -/
theorem de_callN {x : Str} {p pos : Pos} {k j : Nat} {F : FXm} {f : CSm} (c : CalX X.prog X.w X.K X.mg X.base k x (PromX X.K X.mg F)) (hr : Room j X.A) (hk : k ≤ j) (hg : Gl X x) (ha : DC X (e :: es) f)
    (hdb : (x == ("__debug__" : Str)) = false := by decide) (he : starEach (e :: es) X.env = (false, eval e X.env) :: starEach es X.env := by rfl) (hpl : (backTo pos (starEach es X.env)).any (·.1) = false := by rfl) :
    DE X (.Call (.Name x p) (e :: es) [] pos) (eDef (noX F) f) := by
  obtain ⟨t, pa, ha⟩ := ha
  obtain ⟨g, fd, ps, G, hm, kp, b⟩ := c.ex
  refine ⟨_, pe_callS G (hr.mono hk) hg hm kp b (fun σ => L2N.passAt (W := fun _ _ _ _ => False) takesN σ) pa hdb he hpl, fun σ H env env' fp d s nd hf Q q => ?_⟩
  obtain ⟨⟨xs, en1⟩, e1, hf⟩ := Option.bind_eq_some_iff.mp hf
  obtain ⟨⟨ds, en2⟩, e2, hf⟩ := Option.bind_eq_some_iff.mp hf
  obtain ⟨⟨r, outs⟩, e3, e4⟩ := Option.map_eq_some_iff.mp hf
  cases e4
  refine ha σ H env en1 fp xs s nd e1 _ fun vs H1 fr fp1 v1 s1 c1 n1 => ?_
  exact promX_of (call_core v1 s1 c1 n1 e2 e3 q)
/-- a if c else b -/
def xIte (c : TSm) (f g : EXm) : EXm := fun env => (c env).bind fun b => if b.1 = true then f b.2 else g b.2
theorem OQ.via {K : PySem.W.Frag} {W : WN} {σ : L2.St} {H H1 : Hp} {fp fp1 : List Addr} {env' : Env} {Q : VK} {o : Out} (q : OQ K W σ H fp env' Q o) (e : Evo fp H fp1 H1) : OQ K W σ H1 fp1 env' Q o := by
  cases o with
  | nx => exact q
  | bk => exact q
  | ct => exact q
  | rt d => exact fun v H' fr fp' e' s r n => q v H' fr fp' (e.trans e') s r n
  | xc x ns es => exact fun H' fp' dd xs e' s n => q H' fp' dd xs (e.trans e') s n
theorem dx_ite {c a b : Expr} {t : TSm} {f g : EXm} (hc : DT X c t) (ha : DX X a f) (hb : DX X b g) : DX X (.IfExp c a b pos) (xIte t f g) := by
  refine fun W tk => pe_of (pe_ifExp hc.pt (ha W tk) (hb W tk)) fun σ H Q ⟨env, env', fp, o, s, nd, hf, q⟩ => ?_
  obtain ⟨⟨k, en⟩, e1, e2⟩ := Option.bind_eq_some_iff.mp hf
  refine ⟨env, en, fp, k, s, nd, e1, fun H' fp' ev s' n => ?_⟩
  cases k with
  | true =>
    rw [if_pos rfl] at e2 ⊢
    exact ⟨en, env', fp', o, s', n, e2, q.via ev⟩
  | false =>
    rw [if_neg Bool.false_ne_true] at e2 ⊢
    exact ⟨en, env', fp', o, s', n, e2, q.via ev⟩

/-- (a, .., f(..), ..): behind the parts that raise nothing one that may, and others that raise nothing -/
def xTup (f : ASm) (g : EXm) (h : ASm) : EXm := fun env => (f env).bind fun a => (g a.2).bind fun r => match r.1 with
  | .rt d => (h r.2).bind fun b => if (a.1 ++ d :: b.1).all isImm = true ∧ (a.1 ++ d :: b.1).length ≤ szL then some (.rt (.tup (a.1 ++ d :: b.1)), b.2) else none
  | .xc x ns es => some (.xc x ns es, r.2)
  | _ => none
/-! ### statements that hold them -/
def sRetX (f : EXm) : SSm := fun env => (f env).bind fun r => match r.1 with
  | .rt d => some (.rt d, r.2)
  | .xc x ns es => some (.xc x ns es, r.2)
  | _ => none
theorem ds_retX {f : EXm} (h : DX X e f) : DS P X (.Return (some e) pos) (sRetX f) := by
  refine fun W tk => ps_of (ps_ret (h W tk)) fun D σ H ⟨env, env', fp, o, s, nd, hf, q⟩ => ?_
  obtain ⟨⟨o1, en⟩, e1, hf⟩ := Option.bind_eq_some_iff.mp hf
  refine ⟨env, en, fp, o1, s, nd, e1, ?_⟩
  cases o1 with
  | rt d => cases hf; exact fun v H' fr fp' ev s' r n => q v σ H' fr fp' ev s' r n (Pin.refl σ)
  | xc x ns es => cases hf; exact fun H' fp' dd xs ev s' n => q σ H' fp' dd xs ev s' n (Pin.refl σ)
  | _ => cases hf
def sExprX (f : EXm) : SSm := fun env => (f env).bind fun r => match r.1 with
  | .rt _ => some (.nx, r.2)
  | .xc x ns es => some (.xc x ns es, r.2)
  | _ => none
theorem ds_exprX {f : EXm} (h : DX X e f) (hs : swapsWith e none pos.line X.env = pure false := by rfl) : DS P X (.Expr e pos) (sExprX f) := by
  refine fun W tk => ps_of (ps_expr (h W tk) hs) fun D σ H ⟨env, env', fp, o, s, nd, hf, q⟩ => ?_
  obtain ⟨⟨o1, en⟩, e1, hf⟩ := Option.bind_eq_some_iff.mp hf
  refine ⟨env, en, fp, o1, s, nd, e1, ?_⟩
  cases o1 with
  | rt d => cases hf; exact fun v H' fr fp' ev s' r n => q σ H' fp' (ev.sub fun a m => List.mem_append_right _ m) s' (List.nodup_append.mp n).2.1 (Pin.refl σ)
  | xc x ns es => cases hf; exact fun H' fp' dd xs ev s' n => q σ H' fp' dd xs ev s' n (Pin.refl σ)
  | _ => cases hf
def sAsgX (f : EXm) (g : GSm) : SSm := fun env => (f env).bind fun r => match r.1 with
  | .rt d => (g d r.2).map fun e => (.nx, e)
  | .xc x ns es => some (.xc x ns es, r.2)
  | _ => none
theorem asgX_core {W : WN} {te : TE} {tg : TG} {f : EXm} {g : GSm} {D : Ends} {σ : L2.St} {H : Hp} (i1 : ∀ σ H Q, tX X.K W f σ H Q → te σ H Q) (i2 : ∀ v σ H Q, tG X.K P g v σ H Q → tg v σ H Q) (h : tS X.K P W (sAsgX f g) D σ H) : tAsg te tg D σ H := by
  obtain ⟨env, env', fp, o, s, nd, hf, q⟩ := h
  obtain ⟨⟨o1, en⟩, e1, hf⟩ := Option.bind_eq_some_iff.mp hf
  refine i1 σ H _ ⟨env, en, fp, o1, s, nd, e1, ?_⟩
  cases o1 with
  | rt d =>
    obtain ⟨en2, e2, e3⟩ := Option.map_eq_some_iff.mp hf
    cases e3
    refine fun v H' fr fp' ev s' r n => ?_
    refine i2 v σ H' _ ⟨d, en, _, fp', fr, s', r, n, e2, fun σ2 H2 fp2 ev2 s2 n2 p2 => ?_⟩
    exact q σ2 H2 fp2 (ev.trans ev2) s2 n2 p2
  | xc x ns es => cases hf; exact fun H' fp' dd xs ev s' n => q σ H' fp' dd xs ev s' n (Pin.refl σ)
  | _ => cases hf
theorem ds_asgX {tg : Expr} {f : EXm} {g : GSm} (he : DX X e f) (hg : DG P X tg g) (hs : swapsWithSole [tg] e pos.line X.env = pure false := by rfl) (hw : swappedStores [tg] e X.env = pure none := by rfl)
    (h1 : (assignEach [tg] X.env).map (·.2) = [assign tg X.env] := by rfl) : DS P X (.Assign [tg] e pos) (sAsgX f g) :=
  fun W tk => ps_of (ps_asg (he W tk) hg hs hw h1) fun D σ H z => asgX_core (fun _ _ _ z => z) (fun _ _ _ _ z => z) z
theorem ds_setX {i : Nat} {x : Str} {f : EXm} {p : Pos} (hN : X.N.Nodup) (hi : X.N[i]? = some x) (hx : Loc X.env.scope x) (hP : P i = false) (he : DX X e f) (hs : swapsWith e (some (.Name x p)) pos.line X.env = pure false := by rfl) (hf : X.fn x = true ∨ X.env.scope.names.lookup x = some .local := by first | exact .inl rfl | exact .inr rfl | assumption) :
    DS P X (.Assign [.Name x p] e pos) (sAsgX f (gNm i)) :=
  fun W tk => ps_of (ps_set hN hi hx (he W tk) hs hf) fun D σ H z => asgX_core (fun _ _ _ z => z) (fun v σ H Q ⟨d, env, env', fp, fr, s, r, nd, hg, q⟩ => by
    unfold gNm at hg
    split at hg
    case isFalse => cases hg
    rename_i hl
    cases hg
    obtain ⟨fp', s', n', m'⟩ := put_slot s r nd hl
    exact q _ H fp' ((Evo.refl _ H).sub m') s' n' (Pin.set hP)) z
/-- a statement that is never come to -/
def sNo : SSm := fun _ => none
theorem ds_no {st : Stmt} : DS P X st sNo := fun W tk => ⟨fun pins s σ H D I ⟨_, _, _, _, _, _, z, _⟩ => nomatch z⟩
theorem dss_no {sts : List Stmt} : DSs P X sts sNo := fun W tk => ⟨fun pins s σ H D I ⟨_, _, _, _, _, _, z, _⟩ => nomatch z⟩
end
end DL

set_option maxHeartbeats 4000000
/-! DL: exceptions, part b: own exception classes, raise -/
namespace DL
open PySem PySem.Spec PyProof.Rows L2 C8
section
variable {X : Cx} {e : Expr} {es : List Expr} {ta : TA} {p pos : Pos}
/-- C(e, ..), its context None -/
theorem pmk_oexN {x : Str} {C fI : Addr} {k : Nat} {fd : FuncData} {ps : List Str} {sp : Sp} (T : OexC X.K C) (iC : PySem.W.findIn X.K (.ref C) "__init__" = some (some (.ref fI))) (tI : PySem.W.typeIn X.K (.ref fI) = some (.type "function"))
    (F1 : FnOk X.prog X.w X.K X.mg X.base C8.CX0 k fI fd ps sp) (hr : Room (k + 1) X.A) (hb : Binds X.K fd ps []) (hg : Gl X x) (hm : X.mg x = some (.ref C)) (ha : PA X (e :: es) ta)
    (hdb : (x == ("__debug__" : Str)) = false := by decide) (he : starEach (e :: es) X.env = (false, eval e X.env) :: starEach es X.env := by rfl) (hpl : (backTo pos (starEach es X.env)).any (·.1) = false := by rfl) :
    L2N.PMk X (.Call (.Name x p) (e :: es) [] pos) (tMkO C sp [] ta) := by
  intro pins s σ H Q I h
  obtain ⟨nm, q, N, bs, bm, sn, sub, ab, col, dd, k0, k1, k2, k3, k5, hC, hbm⟩ := T.cls
  refine wpAny_Call_Name_kw (ld_glob I hg hm ?_ hdb)
  refine PySem.W.callWith_K (h₀ := X.base) I.ok.mod.kin T.kC (thn (ha.run pos pins s σ H _ I h) fun us s1 ⟨vs, H1, I1, r1, hz, q1⟩ => ⟨I1.kIn, ?_⟩) he hpl
  show wpAny _ _ (call (.ref C) us) _ _ _
  obtain ⟨hp, g, dr, tk, os⟩ := s1
  have sz : hp.objs.size ≤ hp.objs.size + 1 := Nat.le_succ _
  have nw : H1 (hp.objs.size + 1) = none := I1.hok.fresh sz
  have hq := q1 (hp.objs.size + 1) nw
  rw [List.append_nil] at hq
  have keep : ∀ b o, hp.get? b = some o → ((hp.push (PySem.W.kdv_tup us)).push (PySem.HandSPX.excO C hp.objs.size)).get? b = some o := fun b o e => Heap.get?_push_of_some _ (Heap.get?_push_of_some _ e)
  have at1 : ((hp.push (PySem.W.kdv_tup us)).push (PySem.HandSPX.excO C hp.objs.size)).get? (hp.objs.size + 1) = some (PySem.HandSPX.excO C hp.objs.size) := by heap_get
  have J : Inv X pins σ (upd H1 (hp.objs.size + 1) (exo (hp.objs.size + 1) C none)) ⟨(hp.push (PySem.W.kdv_tup us)).push (PySem.HandSPX.excO C hp.objs.size), g, dr, tk, os⟩ :=
    I1.laid (t' := tk) (a := hp.objs.size + 1) (o := exo (hp.objs.size + 1) C none) (h' := (hp.push (PySem.W.kdv_tup us)).push (PySem.HandSPX.excO C hp.objs.size)) keep sz (exo_ok at1)
  have rl : Vals (V.ref (hp.objs.size + 1) :: vs) (Value.ref (hp.objs.size + 1) :: us) := .cons rfl r1
  have hl : (Value.ref (hp.objs.size + 1) :: us).length = ps.length := by rw [← rl.length]; exact F1.len _ _ _ _ hq
  have hus : us.length ≤ sizeLine := by
    rw [← Paired.length r1, sizeLine_eq]
    omega
  have bd := hb _ (Value.ref (hp.objs.size + 1) :: us) J.kIn (by rw [List.append_nil]; exact hl)
  rw [List.append_nil] at bd
  refine wpAny_call (PySem.HandSPX.call_own F.excBase_ValueError (fun Y => PySem.HandSPX.refsVE_contains Y bm hbm) (I1.kIn _ _ hC) (PySem.W.looks_findIn I1.kIn iC) (fun self => PySem.W.bind_fn I1.kIn self tI) hus
    (codeAny_mono (F1.run _ X.stack _ _ ⟨Value.ref (hp.objs.size + 1) :: us, []⟩ _ _ _ (fun _ _ _ => False) (hr.make C us []) (J.env0.make C us []) bd rl hq) fun r s' hq' => ?_))
  cases r with
  | error er => exact hq'.elim
  | ok fl =>
    cases fl with
    | ret u =>
      obtain ⟨v, H2, os2, bare2, un2, hok2, rv, ev, d, fs, ea, ed, hd1, q2⟩ := hq'
      subst ev
      obtain ⟨h2, g2, d2, t2, os'⟩ := s'
      obtain ⟨t0, G, J2, kG, ge, hoe, na⟩ := mk_end0 (d2 := d2) (t2 := t2) I1 sz keep un2 hok2 os2 bare2 ea ed hd1
      exact ⟨rv, hp.objs.size + 1, _, _, ⟨G, g2, d2, t2, os'⟩, _, .ref C, some d, rfl, J2, kG, ge, hoe, ⟨rfl, rfl, fun vs hv => by cases hv; rfl⟩, rfl, rfl, na, rfl, bare2, raises_own T.exC T.tyC, q2⟩
    | next => exact False.elim hq'
    | brk => exact False.elim hq'
    | cont => exact False.elim hq'
end

/-! ### __init__ that stores its parameters -/
/-- what it leaves -/
def spI (ns : List Str) (C : Addr) : Sp := fun vs H Q _ => ∃ a ys, vs = .ref a :: ys ∧ ys.length = ns.length ∧ H a = some (L2.exo a C none) ∧
  ∀ dx H', H dx = none → dx ≠ a → H' dx = some (exd dx (ns.zip ys).reverse) → H' a = some (L2.exo a C (some dx)) → (∀ b, b ≠ a → b ≠ dx → H' b = H b) → Q .non H'
/-- an own exception class by its name, the fields that it is made with -/
structure ExcK (P : Program) (w : World) (K : PySem.W.Frag) (mg : Str → Option Value) (base : Heap) (k : Nat) (x : Str) (ns : List Str) : Prop where
  ex : ∃ (C fI : Addr) (fd : FuncData) (ps : List Str), OexC K C ∧ PySem.W.findIn K (.ref C) "__init__" = some (some (.ref fI)) ∧ PySem.W.typeIn K (.ref fI) = some (.type "function") ∧ FnOk P w K mg base C8.CX0 k fI fd ps (spI ns C) ∧ Binds K fd ps [] ∧ mg x = some (.ref C)
  len : ns.length ≤ 1000
section
variable {P : Program} {w : World} {K : PySem.W.Frag} {mg : Str → Option Value} {base : Heap}
theorem initOk1 {qual : Str} {st : Stmt} {f : Addr} {fd : FuncData} {C : Addr} {f1 : Str} {p1 p2 p3 p4 : Pos} (F : C8.Fun K "__init__" qual st f fd) (T : OexC K C) (n1 : PySem.W.findIn K (.ref C) f1 = some none)
    (S : FnScope ["self", f1] ["self", f1] (fnScope st)) (hb : fnBody st = [.Assign [.Attribute (.Name "self" p1) f1 p2] (.Name f1 p3) p4])
    (d1 : (f1 == ("__debug__" : Str)) = false := by decide) (c1 : (f1 == ("__classdict__" : Str)) = false := by decide) (v0 : (fnScope st).names.lookup ("self" : Str) = some .local := by rfl) (v1 : (fnScope st).names.lookup f1 = some .local := by rfl) : FnOk P w K mg base C8.CX0 1 f fd ["self", f1] (spI [f1] C) := by
  refine fn0 (k := 0) F S (fun vs H Q E h => ?_) fun cdv A outer s H vs Q E hr h => ?_
  · obtain ⟨a, ys, rfl, hl, _⟩ := h
    simp [hl]
  · rw [hb]
    refine ⟨_, pss_cons (ps_ost (pe_var (i := 0) rfl (.inl v0)) (pe_var (i := 1) rfl (.inl v1) d1 c1)) pss_nil, ?_⟩
    obtain ⟨a, ys, rfl, hl, ha, q⟩ := h
    match ys, hl with
    | [y], _ =>
      refine ⟨y, rfl, .ref a, rfl, a, C, rfl, T, n1, .inl ⟨ha, fun dx h1 h2 => ?_⟩⟩
      refine q dx _ h1 h2 ?_ upd_same fun b h3 h4 => ?_
      · rw [upd_ne h2, upd_same]; rfl
      · rw [upd_ne h3, upd_ne h4]
theorem initOk2 {qual : Str} {st : Stmt} {f : Addr} {fd : FuncData} {C : Addr} {f1 f2 : Str} {p1 p2 p3 p4 q1 q2 q3 q4 : Pos} (F : C8.Fun K "__init__" qual st f fd) (T : OexC K C) (n1 : PySem.W.findIn K (.ref C) f1 = some none) (n2 : PySem.W.findIn K (.ref C) f2 = some none)
    (S : FnScope ["self", f1, f2] ["self", f1, f2] (fnScope st)) (hb : fnBody st = [.Assign [.Attribute (.Name "self" p1) f1 p2] (.Name f1 p3) p4, .Assign [.Attribute (.Name "self" q1) f2 q2] (.Name f2 q3) q4])
    (d1 : (f1 == ("__debug__" : Str)) = false := by decide) (c1 : (f1 == ("__classdict__" : Str)) = false := by decide) (d2 : (f2 == ("__debug__" : Str)) = false := by decide) (c2 : (f2 == ("__classdict__" : Str)) = false := by decide)
    (v0 : (fnScope st).names.lookup ("self" : Str) = some .local := by rfl) (v1 : (fnScope st).names.lookup f1 = some .local := by rfl) (v2 : (fnScope st).names.lookup f2 = some .local := by rfl) : FnOk P w K mg base C8.CX0 1 f fd ["self", f1, f2] (spI [f1, f2] C) := by
  refine fn0 (k := 0) F S (fun vs H Q E h => ?_) fun cdv A outer s H vs Q E hr h => ?_
  · obtain ⟨a, ys, rfl, hl, _⟩ := h
    simp [hl]
  · rw [hb]
    refine ⟨_, pss_cons (ps_ost (pe_var (i := 0) rfl (.inl v0)) (pe_var (i := 1) rfl (.inl v1) d1 c1)) (pss_cons (ps_ost (pe_var (i := 0) rfl (.inl v0)) (pe_var (i := 2) rfl (.inl v2) d2 c2)) pss_nil), ?_⟩
    obtain ⟨a, ys, rfl, hl, ha, q⟩ := h
    match ys, hl with
    | [y, z], _ =>
      refine ⟨y, rfl, .ref a, rfl, a, C, rfl, T, n1, .inl ⟨ha, fun dx h1 h2 => ?_⟩⟩
      refine ⟨z, rfl, .ref a, rfl, a, C, rfl, T, n2, .inr ⟨dx, [(f1, y)], upd_same, ?_, (by show 1 ≤ 900; decide), ?_⟩⟩
      · rw [upd_ne h2, upd_same]
      · refine q dx _ h1 h2 upd_same ?_ fun b h3 h4 => ?_
        · rw [upd_ne (Ne.symm h2), upd_same]
        · rw [upd_ne h4, upd_ne h3, upd_ne h4]
end

/-! ### raise C(e, ..) -/
section
variable {P : Nat → Bool} {X : Cx} {e : Expr} {es : List Expr} {p pos pos2 : Pos}
def sRaise (x : Str) (ns : List Str) (f : ASm) : SSm := fun env => (f env).bind fun r => if r.1.all isImm = true ∧ r.1.length = ns.length then some (.xc x ns.reverse r.1.reverse, r.2) else none
theorem RIs.rev {K : PySem.W.Frag} {H : Hp} : ∀ {ds : List D} {vs : List V}, RIs K H ds vs → RIs K H ds.reverse vs.reverse
  | [], _, h => by rw [show _ = [] from h]; exact rfl
  | d :: ds, _, ⟨x, xs, h1, h2, h3⟩ => by
    rw [h1, List.reverse_cons, List.reverse_cons]
    exact h3.rev.app ⟨x, [], rfl, h2, rfl⟩
theorem zip_rev {α β : Type} : ∀ {l : List α} {m : List β}, l.length = m.length → (l.zip m).reverse = l.reverse.zip m.reverse
  | [], [], _ => rfl
  | a :: l, b :: m, h => by
    have h' : l.length = m.length := by simpa using h
    rw [List.zip_cons_cons, List.reverse_cons, List.reverse_cons, List.reverse_cons, zip_rev h', List.zip_append (by simp [h'])]
    rfl
theorem ds_raise {x : Str} {ns : List Str} {k j : Nat} {f : ASm} (hc : X.calm = true) (c : ExcK X.prog X.w X.K X.mg X.base k x ns) (hr : Room j X.A) (hk : k + 1 ≤ j) (hg : Gl X x) (ha : DA X (e :: es) f)
    (hdb : (x == ("__debug__" : Str)) = false := by decide) (he : starEach (e :: es) X.env = (false, eval e X.env) :: starEach es X.env := by rfl) (hpl : (backTo pos (starEach es X.env)).any (·.1) = false := by rfl) :
    DS P X (.Raise (some (.Call (.Name x p) (e :: es) [] pos)) none pos2) (sRaise x ns f) := by
  intro W tk
  obtain ⟨t, pa, ha⟩ := ha
  obtain ⟨C, fI, fd, ps, T, iC, tI, F1, b, hm⟩ := c.ex
  refine ps_of (L2N.ps_raise hc tk (pmk_oexN T iC tI F1 (hr.mono hk) b hg hm pa hdb he hpl)) fun D σ H ⟨env, env', fp, o, s, nd, hf, q⟩ => ?_
  obtain ⟨⟨ds, en⟩, e1, hf⟩ := Option.bind_eq_some_iff.mp hf
  split at hf
  case isFalse => cases hf
  rename_i hi
  cases hf
  refine ha σ H env _ fp ds s nd e1 _ fun vs H1 fr fp1 v1 s1 r n1 => ?_
  obtain ⟨ef, ri⟩ := r.imms hi.1
  subst ef
  have hl : vs.length = ns.length := by rw [ri.length]; exact hi.2
  refine ⟨by rw [hl]; exact c.len, fun a na => ?_⟩
  rw [List.append_nil]
  refine ⟨a, vs, rfl, hl, upd_same, fun dx H2 nd1 dne h2 h3 h4 => ⟨rfl, dx, _, h3, h2, ?_, ?_⟩⟩
  · rw [upd_ne dne] at nd1; exact nd1
  rw [upd_ne dne] at nd1
  have eH : upd (L2.del H2 a) dx (.xd (ns.zip vs).reverse) = upd H1 dx (.xd (ns.zip vs).reverse) := by
    funext b
    by_cases hb : b = dx
    · rw [hb, upd_same, upd_same]
    · rw [upd_ne hb, upd_ne hb]
      by_cases hba : b = a
      · rw [hba, del_same, na]
      · rw [del_ne hba, h4 b hba hb, upd_ne hba]
  rw [eH]
  have sm : Same H1 (upd H1 dx (.xd (ns.zip vs).reverse)) := same_new nd1
  refine q σ _ fp1 dx vs.reverse ((v1.sub fun _ m => m).trans (Evo.of_same (fr := []) sm fun _ m => (nomatch m))) (s1.same sm) (List.nodup_append.mp n1).2.1 (Pin.refl σ) ?_ ?_ (RIs.mono (.of_same sm) _ _ ri).rev C hm
  · rw [upd_same, zip_rev hl.symm]
  · rw [List.length_reverse, List.length_reverse, hl]
end
end DL

set_option maxHeartbeats 4000000
/-! DL: exceptions, part c: try, what a suite asks of the caught one -/
namespace DL
open PySem PySem.Spec PyProof.Rows L2 C8
/-- the same whatever the addresses are -/
noncomputable def allA {α : Type} (f : Addr → Addr → Option α) : Option α := open Classical in if ∃ r, ∀ a d, f a d = some r then f 0 0 else none
theorem allA_ok {α : Type} {f : Addr → Addr → Option α} {r : α} (h : ∀ a d, f a d = some r) : allA f = some r := by
  unfold allA
  rw [if_pos ⟨r, h⟩]
  exact h 0 0
theorem allA_inv {α : Type} {f : Addr → Addr → Option α} {r : α} (h : allA f = some r) (a d : Addr) : f a d = some r := by
  unfold allA at h
  split at h
  · rename_i z
    obtain ⟨r', z⟩ := z
    rw [z 0 0] at h; cases h
    exact z a d
  · cases h
/-- the classes, by their names, that a clause names (yes), and those that it lets by (no) -/
def Caught (K : PySem.W.Frag) (mg : Str → Option Value) (c : Value) (yes no : List Str) : Prop := (∀ x ∈ yes, ∀ C, mg x = some (.ref C) → PySem.W.exmOne K (.ref C) c = some true) ∧ ∀ x ∈ no, ∀ C, mg x = some (.ref C) → PySem.W.exmOne K (.ref C) c = some false
def outNX (i : Nat) (r : Out × Env) : Option (Out × Env) := match r.1 with
  | .xc _ _ _ => none
  | o => some (o, r.2.set i none)
noncomputable def sTryAs (i : Nat) (yes no : List Str) (body : SSm) (suite : Addr → Addr → Str → SSm) : SSm := fun env => (body env).bind fun r => match r.1 with
  | .xc x ns es => if x ∈ yes then (if i < r.2.length then allA fun a d => (suite a d x (r.2.set i (some (.exo a d x ns es)))).bind (outNX i) else none) else if x ∈ no then some (.xc x ns es, r.2) else none
  | o => some (o, r.2)
/-- the exception at a, of the class at C, its dict at d, stands pinned and is handled -/
structure Pinned (Y : Cx) (a d C : Addr) : Prop where
  ex : ∃ oe : Obj, (a, oe) ∈ Y.pn ∧ L2N.Zn (.ref C) (some d) oe ∧ ∃ vs, oe.data = .fields vs
  hd : Y.A.handled = some (.ref a)
section
variable {P : Nat → Bool} {X : Cx} {x n : Str} {c : Value} {i : Nat} {body suite : List Stmt} {b₀ : Stmt} {np pos pos' : Pos} {yes no : List Str} {f : SSm} {g : Addr → Addr → Str → SSm}
theorem ds_tryAs (hs : X.stack = X.env :: X.outer) (hf : X.env.frame = some X.env.locals) (hN : X.N.Nodup) (hi : X.N[i]? = some n) (hln : X.env.kindOf n = some .local) (hc : Names X x c) (hP : P i = false) (hk : Caught X.K X.mg c yes no)
    (hb : ∀ (pn : List (Addr × Obj)) (xe : Value → Shared → Prop), PassesOwn (model X.prog X.w) X.A X.env xe → DSs P (X.tr pn xe) body f)
    (hsu : ∀ (a d : Addr) (y : Str) (C : Addr) (oe : Obj) (pn : List (Addr × Obj)), Pinned (X.suite a ((a, oe) :: pn)) a d C → X.mg y = some (.ref C) → y ∈ yes → DSs P (X.suite a ((a, oe) :: pn)) (b₀ :: suite) (g a d y)) :
    DS P X (.Try body [.ExceptHandler (some (.Name x np)) (some n) (b₀ :: suite) pos'] [] [] pos) (sTryAs i yes no f g) := by
  intro W tk
  refine ps_of (L2N.ps_try_as (i := i) (tb := fun W => tS X.K P (wn X.mg W) f)
    (ts := fun a cls d D σ H => ∃ d' y C, d = some d' ∧ cls = .ref C ∧ X.mg y = some (.ref C) ∧ y ∈ yes ∧ tS X.K P (wn X.mg fun _ _ _ _ => False) (g a d' y) D σ H) hs hf hN hi hln hc tk
    (fun W' pn xe tk' hp => hb pn xe hp W' tk') (fun a oe cls d pn hz hv => ?_)) fun D σ H ⟨env, env', fp, o, s, nd, hf, q⟩ => ?_
  · refine ⟨fun pins s σ H D I h => ?_⟩
    obtain ⟨d', y, C, ed, ec, hm, hy, h⟩ := h
    subst ed; subst ec
    exact (hsu a d' y C oe pn ⟨⟨oe, List.mem_cons_self, hz, hv⟩, rfl⟩ hm hy _ takesN).run pins s σ H D I h
  · obtain ⟨⟨o1, en⟩, e1, hf⟩ := Option.bind_eq_some_iff.mp hf
    refine ⟨env, en, fp, o1, s, nd, e1, ?_⟩
    cases o1 with
    | nx => cases hf; exact q
    | bk => cases hf; exact q
    | ct => cases hf; exact q
    | rt d => cases hf; exact q
    | xc y ns es =>
      intro σ' H' fp' dd xs ev s' n' p' hd hl hr C hC
      simp only at hf
      by_cases hy : y ∈ yes
      · rw [if_pos hy] at hf
        split at hf
        case isFalse => cases hf
        rename_i hlt
        refine ⟨true, hk.1 y hy C hC, fun _ a na => ?_, fun z => Bool.noConfusion z⟩
        have hf := allA_inv hf a dd
        obtain ⟨⟨o2, en2⟩, e2, e3⟩ := Option.bind_eq_some_iff.mp hf
        obtain ⟨fp2, s2, n2, m2⟩ := put_slot (fr := []) (v := .ref a) s' (show RO X.K H' (.exo a dd y ns es) (.ref a) [] from ⟨rfl, xs, rfl, hd, hl, hr⟩) n' hlt
        have ev2 : Evo fp H fp2 H' := ev.sub m2
        refine ⟨dd, y, C, rfl, rfl, hC, hy, _, en2, fp2, o2, s2, n2, e2, ?_⟩
        have hl2 : i < en2.length ∨ en2.length ≤ i := Nat.lt_or_ge _ _
        have gone : ∀ {σ3 : L2.St} {H3 : Hp} {fp3 : List Addr}, SR X.K H3 en2 σ3 fp3 → fp3.Nodup → ∃ fp4, SR X.K H3 (en2.set i none) (σ3.set i none) fp4 ∧ fp4.Nodup ∧ ∀ b ∈ fp4, b ∈ fp3 := fun {σ3 H3 fp3} s3 n3 => by
          rcases hl2 with hl2 | hl2
          · obtain ⟨pre, fm, post, e, _, pn⟩ := s3.put hl2
            refine ⟨_, pn none, ?_, fun b m => ?_⟩
            · rw [e] at n3
              have n4 := List.nodup_append.mp n3
              exact List.nodup_append.mpr ⟨n4.1, (List.nodup_append.mp n4.2.1).2.1, fun a m b m' => n4.2.2 a m b (List.mem_append_right _ m')⟩
            · rw [e]
              exact (List.mem_append.mp m).elim (List.mem_append_left _) fun m => List.mem_append_right _ (List.mem_append_right _ m)
          · rw [List.set_eq_of_length_le hl2, List.set_eq_of_length_le (by rw [s3.length]; exact hl2)]
            exact ⟨fp3, s3, n3, fun _ m => m⟩
        have p2 : Pin P σ (σ'.set i (some (.ref a))) := p'.trans (Pin.set hP)
        cases o2 with
        | nx =>
          cases e3
          intro σ3 H3 fp3 ev3 s3 n3 p3
          obtain ⟨fp4, s4, n4, m4⟩ := gone s3 n3
          exact q _ H3 fp4 ((ev2.trans ev3).sub m4) s4 n4 ((p2.trans p3).trans (Pin.set hP))
        | bk =>
          cases e3
          intro σ3 H3 fp3 ev3 s3 n3 p3
          obtain ⟨fp4, s4, n4, m4⟩ := gone s3 n3
          exact q _ H3 fp4 ((ev2.trans ev3).sub m4) s4 n4 ((p2.trans p3).trans (Pin.set hP))
        | ct =>
          cases e3
          intro σ3 H3 fp3 ev3 s3 n3 p3
          obtain ⟨fp4, s4, n4, m4⟩ := gone s3 n3
          exact q _ H3 fp4 ((ev2.trans ev3).sub m4) s4 n4 ((p2.trans p3).trans (Pin.set hP))
        | rt d =>
          cases e3
          intro v σ3 H3 fr fp3 ev3 s3 r3 n3 p3
          have n5 := List.nodup_append.mp n3
          obtain ⟨fp4, s4, n4, m4⟩ := gone s3 n5.2.1
          refine q v _ H3 fr fp4 ((ev2.trans ev3).sub fun b m => ?_) s4 r3 ?_ ((p2.trans p3).trans (Pin.set hP))
          · exact (List.mem_append.mp m).elim (List.mem_append_left _) fun m => List.mem_append_right _ (m4 b m)
          · exact List.nodup_append.mpr ⟨n5.1, n4, fun a m b m' => n5.2.2 a m b (m4 b m')⟩
        | xc _ _ _ => cases e3
      · rw [if_neg hy] at hf
        split at hf
        case isFalse => cases hf
        rename_i hn
        cases hf
        exact ⟨false, hk.2 y hn C hC, fun z => Bool.noConfusion z, fun _ => q σ' H' fp' dd xs ev s' n' p' hd hl hr C hC⟩
end
end DL

set_option maxHeartbeats 4000000
/-! DL: exceptions, part d: isinstance and fields of the caught one; defs called in a suite -/
namespace DL
open PySem PySem.Spec PyProof.Rows L2 C8
/-- what the class at D must say, so that its instances may be asked -/
structure ExcA (K : PySem.W.Frag) (D : Addr) : Prop where
  cl : (PySem.W.clsIn K D).isSome = true
  hg : PySem.W.findIn K (.ref D) "__getattribute__" = some (some (.builtin "BaseException.__getattribute__"))
  hk : PySem.W.findIn K (.ref D) "__getattr__" = some none
  hs : PySem.W.subIn K (.ref D) (.type "BaseException") = some true
  hd : PySem.W.hasDictIn K D = true
  ha : PySem.W.findIn K (.ref D) "__class__" = some (some (.builtin "object.__class__"))
  hn : PySem.W.specialIn K (.builtin "object.__class__") "__get__" = some (some (.builtin "getset_descriptor.__get__"))
  ht : PySem.W.takesIn K (.builtin "object.__class__") = some true
  hm : PySem.W.mroIn K D (.type "object") = some true
section
variable {Y : Cx} {a d C : Addr} {pins : List (Addr × Obj)} {σ : L2.St} {H : Hp} {s : Shared} {fs : List (Str × V)}
theorem Pinned.at (p : Pinned Y a d C) (I : Inv Y pins σ H s) (hd : H d = some (.xd fs)) : ∃ oe od mA, PySem.W.InstAt s.heap a oe C (some od) ∧ s.heap.get? d = some od ∧ s.heap.Ns1 d mA ∧ (∀ f, RelO (fs.lookup f) (mA f)) := by
  obtain ⟨oe, hp, hz, vs, hv⟩ := p.ex
  obtain ⟨ha, _⟩ := I.pin (a, oe) (List.mem_append_left _ hp)
  have hx : ObjOk Y.prog Y.w H s.heap d (.xd fs) := I.hok d _ hd
  obtain ⟨mA, hns, hr⟩ := hx
  have hns' := hns
  obtain ⟨od, es, ep, ho, _⟩ := hns
  exact ⟨oe, od, mA, ⟨ha, hz.1, by unfold PySem.W.notCls; rw [hv] <;> rfl, by rw [hz.2.1]; exact ho⟩, ho, hns', hr⟩
/-- isinstance(e, c) -/
def rIsX (K : PySem.W.Frag) (a d C : Addr) : List V → Hp → VK → Prop := fun xs H Q => ∃ (c : V) (cv : Value) (b : Bool) (fs : List (Str × V)), xs = [.ref a, c] ∧ H d = some (.xd fs) ∧ ClsV c cv ∧ PySem.W.kitOne K (.ref C) cv = some b ∧ Q (.bl b) H
theorem call_isX (p : Pinned Y a d C) (T : ExcA Y.K C) : CallR Y (.builtin "isinstance") (rIsX Y.K a d C) := by
  intro pins s σ H xs us Q I r h
  obtain ⟨c, cv, b, fs, rfl, hd, k, e, q⟩ := h
  obtain ⟨u1, u2, rfl, r1, r2⟩ := vals2 r
  have e2 := k.eq r2
  subst e2
  cases (show u1 = Value.ref a from r1)
  obtain ⟨oe, od, mA, J, _⟩ := p.at I hd
  exact PySem.W.kia_one (PySem.W.kitx_exc T.cl T.hg T.hk T.hs T.ha T.hn T.ht T.hm) I.kIn J e (fun z => nomatch z) fun tk => ⟨.bl b, H, I.tok tk, rfl, q⟩
/-- isinstance(e, (c, ..)) -/
def rIsXT (K : PySem.W.Frag) (a d C : Addr) : List V → Hp → VK → Prop := fun xs H Q => ∃ (tp : Addr) (cs : List V) (ws : List Value) (b : Bool) (fs : List (Str × V)), xs = [.ref a, .ref tp] ∧ H d = some (.xd fs) ∧ H tp = some (.tup cs) ∧ Paired ClsV cs ws ∧ PySem.W.kitAny K (.ref C) ws = some b ∧ Q (.bl b) H
theorem call_isXT (p : Pinned Y a d C) (T : ExcA Y.K C) : CallR Y (.builtin "isinstance") (rIsXT Y.K a d C) := by
  intro pins s σ H xs us Q I r h
  obtain ⟨tp, cs, ws, b, fs, rfl, hd, hT, k, e, q⟩ := h
  obtain ⟨u1, u2, rfl, r1, r2⟩ := vals2 r
  cases (show u1 = Value.ref a from r1)
  cases (show u2 = Value.ref tp from r2)
  obtain ⟨oe, od, mA, J, _⟩ := p.at I hd
  obtain ⟨_, its, rv, o, h1, h2, n, h3⟩ := (show ObjOk Y.prog Y.w H s.heap tp (.tup cs) from I.hok tp _ hT)
  have e3 := ClsV.all k rv
  subst e3
  obtain ⟨oc, od', dt, sl⟩ := o
  simp only at h2 h3
  subst h2 h3
  exact PySem.W.kia_tup (PySem.W.kitx_exc T.cl T.hg T.hk T.hs T.ha T.hn T.ht T.hm) I.kIn J h1 e (fun z => nomatch z) fun tk => ⟨.bl b, H, I.tok tk, rfl, q⟩
/-- a name of a class -/
def KE (X : Cx) (e : Expr) (c : V) (cv : Value) : Prop := PE X e (tC c) ∧ ClsV c cv
theorem ke_own {x : Str} {D : Addr} {pos : Pos} (hg : Gl Y x) (hm : Y.mg x = some (.ref D)) (hd : (x == ("__debug__" : Str)) = false := by decide) : KE Y (.Name x pos) (.ref D) (.ref D) := ⟨pe_glob hg hm rfl hd, .own D⟩
theorem ke_ty {x : Str} {T : String} {pos : Pos} (hg : Gl Y x) (hm : Y.mg x = none) (hv : bootBuiltins x = some (.type T)) (hn : x ≠ "__name__" := by decide) (hd : (x == ("__debug__" : Str)) = false := by decide) : KE Y (.Name x pos) (.ty T) (.type T) := ⟨pe_bltn hg hm hv rfl hn hd, .ty T⟩
inductive KEs (X : Cx) : List Expr → List V → List Value → Prop
  | nil : KEs X [] [] []
  | cons {e : Expr} {es : List Expr} {c : V} {cv : Value} {cs : List V} {cvs : List Value} (h : KE X e c cv) (r : KEs X es cs cvs) (hs : starEach (e :: es) X.env = (false, eval e X.env) :: starEach es X.env := by rfl) : KEs X (e :: es) (c :: cs) (cv :: cvs)
def tCs : List V → TA
  | [] => tNil
  | c :: cs => tCons (tC c) (tCs cs)
theorem KEs.pa {X : Cx} {es : List Expr} {cs : List V} {cvs : List Value} (h : KEs X es cs cvs) : PA X es (tCs cs) ∧ Paired ClsV cs cvs := by
  induction h with
  | nil => exact ⟨pa_nil, .nil⟩
  | cons h _ hs ih => exact ⟨pa_cons h.1 ih.1 hs, .cons h.2 ih.2⟩
theorem tCs_ok {σ : L2.St} {H : Hp} {Q : List V → Hp → Prop} : ∀ {cs : List V}, Q cs H → tCs cs σ H Q
  | [], q => q
  | c :: cs, q => tCs_ok (cs := cs) (Q := fun vs H1 => Q (c :: vs) H1) q
/-- by the class's name: true, false, or not known -/
def isTab (y : Str) (yes no : List Str) : Option D := if y ∈ yes then some (.bl true) else if y ∈ no then some (.bl false) else none
def pIsX (a d : Addr) (y : Str) (yes no : List Str) (f : PSm) : PSm := fun env => (f env).bind fun v => match v with
  | .exo a' d' x _ _ => if a' = a ∧ d' = d ∧ x = y then isTab y yes no else none
  | _ => none
/-- what the table says is so -/
def TabOk (K : PySem.W.Frag) (mg : Str → Option Value) (yes no : List Str) (t : Addr → Bool → Prop) : Prop := (∀ x ∈ yes, ∀ C, mg x = some (.ref C) → t C true) ∧ ∀ x ∈ no, ∀ C, mg x = some (.ref C) → t C false
theorem isTab_ok {K : PySem.W.Frag} {mg : Str → Option Value} {yes no : List Str} {t : Addr → Bool → Prop} {y : Str} {r : D} (h : TabOk K mg yes no t) (hm : mg y = some (.ref C)) (e : isTab y yes no = some r) : ∃ b, r = .bl b ∧ t C b := by
  unfold isTab at e
  split at e
  · rename_i z
    cases e
    exact ⟨true, rfl, h.1 y z C hm⟩
  · split at e
    · rename_i z
      cases e
      exact ⟨false, rfl, h.2 y z C hm⟩
    · cases e
variable {e k : Expr} {es : List Expr} {p0 pos q2 : Pos} {f : PSm} {y : Str} {yes no : List Str} {c : V} {cv : Value} {cs : List V} {cvs : List Value} {kt : Nat}
theorem db_isX (p : Pinned Y a d C) (T : ExcA Y.K C) (hm : Y.mg y = some (.ref C)) (hg : Gl Y "isinstance") (hi : Y.mg "isinstance" = none) (ha : DB false Y e f) (hk : KE Y k c cv) (tb : TabOk Y.K Y.mg yes no fun C b => PySem.W.kitOne Y.K (.ref C) cv = some b)
    (hv : bootBuiltins ("isinstance" : Str) = some (.builtin "isinstance") := by decide +kernel) (he : starEach [e, k] Y.env = (false, eval e Y.env) :: starEach [k] Y.env := by rfl) (he2 : starEach [k] Y.env = (false, eval k Y.env) :: starEach [] Y.env := by rfl)
    (hpl : (backTo pos (starEach [k] Y.env)).any (·.1) = false := by rfl) : DB true Y (.Call (.Name "isinstance" p0) [e, k] [] pos) (pIsX a d y yes no f) := by
  obtain ⟨t, pa, h⟩ := ha
  refine ⟨_, pe_callB (call_isX p T) hg hi hv (pa_cons pa (pa_cons hk.1 pa_nil he2) he) (by decide) (by decide) he hpl, fun σ H env fp r s nd hf Q q => ?_⟩
  obtain ⟨d0, e1, hg1⟩ := Option.bind_eq_some_iff.mp hf
  cases d0 with
  | exo a' d' x ns ds =>
    simp only at hg1
    split at hg1
    case isFalse => cases hg1
    rename_i hc
    obtain ⟨rfl, rfl, rfl⟩ := hc
    obtain ⟨b, rfl, hb⟩ := isTab_ok tb hm hg1
    refine h σ H env fp _ s nd e1 _ fun v H1 fr s1 r _ => ?_
    obtain ⟨_, xs, ev, hd, _, _⟩ := r
    subst ev
    exact ⟨c, cv, b, _, rfl, hd, hk.2, hb, (q.via s1).bl⟩
  | _ => cases hg1
theorem db_isXT (p : Pinned Y a d C) (T : ExcA Y.K C) (hm : Y.mg y = some (.ref C)) (hg : Gl Y "isinstance") (hi : Y.mg "isinstance" = none) (ha : DB false Y e f) (hk : KEs Y es cs cvs) (hl : cs.length ≤ szL) (tb : TabOk Y.K Y.mg yes no fun C b => PySem.W.kitAny Y.K (.ref C) cvs = some b)
    (hv : bootBuiltins ("isinstance" : Str) = some (.builtin "isinstance") := by decide +kernel) (he : starEach [e, .Tuple es kt q2] Y.env = (false, eval e Y.env) :: starEach [.Tuple es kt q2] Y.env := by rfl) (he2 : starEach [.Tuple es kt q2] Y.env = (false, eval (.Tuple es kt q2) Y.env) :: starEach [] Y.env := by rfl)
    (hpl : (backTo pos (starEach [.Tuple es kt q2] Y.env)).any (·.1) = false := by rfl) : DB true Y (.Call (.Name "isinstance" p0) [e, .Tuple es kt q2] [] pos) (pIsX a d y yes no f) := by
  obtain ⟨t, pa, h⟩ := ha
  refine ⟨_, pe_callB (call_isXT p T) hg hi hv (pa_cons pa (pa_cons (pe_tup hk.pa.1) pa_nil he2) he) (by decide) (by decide) he hpl, fun σ H env fp r s nd hf Q q => ?_⟩
  obtain ⟨d0, e1, hg1⟩ := Option.bind_eq_some_iff.mp hf
  cases d0 with
  | exo a' d' x ns ds =>
    simp only at hg1
    split at hg1
    case isFalse => cases hg1
    rename_i hc
    obtain ⟨rfl, rfl, rfl⟩ := hc
    obtain ⟨b, rfl, hb⟩ := isTab_ok tb hm hg1
    refine h σ H env fp _ s nd e1 _ fun v H1 fr s1 r _ => ?_
    obtain ⟨_, xs, ev, hd, _, _⟩ := r
    subst ev
    refine tCs_ok ⟨by rw [szL_eq]; exact hl, fun pp hp => ?_⟩
    have sm := same_new (o := .tup cs) hp
    exact ⟨pp, cs, cvs, b, _, rfl, sm _ _ hd, upd_same, hk.pa.2, hb, ((q.via s1).via sm).bl⟩
  | _ => cases hg1
/-- e.f -/
def pFld (a d : Addr) (y : Str) (n : Str) (f : PSm) : PSm := fun env => (f env).bind fun v => match v with
  | .exo a' d' x ns ds => if a' = a ∧ d' = d ∧ x = y then (ns.zip ds).lookup n else none
  | _ => none
theorem lookup_ri {K : PySem.W.Frag} {H : Hp} {n : Str} : ∀ {ns : List Str} {ds : List D} {xs : List V} {r : D}, RIs K H ds xs → (ns.zip ds).lookup n = some r → ∃ v, (ns.zip xs).lookup n = some v ∧ RI K H r v
  | [], _, _, _, _, e => by simp at e
  | m :: ns, [], _, _, _, e => by simp at e
  | m :: ns, d :: ds, _, r, ⟨x, xs, h1, h2, h3⟩, e => by
    subst h1
    rw [List.zip_cons_cons, List.lookup_cons] at e ⊢
    split at e
    · cases e; exact ⟨x, rfl, h2⟩
    · exact lookup_ri h3 e
theorem db_fld {n : Str} (p : Pinned Y a d C) (T : ExcA Y.K C) (hno : PySem.W.findIn Y.K (.ref C) n = some none) (ha : DB false Y e f)
    (hb : attributeBase e n Y.env (eval e Y.env) = eval e Y.env := by rfl) : DB false Y (.Attribute e n pos) (pFld a d y n f) := by
  obtain ⟨t, pa, h⟩ := ha
  refine ⟨fun σ H Q => t σ H fun x H1 => x = .ref a ∧ ∃ (fs : List (Str × V)) (v : V), H1 d = some (.xd fs) ∧ fs.lookup n = some v ∧ Q v H1, ⟨fun pins s σ H Q I h => ?_⟩, fun σ H env fp r s nd hf Q q => ?_⟩
  · refine attr_of hb (thn (pa.run pins s σ H _ I h) fun u s1 hh => ?_)
    obtain ⟨x, H1, I1, rx, ex, fs, v, hd, l, q⟩ := hh
    subst ex
    obtain rfl : u = Value.ref a := rx
    obtain ⟨oe, od, mA, J, ho, hns, hr⟩ := p.at I1 hd
    obtain ⟨od', ho', hl⟩ := lookIn_ns hns
    rw [ho] at ho'; cases ho'
    obtain ⟨u, hu, ru⟩ := RelO.some_of (v := v) (o := mA n) (by rw [← l]; exact hr n)
    exact HandSPX.exc_get I1.kIn J T.hg T.hk T.hs (PySem.W.findObj_own T.hd hno rfl (by rw [hl, hu])) (handed_of ru) ⟨v, H1, I1.tok _, ru, q⟩
  · obtain ⟨d0, e1, hg1⟩ := Option.bind_eq_some_iff.mp hf
    cases d0 with
    | exo a' d' x ns ds =>
      simp only at hg1
      split at hg1
      case isFalse => cases hg1
      rename_i hc
      obtain ⟨rfl, rfl, rfl⟩ := hc
      refine h σ H env fp _ s nd e1 _ fun v H1 fr s1 r _ => ?_
      obtain ⟨_, xs, ev, hd, _, hr⟩ := r
      subst ev
      obtain ⟨v, l, rv⟩ := lookup_ri hr hg1
      exact ⟨rfl, _, v, hd, l, (q.via s1).imm rv⟩
    | _ => cases hg1
end
end DL
namespace DL
open PySem PySem.Spec PyProof.Rows L2 C8
/-! ### facts about classes, put together -/
theorem all_nil {φ : Str → Prop} : ∀ x ∈ ([] : List Str), φ x := fun _ m => nomatch m
theorem all_cons {φ : Str → Prop} {a : Str} {l : List Str} (h : φ a) (r : ∀ x ∈ l, φ x) : ∀ x ∈ a :: l, φ x := fun x m => (List.mem_cons.mp m).elim (fun e => by rw [e]; exact h) (r x)
theorem at_cls {mg : Str → Option Value} {x : Str} {D : Addr} {φ : Addr → Prop} (m : mg x = some (.ref D)) (h : φ D) : ∀ C, mg x = some (.ref C) → φ C := fun C hC => by
  rw [m] at hC
  cases hC
  exact h
section
variable {K : PySem.W.Frag} {C D : Addr} {b : Bool} {T : String} {t c : Value} {r : List Value}
theorem exm_sub (hs : PySem.W.subIn K (.ref D) (.type "BaseException") = some true) (hi : PySem.W.isClsIn K D = true) (ht : PySem.W.typeIn K (.ref D) = some (.type "type")) (h : PySem.W.subIn K (.ref C) (.ref D) = some b) : PySem.W.exmOne K (.ref C) (.ref D) = some b := by
  have e1 : (PySem.W.subIn K (.ref D) (.type "BaseException") == some true) = true := by rw [hs] <;> rfl
  have e2 : ((PySem.W.clsIn K D).isSome && PySem.W.typeIn K (.ref D) == some (.type "type")) = true := by
    have h2' : (PySem.W.clsIn K D).isSome = true := hi
    rw [h2', ht] <;> rfl
  show (if (PySem.W.subIn K (.ref D) (.type "BaseException") == some true) = true then (if ((PySem.W.clsIn K D).isSome && PySem.W.typeIn K (.ref D) == some (.type "type")) = true then PySem.W.subIn K (.ref C) (.ref D) else none) else none) = some b
  rw [if_pos e1, if_pos e2]
  exact h
theorem kit_sub (hi : PySem.W.isClsIn K D = true) (ht : PySem.W.typeIn K (.ref D) = some (.type "type")) (h : PySem.W.subIn K (.ref C) (.ref D) = some b) (hc : PySem.W.subIn K (.ref C) (.ref C) = some true) : PySem.W.kitOne K (.ref C) (.ref D) = some b := by
  have e2 : ((PySem.W.clsIn K D).isSome && PySem.W.typeIn K (.ref D) == some (.type "type")) = true := by
    have h2' : (PySem.W.clsIn K D).isSome = true := hi
    rw [h2', ht] <;> rfl
  show (if (Value.ref C == Value.ref D) = true then some true else if ((PySem.W.clsIn K D).isSome && PySem.W.typeIn K (.ref D) == some (.type "type")) = true then PySem.W.subIn K (.ref C) (.ref D) else none) = some b
  split
  · rename_i e
    have e : C = D := Value.ref.inj (beq_iff_eq.mp e)
    subst e
    rw [hc] at h
    exact h
  · first
    | exact h
    | (rw [if_pos e2]; exact h)
theorem kit_ty1 (hk : PySem.W.kitMeta T = true) (h : PySem.W.subIn K (.ref C) (.type T) = some b) : PySem.W.kitOne K (.ref C) (.type T) = some b := by
  show (if (Value.ref C == Value.type T) = true then some true else if PySem.W.kitMeta T = true then PySem.W.subIn K (.ref C) (.type T) else none) = some b
  rw [if_neg (show ¬ ((Value.ref C == Value.type T) = true) from by simp), if_pos hk]
  exact h
theorem kany_t (h : PySem.W.kitOne K t c = some true) : PySem.W.kitAny K t (c :: r) = some true := by
  show (match PySem.W.kitOne K t c with | some true => some true | some false => PySem.W.kitAny K t r | none => none) = _
  rw [h]
theorem kany_f (h : PySem.W.kitOne K t c = some false) (h' : PySem.W.kitAny K t r = some b) : PySem.W.kitAny K t (c :: r) = some b := by
  show (match PySem.W.kitOne K t c with | some true => some true | some false => PySem.W.kitAny K t r | none => none) = _
  rw [h]
  exact h'
end
/-- the method that stands first in a class's text -/
def cinit (st : Stmt) : Stmt := (C8.clsBody st).getD 0 (.Pass ⟨0, 0, 0, 0⟩)
end DL

set_option maxHeartbeats 4000000
/-! DL: min and max of ints with default= -/
namespace DL
open PySem PySem.Spec PyProof.Rows L2 C8
theorem reads_ints {h : Heap} : ∀ {ns : List Int} {its : List Value}, Vals (ns.map V.int) its → ReadsAll h its (ns.map PyData.int) []
  | [], _, r => by cases r; exact .nil
  | n :: ns, _, r => by
    cases r with
    | cons r1 r2 =>
      obtain ⟨t, rfl⟩ := r1
      have := ReadsAll.cons (Reads.int (h := h) n t) (reads_ints r2)
      simpa using this
theorem alike_ints (ns : List Int) : PySem.W.AlikeAll (ns.map PyData.int) := by
  refine ⟨fun x hx y hy => ?_, fun x hx => ?_⟩
  · obtain ⟨i, _, rfl⟩ := List.mem_map.mp hx
    obtain ⟨j, _, rfl⟩ := List.mem_map.mp hy
    rfl
  · obtain ⟨i, _, rfl⟩ := List.mem_map.mp hx
    exact fun z => nomatch z
theorem depth_ints : ∀ ns : List Int, PyData.depthAll (ns.map PyData.int) ≤ 1
  | [] => by decide
  | n :: ns => by
    have := depth_ints ns
    simp only [List.map_cons, PyData.depthAll, PyData.depth]
    first | omega | simp_all | skip
/-- the pick, or the default -/
def rPick (K : PySem.W.Frag) (m : Int → List Int → Int) : List V → List V → Hp → VK → Prop := fun vs zs H Q => ∃ (a : Addr) (ns : List Int) (z : V), vs = [.ref a] ∧ zs = [z] ∧ (SqL K H a (ns.map V.int) ∨ SqT K H a (ns.map V.int)) ∧ (ns = [] → Q z H) ∧ ∀ n r, ns = n :: r → Q (.int (m n r)) H
section
variable {X : Cx}
theorem map_cons_int {ns : List Int} {y : PyData} {ys : List PyData} (h : ns.map PyData.int = y :: ys) : ∃ n r, ns = n :: r ∧ y = .int n ∧ ys = r.map .int := by
  cases ns with
  | nil => cases h
  | cons n r => cases h; exact ⟨n, r, rfl, rfl, rfl⟩
theorem cr_minDf (hc : X.calm = true) (hu : X.A.units + 64 < cLine) : CallRK X (.builtin "min") [Str.ofString "default"] (rPick X.K fun n r => r.foldl min n) := by
  intro pins s σ H vs zs us ws Q I r rz h
  obtain ⟨a, ns, z, rfl, rfl, hs, q0, q1⟩ := h
  obtain rfl := Vals.ref1 r
  obtain ⟨w1, rfl, e1⟩ := vals1 rz
  have du := depth_ints ns
  have fin : ∀ {its : List Value}, Vals (ns.map V.int) its → (∀ h' tk, (∀ b o, s.heap.get? b = some o → h'.get? b = some o) → ns = [] → EP X pins σ Q w1 { s with heap := h', toks := tk }) ∧
      (∀ (y : PyData) (ys : List PyData) v h' tk bs, ns.map PyData.int = y :: ys → Reads h' v (PySem.W.minD y ys) bs → (∀ b o, s.heap.get? b = some o → h'.get? b = some o) → EP X pins σ Q v { s with heap := h', toks := tk }) := fun {its} rv => by
    refine ⟨fun h' tk hk e => ⟨z, H, I.kept hk, e1, q0 e⟩, fun y ys v h' tk bs e hr hk => ?_⟩
    obtain ⟨n, r, en, rfl, rfl⟩ := map_cons_int e
    rw [PySem.W.minD_ints] at hr
    cases hr with
    | int i t => exact ⟨.int _, H, I.kept hk, ⟨_, rfl⟩, q1 n r en⟩
  rcases hs with hs | hs
  · obtain ⟨its, rv, hl, _⟩ := I.list hs
    obtain ⟨f0, f1⟩ := fin rv
    exact PySem.W.min_list_default (I.ok.hd hc) hl.isList (reads_ints rv) (alike_ints ns) (by omega) (fun e h' tk hk => f0 h' tk hk (List.map_eq_nil_iff.mp e)) fun y ys i v h' tk bs e _ hr hk => f1 y ys v h' tk bs e hr hk
  · obtain ⟨its, rv, hl, _⟩ := I.tuple hs
    obtain ⟨f0, f1⟩ := fin rv
    exact PySem.W.min_tuple_default (I.ok.hd hc) hl (reads_ints rv) (alike_ints ns) (by omega) (fun e h' tk hk => f0 h' tk hk (List.map_eq_nil_iff.mp e)) fun y ys i v h' tk bs e _ hr hk => f1 y ys v h' tk bs e hr hk
theorem cr_maxDf (hc : X.calm = true) (hu : X.A.units + 64 < cLine) : CallRK X (.builtin "max") [Str.ofString "default"] (rPick X.K fun n r => r.foldl max n) := by
  intro pins s σ H vs zs us ws Q I r rz h
  obtain ⟨a, ns, z, rfl, rfl, hs, q0, q1⟩ := h
  obtain rfl := Vals.ref1 r
  obtain ⟨w1, rfl, e1⟩ := vals1 rz
  have du := depth_ints ns
  have fin : ∀ {its : List Value}, Vals (ns.map V.int) its → (∀ h' tk, (∀ b o, s.heap.get? b = some o → h'.get? b = some o) → ns = [] → EP X pins σ Q w1 { s with heap := h', toks := tk }) ∧
      (∀ (y : PyData) (ys : List PyData) v h' tk bs, ns.map PyData.int = y :: ys → Reads h' v (PySem.W.maxD y ys) bs → (∀ b o, s.heap.get? b = some o → h'.get? b = some o) → EP X pins σ Q v { s with heap := h', toks := tk }) := fun {its} rv => by
    refine ⟨fun h' tk hk e => ⟨z, H, I.kept hk, e1, q0 e⟩, fun y ys v h' tk bs e hr hk => ?_⟩
    obtain ⟨n, r, en, rfl, rfl⟩ := map_cons_int e
    rw [PySem.W.maxD_ints] at hr
    cases hr with
    | int i t => exact ⟨.int _, H, I.kept hk, ⟨_, rfl⟩, q1 n r en⟩
  rcases hs with hs | hs
  · obtain ⟨its, rv, hl, _⟩ := I.list hs
    obtain ⟨f0, f1⟩ := fin rv
    exact PySem.W.max_list_default (I.ok.hd hc) hl.isList (reads_ints rv) (alike_ints ns) (by omega) (fun e h' tk hk => f0 h' tk hk (List.map_eq_nil_iff.mp e)) fun y ys i v h' tk bs e _ hr hk => f1 y ys v h' tk bs e hr hk
  · obtain ⟨its, rv, hl, _⟩ := I.tuple hs
    obtain ⟨f0, f1⟩ := fin rv
    exact PySem.W.max_tuple_default (I.ok.hd hc) hl (reads_ints rv) (alike_ints ns) (by omega) (fun e h' tk hk => f0 h' tk hk (List.map_eq_nil_iff.mp e)) fun y ys i v h' tk bs e _ hr hk => f1 y ys v h' tk bs e hr hk
def pickD (m : Int → List Int → Int) (z : D) : List Int → D
  | [] => z
  | n :: r => .int (m n r)
def pickL : D → Option (List Int)
  | .lst _ ds => intsD ds
  | .tup ds => intsD ds
  | _ => none
def mnF (n : Int) (r : List Int) : Int := r.foldl min n
def mxF (n : Int) (r : List Int) : Int := r.foldl max n
def ePick (m : Int → List Int → Int) (f : ESm) (g : PSm) : ESm := fun env => (f env).bind fun d => (g d.2).bind fun z => if isImm z = true then (pickL d.1).map fun ns => (pickD m z ns, d.2) else none
variable {e k : Expr} {p pos kpos : Pos} {f : ESm} {g : PSm} {m : Int → List Int → Int} {id : String} {x : Str}
theorem de_pick (hcr : CallRK X (.builtin id) [Str.ofString "default"] (rPick X.K m)) (hg : Gl X x) (hm : X.mg x = none) (hv : bootBuiltins x = some (.builtin id)) (ha : DE X e f) (hz : DB false X k g) (hn : x ≠ "__name__" := by decide) (hdb : (x == ("__debug__" : Str)) = false := by decide)
    (hs : starEach [e] X.env = (false, eval e X.env) :: starEach [] X.env := by rfl)
    (he : backTo pos (starEach [e] X.env) = (false, eval e X.env) :: backTo pos (starEach [] X.env) := by rfl) (hpl : (backTo pos (starEach [e] X.env)).any (·.1) = false := by rfl)
    (hall : (backToKw pos (keywordEach [⟨some (Str.ofString "default"), k, kpos⟩] X.env)).all (·.1.isSome) = true := by rfl) (hnone : (backToKw pos (keywordEach [⟨some (Str.ofString "default"), k, kpos⟩] X.env)).any (·.1.isNone) = false := by rfl) (hks : (backToKw pos (keywordEach [⟨some (Str.ofString "default"), k, kpos⟩] X.env)).filterMap (·.1) = [Str.ofString "default"] := by rfl) :
    DE X (.Call (.Name x p) [e] [⟨some (Str.ofString "default"), k, kpos⟩] pos) (ePick m f g) := by
  obtain ⟨t, pa, h⟩ := ha
  obtain ⟨tz, pz, hz⟩ := hz
  refine ⟨_, pe_callBK hcr hg hm hv (pa_cons pa pa_nil hs) (pk_cons pz pk_nil) hn hdb he hpl hall hnone hks, fun σ H env env' fp d s nd hf Q q => ?_⟩
  obtain ⟨⟨d1, en⟩, e1, hf⟩ := Option.bind_eq_some_iff.mp hf
  obtain ⟨z, e2, hf⟩ := Option.bind_eq_some_iff.mp hf
  split at hf
  case isFalse => cases hf
  rename_i hi
  obtain ⟨ns, e3, e4⟩ := Option.map_eq_some_iff.mp hf
  cases e4
  refine h σ H env _ fp d1 s nd e1 _ fun v H1 fr fp1 v1 s1 r1 n1 => ?_
  have n2 := List.nodup_append.mp n1
  refine hz σ H1 _ fp1 z s1 n2.2.1 e2 _ fun w H2 fz sm rz _ => ?_
  obtain ⟨ez, rw_⟩ := rz.imm hi
  subst ez
  have r2 := r1.same sm
  have ev : Evo fp H fp1 H2 := (v1.sub fun a m => List.mem_append_right _ m).trans (Evo.of_same (fr := []) sm fun _ m => nomatch m)
  have q0 : Q w H2 → Q w H2 := fun z => z
  have fin : ∀ {u : V}, RO X.K H2 (pickD m z ns) u [] → Q u H2 := fun {u} ru => q u H2 [] fp1 ev (s1.same sm) ru n2.2.1
  have src : ∃ a, v = .ref a ∧ (SqL X.K H2 a (ns.map V.int) ∨ SqT X.K H2 a (ns.map V.int)) := by
    cases d1 with
    | lst fz ds =>
      obtain ⟨a, xs, f', h1, h2, h3⟩ := r2.rdl
      rw [intsD_all e3] at h3
      exact ⟨a, h1, .inl (by rw [← h3.ints]; exact .inl h2)⟩
    | tup ds =>
      obtain ⟨_, a, xs, h1, h2, h3⟩ := r2
      rw [intsD_all e3] at h3
      exact ⟨a, h1, .inr (by rw [← h3.ros.ints]; exact SqT.of h2)⟩
    | _ => cases e3
  obtain ⟨a, rfl, hsq⟩ := src
  refine ⟨a, ns, w, rfl, rfl, hsq, fun en => fin ?_, fun n r en => fin ?_⟩
  · subst en; exact rw_.ro
  · subst en; exact ⟨rfl, rfl⟩
end
end DL
namespace DL
open PySem PySem.Spec PyProof.Rows L2 C8
/-- keys that are ints -/
def keysI : List Key → Option (List Int)
  | [] => some []
  | .inl i :: r => (keysI r).map fun l => i :: l
  | .inr _ :: _ => none
theorem keysI_all : ∀ {ks : List Key} {ns : List Int}, keysI ks = some ns → ks = ns.map Sum.inl
  | [], _, h => by cases h; rfl
  | .inl i :: r, _, h => by
    obtain ⟨l, e1, e2⟩ := Option.map_eq_some_iff.mp h
    subst e2
    rw [keysI_all e1]; rfl
  | .inr _ :: _, _, h => by cases h
def sortI (ns : List Int) : List Int := ns.mergeSort fun a b => decide (a ≤ b)
theorem sortI_perm (ns : List Int) : (sortI ns).Perm ns := List.mergeSort_perm ns _
theorem sortI_le (ns : List Int) : (sortI ns).Pairwise (· ≤ ·) := by
  have := List.pairwise_mergeSort (le := fun a b : Int => decide (a ≤ b)) (fun a b c h1 h2 => by simp at *; omega) (fun a b => by simp; omega) ns
  exact this.imp fun h => by simpa using h
theorem perm_sorted : ∀ {l m : List Int}, l.Perm m → l.Pairwise (· ≤ ·) → m.Pairwise (· ≤ ·) → l = m
  | [], m, p, _, _ => (List.nil_perm.mp p).symm
  | a :: l, [], p, _, _ => absurd (List.perm_nil.mp p) (by simp)
  | a :: l, b :: m, p, h1, h2 => by
    have h1' := List.pairwise_cons.mp h1
    have h2' := List.pairwise_cons.mp h2
    have e : a = b := by
      have ha : a ∈ b :: m := p.mem_iff.mp List.mem_cons_self
      have hb : b ∈ a :: l := p.mem_iff.mpr List.mem_cons_self
      rcases List.mem_cons.mp ha with e | ha
      · exact e
      · rcases List.mem_cons.mp hb with e | hb
        · exact e.symm
        · exact Int.le_antisymm (h1'.1 b hb) (h2'.1 a ha)
    subst e
    rw [perm_sorted (List.perm_cons a |>.mp p) h1'.2 h2'.2]
def gSortedK : List D → Option D
  | [.dcK _ ks _] => (keysI ks).bind fun ns => if ns.length < 64 then some (.lst false ((sortI ns).map D.int)) else none
  | _ => none
theorem zip_keys {ks : List Key} {xs : List V} (h : ks.length = xs.length) : (ks.zip xs).map (·.1) = ks := by
  rw [List.map_fst_zip (by omega)]
theorem c_sortedK {X : Cx} (hc : X.calm = true) : OC true X (.builtin "sorted") gSortedK := by
  refine ⟨_, call_sortedDI hc, fun H vs ds fp d hv hg Q q => ?_⟩
  unfold gSortedK at hg
  split at hg
  case h_2 => cases hg
  rename_i fz ks es
  obtain ⟨ns, e1, hg⟩ := Option.bind_eq_some_iff.mp hg
  split at hg
  case isFalse => cases hg
  rename_i h64
  cases hg
  obtain ⟨v, rfl, r⟩ := hv.one
  have fin : ∀ {a : Addr} {xs : List V}, v = .ref a → Rd H a (.dK (ks.zip xs)) → ks.length = xs.length → ∃ (a : Addr) (kvs : List (Key × V)) (ks : List Int), [v] = [V.ref a] ∧ Rd H a (.dK kvs) ∧ kvs.map (·.1) = ks.map Sum.inl ∧ ks.length < 64 ∧
      ∀ (ys : List Int) (p : Addr), ys.Perm ks → ys.Pairwise (· ≤ ·) → H p = none → Q (.ref p) (upd H p (.lst (ys.map V.int))) := fun {a xs} e2 e3 e4 =>
    ⟨a, _, ns, by rw [e2], e3, by rw [zip_keys e4, keysI_all e1], h64, fun ys p hp hs hn => by
      have e : ys = sortI ns := perm_sorted (hp.trans (sortI_perm ns).symm) hs (sortI_le ns)
      subst e
      refine q _ _ [p] (fun b ob hb => by rw [upd_ne (by rintro rfl; rw [hn] at hb; cases hb)]; exact hb) (.inr ⟨rfl, p, _, [], rfl, rfl, upd_same, (ints_ri (sortI ns)).ros⟩) fun _ => .one hn⟩
  rcases r with ⟨_, _, _, a, o, xs, h1, h2, h3, h4⟩ | ⟨_, a, xs, f, h1, _, h2, h3, h4⟩
  · exact fin h1 (.inr ⟨o, h2⟩) h3
  · exact fin h1 (.inl h2) h3
end DL

set_option maxHeartbeats 4000000
/-! DL, part xg: .get with effects -/
namespace DL
open PySem PySem.Spec PyProof.Rows L2
def gGet1 (a b : D) : Option D := (dGet a b).bind fun r => if isImm (r.getD .non) = true then some (r.getD .non) else none
def gGet2 (a b z : D) : Option D := (dGet a b).bind fun r => if isImm (r.getD z) = true then some (r.getD z) else none
def eGet2 (fo fe : ESm) (ff : PSm) : ESm := fun env => (fo env).bind fun x => (fe x.2).bind fun y => (ff y.2).bind fun z => (gGet2 x.1 y.1 z).map fun d => (d, y.2)
section
variable {X : Cx} {o e f : Expr} {apos cpos : Pos}
theorem de_get1 {fo fe : ESm} (hu : X.A.units + 1 < cLine) (ho : DE X o fo) (he : DE X e fe) (m : M1 X o "get" apos e cpos) : DE X (.Call (.Attribute o "get" apos) [e] [] cpos) (e2 gGet1 fo fe) := by
  obtain ⟨ta, pa, ha⟩ := ho
  obtain ⟨tb, pb, hb⟩ := he
  refine ⟨_, pe_dget1 hu pa pb m, fun σ H env env' fp d s nd hf Q q => ?_⟩
  obtain ⟨x, env1, y, e1, e2, e3⟩ := e2_inv hf
  obtain ⟨o', e4, e5⟩ := Option.bind_eq_some_iff.mp e3
  by_cases hi : isImm (o'.getD .non) = true
  case neg => rw [if_neg hi] at e5; cases e5
  rw [if_pos hi] at e5; cases e5
  refine ha σ H env env1 fp x s nd e1 _ fun vx H1 fx fp1 v1 s1 rx n1 => ?_
  obtain ⟨a0, z0, ia⟩ := isD_of rx e4
  refine ⟨a0, z0, ia, hb σ H1 env1 env' fp1 y s1 (List.nodup_append.mp n1).2.1 e2 _ fun vy H2 fy fp2 v2 s2 ry n2 => ?_⟩
  obtain ⟨rx2, v12, n12⟩ := two (env := env) (σ := σ) v1 rx n1 v2 n2
  obtain ⟨a, r, h1, h2, h3⟩ := rx2.dget ry e4
  rw [z0] at h1; cases h1
  refine ⟨r, h2, ?_⟩
  have n3 := (List.nodup_append.mp n2).2.1
  cases o' with
  | none => rw [show r = none from h3]; exact let_go q v12 s2 n3 (Same.refl _) ⟨rfl, rfl⟩ .nil
  | some d' =>
    obtain ⟨w, g, h4, h5⟩ := h3
    rw [h4]
    obtain ⟨ez, r'⟩ := h5.imm hi
    subst ez
    exact let_go q v12 s2 n3 (Same.refl _) h5 .nil
theorem de_get2 {fo fe : ESm} {ff : PSm} (hu : X.A.units + 1 < cLine) (ho : DE X o fo) (he : DE X e fe) (hff : DB false X f ff) (m : M2 X o "get" apos e f cpos) : DE X (.Call (.Attribute o "get" apos) [e, f] [] cpos) (eGet2 fo fe ff) := by
  obtain ⟨ta, pa, ha⟩ := ho
  obtain ⟨tb, pb, hb⟩ := he
  obtain ⟨tf, pf, hff⟩ := hff
  refine ⟨_, pe_dget2 hu pa pb pf m, fun σ H env env' fp d s nd hf Q q => ?_⟩
  obtain ⟨⟨x, env1⟩, e1, hf⟩ := Option.bind_eq_some_iff.mp hf
  obtain ⟨⟨y, env2⟩, e2, hf⟩ := Option.bind_eq_some_iff.mp hf
  obtain ⟨z, e6, hf⟩ := Option.bind_eq_some_iff.mp hf
  obtain ⟨d', e3, e7⟩ := Option.map_eq_some_iff.mp hf
  cases e7
  obtain ⟨o', e4, e5⟩ := Option.bind_eq_some_iff.mp e3
  by_cases hi : isImm (o'.getD z) = true
  case neg => rw [if_neg hi] at e5; cases e5
  rw [if_pos hi] at e5; cases e5
  refine ha σ H env env1 fp x s nd e1 _ fun vx H1 fx fp1 v1 s1 rx n1 => ?_
  obtain ⟨a0, z0, ia⟩ := isD_of rx e4
  refine ⟨a0, z0, ia, hb σ H1 env1 env2 fp1 y s1 (List.nodup_append.mp n1).2.1 e2 _ fun vy H2 fy fp2 v2 s2 ry n2 => ?_⟩
  obtain ⟨rx2, v12, n12⟩ := two (env := env) (σ := σ) v1 rx n1 v2 n2
  have n3 := (List.nodup_append.mp n2).2.1
  refine hff σ H2 env2 fp2 z s2 n3 e6 _ fun wz H3 fz s3 rz _ => ?_
  obtain ⟨a, r, h1, h2, h3⟩ := (rx2.same s3).dget (ry.same s3) e4
  rw [z0] at h1; cases h1
  refine ⟨r, h2, ?_⟩
  cases o' with
  | none =>
    rw [show r = none from h3]
    obtain ⟨ez, _⟩ := RO.imm rz hi
    subst ez
    exact let_go q v12 s2 n3 s3 rz .nil
  | some d' =>
    obtain ⟨w, g, h4, h5⟩ := h3
    rw [h4]
    obtain ⟨ez, _⟩ := h5.imm hi
    subst ez
    exact let_go q v12 s2 n3 s3 h5 .nil
end
section
variable {env : Env}
theorem w_eGet2 {fo fe : ESm} {ff : PSm} {Q : D × Env → Prop} : Ok (eGet2 fo fe ff env) Q = Ok (fo env) fun x => Ok (fe x.2) fun y => Ok (ff y.2) fun z => Ok (gGet2 x.1 y.1 z) fun r => Q (r, y.2) := by
  unfold eGet2
  rw [ok_bind]; refine ok_cg fun x => ?_
  rw [ok_bind]; refine ok_cg fun y => ?_
  rw [ok_bind]; refine ok_cg fun z => ?_
  rw [ok_map]
theorem gg1 {a b : D} {r : Option D} (h : dGet a b = some r) (hi : isImm (r.getD .non) = true) : gGet1 a b = some (r.getD .non) := by
  unfold gGet1; rw [h, Option.bind_some, if_pos hi]
theorem gg2 {a b z : D} {r : Option D} (h : dGet a b = some r) (hi : isImm (r.getD z) = true) : gGet2 a b z = some (r.getD z) := by
  unfold gGet2; rw [h, Option.bind_some, if_pos hi]
end
/-- range(a, b, -1) -/
def iRange3 (f : ASm) : ISm := fun env => (f env).bind fun r => match r.1 with
  | [.int i, .int j, .int c] => if smallI i ∧ smallI j ∧ c = -1 then some (rngC i (-1) (i - j).toNat, r.2) else none
  | _ => none
theorem ROs.three {K : PySem.W.Frag} {H : Hp} {d e f : D} {vs : List V} {fp : List Addr} (h : ROs K H [d, e, f] vs fp) : ∃ u v w g1 g2 g3, vs = [u, v, w] ∧ RO K H d u g1 ∧ RO K H e v g2 ∧ RO K H f w g3 := by
  obtain ⟨x, xs, f, f', h1, hf, h2, h3⟩ := h
  obtain ⟨v, w, g, g', e1, e2, e3⟩ := ROs.two h3
  exact ⟨x, v, w, f, g, g', by rw [h1, e1], h2, e2, e3⟩
theorem di_range3 {X : Cx} {tg : Expr} {p pos : Pos} {a b c : Expr} {f : ASm} (hg : Gl X "range") (hm : X.mg "range" = none) (ha : DA X [a, b, c] f)
    (hs : starEach [a, b, c] X.env = (false, eval a X.env) :: starEach [b, c] X.env := by rfl) (hpl : (backTo pos (starEach [b, c] X.env)).any (·.1) = false := by rfl) :
    DI X tg (.Call (.Name "range" p) [a, b, c] [] pos) (iRange3 f) := by
  refine pi_of (pi_range3 hg hm ha.pa hs hpl) fun σ H R ⟨env, env', fp, ds, s, nd, hf, q⟩ => ?_
  obtain ⟨⟨ds', en⟩, e1, e2⟩ := Option.bind_eq_some_iff.mp hf
  refine ⟨env, en, fp, ds', s, nd, e1, fun vs H' fr fp' ev s' r n => ?_⟩
  simp only at e2
  split at e2
  · split at e2
    · rename_i i j k hz
      cases e2
      obtain ⟨u, v, w, f1, f2, f3, rfl, r1, r2, r3⟩ := r.three
      obtain ⟨z1, z2, rfl⟩ := hz
      refine ⟨i, j, -1, (i - j).toNat, by rw [r1.2, r2.2, r3.2], RgC.neg z1.1 z1.2 z2.1 z2.2, q _ H' fp' (ev.sub fun a m => List.mem_append_right _ m) s' (List.nodup_append.mp n).2.1 (yl_rngC i (-1) _)⟩
    · cases e2
  · cases e2
theorem w_iRange3 {f : ASm} {env : Env} {Q : List D × Env → Prop} : Ok (iRange3 f env) Q = Ok (f env) fun r => ∃ i j, r.1 = [.int i, .int j, .int (-1)] ∧ (smallI i ∧ smallI j) ∧ Q (rngC i (-1) (i - j).toNat, r.2) := by
  unfold iRange3
  rw [ok_bind]
  refine ok_cg fun r => ?_
  unfold Ok
  refine propext ⟨?_, ?_⟩
  · rintro ⟨a, e, q⟩
    split at e
    · split at e
      · cases e; rename_i i j k h1 h2; obtain ⟨z1, z2, rfl⟩ := h2; exact ⟨i, j, h1, ⟨z1, z2⟩, q⟩
      · cases e
    · cases e
  · rintro ⟨i, j, h1, h2, q⟩
    exact ⟨_, by rw [h1]; simp only [h2.1, h2.2, and_self, if_true], q⟩
end DL

set_option maxHeartbeats 4000000
/-! DL, part xh: calls with keywords that may raise -/
namespace DL
open PySem PySem.Spec PyProof.Rows L2 C8 L2N
section
variable {X : Cx} {CX : CXT} {k : Nat} {f : Addr} {fd : FuncData} {ps ks : List Str} {sp : Sp} {E : L2.St → XK} {g : List Value → List Value → List Value} {gV : List V → List V → List V}
theorem run_fnkS {pins : List (Addr × Obj)} {σ : L2.St} {H : Hp} {s : Shared} {Q : VK} {us ws : List Value} {vs zs : List V} (F : FnOk X.prog X.w X.K X.mg X.base CX k f fd ps sp) (hr : Room k X.A) (hb : KBinds X.K fd ps ks g gV) (hx : PassesAt CX X σ (E σ))
    (I : Inv X pins σ H s) (r : Vals vs us) (rz : Vals zs ws) (h : sp (gV vs zs) H Q (E σ)) : wpAny (model X.prog X.w) X.A (call (.ref f) us (ks.zip ws)) (EP X pins σ Q) X.xe s := by
  have r2 := hb.rel r rz
  have hl : (g us ws).length = ps.length := by rw [← r2.length]; exact F.len _ _ _ _ h
  refine wpAny_call (codeAny_mono (F.run X.A X.stack s H ⟨us, ks.zip ws⟩ (g us ws) (gV vs zs) Q (E σ) hr I.env0 (hb.to s us ws I.kIn hl) r2 h) fun r s' hq => ?_)
  cases r with
  | error e => exact hx pins H s e s' I hq
  | ok fl =>
    cases fl with
    | ret u => exact I.after hq
    | next => exact False.elim hq
    | brk => exact False.elim hq
    | cont => exact False.elim hq
end
structure KCalX (P : Program) (w : World) (K : PySem.W.Frag) (mg : Str → Option Value) (base : Heap) (k : Nat) (x : Str) (sp : Sp) (ks : List Str) (perm : List Nat) (a b : Nat) : Prop where
  ex : ∃ (f : Addr) (fd : FuncData) (ps : List Str), FnOk P w K mg base (L2N.CX P w) k f fd ps sp ∧ mg x = some (.ref f) ∧ PySem.W.keepIn K (.ref f) = true ∧ KBinds K fd ps ks (gP perm a b) (gPV perm a b)
def xDefK (n : Nat) (perm : List Nat) (F : FXm) (c2 : CSm) : EXm := fun env => (c2 env).bind fun b => if b.1.length = n then (takeB (perm.map fun i => b.1.getD i (.inl .non)) b.2).bind fun t => (F t.1).map fun r => (r.1, giveB (perm.map fun i => b.1.getD i (.inl .non)) t.1 r.2 t.2)
  else none
section
variable {X : Cx}
theorem dx_callK0 {x : Str} {p pos : Pos} {kws : List Keyword} {k j b : Nat} {perm : List Nat} {ks : List Str} {F : FXm} {c2 : CSm} (c : KCalX X.prog X.w X.K X.mg X.base k x (PromX X.K X.mg F) ks perm 0 b) (hr : Room j X.A) (hk : k ≤ j) (hg : Gl X x) (hperm : perm.Perm (List.range b)) (hkw : DCK X kws c2)
    (hall : (backToKw pos (keywordEach kws X.env)).all (·.1.isSome) = true := by rfl) (hks : (backToKw pos (keywordEach kws X.env)).filterMap (·.1) = ks := by rfl) (hdb : (x == ("__debug__" : Str)) = false := by decide)
    (hpl : ((backTo pos (starEach [] X.env)).any (·.1) || (backToKw pos (keywordEach kws X.env)).any (·.1.isNone)) = false := by rfl) : DX X (.Call (.Name x p) [] kws pos) (xDefK b perm F c2) := by
  intro W tk
  obtain ⟨f, fd, ps, hF, hm, kp, kb⟩ := c.ex
  obtain ⟨tkw, pk, hkw⟩ := hkw
  refine ⟨fun pins s σ H Q I ⟨env, env', fp, o, sr, nd, hf, q⟩ => ?_⟩
  refine wpAny_Call_Name_kw (ld_glob I hg hm ?_ hdb)
  obtain ⟨⟨ys, en2⟩, e2, hf⟩ := Option.bind_eq_some_iff.mp hf
  simp only at hf
  split at hf
  case isFalse => cases hf
  rename_i hn
  obtain ⟨⟨ds, en3⟩, e3, hf⟩ := Option.bind_eq_some_iff.mp hf
  obtain ⟨⟨r, outs⟩, e4, e5⟩ := Option.map_eq_some_iff.mp hf
  cases e5
  refine PySem.W.callWith_KW0 (h₀ := X.base) I.ok.mod.kin kp hall (thn (pk.run pos pins s σ H (fun zs H2 => PromX X.K X.mg F (gPV perm 0 b [] zs) H2 Q (WE W σ)) I (hkw σ H env en2 fp ys sr nd e2 _ fun us H2 fr2 fp2 v2 s2 a2 n2 => ?_)) fun ws s2 ⟨zs, H2, I2, rz, q2⟩ => ⟨I2.kIn, ?_⟩) hpl
  · have ll := a2.len
    have hb : perm.length = b := by have := hperm.length_eq; rwa [List.length_range] at this
    have e1 : gPV perm 0 b [] us = perm.map fun i => us.getD i .non := by
      unfold gPV
      rw [if_pos ⟨rfl, by omega⟩]; rfl
    rw [e1]
    have lz : (ys.zip us).length = b := by rw [List.length_zip, ll, Nat.min_self, hn]
    have pz : (perm.map fun i => (ys.zip us).getD i (.inl .non, .non)).Perm (ys.zip us) := perm_map (by rw [lz]; exact hperm)
    obtain ⟨z1, z2⟩ := zip_getD ll perm fun i hi => by rw [hn]; exact List.mem_range.mp (hperm.mem_iff.mp hi)
    have c1' : CArg X.K H2 σ ((ys.zip us).map (·.1)) ((ys.zip us).map (·.2)) fr2 := by
      rw [List.map_fst_zip (by omega), List.map_snd_zip (by omega)]
      exact a2
    obtain ⟨fr', p1, c2'⟩ := c1'.perm pz.symm
    rw [z1, z2] at c2'
    have n2' : (fr' ++ fp2).Nodup := (p1.append_right fp2).nodup_iff.mpr n2
    exact callX_core (v2.sub fun a m => (List.mem_append.mp m).elim (fun m => List.mem_append_left _ (p1.mem_iff.mp m)) (List.mem_append_right _)) s2 c2' n2' e3 e4 q
  · rw [hks]
    exact run_fnkS (E := WE W) hF (hr.mono hk) kb (L2N.passAt tk σ) I2 (us := []) (vs := []) .nil rz q2
end
theorem w_xDefK {n : Nat} {perm : List Nat} {F : FXm} {c2 : CSm} {env : Env} {Q : Out × Env → Prop} : Ok (xDefK n perm F c2 env) Q = Ok (c2 env) fun b => b.1.length = n ∧ Ok (takeB (perm.map fun i => b.1.getD i (.inl .non)) b.2) fun t => Ok (F t.1) fun r => Q (r.1, giveB (perm.map fun i => b.1.getD i (.inl .non)) t.1 r.2 t.2) := by
  unfold xDefK
  rw [ok_bind]
  refine ok_cg fun b => ?_
  rw [ok_ite]
  by_cases h : b.1.length = n
  · rw [if_pos h, ok_bind]
    simp only [h, true_and]
    refine ok_cg fun t => ?_
    rw [ok_map]
  · rw [if_neg h]; exact propext ⟨fun ⟨_, e, _⟩ => (nomatch e), fun z => absurd z.1 h⟩
end DL

set_option maxHeartbeats 4000000
/-! DL, part xi: a table written out; order of alike data -/
namespace DL
open PySem PySem.Spec PyProof.Rows L2
/-! ### a <= b of alike data -/
def rLeD (K : PySem.W.Frag) : R2 := fun x y H Q => ∃ d e, Dp K H x d ∧ Dp K H y e ∧ PySem.W.alike d e = true ∧ d ≠ .none ∧ d.depth ≤ 20 ∧ Q (.bl (!PySem.W.dataLt e d)) H
theorem op_leDA {X : Cx} (hu : X.A.units + 64 < cLine) : OpR X (compareOp .LtE) (rLeD X.K) := by
  intro pins s σ H x y v u Q I rx ry h
  obtain ⟨d, e, hd, he, al, nn, dp, q⟩ := h
  obtain ⟨as, r1⟩ := Dp.reads I d x v hd rx
  obtain ⟨bs, r2⟩ := Dp.reads I e y u he ry
  exact PySem.W.le_data r1 r2 al nn (by omega) ⟨.bl _, H, I, rfl, q⟩
def notNon : PyData → Bool
  | .none => false
  | _ => true
def dLeX (a b : D) : Option D := match dLe a b with
  | some r => some r
  | none => if nodic a = true ∧ nodic b = true ∧ PySem.W.alike (py a) (py b) = true ∧ notNon (py a) = true ∧ (py a).depth ≤ 20 then some (.bl (!PySem.W.dataLt (py b) (py a))) else none
theorem o_leX {X : Cx} (hu : X.A.units + 64 < cLine) : O2 true X (compareOp .LtE) dLeX := by
  obtain ⟨r, hr, ho⟩ := o_le (X := X)
  refine ⟨_, hr.or (op_leDA hu), fun H x y dx dy d fx fy hx hy hg Q q => ?_⟩
  unfold dLeX at hg
  split at hg
  · rename_i r0 h0
    cases hg
    exact .inl (ho H x y dx dy _ fx fy hx hy h0 Q q)
  · split at hg
    · rename_i h0 hs
      cases hg
      exact .inr ⟨_, _, RO.dp _ _ _ hx hs.1, RO.dp _ _ _ hy hs.2.1, hs.2.2.1, (fun e => by have h5 := hs.2.2.2.1; rw [e] at h5; cases h5), hs.2.2.2.2, q.bl⟩
    · cases hg
theorem leX_int {i j : Int} : dLeX (.int i) (.int j) = some (.bl (decide (i ≤ j))) := rfl
/-! ### {k: v, ..} -/
def pairsP : List (PSm × PSm) → Env → Option (List (Key × D))
  | [], _ => some []
  | (k, v) :: r, env => (k env).bind fun kd => (kD kd).bind fun j => (v env).bind fun d => if isImm d = true then (pairsP r env).map fun ps => (j, d) :: ps else none
def putY (a : List Key × List D) (p : Key × D) : List Key × List D := match getZ a.1 a.2 p.1 with
  | none => (a.1 ++ [p.1], a.2 ++ [p.2])
  | some _ => (a.1, setZ a.1 a.2 p.1 p.2)
def pDisp (kvs : List (PSm × PSm)) : PSm := fun env => (pairsP kvs env).bind fun ps => if ps.length ≤ 15 then some (.dcK false (ps.foldl putY ([], [])).1 (ps.foldl putY ([], [])).2) else none
def DPs (X : Cx) (pos : Pos) (keys : List (Option Expr)) (values : List Expr) (kvs : List (PSm × PSm)) : Prop := ∃ trs, PPs X pos keys values trs ∧ ∀ (σ : L2.St) (H : Hp) (env : Env) (fp : List Addr) (ps : List (Key × D)), SR X.K H env σ fp → fp.Nodup → pairsP kvs env = some ps →
  ∀ Q : List (V × V) → Hp → Prop, (∀ xs H', Same H H' → RIs X.K H' (ps.map (·.2)) xs → Q ((ps.map fun p => kV p.1).zip xs) H') → tPairs trs σ H Q
section
variable {X : Cx} {pos : Pos}
theorem dps_nil : DPs X pos [] [] [] := ⟨[], pps_nil, fun σ H env fp ps s nd h Q q => by
  cases h
  exact q [] H (Same.refl H) rfl⟩
theorem dps_cons {k v : Expr} {ks : List (Option Expr)} {vs : List Expr} {fk fv : PSm} {kvs : List (PSm × PSm)} (hk : DB false X k fk) (hv : DB false X v fv) (hr : DPs X pos ks vs kvs) : DPs X pos (some k :: ks) (v :: vs) ((fk, fv) :: kvs) := by
  obtain ⟨tk, pk, hk⟩ := hk
  obtain ⟨tv, pv, hv⟩ := hv
  obtain ⟨trs, pp, hr⟩ := hr
  refine ⟨_, pps_cons pk pv pp, fun σ H env fp ps s nd h Q q => ?_⟩
  obtain ⟨kd, e1, h⟩ := Option.bind_eq_some_iff.mp h
  obtain ⟨j, e2, h⟩ := Option.bind_eq_some_iff.mp h
  obtain ⟨d, e3, h⟩ := Option.bind_eq_some_iff.mp h
  by_cases hi : isImm d = true
  case neg => rw [if_neg hi] at h; cases h
  rw [if_pos hi] at h
  obtain ⟨ps', e4, e5⟩ := Option.map_eq_some_iff.mp h
  subst e5
  refine hk σ H env fp kd s nd e1 _ fun x H1 f1 s1 r1 _ => ?_
  refine hv σ H1 env fp d (s.same s1) nd e3 _ fun y H2 f2 s2 r2 _ => ?_
  refine hr σ H2 env fp ps' ((s.same s1).same s2) nd e4 _ fun xs H3 s3 r3 => ?_
  have hx := RO.kD r1 e2
  obtain ⟨_, ry⟩ := RO.imm r2 hi
  have z := q (y :: xs) H3 ((s1.trans s2).trans s3) ⟨y, xs, rfl, RI.mono (.of_same s3) _ _ ry, r3⟩
  rw [hx]
  exact z
theorem RIs.setZ {K : PySem.W.Frag} {H : Hp} {j : Key} {d : D} {x : V} (r : RI K H d x) : ∀ {ks : List Key} {ds : List D} {xs : List V}, RIs K H ds xs → RIs K H (DL.setZ ks ds j d) (DL.setZ ks xs j x)
  | [], ds, xs, h => by cases ds <;> cases xs <;> exact h
  | k :: ks, [], xs, h => by rw [show xs = [] from h]; rfl
  | k :: ks, d0 :: ds, _, ⟨y, ys, h1, h2, h3⟩ => by
    subst h1
    by_cases e : k = j
    · simp only [DL.setZ, if_pos e]
      exact ⟨x, _, rfl, r, h3.setZ r⟩
    · simp only [DL.setZ, if_neg e]
      exact ⟨y, _, rfl, h2, h3.setZ r⟩
theorem merge_put {K : PySem.W.Frag} {H : Hp} : ∀ {ps : List (Key × D)} {xs : List V} {ks : List Key} {ds : List D} {ys : List V}, RIs K H (ps.map (·.2)) xs → RIs K H ds ys → ks.length = ys.length →
    ∃ zs, mergeK (ks.zip ys) ((ps.map (·.1)).zip xs) = (ps.foldl putY (ks, ds)).1.zip zs ∧ (ps.foldl putY (ks, ds)).1.length = zs.length ∧ RIs K H (ps.foldl putY (ks, ds)).2 zs
  | [], xs, ks, ds, ys, h, h2, hl => ⟨ys, by cases xs <;> rfl, hl, h2⟩
  | p :: ps, xs, ks, ds, ys, h, h2, hl => by
    obtain ⟨x, xs', rfl, hx, hxs⟩ := h
    have h2o := h2.ros
    show ∃ zs, mergeK (putK (ks.zip ys) p.1 x) ((ps.map (·.1)).zip xs') = (ps.foldl putY (putY (ks, ds) p)).1.zip zs ∧ (ps.foldl putY (putY (ks, ds) p)).1.length = zs.length ∧ RIs K H (ps.foldl putY (putY (ks, ds) p)).2 zs
    cases hg : getZ ks ds p.1 with
    | none =>
      have hg' := h2o.getZ_none hg
      have e : putY (ks, ds) p = (ks ++ [p.1], ds ++ [p.2]) := by unfold putY; rw [hg]
      rw [e, putK_fresh hl hg']
      refine merge_put hxs ?_ (by simp [hl])
      exact RIs.app h2 ⟨x, [], rfl, hx, rfl⟩
    | some d0 =>
      obtain ⟨x0, hx0, _⟩ := h2.getZ hg
      have e : putY (ks, ds) p = (ks, setZ ks ds p.1 p.2) := by unfold putY; rw [hg]
      rw [e, putK_old (by rw [hx0]; rfl)]
      refine merge_put hxs (h2.setZ hx) (by rw [setZ_len]; exact hl)
theorem db_disp {keys : List (Option Expr)} {values : List Expr} {kvs : List (PSm × PSm)} (h : DPs X pos keys values kvs) (hall : keys.all (·.isSome) = true := by rfl) (hl : keys.length = values.length := by rfl) (h0 : keys ≠ [] := by simp)
    (h15 : keys.length ≤ 15 := by decide) : DB true X (.Dict keys values pos) (pDisp kvs) := by
  obtain ⟨trs, pp, h⟩ := h
  refine ⟨_, pe_disp pp hall hl h0 h15, fun σ H env fp d s nd hf Q q => ?_⟩
  obtain ⟨ps, e1, hf⟩ := Option.bind_eq_some_iff.mp hf
  split at hf
  case isFalse => cases hf
  rename_i h15'
  cases hf
  intro p hp
  have sm : Same H (upd H p (.dK [])) := same_new hp
  refine h σ _ env fp ps (s.same sm) nd e1 _ fun xs H2 s2 r2 => ?_
  refine ⟨s2 _ _ upd_same, (ps.map (·.1)).zip xs, ?_, ?_, ?_⟩
  · have : ps.map (fun p => kV p.1) = (ps.map (·.1)).map kV := by rw [List.map_map]; rfl
    rw [this, List.zip_map_left]
    refine List.map_congr_left fun a _ => ?_
    rfl
  · rw [List.length_zip, List.length_map]; omega
  · obtain ⟨zs, z1, z2, z3⟩ := merge_put (ks := []) (ds := []) (ys := []) r2 rfl rfl
    have e2 : mergeK [] ((ps.map (·.1)).zip xs) = (ps.foldl putY ([], [])).1.zip zs := z1
    rw [e2]
    have h2p : H2 p = some (.dK []) := s2 _ _ upd_same
    have im : ImmExt H2 (upd H2 p (.dK ((ps.foldl putY ([], [])).1.zip zs))) := upd_im h2p trivial
    refine q (.ref p) _ [p] ?_ (.inr ⟨rfl, p, zs, [], rfl, rfl, upd_same, z2, (RIs.mono im _ _ z3).ros⟩) fun _ => .one hp
    intro a u ha
    have hap : a ≠ p := fun e => by rw [e, hp] at ha; cases ha
    rw [upd_ne hap]
    exact s2 _ _ (sm _ _ ha)
end
abbrev dpNil : List (PSm × PSm) := []
abbrev dpCons (k v : PSm) (r : List (PSm × PSm)) : List (PSm × PSm) := (k, v) :: r
section
variable {env : Env} {k v : PSm} {r : List (PSm × PSm)}
theorem w_pDisp {Q : D → Prop} : Ok (pDisp r env) Q = Ok (pairsP r env) fun ps => ps.length ≤ 15 ∧ Q (.dcK false (ps.foldl putY ([], [])).1 (ps.foldl putY ([], [])).2) := by
  unfold pDisp
  rw [ok_bind]
  refine ok_cg fun ps => ?_
  by_cases h : ps.length ≤ 15
  · rw [if_pos h, ok_some]; simp [h]
  · rw [if_neg h]; exact propext ⟨fun ⟨_, e, _⟩ => (nomatch e), fun z => absurd z.1 h⟩
theorem p_dpNil {Q : List (Key × D) → Prop} : Ok (pairsP dpNil env) Q = Q [] := ok_some
theorem p_dpCons {Q : List (Key × D) → Prop} : Ok (pairsP (dpCons k v r) env) Q = Ok (k env) fun kd => Ok (kD kd) fun j => Ok (v env) fun d => isImm d = true ∧ Ok (pairsP r env) fun ps => Q ((j, d) :: ps) := by
  show Ok ((k env).bind _) Q = _
  rw [ok_bind]; refine ok_cg fun kd => ?_
  rw [ok_bind]; refine ok_cg fun j => ?_
  rw [ok_bind]; refine ok_cg fun d => ?_
  by_cases h : isImm d = true
  · rw [if_pos h, ok_map]; simp [h]
  · rw [if_neg h]; exact propext ⟨fun ⟨_, e, _⟩ => (nomatch e), fun z => absurd z.1 h⟩
theorem kd_int {i : Int} : kD (.int i) = some (.inl i) := rfl
theorem kd_str {s : Str} : kD (.str s) = some (.inr s) := rfl
end
end DL

set_option maxHeartbeats 4000000
/-! DL, part xj: max, min of three; zip of a tuple and a list -/
namespace DL
open PySem PySem.Spec PyProof.Rows L2
/-! ### three numbers -/
def gMax3 : List D → Option D
  | [.int i, .int j, .int k] => some (.int (if (if i < j then j else i) < k then k else (if i < j then j else i)))
  | _ => none
def gMin3 : List D → Option D
  | [.int i, .int j, .int k] => some (.int (if k < (if j < i then j else i) then k else (if j < i then j else i)))
  | _ => none
theorem three_nu {i j k : Int} : nuMax3 (.int i) (.int j) (.int k) = some (.int (if (if i < j then j else i) < k then k else (if i < j then j else i))) := by
  by_cases c : i < j
  · by_cases e : j < k <;> simp [nuMax3, nuMax2, nuLt, nuCB, c, e]
  · by_cases e : i < k <;> simp [nuMax3, nuMax2, nuLt, nuCB, c, e]
theorem three_nuM {i j k : Int} : nuMin3 (.int i) (.int j) (.int k) = some (.int (if k < (if j < i then j else i) then k else (if j < i then j else i))) := by
  by_cases c : j < i
  · by_cases e : k < j <;> simp [nuMin3, nuMin2, nuLt, nuCB, c, e]
  · by_cases e : k < i <;> simp [nuMin3, nuMin2, nuLt, nuCB, c, e]
theorem c_max3 {X : Cx} (hc : X.calm = true) : OC true X (.builtin "max") gMax3 := by
  refine ⟨_, call_max3Nu hc, fun H vs ds fp d hv hg Q q => ?_⟩
  unfold gMax3 at hg
  split at hg
  · cases hg
    obtain ⟨v, w, u, f, g, k, rfl, r1, r2, r3⟩ := ROs.three hv
    exact ⟨_, _, _, _, by rw [r1.2, r2.2, r3.2], three_nu, q.int⟩
  · cases hg
theorem c_min3 {X : Cx} (hc : X.calm = true) : OC true X (.builtin "min") gMin3 := by
  refine ⟨_, call_min3Nu hc, fun H vs ds fp d hv hg Q q => ?_⟩
  unfold gMin3 at hg
  split at hg
  · cases hg
    obtain ⟨v, w, u, f, g, k, rfl, r1, r2, r3⟩ := ROs.three hv
    exact ⟨_, _, _, _, by rw [r1.2, r2.2, r3.2], three_nuM, q.int⟩
  · cases hg
theorem g_max3 {i j k : Int} : gMax3 [.int i, .int j, .int k] = some (.int (if (if i < j then j else i) < k then k else (if i < j then j else i))) := rfl
theorem g_min3 {i j k : Int} : gMin3 [.int i, .int j, .int k] = some (.int (if k < (if j < i then j else i) then k else (if j < i then j else i))) := rfl
/-! ### zip of a tuple and a list: the walker's two iterators, each of either kind -/
def ItAt (b : Bool) (h : Heap) (it l : Addr) (i : Nat) : Prop := cond b (h.IsTupleIter it l i) (h.IsListIter it l i)
def SqAt (b : Bool) (h : Heap) (l : Addr) (xs : Array Value) : Prop := cond b (h.IsTuple l xs) (h.IsList l xs)
theorem ItAt.ext {b : Bool} {h h' : Heap} {c it l : Addr} {i : Nat} (x : ItAt b h it l i) (e : Heap.ExtBut c h h') (n : it ≠ c) : ItAt b h' it l i := by
  cases b
  · exact Heap.IsListIter.extBut x e n
  · exact Heap.IsTupleIter.extBut x e n
theorem SqAt.ext {b : Bool} {h h' : Heap} {c l : Addr} {xs : Array Value} (x : SqAt b h l xs) (e : Heap.ExtBut c h h') (n : l ≠ c) : SqAt b h' l xs := by
  cases b
  · exact Heap.IsList.extBut x e n
  · exact Heap.IsTuple.extBut x e n
theorem ItAt.kept {b : Bool} {h h' : Heap} {it l : Addr} {i : Nat} (x : ItAt b h it l i) (e : ∀ o, h.get? it = some o → h'.get? it = some o) : ItAt b h' it l i := by
  cases b
  · exact Heap.IsListIter.at x e
  · exact Heap.IsTupleIter.at x e
section
variable {prog : Program} {w : World} {A : Around} {E : Value → Shared → Prop} {s : Shared}
theorem ItAt.item {b : Bool} {it l : Addr} {i : Nat} {xs : Array Value} {x : Value} {Q : Value → Shared → Prop} (hi : ItAt b s.heap it l i) (hl : SqAt b s.heap l xs) (hx : xs[i]? = some x)
    (q : ∀ h', ItAt b h' it l (i + 1) → Heap.SameBut it s.heap h' → Q x { s with heap := h' }) : wpAny (model prog w) A (Builtin.SmallTypes.nextOf (.ref it)) Q E s := by
  cases b
  · exact wpAny_nextOf_list_item hi hl hx q
  · exact RZ.nextOf_tuple_item hi hl hx q
theorem ItAt.stop {b : Bool} {it l : Addr} {i : Nat} {xs : Array Value} {Q : Value → Shared → Prop} (hh : A.handled = none) (hi : ItAt b s.heap it l i) (hl : SqAt b s.heap l xs) (hx : xs[i]? = none)
    (q : ∀ h' e, Heap.ExtBut it s.heap h' → (∃ o, h'.get? e = some o ∧ o.cls = .type "StopIteration") → E (.ref e) { s with heap := h' }) : wpAny (model prog w) A (Builtin.SmallTypes.nextOf (.ref it)) Q E s := by
  cases b
  · exact wpAny_nextOf_list_end hh hi hl hx q
  · exact RZ.nextOf_tuple_end hh hi hl hx q
/-- what a turn keeps of the walker's own five objects, and of all others -/
def ZSt (b1 b2 : Bool) (h : Heap) (z TI TO i1 i2 l1 l2 : Addr) (k : Nat) : Prop := IsZip h z TI TO .none ∧ IsPair h TI (.ref i1) (.ref i2) ∧ (∃ x y, IsPair h TO x y) ∧ ItAt b1 h i1 l1 k ∧ ItAt b2 h i2 l2 k
theorem zst_item {b1 b2 : Bool} {z TI TO i1 i2 l1 l2 : Addr} {k : Nat} {xs ys : Array Value} {x y : Value} {Q : Value → Shared → Prop} (D : ZipApart z TI TO i1 i2 l1 l2) (st : ZSt b1 b2 s.heap z TI TO i1 i2 l1 l2 k)
    (hl1 : SqAt b1 s.heap l1 xs) (hl2 : SqAt b2 s.heap l2 ys) (hx : xs[k]? = some x) (hy : ys[k]? = some y)
    (hQ : ∀ h', IsZip h' z TI TO (rawInt s.heap.objs.size) → IsPair h' TO x y → ItAt b1 h' i1 l1 (k + 1) → ItAt b2 h' i2 l2 (k + 1) → IsPair h' s.heap.objs.size x y → h'.objs.size = s.heap.objs.size + 1 →
      (∀ c o, c ≠ z → c ≠ TO → c ≠ i1 → c ≠ i2 → s.heap.get? c = some o → h'.get? c = some o) → Q (.ref s.heap.objs.size) { s with heap := h' }) :
    wpAny (model prog w) A (Builtin.«zip.__next__» ⟨[.ref z], []⟩) (fun fin s' => ∃ v, fin = .done (.ret v) ∧ Q v s') E s := by
  obtain ⟨hz, hTI, ⟨a, b, hTO⟩, h1, h2⟩ := st
  show wpAny _ _ (field (.ref z) 2 >>= _) _ _ _; refine wpAny_bind (wpAny_field hz rfl (x := .bool false) rfl ?_); show wpAny _ _ (field (.ref z) 3 >>= _) _ _ _
  refine wpAny_bind (wpAny_field hz rfl (x := .ref TI) rfl (wpAny_bind (wpAny_seqItems hTI rfl ?_))); show wpAny _ _ (Builtin.SmallTypes.ownedTupleIsFree (.ref z) >>= _) _ _ _
  refine wpAny_bind ?_; unfold Builtin.SmallTypes.ownedTupleIsFree; refine wpAny_bind (wpAny_field hz rfl (x := .none) rfl (wpAny_pure ?_)); simp only [if_true]
  refine wpAny_bind (wpAny_rule (wpAny_bind (wpAny_field hz rfl (x := .ref TO) rfl (wpAny_bind (wpAny_setField_rec hz (by simp) fun g1 z1 e1 => ?_)))))
  have z1 : IsZip g1 z TI TO .ellipsis := z1
  refine wpAny_bind ?_; simp only [List.zipIdx_cons, List.zipIdx_nil, List.forIn_cons, List.forIn_nil]
  refine wpAny_bind (wpAny_bind (wpAny_onRaise ?_)); show wpAny _ _ (Builtin.SmallTypes.nextOf (.ref i1) >>= _) _ _ _
  refine wpAny_bind ((h1.ext e1.extBut D.i1z).item (hl1.ext e1.extBut D.l1z) hx fun g2 n1 e2 => wpAny_pure ?_)
  have t2 : IsPair g2 TO a b := e2.extBut _ _ D.TOi1 (e1.extBut _ _ D.TOz hTO)
  refine wpAny_bind (wpAny_seqItems t2 rfl (wpAny_bind (wpAny_updateSeq_pair t2 fun g3 t3 e3 => ?_)))
  have t3 : IsPair g3 TO x b := t3
  refine wpAny_bind (wpAny_letGo (wpAny_pure (wpAny_bind (wpAny_bind (wpAny_onRaise ?_))))); show wpAny _ _ (Builtin.SmallTypes.nextOf (.ref i2) >>= _) _ _ _
  refine wpAny_bind ((((h2.ext e1.extBut D.i2z).ext e2.extBut D.i12.symm).ext e3.extBut D.TOi2.symm).item (((hl2.ext e1.extBut D.l2z).ext e2.extBut D.l2i1).ext e3.extBut D.l2TO) hy fun g4 n2 e4 => wpAny_pure ?_)
  have t4 : IsPair g4 TO x b := e4.extBut _ _ D.TOi2 t3
  refine wpAny_bind (wpAny_seqItems t4 rfl (wpAny_bind (wpAny_updateSeq_pair t4 fun g5 t5 e5 => ?_)))
  have t5 : IsPair g5 TO x y := t5
  refine wpAny_bind (wpAny_letGo (wpAny_pure (wpAny_pure (wpAny_bind (wpAny_seqItems t5 rfl (wpAny_bind (wpAny_newTuple ?_)))))))
  have sz : g5.objs.size = s.heap.objs.size := by rw [e5.1, e4.1, e3.1, e2.1, e1.1]
  have z5 : IsZip g5 z TI TO .ellipsis := e5.extBut _ _ D.TOz.symm (e4.extBut _ _ D.i2z.symm (e3.extBut _ _ D.TOz.symm (e2.extBut _ _ D.i1z.symm z1)))
  have k5 : ∀ c o, c ≠ z → c ≠ TO → c ≠ i1 → c ≠ i2 → s.heap.get? c = some o → g5.get? c = some o := fun c o c1 c2 c3 c4 q => e5.extBut _ _ c2 (e4.extBut _ _ c4 (e3.extBut _ _ c2 (e2.extBut _ _ c3 (e1.extBut _ _ c1 q))))
  have n1 : ItAt b1 g5 i1 l1 (k + 1) := ((n1.ext e3.extBut D.TOi1.symm).ext e4.extBut D.i12).ext e5.extBut D.TOi1.symm
  have n2 : ItAt b2 g5 i2 l2 (k + 1) := n2.ext e5.extBut D.TOi2.symm
  have zl : z < g5.objs.size := Heap.lt_size z5
  show wpAny _ _ (Builtin.SmallTypes.ownedTupleHandOut (.ref z) (.ref g5.objs.size) >>= _) _ _ _; refine wpAny_bind ?_; unfold Builtin.SmallTypes.ownedTupleHandOut
  have z6 : IsZip (g5.push { cls := .type "tuple", data := .seq #[x, y] }) z TI TO .ellipsis := Heap.get?_push_of_some _ z5
  refine wpAny_bind (wpAny_setField_rec z6 (by simp) fun g7 z7 e7 => ?_)
  have z7 : IsZip g7 z TI TO (rawInt g5.objs.size) := z7
  refine wpAny_setField_rec z7 (by simp) fun g8 z8 e8 => ?_
  have z8 : IsZip g8 z TI TO (rawInt g5.objs.size) := z8
  have up : ∀ c o, c ≠ z → g5.get? c = some o → g8.get? c = some o := fun c o c1 q => e8.extBut _ _ c1 (e7.extBut _ _ c1 (Heap.get?_push_of_some _ q))
  have t8 : IsPair g8 g5.objs.size x y := e8.extBut _ _ (Nat.ne_of_gt zl) (e7.extBut _ _ (Nat.ne_of_gt zl) (Heap.get?_push_size _ rfl))
  have s8 : g8.objs.size = g5.objs.size + 1 := by rw [e8.1, e7.1, Heap.size_push]
  rw [sz] at z8 t8 s8
  refine wpAny_pure ⟨_, rfl, ?_⟩; show Q (.ref g5.objs.size) _; rw [sz]
  exact hQ g8 z8 (up _ _ D.TOz t5) (n1.kept fun o q => up _ o D.i1z q) (n2.kept fun o q => up _ o D.i2z q) t8 s8 fun c o c1 c2 c3 c4 q => up c o c1 (k5 c o c1 c2 c3 c4 q)
theorem zst_stop {b1 b2 : Bool} {z TI TO i1 i2 l1 l2 : Addr} {k : Nat} {xs ys : Array Value} {Q : Fin → Shared → Prop} (hh : A.handled = none) (D : ZipApart z TI TO i1 i2 l1 l2) (st : ZSt b1 b2 s.heap z TI TO i1 i2 l1 l2 k)
    (hl1 : SqAt b1 s.heap l1 xs) (hl2 : SqAt b2 s.heap l2 ys) (hend : xs[k]? = none ∨ ys[k]? = none)
    (hE : ∀ h' e, (∀ c o, c ≠ z → c ≠ TO → c ≠ i1 → c ≠ i2 → s.heap.get? c = some o → h'.get? c = some o) → (∃ o, h'.get? e = some o ∧ o.cls = .type "StopIteration") → E (.ref e) { s with heap := h' }) :
    wpAny (model prog w) A (Builtin.«zip.__next__» ⟨[.ref z], []⟩) Q E s := by
  obtain ⟨hz, hTI, ⟨a, b, hTO⟩, h1, h2⟩ := st
  show wpAny _ _ (field (.ref z) 2 >>= _) _ _ _; refine wpAny_bind (wpAny_field hz rfl (x := .bool false) rfl ?_); show wpAny _ _ (field (.ref z) 3 >>= _) _ _ _
  refine wpAny_bind (wpAny_field hz rfl (x := .ref TI) rfl (wpAny_bind (wpAny_seqItems hTI rfl ?_))); show wpAny _ _ (Builtin.SmallTypes.ownedTupleIsFree (.ref z) >>= _) _ _ _
  refine wpAny_bind ?_; unfold Builtin.SmallTypes.ownedTupleIsFree; refine wpAny_bind (wpAny_field hz rfl (x := .none) rfl (wpAny_pure ?_)); simp only [if_true]
  refine wpAny_bind (wpAny_rule (wpAny_bind (wpAny_field hz rfl (x := .ref TO) rfl (wpAny_bind (wpAny_setField_rec hz (by simp) fun g1 z1 e1 => ?_)))))
  have z1 : IsZip g1 z TI TO .ellipsis := z1
  refine wpAny_bind ?_; simp only [List.zipIdx_cons, List.zipIdx_nil, List.forIn_cons, List.forIn_nil]
  refine wpAny_bind (wpAny_bind (wpAny_onRaise ?_)); show wpAny _ _ (Builtin.SmallTypes.nextOf (.ref i1) >>= _) _ _ _
  cases hx : xs[k]? with
  | none =>
    refine wpAny_bind ((h1.ext e1.extBut D.i1z).stop hh (hl1.ext e1.extBut D.l1z) hx fun g2 e x2 he => ?_)
    obtain ⟨oe, hoe, hce⟩ := he
    have z2 : IsZip g2 z TI TO .ellipsis := x2 _ _ D.i1z.symm z1
    have ez : e ≠ z := fun q => by rw [q, z2] at hoe; cases hoe; simp at hce
    exact wpAny_setField_rec z2 (by simp) fun g3 _ e3 => hE g3 e (fun c o c1 _ c3 _ q => e3.extBut _ _ c1 (x2 _ _ c3 (e1.extBut _ _ c1 q))) ⟨oe, e3.extBut _ _ ez hoe, hce⟩
  | some x =>
    have hy : ys[k]? = none := hend.resolve_left (by rw [hx]; simp)
    refine wpAny_bind ((h1.ext e1.extBut D.i1z).item (hl1.ext e1.extBut D.l1z) hx fun g2 n1 e2 => wpAny_pure ?_)
    have t2 : IsPair g2 TO a b := e2.extBut _ _ D.TOi1 (e1.extBut _ _ D.TOz hTO)
    refine wpAny_bind (wpAny_seqItems t2 rfl (wpAny_bind (wpAny_updateSeq_pair t2 fun g3 t3 e3 => ?_)))
    refine wpAny_bind (wpAny_letGo (wpAny_pure (wpAny_bind (wpAny_bind (wpAny_onRaise ?_))))); show wpAny _ _ (Builtin.SmallTypes.nextOf (.ref i2) >>= _) _ _ _
    refine wpAny_bind ((((h2.ext e1.extBut D.i2z).ext e2.extBut D.i12.symm).ext e3.extBut D.TOi2.symm).stop hh (((hl2.ext e1.extBut D.l2z).ext e2.extBut D.l2i1).ext e3.extBut D.l2TO) hy fun g4 e x4 he => ?_)
    obtain ⟨oe, hoe, hce⟩ := he
    have z4 : IsZip g4 z TI TO .ellipsis := x4 _ _ D.i2z.symm (e3.extBut _ _ D.TOz.symm (e2.extBut _ _ D.i1z.symm z1))
    have ez : e ≠ z := fun q => by rw [q, z4] at hoe; cases hoe; simp at hce
    exact wpAny_setField_rec z4 (by simp) fun g5 _ e5 => hE g5 e (fun c o c1 c2 c3 c4 q => e5.extBut _ _ c1 (x4 _ _ c4 (e3.extBut _ _ c2 (e2.extBut _ _ c3 (e1.extBut _ _ c1 q))))) ⟨oe, e5.extBut _ _ ez hoe, hce⟩
theorem zst_next {b1 b2 : Bool} {z TI TO i1 i2 l1 l2 : Addr} {k : Nat} {xs ys : Array Value} {x y : Value} {Q : Option Value → Shared → Prop} (D : ZipApart z TI TO i1 i2 l1 l2) (st : ZSt b1 b2 s.heap z TI TO i1 i2 l1 l2 k)
    (hl1 : SqAt b1 s.heap l1 xs) (hl2 : SqAt b2 s.heap l2 ys) (hx : xs[k]? = some x) (hy : ys[k]? = some y)
    (hQ : ∀ h', IsZip h' z TI TO (rawInt s.heap.objs.size) → IsPair h' TO x y → ItAt b1 h' i1 l1 (k + 1) → ItAt b2 h' i2 l2 (k + 1) → IsPair h' s.heap.objs.size x y → h'.objs.size = s.heap.objs.size + 1 →
      (∀ c o, c ≠ z → c ≠ TO → c ≠ i1 → c ≠ i2 → s.heap.get? c = some o → h'.get? c = some o) → Q (some (.ref s.heap.objs.size)) { s with heap := h' }) :
    wpAny (model prog w) A (pyNext (.ref z)) Q E s := by
  have ty : s.TypeIs (.ref z) "zip" := ⟨_, st.1, rfl⟩
  unfold pyNext
  exact wpAny_bind (wpAny_attempt (wpAny_callSpecial?_slot (name := Str.ofString "__next__") ty F.slot_zip_next (wpAny_call_entry F.slot_zip_next ty F.entry_zip_next
    (zst_item D st hl1 hl2 hx hy fun h' a1 a2 a3 a4 a5 a6 a7 => wpAny_pure (hQ h' a1 a2 a3 a4 a5 a6 a7)) (F.args_zip_next_1 _))))
theorem zst_done {b1 b2 : Bool} {z TI TO i1 i2 l1 l2 : Addr} {k : Nat} {xs ys : Array Value} {Q : Option Value → Shared → Prop} (hh : A.handled = none) (D : ZipApart z TI TO i1 i2 l1 l2) (st : ZSt b1 b2 s.heap z TI TO i1 i2 l1 l2 k)
    (hl1 : SqAt b1 s.heap l1 xs) (hl2 : SqAt b2 s.heap l2 ys) (hend : xs[k]? = none ∨ ys[k]? = none)
    (hQ : ∀ h', (∀ c o, c ≠ z → c ≠ TO → c ≠ i1 → c ≠ i2 → s.heap.get? c = some o → h'.get? c = some o) → Q none { s with heap := h' }) : wpAny (model prog w) A (pyNext (.ref z)) Q E s := by
  have ty : s.TypeIs (.ref z) "zip" := ⟨_, st.1, rfl⟩
  unfold pyNext
  refine wpAny_bind (wpAny_attempt (wpAny_callSpecial?_slot (name := Str.ofString "__next__") ty F.slot_zip_next (wpAny_call_entry F.slot_zip_next ty F.entry_zip_next
    (zst_stop hh D st hl1 hl2 hend fun h' e hk ⟨o, ho, hc⟩ => wpAny_bind (wpAny_isInstance (T := "StopIteration") (b := true) ⟨o, ho, hc⟩ isSubtype_stop (wpAny_pure (hQ _ hk)))) (F.args_zip_next_1 _))))
end
/-- what zip(tuple, list) lays -/
abbrev zm1 (h : Heap) (l1 : Addr) : Heap := h.push { cls := .type "tuple_iterator", data := .fields #[.ref l1, .int 0 0] }
abbrev zm2 (h : Heap) (l1 l2 : Addr) : Heap := (zm1 h l1).push { cls := .type "list_iterator", data := .fields #[.ref l2, .int 0 0] }
abbrev zm3 (h : Heap) (l1 l2 : Addr) : Heap := (zm2 h l1 l2).push { cls := .type "tuple", data := .seq #[.ref h.objs.size, .ref (zm1 h l1).objs.size] }
abbrev zm4 (h : Heap) (l1 l2 : Addr) : Heap := (zm3 h l1 l2).push { cls := .type "tuple", data := .seq #[.none, .none] }
abbrev zm5 (h : Heap) (l1 l2 : Addr) : Heap := (zm4 h l1 l2).push { cls := .type "zip", data := .fields #[.none, .bool false, .bool false, .ref (zm2 h l1 l2).objs.size, .ref (zm3 h l1 l2).objs.size] }
theorem meets_zst (l1 l2 : Addr) (xs ys : Array Value) : Meets (Builtin.«zip.__new__» ⟨[.type "zip", .ref l1, .ref l2], []⟩) (fun _ R s => s.heap.IsTuple l1 xs ∧ s.heap.IsList l2 ys ∧ R (.ok (.ret (.ref (zm4 s.heap l1 l2).objs.size))) { s with heap := zm5 s.heap l1 l2 }) :=
  .of_wp fun prog w A R s h => by
    obtain ⟨hp, g, d, tk, os⟩ := s; obtain ⟨hl1, hl2, h⟩ := h
    have hsub := sub_zip
    have q1 : Heap.IsTuple (Shared.heap ⟨hp, g, d, tk, os⟩) l1 xs := hl1
    have q2 : Heap.IsList (Shared.heap ⟨hp.push { cls := .type "tuple_iterator", data := .fields #[.ref l1, .int 0 0] }, g, d, tk, os⟩) l2 ys := Heap.IsList.push hl2 _
    wp_walk using wpAny_pyIter_tuple q1, wpAny_pyIter_list q2
    exact ⟨_, rfl, h⟩
theorem call_zst {prog : Program} {w : World} {A : Around} {E : Value → Shared → Prop} {s : Shared} {l1 l2 : Addr} {xs ys : Array Value} {Q : Value → Shared → Prop} (hl1 : s.heap.IsTuple l1 xs) (hl2 : s.heap.IsList l2 ys)
    (h : ∀ h', ZSt true false h' (s.heap.objs.size + 4) (s.heap.objs.size + 2) (s.heap.objs.size + 3) s.heap.objs.size (s.heap.objs.size + 1) l1 l2 0 → (∀ c o, s.heap.get? c = some o → h'.get? c = some o) → Q (.ref (s.heap.objs.size + 4)) { s with heap := h' }) :
    wpAny (model prog w) A (call (.type "zip") [.ref l1, .ref l2]) Q E s := by
  refine callType_new F.called_zip (by decide) (F.typeCall_zip_2 _ _) (F.newCall_zip_2 _ _) (fun obj => F.args_object_init_3 obj _ _) F.entry_zip_new (meets_zst l1 l2 xs ys) ⟨hl1, hl2, ?_⟩
  have n1 : (zm1 s.heap l1).objs.size = s.heap.objs.size + 1 := Heap.size_push ..
  have n2 : (zm2 s.heap l1 l2).objs.size = s.heap.objs.size + 2 := by rw [Heap.size_push, n1]
  have n3 : (zm3 s.heap l1 l2).objs.size = s.heap.objs.size + 3 := by rw [Heap.size_push, n2]
  have n4 : (zm4 s.heap l1 l2).objs.size = s.heap.objs.size + 4 := by rw [Heap.size_push, n3]
  have up : ∀ {h : Heap} {o o' : Obj} {c : Addr}, h.get? c = some o → (h.push o').get? c = some o := fun e => Heap.get?_push_of_some _ e
  have g5 : (zm5 s.heap l1 l2).get? (zm4 s.heap l1 l2).objs.size = some _ := Heap.get?_push_size _ rfl
  have g4 : (zm5 s.heap l1 l2).get? (zm3 s.heap l1 l2).objs.size = some _ := up (Heap.get?_push_size _ rfl)
  have g3 : (zm5 s.heap l1 l2).get? (zm2 s.heap l1 l2).objs.size = some _ := up (up (Heap.get?_push_size _ rfl))
  have g2 : (zm5 s.heap l1 l2).get? (zm1 s.heap l1).objs.size = some _ := up (up (up (Heap.get?_push_size _ rfl)))
  have g1 : (zm5 s.heap l1 l2).get? s.heap.objs.size = some _ := up (up (up (up (Heap.get?_push_size _ rfl))))
  show _ ∧ _
  rw [n2, n3, n4] at g5; rw [n1, n2] at g3; rw [n3] at g4; rw [n1] at g2; rw [n4]
  exact ⟨⟨_, g5, rfl⟩, h _ ⟨g5, g3, ⟨_, _, g4⟩, ⟨_, g1, rfl, rfl⟩, ⟨_, g2, rfl, rfl⟩⟩ fun c o x => up (up (up (up (up x))))⟩
/-- the tuple at a, the list at b at each turn -/
def ItzM (K : PySem.W.Frag) (a b : Addr) : It :=
  ⟨fun i H => ∃ (xs ys : List V) (x y : V), SqT K H a xs ∧ SqL K H b ys ∧ xs[i]? = some x ∧ ys[i]? = some y,
    fun i H v H' => ∃ T x y, v = .ref T ∧ H T = none ∧ H' = upd H T (.tup [x, y]) ∧ (∀ xs, SqT K H a xs → xs[i]? = some x) ∧ ∀ ys, SqL K H b ys → ys[i]? = some y,
    fun i H => ∃ xs ys : List V, SqT K H a xs ∧ SqL K H b ys ∧ (xs.length ≤ i ∨ ys.length ≤ i)⟩
theorem turn_zipM {P : Program} {w : World} {K : PySem.W.Frag} {elts : List Expr} {kk : Nat} {tpos : Pos} {a b z TI TO i1 i2 : Addr} (D : ZipApart z TI TO i1 i2 a b) : Turn P w K (.Tuple elts kk tpos) (ItzM K a b) [z, TI, TO, i1, i2] z (fun i h => ZSt true false h z TI TO i1 i2 a b i) where
  mem := by simp
  obj := fun i h ⟨hz, hTI, ⟨x, y, hTO⟩, ⟨o1, e1, _, d1⟩, ⟨o2, e2, _, d2⟩⟩ c hc => by
    have e' : c = z ∨ c = TI ∨ c = TO ∨ c = i1 ∨ c = i2 := by simpa using hc
    rcases e' with q | q | q | q | q <;> rw [q]
    · exact ⟨_, hz, fun v q => nomatch q⟩
    · exact ⟨_, hTI, fun v q => nomatch q⟩
    · exact ⟨_, hTO, fun v q => nomatch q⟩
    · exact ⟨o1, e1, fun v q => by rw [d1] at q; cases q⟩
    · exact ⟨o2, e2, fun v q => by rw [d2] at q; cases q⟩
  keep := fun i h h' ⟨hz, hTI, ⟨x, y, hTO⟩, h1, h2⟩ k => ⟨k z (by simp) _ hz, k TI (by simp) _ hTI, ⟨x, y, k TO (by simp) _ hTO⟩, h1.kept fun o q => k i1 (by simp) o q, h2.kept fun o q => k i2 (by simp) o q⟩
  item := by
    intro X hP hw hK hc i pins s σ H E I hf st hg
    subst hP hw hK
    obtain ⟨xs, ys, x, y, hqx, hqy, hx, hy⟩ := hg
    obtain ⟨its, rv, p, _⟩ := I.tuple hqx
    obtain ⟨its2, rv2, p2, _⟩ := I.list hqy
    obtain ⟨u, hu, ru⟩ := rv.get hx
    obtain ⟨u2, hu2, ru2⟩ := rv2.get hy
    have ex : ∀ c, c ∈ [z, TI, TO, i1, i2] → c < s.heap.objs.size := fun c hcm => by
      obtain ⟨hz, hTI, ⟨x0, y0, hTO⟩, ⟨o1, e1, _⟩, ⟨o2, e2, _⟩⟩ := st
      have e' : c = z ∨ c = TI ∨ c = TO ∨ c = i1 ∨ c = i2 := by simpa using hcm
      rcases e' with q | q | q | q | q <;> rw [q]
      · exact Heap.lt_size hz
      · exact Heap.lt_size hTI
      · exact Heap.lt_size hTO
      · exact Heap.lt_size e1
      · exact Heap.lt_size e2
    have hTI := st.2.1
    refine zst_next D st (xs := its.toArray) (ys := its2.toArray) p p2.isList (x := u) (y := u2) (by simpa using hu) (by simpa using hu2) fun h' z' TO' n1 n2 hT hsz hk => ?_
    refine ⟨_, rfl, wpAny_letOwnedTupleGo_zip (s := { s with heap := h' }) z' fun h'' z'' sb => ?_⟩
    have hT2 : h''.get? s.heap.objs.size = some { cls := .type "tuple", data := .seq #[u, u2] } := (sb.2 _ (Nat.ne_of_gt (ex z (by simp)))).trans hT
    have new : ObjOk X.prog X.w (upd H s.heap.objs.size (.tup [x, y])) h'' s.heap.objs.size (.tup [x, y]) := ⟨by show 2 ≤ sizeLine; decide, [u, u2], .cons ru (.cons ru2 .nil), ⟨_, hT2, rfl, _, rfl⟩⟩
    have I1 : Inv X pins σ (upd H s.heap.objs.size (.tup [x, y])) { s with heap := h'' } := I.turnedNew (t' := s.toks) (ch := [z, TI, TO, i1, i2]) (fun c o hb q => (sb.2 c (fun q' => hb (by simp [q']))).trans (hk c o (fun q' => hb (by simp [q'])) (fun q' => hb (by simp [q'])) (fun q' => hb (by simp [q'])) (fun q' => hb (by simp [q'])) q)) hf (Nat.le_refl _) new
    refine ⟨.ref s.heap.objs.size, _, I1, rfl, ⟨_, x, y, rfl, I.hok.fresh (Nat.le_refl _), rfl, fun l hl => by rw [I.tuple_inj hl hqx]; exact hx, fun l hl => by rw [I.list_inj hl hqy]; exact hy⟩, ⟨z'', (sb.2 _ D.TIz).trans (hk _ _ D.TIz D.TITO D.TIi1 D.TIi2 hTI), ⟨u, u2, (sb.2 _ D.TOz).trans TO'⟩, n1.kept fun o q => (sb.2 _ D.i1z).trans q, n2.kept fun o q => (sb.2 _ D.i2z).trans q⟩, fun c hcm => ?_⟩
    rw [upd_ne (Nat.ne_of_lt (ex c hcm))]; exact (hf c hcm).1
  done := by
    intro X hP hw hK hc i pins s σ H E I hf st hg
    subst hP hw hK
    obtain ⟨xs, ys, hqx, hqy, hend⟩ := hg
    obtain ⟨its, rv, p, _⟩ := I.tuple hqx
    obtain ⟨its2, rv2, p2, _⟩ := I.list hqy
    have q1 := rv.length
    have q2 := rv2.length
    have he : its.toArray[i]? = none ∨ its2.toArray[i]? = none := hend.elim (fun q => .inl (by simp; omega)) fun q => .inr (by simp; omega)
    exact zst_done (I.ok.hd hc) D st (xs := its.toArray) (ys := its2.toArray) p p2.isList he fun h' hk => ⟨rfl, I.turnedL (t' := s.toks) (ch := [z, TI, TO, i1, i2]) (fun c o hb q => hk c o (fun q' => hb (by simp [q'])) (fun q' => hb (by simp [q'])) (fun q' => hb (by simp [q'])) (fun q' => hb (by simp [q'])) q) hf⟩
  self := fun A i s Q E st h => wpAny_pyIter_zip st.1 h
def iZipAM (K : PySem.W.Frag) (ta : TA) : TI := fun σ H R => ta σ H fun vs H1 => ∃ a b xs ys, vs = [.ref a, .ref b] ∧ SqT K H1 a xs ∧ SqL K H1 b ys ∧ R (ItzM K a b) H1
theorem pi_zipM {X : Cx} {e e2 : Expr} {ta : TA} {p pos tpos : Pos} {elts : List Expr} {kk : Nat} (hg : Gl X "zip") (hm : X.mg "zip" = none) (ha : PA X [e, e2] ta) (hs : starEach [e, e2] X.env = (false, eval e X.env) :: starEach [e2] X.env := by rfl)
    (hpl : (backTo pos (starEach [e2] X.env)).any (·.1) = false := by rfl) : PI X (.Tuple elts kk tpos) (.Call (.Name "zip" p) [e, e2] [] pos) (iZipAM X.K ta) := by
  refine ⟨fun pins s σ H R I h => ?_⟩
  refine Call_ (ld_blt I hg hm PyProof.Rows.boot_zip (PyProof.Rows.callWith_type1 (thn (ha.run pos pins s σ H _ I h) fun us s1 ⟨vs, H1, I1, r1, a, b, xs, ys, ex, hqx, hqy, q⟩ => ?_) hs hpl))
  subst ex
  obtain ⟨u, u', rfl, ra, rb⟩ := vals2 r1
  cases ra
  cases rb
  have fresh5 : ∀ c, c ∈ [s1.heap.objs.size + 4, s1.heap.objs.size + 2, s1.heap.objs.size + 3, s1.heap.objs.size, s1.heap.objs.size + 1] → FpOk X pins H1 c := fun c hcm => by
    have hle : s1.heap.objs.size ≤ c := by
      simp only [List.mem_cons, List.not_mem_nil, or_false] at hcm
      rcases hcm with z | z | z | z | z <;> rw [z] <;> first | exact Nat.le_add_right _ _ | exact Nat.le_refl _
    exact I1.fpOk hle (I1.hok.fresh hle)
  obtain ⟨its, rv, p1, _⟩ := I1.tuple hqx
  obtain ⟨its2, rv2, p2, _⟩ := I1.list hqy
  obtain ⟨o1, ho1, _⟩ := id p1
  refine call_zst (show s1.heap.IsTuple a its.toArray from p1) p2.isList fun h' st hk => wpAny_pyIter_zip st.1 ?_
  have I2 : Inv X pins σ H1 { s1 with heap := h' } := I1.kept (t' := s1.toks) hk
  exact ⟨s1.heap.objs.size + 4, [s1.heap.objs.size + 4, s1.heap.objs.size + 2, s1.heap.objs.size + 3, s1.heap.objs.size, s1.heap.objs.size + 1], _, _, H1, rfl, I2, turn_zipM (PySem.W.ktu_apart s1.heap.objs.size a b (Heap.lt_size ho1) p2.lt), st, fresh5, q⟩
theorem yl_zipM {K : PySem.W.Frag} {H : Hp} {a b : Addr} {ds es : List D} {xs ys : List V} (h : H a = some (.tup xs)) (r : RIs K H ds xs) (h' : FzL K H b ys) (r' : RIs K H es ys) : Yields K (ItzM K a b) (zipD ds es) H := fun H1 e => by
  refine ⟨fun i d hd => ?_, xs, ys, SqT.ext e h, FzL.ext e h', zip_len r r'⟩
  obtain ⟨d1, d2, h1, h2, rfl⟩ := zip_two hd
  obtain ⟨x, hx, rx⟩ := r.get h1
  obtain ⟨y, hy, ry⟩ := r'.get h2
  refine ⟨⟨xs, ys, x, y, SqT.ext e h, FzL.ext e h', hx, hy⟩, fun v H2 ⟨T, x', y', hv, hT, e2, hx', hy'⟩ => ?_⟩
  have q1 := hx' xs (SqT.ext e h)
  have q2 := hy' ys (FzL.ext e h')
  rw [hx] at q1; cases q1
  rw [hy] at q2; cases q2
  subst e2 hv
  exact ⟨same_new hT, pair_ri hT (RI.mono e d1 x rx) (RI.mono e d2 y ry)⟩
def iZipM (f : ASm) : ISm := fun env => (f env).bind fun r => match r.1 with
  | [.tup ds, .lst true es] => some (zipD ds es, r.2)
  | _ => none
theorem di_zipM {X : Cx} {p pos : Pos} {a b : Expr} {f : ASm} {elts : List Expr} {kk : Nat} {tpos : Pos} (hg : Gl X "zip") (hm : X.mg "zip" = none) (ha : DA X [a, b] f)
    (hs : starEach [a, b] X.env = (false, eval a X.env) :: starEach [b] X.env := by rfl) (hpl : (backTo pos (starEach [b] X.env)).any (·.1) = false := by rfl) :
    DI X (.Tuple elts kk tpos) (.Call (.Name "zip" p) [a, b] [] pos) (iZipM f) := by
  refine pi_of (pi_zipM hg hm ha.pa hs hpl) fun σ H R ⟨env, env', fp, ds, s, nd, hf, q⟩ => ?_
  obtain ⟨⟨ds', en⟩, e1, e2⟩ := Option.bind_eq_some_iff.mp hf
  refine ⟨env, en, fp, ds', s, nd, e1, fun vs H' fr fp' ev s' r n => ?_⟩
  simp only at e2
  split at e2
  · cases e2
    obtain ⟨v, w, f1, f2, rfl, r1, r2⟩ := r.two
    obtain ⟨_, a, xs, h1, h2, h3⟩ := r1
    obtain ⟨_, _, b, o', ys, h4, h5, h6⟩ := r2.imm rfl
    exact ⟨a, b, xs, ys, by rw [h1, h4], SqT.of h2, .inl (.inr ⟨o', h5⟩), q _ H' fp' (ev.sub fun a m => List.mem_append_right _ m) s' (List.nodup_append.mp n).2.1 (yl_zipM h2 h3 (.inl ⟨o', h5⟩) h6)⟩
  · cases e2
def zip2M : D → D → Option (List D)
  | .tup ds, .lst true es => some (zipD ds es)
  | _, _ => none
theorem zip_tl {ds es : List D} : zip2M (.tup ds) (.lst true es) = some (zipD ds es) := rfl
theorem p_iZipM {env : Env} {a b : ESm} {Q : List D × Env → Prop} : Ok (iZipM (aConsE a (aConsE b aNilE)) env) Q = Ok (a env) fun r => Ok (b r.2) fun s => Ok (zip2M r.1 s.1) fun ds => Q (ds, s.2) := by
  unfold iZipM
  rw [ok_bind, w_aConsE]
  refine ok_cg fun r => ?_
  rw [w_aConsE]
  refine ok_cg fun s => ?_
  rw [w_aNilE]
  obtain ⟨x, e1⟩ := r
  obtain ⟨y, e2⟩ := s
  show Ok (match [x, y] with | [.tup ds, .lst true es] => some (zipD ds es, e2) | _ => none) Q = Ok (zip2M x y) _
  unfold zip2M
  split
  · rename_i h; cases h; rw [ok_some, ok_some]
  · rename_i h1
    split
    · exact absurd rfl (h1 _ _)
    · exact propext ⟨fun ⟨_, e, _⟩ => (nomatch e), fun ⟨_, e, _⟩ => (nomatch e)⟩
theorem w_eDefK {n : Nat} {perm : List Nat} {F : FSm} {c1 c2 : CSm} {env : Env} {Q : D × Env → Prop} : Ok (eDefK n perm F c1 c2 env) Q = Ok (c1 env) fun a => Ok (c2 a.2) fun b => (a.1 ++ b.1).length = n ∧ Ok (takeB (perm.map fun i => (a.1 ++ b.1).getD i (.inl .non)) b.2) fun t => Ok (F t.1) fun r => Q (r.1, giveB (perm.map fun i => (a.1 ++ b.1).getD i (.inl .non)) t.1 r.2 t.2) := by
  unfold eDefK
  rw [ok_bind]
  refine ok_cg fun a => ?_
  rw [ok_bind]
  refine ok_cg fun b => ?_
  rw [ok_ite]
  by_cases h : (a.1 ++ b.1).length = n
  · rw [if_pos h, ok_bind]
    simp only [h, true_and]
    refine ok_cg fun t => ?_
    rw [ok_map]
  · rw [if_neg h]; exact propext ⟨fun ⟨_, e, _⟩ => (nomatch e), fun z => absurd z.1 h⟩
end DL

set_option maxHeartbeats 4000000
/-! DL, part xk: a tuple some times over, any number of times -/
namespace DL
open PySem PySem.Spec PyProof.Rows L2
section
variable {a : Addr} {vs : Array Value} {m : Nat} {dc : Option Addr} {ss : Array (Option Value)} {k : Int} {tk : Tok}
def tupO (dc : Option Addr) (vs : Array Value) (m : Nat) (ss : Array (Option Value)) : Obj := { cls := .type "tuple", dict := dc, data := .seq vs m, slots := ss }
def tenO (vs : Array Value) (k : Int) : Obj := { cls := Value.type "tuple", data := Data.seq ((List.replicate k.toNat vs).foldl (fun x y => x ++ y) #[]) }
theorem tm_same (c0 : (decide (k < -(2 ^ 63)) || decide (k ≥ 2 ^ 63)) = false) (c1 : (vs.isEmpty || k == 1) = true) :
    Meets (Builtin.«tuple.__mul__» ⟨[.ref a, .int k tk], []⟩) (fun _ R s => s.heap.get? a = some (tupO dc vs m ss) ∧ R (.ok (.ret (.ref a))) s) :=
  .of_wp fun prog w A R s h => by
    obtain ⟨hp, g, d, toks, os⟩ := s; obtain ⟨h1, h2⟩ := h; unfold tupO at h1
    have f1 := AutoSeq1.idx_int; wp_walk using AutoSeq1.wpAny_loadPart' h1
    repeat (first
      | (refine wpAny_ite_false (decide_eq_false (by rw [c0]; decide)) ?_; wp_walk using AutoSeq1.wpAny_loadPart' h1)
      | (refine wpAny_ite_true (decide_eq_true (by rw [c1])) ?_; wp_walk using AutoSeq1.wpAny_loadPart' h1))
    exact ⟨_, rfl, h2⟩
theorem tm_none (c0 : (decide (k < -(2 ^ 63)) || decide (k ≥ 2 ^ 63)) = false) (c1 : (vs.isEmpty || k == 1) = false) (c2 : (decide (k ≤ 0) || vs.isEmpty) = true) :
    Meets (Builtin.«tuple.__mul__» ⟨[.ref a, .int k tk], []⟩) (fun _ R s => s.heap.get? a = some (tupO dc vs m ss) ∧
      R (.ok (.ret (.ref s.heap.objs.size))) { s with heap := s.heap.push { cls := Value.type "tuple", data := Data.seq #[] }, toks := s.toks }) :=
  .of_wp fun prog w A R s h => by
    obtain ⟨hp, g, d, toks, os⟩ := s; obtain ⟨h1, h2⟩ := h; unfold tupO at h1
    have f1 := AutoSeq1.idx_int; wp_walk using AutoSeq1.wpAny_loadPart' h1
    repeat (first
      | (refine wpAny_ite_false (decide_eq_false (by rw [c0]; decide)) ?_; wp_walk using AutoSeq1.wpAny_loadPart' h1)
      | (refine wpAny_ite_false (decide_eq_false (by rw [c1]; decide)) ?_; wp_walk using AutoSeq1.wpAny_loadPart' h1)
      | (refine wpAny_ite_true (decide_eq_true (by rw [c2])) ?_; wp_walk using AutoSeq1.wpAny_loadPart' h1))
    exact ⟨_, rfl, h2⟩
/-- the three ways together -/
theorem tm_any {prog : Program} {w : World} {A : Around} {E : Value → Shared → Prop} {s : Shared} {Q : Value → Shared → Prop} {its : List Value} (ht : IsTup s.heap a its.toArray) (b0 : -(2 ^ 63) ≤ k) (b1 : k < 2 ^ 63) (hz : its.length * k.toNat ≤ sizeLine)
    (q0 : (its = [] ∨ k = 1) → Q (.ref a) s)
    (q1 : ¬ (its = [] ∨ k = 1) → Q (.ref s.heap.objs.size) { s with heap := s.heap.push { cls := Value.type "tuple", data := Data.seq (List.replicate k.toNat its).flatten.toArray }, toks := s.toks }) :
    wpAny (model prog w) A (binaryOp .Mult (.ref a) (.int k tk)) Q E s := by
  obtain ⟨⟨cls, dc, dat, ss⟩, ho, hc, m, hd⟩ := ht
  simp only at hc hd; subst hc; subst hd
  have c0 : (decide (k < -(2 ^ 63)) || decide (k ≥ 2 ^ 63)) = false := by rw [decide_eq_false (by omega), decide_eq_false (by omega)]; rfl
  have emp : its.toArray.isEmpty = its.isEmpty := by cases its <;> rfl
  refine wpAny_binaryOp_repeat_ref (U := "int") (T := "tuple") (by decide) ⟨_, ho, rfl⟩ (fun s2 => typeIs_int s2 k tk) noFill_tuple_mul F.fills_int_mul F.slot_int_rmul repeat_tuple F.slot_int_index.lookup ?_
  refine call_meets F.slot_int_rmul (typeIs_int s k tk) F.entry_int_rmul (F.args_int_rmul_2 _ _) (int_rmul_tuple k tk a its.toArray m dc ss) ⟨ho, rfl, ⟨_, ho, rfl⟩, ?_⟩
  by_cases hs : its = [] ∨ k = 1
  · have c1 : (its.toArray.isEmpty || k == 1) = true := by
      rw [emp]; rcases hs with h | h
      · rw [h]; rfl
      · rw [h, beq_self_eq_true, Bool.or_true]
    exact call_meets F.slot_tuple_mul ⟨_, ho, rfl⟩ F.entry_tuple_mul (F.args_tuple_mul_2 _ _) (tm_same (dc := dc) (m := m) (ss := ss) c0 c1) ⟨ho, q0 hs⟩
  · have h1 : its ≠ [] := fun e => hs (.inl e)
    have h2 : k ≠ 1 := fun e => hs (.inr e)
    have e1 : its.isEmpty = false := by cases its <;> simp_all
    have c1 : (its.toArray.isEmpty || k == 1) = false := by rw [emp, e1, beq_eq_false_iff_ne.mpr h2]; rfl
    have q1 := q1 hs
    by_cases hk : k ≤ 0
    · have c2 : (decide (k ≤ 0) || its.toArray.isEmpty) = true := by rw [decide_eq_true hk]; rfl
      have e0 : (List.replicate k.toNat its).flatten.toArray = #[] := by rw [show k.toNat = 0 by omega]; rfl
      rw [e0] at q1
      exact call_meets F.slot_tuple_mul ⟨_, ho, rfl⟩ F.entry_tuple_mul (F.args_tuple_mul_2 _ _) (tm_none (dc := dc) (m := m) (ss := ss) c0 c1 c2) ⟨ho, q1⟩
    · have c2 : (decide (k ≤ 0) || its.toArray.isEmpty) = false := by rw [decide_eq_false hk, emp, e1]; rfl
      obtain ⟨n, rfl⟩ := Int.eq_ofNat_of_zero_le (show 0 ≤ k by omega)
      have hn : (Int.toNat (n : Int)) = n := by omega
      rw [hn] at hz
      have hz2 : ((its.toArray.size : Nat) : Int) * (n : Int) ≤ 16777216 := by
        rw [List.size_toArray, ← Int.natCast_mul]; rw [sizeLine_eq] at hz; omega
      have c4 : Builtin.Tuple.tupleTooMany (((its.toArray.size : Nat) : Int) * (n : Int)) = false := by
        unfold Builtin.Tuple.tupleTooMany; rw [sizeLine_eq]; exact decide_eq_false (by omega)
      have ln : (List.replicate (Int.toNat (n : Int)) its).flatten.length ≤ sizeLine := by
        rw [PyProof.Rows.lm_len_rep_flat, hn, Nat.mul_comm]; exact hz
      rw [← size_rep] at q1
      exact call_meets F.slot_tuple_mul ⟨_, ho, rfl⟩ F.entry_tuple_mul (F.args_tuple_mul_2 _ _) (tuple_mulW a its.toArray m dc ss n tk c0 c1 c2 (by omega) c4 (by rw [size_rep, List.size_toArray]; exact ln)) ⟨ho, q1⟩
end
def rTimes (K : PySem.W.Frag) : R2 := fun x y H Q => ∃ a k xs, x = .ref a ∧ y = .int k ∧ SqT K H a xs ∧ -(2 ^ 63) ≤ k ∧ k < 2 ^ 63 ∧ xs.length * k.toNat ≤ sizeLine ∧
  ((xs = [] ∨ k = 1) → Q (.ref a) H) ∧ ∀ p, H p = none → Q (.ref p) (upd H p (.tup (List.replicate k.toNat xs).flatten))
section
variable {X : Cx}
theorem op_times : OpR X (binaryOp .Mult) (rTimes X.K) := by
  intro pins s σ H x y v u Q I rx ry h
  obtain ⟨a, k, xs, rfl, rfl, ht, b0, b1, hz, q0, q1⟩ := h
  cases rx
  obtain ⟨tk, rfl⟩ := ry
  obtain ⟨its, r, p, _⟩ := I.tuple ht
  have hl : its.length = xs.length := r.length.symm
  refine tm_any p b0 b1 (by rw [hl]; exact hz) (fun h => ?_) fun h => ?_
  · exact ⟨.ref a, H, I, rfl, q0 (h.imp (fun e => by rw [e] at hl; exact List.eq_nil_of_length_eq_zero hl.symm) id)⟩
  · have ln : (List.replicate k.toNat its).flatten.length ≤ sizeLine := by
      rw [PyProof.Rows.lm_len_rep_flat, hl, Nat.mul_comm]; exact hz
    refine ⟨.ref s.heap.objs.size, _, I.laid (t' := s.toks) (o := .tup (List.replicate k.toNat xs).flatten) (fun b ob q => Heap.get?_push_of_some _ q) (Nat.le_refl _) ?_, rfl, q1 _ (I.hok.fresh (Nat.le_refl _))⟩
    exact ⟨by rw [PyProof.Rows.lm_len_rep_flat, ← hl, ← PyProof.Rows.lm_len_rep_flat]; exact ln, _, r.rep k.toNat, IsTup.new _ _⟩
def dMuT : D → D → Option D
  | .tup ds, .int k => if (-9223372036854775808 ≤ k ∧ k < 9223372036854775808) ∧ ds.length * k.toNat ≤ szL then some (.tup (List.replicate k.toNat ds).flatten) else none
  | x, y => dMu x y
theorem o_mulT : O2 true X (binaryOp .Mult) dMuT := by
  obtain ⟨r, hr, ho⟩ := o_mul (X := X)
  refine ⟨_, hr.or op_times, fun H x y dx dy d fx fy hx hy hg Q q => ?_⟩
  unfold dMuT at hg
  split at hg
  · rename_i ds k
    split at hg
    · rename_i hz
      cases hg
      obtain ⟨_, a, xs, h1, h2, h3⟩ := hx
      obtain ⟨_, rfl⟩ := hy
      refine .inr ⟨a, k, xs, h1, rfl, SqT.of h2, hz.1.1, hz.1.2, by rw [szL_eq, h3.length]; exact hz.2, fun e => ?_, fun p hp => q.tup (h3.rep _) hp⟩
      refine q.imm ?_
      have e2 : (List.replicate k.toNat ds).flatten = ds := by
        rcases e with e | e
        · have e0 : ds = [] := List.eq_nil_of_length_eq_zero (by rw [← h3.length, e]; rfl)
          rw [e0]; simp
        · rw [e]; simp
      rw [e2]
      exact ⟨a, xs, rfl, h2, h3⟩
    · cases hg
  · exact .inl (ho H x y dx dy d fx fy hx hy hg Q q)
end
end DL

set_option maxHeartbeats 4000000
/-! DL, part xl: defs that are called while an exception is handled -/
namespace DL
open PySem PySem.Spec PyProof.Rows L2 C8
theorem hot_suite {Y : Cx} {a d C : Addr} (p : Pinned Y a d C) : L2H.HotC Y := by
  obtain ⟨⟨oe, hp, hz, vs, hv⟩, hh⟩ := p
  exact ⟨(a, oe), ⟨hh, vs, hv, hz.2.2 vs hv⟩, hp⟩
theorem roomH_in {k : Nat} {A : Around} {v : Option Value} (hr : Room k A) : L2H.RoomH k (A.mark v) := ⟨hr.dp, hr.un⟩
theorem unitsH_of {k : Nat} {A : Around} (hr : L2H.RoomH k A) : A.units < cLine ∧ A.units + 1 < cLine ∧ A.units + 64 < cLine ∧ A.units + 65 < cLine := by
  have := hr.un
  exact ⟨by omega, by omega, by omega, by omega⟩
def DIH (X : Cx) (tg e : Expr) (f : ISm) : Prop := L2H.PIH X tg e (tI X.K f)
theorem pih_of {X : Cx} {tg e : Expr} {t t' : TI} (h : L2H.PIH X tg e t) (i : ∀ σ H R, t' σ H R → t σ H R) : L2H.PIH X tg e t' := ⟨fun pins s σ H R I q => h.run pins s σ H R I (i σ H R q)⟩
section
variable {P : Nat → Bool} {X : Cx} {p pos : Pos} {tg : Expr}
theorem di_range1H {a : Expr} {f : ASm} (hg : Gl X "range") (hm : X.mg "range" = none) (ha : DA X [a] f) (hs : starEach [a] X.env = [(false, eval a X.env)] := by rfl) : DIH X tg (.Call (.Name "range" p) [a] [] pos) (iRange1 f) := by
  refine pih_of (L2H.pi_range1H hg hm ha.pa hs) fun σ H R ⟨env, env', fp, ds, s, nd, hf, q⟩ => ?_
  obtain ⟨⟨ds', en⟩, e1, e2⟩ := Option.bind_eq_some_iff.mp hf
  refine ⟨env, en, fp, ds', s, nd, e1, fun vs H' fr fp' ev s' r n => ?_⟩
  simp only at e2
  split at e2
  · split at e2
    · rename_i j hz
      cases e2
      obtain ⟨v, rfl, _, rfl⟩ := r.one
      exact ⟨j, rfl, hz.1, hz.2, q _ H' fp' (ev.sub fun a m => List.mem_append_right _ m) s' (List.nodup_append.mp n).2.1 (yl_rng 0 _)⟩
    · cases e2
  · cases e2
theorem ds_forH {iter : Expr} {body : List Stmt} {it : ISm} {g : GSm} {f : SSm} (hp : PassesOwn (model X.prog X.w) X.A X.env X.xe) (hc : L2H.HotC X) (hi : DIH X tg iter it) (hg : DG P X tg g) (hb : DSs P X body f)
    (hs : ∀ x, foldedSetIterable iter X.env x = pure x := by intro _; rfl) : DS P X (.For tg iter body [] pos) (sFor it g f) := by
  refine fun W tk => ps_of (L2H.ps_forH hp hc hi hg (hb W tk) hs) fun D σ H ⟨env, env', fp, o, s, nd, hf, q⟩ => ?_
  obtain ⟨⟨ds, en⟩, e1, e2⟩ := Option.bind_eq_some_iff.mp hf
  refine ⟨env, en, fp, ds, s, nd, e1, fun J H1 fp1 ev1 s1 n1 yl => ?_⟩
  refine ⟨fun i m σ' H' => m = ds.length - i ∧ i ≤ ds.length ∧ ImmExt H1 H' ∧ ∃ env2 fp2, SR X.K H' env2 σ' fp2 ∧ fp2.Nodup ∧ forL g f (ds.drop i) env2 = some (o, env') ∧ SQ X.K P (wn X.mg W) σ' H' fp2 env' D o, ⟨ds.length, by omega, Nat.zero_le _, ImmExt.refl H1, en, fp1, s1, n1, by rw [List.drop_zero]; exact e2, q.via ev1 (Pin.refl σ)⟩, ?_⟩
  rintro i m σ2 H2 ⟨rfl, hi, im, env2, fp2, s2, n2, e3, q2⟩
  have y2 := yl H2 im
  by_cases hlt : i < ds.length
  · refine .inr ?_
    have ed : ds[i]? = some ds[i] := List.getElem?_eq_getElem hlt
    obtain ⟨go, yi⟩ := y2.1 i _ ed
    refine ⟨go, fun σ' H' => i + 1 ≤ ds.length ∧ ImmExt H1 H' ∧ ∃ env2 fp2, SR X.K H' env2 σ' fp2 ∧ fp2.Nodup ∧ forL g f (ds.drop (i + 1)) env2 = some (o, env') ∧ SQ X.K P (wn X.mg W) σ' H' fp2 env' D o, fun σ' H' z => ⟨ds.length - (i + 1), by omega, rfl, z⟩, fun x H3 hy => ?_⟩
    obtain ⟨sm, rx⟩ := yi x H3 hy
    rw [List.drop_eq_getElem_cons hlt] at e3
    unfold forL at e3
    obtain ⟨en4, e4, e3⟩ := Option.bind_eq_some_iff.mp e3
    obtain ⟨⟨o5, en5⟩, e5, e3⟩ := Option.bind_eq_some_iff.mp e3
    have ev3 : Evo fp2 H2 fp2 H3 := Evo.of_same (fr := []) sm fun a z => (nomatch z)
    refine ⟨ds[i], env2, en4, fp2, [], s2.same sm, rx.ro, n2, e4, fun σ4 H4 fp4 ev4 s4 n4 p4 => ?_⟩
    have ev4 : Evo fp2 H3 fp4 H4 := ev4
    have q4 := q2.via (ev3.trans ev4) p4
    refine ⟨en4, en5, fp4, o5, s4, n4, e5, ?_⟩
    cases o5 with
    | nx => exact fun σ6 H6 fp6 ev6 s6 n6 p6 => ⟨hlt, ((im.trans ev3.imm).trans ev4.imm).trans ev6.imm, en5, fp6, s6, n6, e3, q4.via ev6 p6⟩
    | ct => exact fun σ6 H6 fp6 ev6 s6 n6 p6 => ⟨hlt, ((im.trans ev3.imm).trans ev4.imm).trans ev6.imm, en5, fp6, s6, n6, e3, q4.via ev6 p6⟩
    | bk => cases e3; exact q4
    | rt d => cases e3; exact q4
    | xc c ns ds => cases e3; exact q4
  · have e : i = ds.length := by omega
    subst e
    rw [List.drop_length] at e3
    cases e3
    exact .inl ⟨y2.2, q2 σ2 H2 fp2 (Evo.refl _ _) s2 n2 (Pin.refl _)⟩
/-- a def that may be called there -/
structure CalH (P : Program) (w : World) (K : PySem.W.Frag) (mg : Str → Option Value) (base : Heap) (k : Nat) (x : Str) (sp : Sp) : Prop where
  ex : ∃ (f : Addr) (fd : FuncData) (ps : List Str), L2H.FnH P w K mg base C8.CX0 k f fd ps sp ∧ mg x = some (.ref f) ∧ PySem.W.keepIn K (.ref f) = true ∧ Binds K fd ps []
theorem de_callH {e : Expr} {es : List Expr} {x : Str} {k j : Nat} {F : FSm} {f : CSm} (c : CalH X.prog X.w X.K X.mg X.base k x (Prom X.K F)) (hr : L2H.RoomH j X.A) (hk : k ≤ j) (hot : L2H.HotC X) (hg : Gl X x) (ha : DC X (e :: es) f)
    (hdb : (x == ("__debug__" : Str)) = false := by decide) (he : starEach (e :: es) X.env = (false, eval e X.env) :: starEach es X.env := by rfl) (hpl : (backTo pos (starEach es X.env)).any (·.1) = false := by rfl) :
    DE X (.Call (.Name x p) (e :: es) [] pos) (eDef F f) := by
  obtain ⟨t, pa, ha⟩ := ha
  obtain ⟨g, fd, ps, Fn, hm, kp, b⟩ := c.ex
  refine ⟨_, L2H.pe_callH (E := fun _ => C8.E0) Fn (hr.mono hk) hot hg hm kp b (fun σ => ?_) pa hdb he hpl, fun σ H env env' fp d s nd hf Q q => ?_⟩
  · exact fun _ _ _ _ _ _ h => h.elim
  obtain ⟨⟨xs, en1⟩, e1, hf⟩ := Option.bind_eq_some_iff.mp hf
  obtain ⟨⟨ds, en2⟩, e2, hf⟩ := Option.bind_eq_some_iff.mp hf
  obtain ⟨⟨r, outs⟩, e3, e4⟩ := Option.map_eq_some_iff.mp hf
  cases e4
  refine ha σ H env en1 fp xs s nd e1 _ fun vs H1 fr fp1 v1 s1 c1 n1 => ?_
  exact call_core v1 s1 c1 n1 e2 e3 q
end
theorem fnokH_of {Pr : Program} {w : World} {K : PySem.W.Frag} {mg : Str → Option Value} {base : Heap} {x : Str} {st : Stmt} {f : Addr} {fd : FuncData} {N ps : List Str} {k m : Nat} {P : Nat → Bool} {body : SSm}
    (F : C8.Fun K x x st f fd) (S : FnScope N ps (fnScope st)) (hm : N.length - ps.length = m)
    (hb : ∀ (cdv : Value) (A : Around) (outer : List PySem.Env) (s : Shared) (H : Hp) (E : XK) (p : Addr × Obj), L2H.HotC (L2H.cxH C8.CX0 Pr w K mg base N x (fnScope st) f cdv A outer s H E p).nox → L2H.RoomH k (A.deeper (envOfC x (fnScope st) s.heap.objs.size f cdv)) →
      DSs P (L2H.cxH C8.CX0 Pr w K mg base N x (fnScope st) f cdv A outer s H E p).nox (fnBody st) body) : L2H.FnH Pr w K mg base C8.CX0 (k + 1) f fd ps (Prom K (fnF P ps.length m body)) := by
  have hlen : ∀ (vs : List V) (H : Hp) (Q : VK) (E : XK), Prom K (fnF P ps.length m body) vs H Q E → vs.length = ps.length := fun vs H Q E ⟨ds, fp, r, outs, h1, _, h2, _⟩ => by
    rw [h1.length, fnF_len h2]
  obtain ⟨oc, od, dV, kV, doc, pm, an, cdv, ct, osl, rfl, lk, hcd⟩ := F.ex
  refine L2H.fn_ofH lk hcd S hlen fun A outer s H vs Q E p hot hr hsp => ?_
  have hc : L2H.HotC (L2H.cxH C8.CX0 Pr w K mg base N x (fnScope st) f cdv A outer s H E p).nox := ⟨p, ⟨hot.1, hot.2⟩, List.mem_cons_self⟩
  refine ⟨_, PSs.nox (hb cdv A outer s H E p hc hr (fun _ _ _ _ => False) takesN), ?_⟩
  have hl := hlen vs H Q E hsp
  obtain ⟨ds, fp, r, outs, h1, nd, h2, q⟩ := hsp
  unfold fnF at h2
  rw [if_pos (fnF_len (P := P) (m := m) (body := body) (r := (r, outs)) (by unfold fnF; exact h2))] at h2
  obtain ⟨⟨o, env'⟩, e1, e2⟩ := Option.bind_eq_some_iff.mp h2
  have sr : SR K H (ds.map some ++ List.replicate m none) (L2.start N vs) fp := by
    unfold L2.start
    rw [hl, hm]
    exact sr_start h1
  have fin : ∀ {σ' : L2.St} {H' : Hp} {fp' : List Addr}, SR K H' env' σ' fp' → fp'.Nodup → Pin P (L2.start N vs) σ' → ∃ fo, SR K H' (outsOf P ps.length env') (vs.map some) fo ∧ fo.Nodup ∧ ∀ a ∈ fo, a ∈ fp' := fun {σ' H' fp'} s n p => by
    have z := outs_ok (P := P) (vs := vs) (rest := List.replicate (N.length - vs.length) none) s n p.1 fun i hi => p.2 i hi
    rw [hl] at z
    exact z
  refine ⟨_, env', fp, o, sr, nd, e1, ?_⟩
  cases o with
  | bk => cases e2
  | ct => cases e2
  | xc _ _ _ => cases e2
  | nx =>
    cases e2
    intro σ' H' fp' ev s' n' p'
    obtain ⟨fo, k1, k2, k3⟩ := fin s' n' p'
    exact q .non H' [] fo (ev.sub k3) ⟨rfl, rfl⟩ k1 k2
  | rt d =>
    cases e2
    intro v σ' H' fr fp' ev s' rr n' p'
    have n1 := List.nodup_append.mp n'
    obtain ⟨fo, k1, k2, k3⟩ := fin s' n1.2.1 p'
    exact q v H' fr fo (ev.sub fun a m => (List.mem_append.mp m).elim (List.mem_append_left _) fun m => List.mem_append_right _ (k3 a m)) rr k1 (List.nodup_append.mpr ⟨n1.1, k2, fun a m b m' => n1.2.2 a m b (k3 b m')⟩)
end DL

set_option maxHeartbeats 4000000
/-! DL, part xm: x[::-1] -/
namespace DL
open PySem PySem.Spec PyProof.Rows L2 HT
theorem back_pick : ∀ (n : Nat) (l : List Value), l.length = n → ∀ f : Nat → Nat, (∀ k < n, f k = n - 1 - k) → (List.range n).filterMap (fun k => l.toArray[f k]?) = l.reverse
  | 0, l, h, f, _ => by rw [List.eq_nil_of_length_eq_zero h]; rfl
  | n + 1, l, h, f, hf => by
    rcases List.eq_nil_or_concat l with rfl | ⟨m, x, rfl⟩
    · simp at h
    rw [List.concat_eq_append] at h ⊢
    have hm : m.length = n := by simpa using h
    have ih := back_pick n m hm (fun k => f (k + 1)) fun k hk => by rw [hf (k + 1) (by omega)]; omega
    rw [List.range_succ_eq_map, List.filterMap_cons, List.reverse_append]
    have e0 : (m ++ [x]).toArray[f 0]? = some x := by
      rw [hf 0 (by omega), List.getElem?_toArray, List.getElem?_append_right (by omega), hm]; simp
    rw [e0, List.filterMap_map]
    show x :: _ = [x].reverse ++ m.reverse
    rw [← ih]
    show x :: _ = x :: _
    congr 1
    have cong : ∀ (L : List Nat) (g h : Nat → Option Value), (∀ k ∈ L, g k = h k) → L.filterMap g = L.filterMap h := fun L => by
      induction L with
      | nil => intros; rfl
      | cons a L ihL =>
        intro g h e
        rw [List.filterMap_cons, List.filterMap_cons, e a List.mem_cons_self, ihL g h fun k m => e k (List.mem_cons_of_mem a m)]
    refine cong _ _ _ fun k hk => ?_
    have hk := List.mem_range.mp hk
    show (m ++ [x]).toArray[f (k + 1)]? = m.toArray[f (k + 1)]?
    rw [List.getElem?_toArray, List.getElem?_toArray, List.getElem?_append_left (by rw [hf (k + 1) (by omega)]; omega)]
theorem back_adj (n : Nat) : Builtin.Slice.sliceAdjust none none (-1) (n : Int) = ((n : Int) - 1, -1) := by
  unfold Builtin.Slice.sliceAdjust
  simp
theorem back_places (n : Nat) : Builtin.Slice.slicePlaces ((n : Int) - 1) (-1) (-1) = n := by
  unfold Builtin.Slice.slicePlaces
  rw [if_neg (by decide)]
  by_cases h : 0 < n
  · rw [if_pos (by omega)]
    simp only [Int.neg_neg, Int.ediv_one]
    omega
  · rw [if_neg (by omega)]; omega
section
variable {prog : Program} {w : World} {A : Around} {E : Value → Shared → Prop} {s : Shared}
theorem back_app {sl : Addr} {tk : Tok} {n : Nat} {Q : Int × Int × Nat → Shared → Prop} (hs : s.heap.IsSliceOf sl .none .none (.int (-1) tk)) (h : Q ((n : Int) - 1, -1, n) s) :
    wpAny (model prog w) A (Builtin.Slice.sliceApplied (.ref sl) (pure (n : Int))) Q E s := by
  obtain ⟨os, g1, _, g3⟩ := hs
  unfold Builtin.Slice.sliceApplied Builtin.Slice.sliceFields
  refine wpAny_bind (wpAny_bind (wpAny_field g1 g3 (x := .none) rfl (wpAny_bind (wpAny_field g1 g3 (x := .none) rfl (wpAny_bind (wpAny_field g1 g3 (x := .int (-1) tk) rfl (wpAny_pure ?_)))))))
  refine wpAny_bind (slicePart_int ?_)
  show wpAny _ _ (if ((-1 : Int) == 0) = true then _ else _) _ _ s; rw [if_neg (by decide)]
  refine wpAny_bind (slicePart_none (wpAny_bind (slicePart_none (wpAny_bind (wpAny_pure ?_)))))
  show wpAny _ _ (match Builtin.Slice.sliceAdjust none none (-1) (n : Int) with | (lo, hi) => pure (lo, (-1 : Int), Builtin.Slice.slicePlaces lo hi (-1))) _ _ s
  rw [back_adj n]
  show wpAny _ _ (pure ((n : Int) - 1, (-1 : Int), Builtin.Slice.slicePlaces ((n : Int) - 1) (-1) (-1))) _ _ s
  rw [back_places]
  exact wpAny_pure h
theorem back_tup {t sl : Addr} {its : List Value} {tk : Tok} {Q : Value → Shared → Prop} (ht : IsTup s.heap t its.toArray) (hs : s.heap.IsSliceOf sl .none .none (.int (-1) tk)) (hz : its.length ≤ sizeLine)
    (h : Q (.ref s.heap.objs.size) { s with heap := s.heap.push { cls := .type "tuple", data := .seq its.reverse.toArray } }) : wpAny (model prog w) A (getItem (.ref t) (.ref sl)) Q E s := by
  have hok : sizeOk (.seq its.reverse.toArray) := by
    show its.reverse.toArray.size ≤ sizeLine
    rw [List.size_toArray, List.length_reverse]; exact hz
  obtain ⟨os, g1, g2, g3⟩ := id hs
  have hT : s.TypeIs (.ref sl) "slice" := ⟨os, g1, g2⟩
  unfold getItem; try with_reducible refine wpAny_holding ?_
  first | refine wpAny_bind (wpAny_pure ?_) | skip
  refine wpAny_bind (wpAny_sequenceKey ht.typeIs (by decide) (wpAny_bind (wpAny_callSpecial?_slot (name := Str.ofString "__getitem__") ht.typeIs PyProof.Rows.slot_tuple_getitem (wpAny_call_entry PyProof.Rows.slot_tuple_getitem ht.typeIs entry_tuple_getitem ?_ (args_tuple_getitem _ _)))))
  show wpAny _ _ (Builtin.Tuple.tupleItemsOf (.ref t) >>= _) _ _ s; refine wpAny_bind (tupleItemsOf_ ht (wpAny_bind (wpAny_typeOf hT ?_)))
  rw [if_pos (by decide)]; refine wpAny_bind (back_app hs ?_)
  have hno : ¬ ((((its.toArray.size : Nat) : Int) - 1 == 0 && (-1 : Int) == 1 && its.toArray.size == its.toArray.size) = true) := by simp
  show wpAny _ _ (if (((its.toArray.size : Nat) : Int) - 1 == 0 && (-1 : Int) == 1 && its.toArray.size == its.toArray.size) = true then _ else _) _ _ s
  rw [if_neg hno]
  have e : ((List.range its.toArray.size).filterMap fun (k : Nat) => its.toArray[((((its.toArray.size : Nat) : Int) - 1) + (k : Int) * -1).toNat]?) = its.reverse := back_pick _ its (by rw [List.size_toArray]) (fun k => ((((its.toArray.size : Nat) : Int) - 1) + (k : Int) * -1).toNat) fun k hk => by omega
  rw [e]
  first
    | exact wpAny_bind (m := Builtin.Tuple.tupleExact _) (wpAny_newObj_type (wpAny_bind (wpAny_pure (wpAny_pure ⟨_, rfl, wpAny_pure h⟩))) hok)
    | (refine wpAny_bind (m := Builtin.Tuple.tupleExact _) ?_; refine wpAny_newObj_type ?_ hok; exact wpAny_pure ⟨_, rfl, wpAny_pure h⟩)
    | (refine wpAny_bind (wpAny_bind (m := Builtin.Tuple.tupleExact _) ?_); refine wpAny_newObj_type ?_ hok; exact wpAny_pure ⟨_, rfl, wpAny_pure h⟩)
    | (refine wpAny_bind (wpAny_bind (m := Builtin.Tuple.tupleExact _) ?_); refine wpAny_newObj_type ?_ hok; exact wpAny_pure (wpAny_pure ⟨_, rfl, wpAny_pure h⟩))
end
theorem back_list (its : List Value) : slicePick its.toArray none none (some (-1)) = its.reverse.toArray := by
  have hb : sliceBounds none none (some (-1)) its.toArray.size = ((its.length : Int) - 1, -1, -1) := by
    unfold sliceBounds
    rw [List.size_toArray]
    simp
  unfold slicePick
  rw [hb]
  show ((sliceRange ((its.length : Int) - 1) (-1) (-1)).filterMap fun k => its.toArray[k]?).toArray = _
  unfold sliceRange
  rw [if_neg (by decide), List.filterMap_map]
  have hc : (if (its.length : Int) - 1 > -1 then ((its.length : Int) - 1 - -1 - -1 - 1) / - -1 else 0).toNat = its.length := by
    by_cases h : 0 < its.length
    · rw [if_pos (by omega)]
      simp only [Int.neg_neg, Int.ediv_one]
      omega
    · rw [if_neg (by omega)]; omega
  show ((List.range (if (its.length : Int) - 1 > -1 then ((its.length : Int) - 1 - -1 - -1 - 1) / - -1 else 0).toNat).filterMap _).toArray = _
  rw [hc]
  congr 1
  exact back_pick _ its rfl (fun k => ((its.length : Int) - 1 + -1 * (k : Int)).toNat) fun k hk => by omega
/-- what x[::-1] is, by values: the slice object stands at sl -/
def BkR (X : Cx) (r : V → Hp → VK → Prop) : Prop :=
  ∀ (pins : List (Addr × Obj)) (s : Shared) (σ : L2.St) (H : Hp) (x : V) (v : Value) (sl : Addr) (tk : Tok) (Q : VK), Inv X pins σ H s → RelV x v → s.heap.IsSliceOf sl .none .none (.int (-1) tk) → r x H Q →
    ∃ T id, typeLookup (.type T) "__getitem__" = pure (some (.builtin id)) ∧ s.TypeIs v T ∧ wpAny (model X.prog X.w) X.A (getItem v (.ref sl)) (EP X pins σ Q) X.xe s
def rBk (K : PySem.W.Frag) : V → Hp → VK → Prop := fun x H Q =>
  (∃ a xs, x = .ref a ∧ SqT K H a xs ∧ ∀ p, H p = none → Q (.ref p) (upd H p (.tup xs.reverse))) ∨
  (∃ a xs, x = .ref a ∧ SqL K H a xs ∧ ∀ p, H p = none → Q (.ref p) (upd H p (.lst xs.reverse)))
theorem vals_back {xs : List V} {us : List Value} (r : Vals xs us) : Vals xs.reverse us.reverse := by
  have app : ∀ {a b : List V} {c d : List Value}, Vals a c → Vals b d → Vals (a ++ b) (c ++ d) := by
    intro a b c d h1 h2
    induction h1 with
    | nil => exact h2
    | cons r _ ih => exact .cons r ih
  induction r with
  | nil => exact .nil
  | cons r _ ih =>
    rw [List.reverse_cons, List.reverse_cons]
    exact app ih (.cons r .nil)
section
variable {X : Cx} {e e3 : Expr} {te : TE} {ts : TO} {pos p2 : Pos}
theorem bk_seq : BkR X (rBk X.K) := by
  intro pins s σ H x v sl tk Q I rx hs h
  rcases h with ⟨a, xs, rfl, hx, q⟩ | ⟨a, xs, rfl, hx, q⟩
  · cases rx
    obtain ⟨its, r, ht, hz⟩ := I.tuple hx
    have hl := r.length
    refine ⟨"tuple", _, PyProof.Rows.slot_tuple_getitem.lookup, ht.typeIs, back_tup ht hs (by omega) ?_⟩
    refine ⟨.ref s.heap.objs.size, _, I.laid (t' := s.toks) (o := .tup xs.reverse) (fun b ob q => Heap.get?_push_of_some _ q) (Nat.le_refl _) ?_, rfl, q _ (I.hok.fresh (Nat.le_refl _))⟩
    exact ⟨by rw [List.length_reverse]; exact hz, _, vals_back r, IsTup.new _ _⟩
  · cases rx
    obtain ⟨its, r, ht, hz⟩ := I.list hx
    have hl := r.length
    refine ⟨"list", _, slot_list_getitem.lookup, ht.isList.typeIs, ?_⟩
    refine wpAny_getItem_list_slice ht.isList hs .none .none (.int (-1) tk) (by decide) ?_ (by rw [List.size_toArray]; omega)
    rw [back_list]
    refine ⟨.ref s.heap.objs.size, _, I.laid (t' := s.toks) (o := .lst xs.reverse) (fun b ob q => Heap.get?_push_of_some _ q) (Nat.le_refl _) ?_, rfl, q _ (I.hok.fresh (Nat.le_refl _))⟩
    exact ⟨by rw [List.length_reverse]; exact hz, _, 0, vals_back r, Heap.get?_push_size _ rfl⟩
theorem pe_back {r : V → Hp → VK → Prop} (hr : BkR X r) (he : PE X e te) (hs : PO X (some e3) ts) : PE X (.Subscript e (.Slice none none (some e3) p2) pos) (fun σ H Q => te σ H fun x H1 => ts σ H1 fun o H2 => o = some (-1) ∧ r x H2 Q) := by
  refine ⟨fun pins s σ H Q I h => ?_⟩
  refine Subscript_ (thn (he.run pins s σ H _ I h) fun v s1 ⟨x, H1, I1, r1, q1⟩ => ?_)
  refine wpAny_Slice ?_
  rw [evalPart_none]; refine wpAny_pure (wpAny_pure ?_)
  refine thn (hs.run pins s1 σ H1 _ I1 q1) fun vs s3 ⟨o, H3, I3, ps, ho, q3⟩ => ?_
  subst ho
  cases ps with
  | int _ tk =>
    have I4 : Inv X pins σ H3 { s3 with heap := s3.heap.push { cls := .type "slice", data := .fields #[.none, .none, .int (-1) tk] } } := I3.kept (t' := s3.toks) fun b ob q => Heap.get?_push_of_some _ q
    obtain ⟨T, id, hT, ht, hg⟩ := hr pins { s3 with heap := s3.heap.push { cls := .type "slice", data := .fields #[.none, .none, .int (-1) tk] } } σ H3 x v s3.heap.objs.size tk Q I4 r1 (Heap.IsSliceOf.new ..) q3
    show wpAny (model X.prog X.w) X.A (subscriptTail e (.Slice none none (some e3) p2) v (.ref s3.heap.objs.size)) (EP X pins σ Q) X.xe { s3 with heap := s3.heap.push { cls := .type "slice", data := .fields #[.none, .none, .int (-1) tk] } }
    exact tail_any (ops := [v, .ref s3.heap.objs.size]) ht hT hg (by with_unfolding_all rfl)
end
def dBk : D → Option D
  | .tup ds => some (.tup ds.reverse)
  | .lst _ ds => if ds.all isImm = true then some (.lst false ds.reverse) else none
  | _ => none
theorem RIs.back {K : PySem.W.Frag} {H : Hp} {ds : List D} {xs : List V} (h : RIs K H ds xs) : RIs K H ds.reverse xs.reverse := by
  induction ds generalizing xs with
  | nil => rw [show xs = [] from h]; rfl
  | cons d r ih =>
    obtain ⟨x, ys, h1, h2, h3⟩ := h
    rw [h1, List.reverse_cons, List.reverse_cons]
    exact (ih h3).app ⟨x, [], rfl, h2, rfl⟩
section
variable {X : Cx} {e : Expr} {pos p2 q1 q2 : Pos} {j1 : Nat}
theorem o_bk (H : Hp) (x : V) (dx d : D) (fx : List Addr) (hx : RO X.K H dx x fx) (hg : dBk dx = some d) (Q : VK) (q : Res true X.K H d Q) : rBk X.K x H Q := by
  unfold dBk at hg
  split at hg
  · cases hg
    obtain ⟨_, a, xs, h1, h2, h3⟩ := hx
    exact .inl ⟨a, xs, h1, SqT.of h2, fun p hp => q.tup h3.back hp⟩
  · split at hg
    · rename_i hz
      cases hg
      obtain ⟨a, xs, f, h1, h2, h3⟩ := hx.rdl
      exact .inr ⟨a, xs, h1, .inl h2, fun p hp => q.lst (h3.ris hz).back hp⟩
    · cases hg
  · cases hg
theorem db_back {f : PSm} (he : DB false X e f) : DB true X (.Subscript e (.Slice none none (some (.UnaryOp .USub (.Constant (.int 1) j1 q1) q2)) p2) pos) (p1 dBk f) := by
  obtain ⟨te, pe, he⟩ := he
  obtain ⟨ts, ps, hs⟩ := dpo_some (X := X) (db_any (db_neg (pos := q2) (db_any (db_int (i := 1) (j := j1) (pos := q1)))))
  refine ⟨_, pe_back bk_seq pe ps, fun σ H env fp d s nd hf Q q => ?_⟩
  obtain ⟨x, e1, hf⟩ := Option.bind_eq_some_iff.mp hf
  refine he σ H env fp x s nd e1 _ fun vx H1 fx s1 rx _ => ?_
  refine hs σ H1 env fp (some (-1)) (s.same s1) nd rfl _ fun H2 s2 => ?_
  exact ⟨rfl, o_bk H2 vx x d fx (rx.same s2) hf Q ((q.via s1).via s2)⟩
end
end DL

set_option maxHeartbeats 4000000
/-! DL, part xn: comprehensions with two fors -/
namespace DL
open PySem PySem.Spec PyProof.Rows L2
def compI (vs1 : List Nat) (g1 : GSm) (c1 : TSm) (el : ESm) : List D → Env → List D → Option (List D × Env)
  | [], env, acc => some (acc, wipeE env vs1)
  | d :: ds, env, acc => (g1 d (wipeE env vs1)).bind fun e1 => (c1 e1).bind fun b => if b.1 = true then (el b.2).bind fun r => if acc.length < szL then compI vs1 g1 c1 el ds r.2 (acc ++ [r.1]) else none
    else compI vs1 g1 c1 el ds b.2 acc
def comp2L (vs vs1 : List Nat) (g : GSm) (c : TSm) (it1 : ISm) (g1 : GSm) (c1 : TSm) (el : ESm) : List D → Env → List D → Option (List D × Env)
  | [], env, acc => some (acc, wipeE env vs)
  | d :: ds, env, acc => (g d (wipeE env vs)).bind fun e1 => (c e1).bind fun b => if b.1 = true then (it1 b.2).bind fun js => (compI vs1 g1 c1 el js.1 js.2 acc).bind fun r => comp2L vs vs1 g c it1 g1 c1 el ds r.2 r.1
    else comp2L vs vs1 g c it1 g1 c1 el ds b.2 acc
def eComp2 (vs vs1 : List Nat) (it : ISm) (g : GSm) (c : TSm) (it1 : ISm) (g1 : GSm) (c1 : TSm) (el : ESm) : ESm := fun env => (it env).bind fun ds => (comp2L vs vs1 g c it1 g1 c1 el ds.1 ds.2 []).map fun r => (.lst false r.1, r.2)
section
variable {X : Cx} {elt tg iter tg1 iter1 : Expr} {ifs ifs1 : List Expr} {scope : Scope} {own : List (Str × Nat)} {pos : Pos} {vs1 : List Nat} {P : Nat → Bool}
variable {it it1 : ISm} {g g1 : GSm} {c c1 : TSm} {el : ESm}
/-- what stands beside the frame: the list that grows -/
structure Grow (K : PySem.W.Frag) (Dl : Addr) (H1 : Hp) (fp1 : List Addr) (H2 : Hp) (acc : List D) (xs : List V) (fa fp : List Addr) : Prop where
  at_ : H2 Dl = some (.lst xs)
  ro : ROs K H2 acc xs fa
  nd : ((Dl :: fa) ++ fp).Nodup
  ev : Evo fp1 H1 ((Dl :: fa) ++ fp) H2
theorem Grow.via {K : PySem.W.Frag} {Dl : Addr} {H1 H2 H5 : Hp} {fp1 fa fp2 f5 : List Addr} {acc : List D} {xs : List V} (w : Grow K Dl H1 fp1 H2 acc xs fa fp2) (e : Evo fp2 H2 f5 H5) (n : f5.Nodup) : Grow K Dl H1 fp1 H5 acc xs fa f5 := by
  have nf : ∀ a ∈ Dl :: fa, a ∉ fp2 := fun a m m' => (List.nodup_append.mp w.nd).2.2 a m a m' rfl
  have lv : ∀ a ∈ Dl :: fa, Live H2 a := fun a m => by
    rcases List.mem_cons.mp m with rfl | m
    · exact ⟨_, w.at_, trivial⟩
    · exact ROs.live _ _ _ w.ro a m
  have st := e.stay lv nf
  exact ⟨by rw [st Dl List.mem_cons_self]; exact w.at_, ROs.mono e.imm _ _ _ (fun a m => st a (List.mem_cons_of_mem _ m)) w.ro, List.nodup_append.mpr ⟨(List.nodup_append.mp w.nd).1, n, fun a m b m' z => by subst z; exact e.apart lv nf a m m'⟩, w.ev.trans e.side⟩
/-- one thing more -/
theorem Grow.snoc {K : PySem.W.Frag} {Dl : Addr} {H1 H6 : Hp} {fp1 fa fr f7 : List Addr} {acc : List D} {xs : List V} {dv : D} {y : V} (hD : H1 Dl = none) (w : Grow K Dl H1 fp1 H6 acc xs fa (fr ++ f7)) (ry : RO K H6 dv y fr) :
    Grow K Dl H1 fp1 (upd H6 Dl (.lst (xs ++ [y]))) (acc ++ [dv]) (xs ++ [y]) (fa ++ fr) f7 ∧ ImmExt H6 (upd H6 Dl (.lst (xs ++ [y]))) ∧ ∀ a ∈ f7, a ≠ Dl := by
  have im8 : ImmExt H6 (upd H6 Dl (.lst (xs ++ [y]))) := ⟨fun a xs h => by rw [upd_ne (fun z => by rw [z, w.at_] at h; cases h)]; exact h, fun a o u h => by rw [upd_ne (fun z => by rw [z, w.at_] at h; cases h)]; exact h, fun a u h => by rw [upd_ne (fun z => by rw [z, w.at_] at h; cases h)]; exact h⟩
  have nD : ∀ a ∈ fa ++ (fr ++ f7), a ≠ Dl := fun a m z => by
    subst z
    exact (List.nodup_cons.mp w.nd).1 m
  refine ⟨⟨upd_same, ?_, ?_, ?_⟩, im8, fun a m => nD a (List.mem_append_right _ (List.mem_append_right _ m))⟩
  · exact (ROs.mono im8 _ _ _ (fun a m => upd_ne (nD a (List.mem_append_left _ m))) w.ro).snoc (RO.mono im8 _ _ _ (fun a m => upd_ne (nD a (List.mem_append_right _ (List.mem_append_left _ m)))) ry)
  · rw [List.cons_append, List.append_assoc]
    exact w.nd
  · rw [List.cons_append, List.append_assoc]
    refine ⟨fun a o ha hn => ?_, w.ev.own, w.ev.imm.trans im8⟩
    have z := w.ev.keep a o ha hn
    rw [upd_ne (fun e => ?_)]
    · exact z
    · subst e
      rw [hD] at ha; cases ha
theorem comp2_core {vs : List Nat} {σ : L2.St} {H : Hp} {Q : VK} (hv : ∀ i ∈ vs1, i ∈ vs) (h : tE X.K (eComp2 vs vs1 it g c it1 g1 c1 el) σ H Q) :
    tLc2 (tI X.K it) (tG X.K (ownP vs) g) (tT X.K c) (tI X.K it1) (tG X.K (ownP vs1) g1) (tT X.K c1) (tE X.K el) vs vs1 σ H Q := by
  obtain ⟨env, env', fp, d, s, nd, hf, q⟩ := h
  obtain ⟨⟨ds, en⟩, e1, e2⟩ := Option.bind_eq_some_iff.mp hf
  obtain ⟨⟨acc, en'⟩, e3, e4⟩ := Option.map_eq_some_iff.mp e2
  obtain ⟨rfl, rfl⟩ := Prod.mk.inj e4
  refine ⟨env, en, fp, ds, s, nd, e1, fun J H1 fp1 ev1 s1 n1 yl => ?_⟩
  intro Dl hD
  refine ⟨fun i m H2 => m = ds.length - i ∧ i ≤ ds.length ∧ ImmExt H1 H2 ∧ ∃ env2 acc2 xs2 fa fp2, Grow X.K Dl H1 fp1 H2 acc2 xs2 fa fp2 ∧ SR X.K H2 (wipeE env2 vs) (L2.wipe σ vs) fp2 ∧
    comp2L vs vs1 g c it1 g1 c1 el (ds.drop i) env2 acc2 = some (acc, en'), ?_, ?_⟩
  · obtain ⟨fp2, s2, n2, m2⟩ := s1.wipe n1 vs
    have sm := same_new (o := .lst []) hD
    have s3 : SR X.K (upd H1 Dl (.lst [])) (wipeE en vs) (L2.wipe σ vs) fp2 := (s2.same sm).relax (by rw [wipe_length]) fun i d' hi => wipe_out (wipeE_some hi)
    refine ⟨ds.length, by omega, Nat.zero_le _, .of_same sm, en, [], [], [], fp2, ⟨upd_same, ⟨rfl, rfl⟩, List.nodup_cons.mpr ⟨fun m => ?_, n2⟩, ⟨fun a o ha _ => sm a o ha, fun a m => ?_, .of_same sm⟩⟩, s3, by rw [List.drop_zero]; exact e3⟩
    · obtain ⟨o, z, _⟩ := s1.live Dl (m2 Dl m)
      rw [hD] at z; cases z
    · rcases List.mem_cons.mp m with rfl | m
      · exact .inr hD
      · exact .inl (m2 a m)
  rintro i m H2 ⟨rfl, hi, im, env2, acc2, xs2, fa, fp2, w2, s2, e5⟩
  have y2 := yl H2 im
  have nfp : fp2.Nodup := (List.nodup_append.mp w2.nd).2.1
  by_cases hlt : i < ds.length
  · refine .inr ?_
    have ed : ds[i]? = some ds[i] := List.getElem?_eq_getElem hlt
    obtain ⟨go, yi⟩ := y2.1 i _ ed
    refine ⟨go, fun H2 => i + 1 ≤ ds.length ∧ ImmExt H1 H2 ∧ ∃ env2 acc2 xs2 fa fp2, Grow X.K Dl H1 fp1 H2 acc2 xs2 fa fp2 ∧ SR X.K H2 (wipeE env2 vs) (L2.wipe σ vs) fp2 ∧
      comp2L vs vs1 g c it1 g1 c1 el (ds.drop (i + 1)) env2 acc2 = some (acc, en'), fun H' z => ⟨ds.length - (i + 1), by omega, rfl, z⟩, fun x H3 hy => ?_⟩
    obtain ⟨sm, rx⟩ := yi x H3 hy
    rw [List.drop_eq_getElem_cons hlt] at e5
    unfold comp2L at e5
    obtain ⟨en6, e6, e5⟩ := Option.bind_eq_some_iff.mp e5
    obtain ⟨⟨k, en7⟩, e7, e5⟩ := Option.bind_eq_some_iff.mp e5
    refine ⟨ds[i], wipeE env2 vs, en6, fp2, [], s2.same sm, rx.ro, nfp, e6, fun σ4 H4 fp4 ev4 s4 n4 p4 => ?_⟩
    have ev4 : Evo fp2 H3 fp4 H4 := ev4
    have ev24 : Evo fp2 H2 fp4 H4 := (Evo.of_same (fr := []) sm fun a z => (nomatch z)).trans ev4
    have hlen : σ4.length = σ.length := p4.1.trans (wipe_length σ vs)
    have hw : L2.wipe σ4 vs = L2.wipe σ vs := by
      rw [wipe_ext (σ := L2.wipe σ vs) (by rw [wipe_length]; exact hlen) fun j hj => p4.2 j (by simp [ownP, hj])]
      exact wipe_ext (by rw [wipe_length]) fun j hj => wipe_out hj
    refine ⟨hw, ?_⟩
    refine ⟨en6, en7, fp4, k, s4, n4, e7, fun H5 fp5 ev5 s5 n5 => ?_⟩
    have ev25 := ev24.trans ev5
    cases k with
    | false =>
      rw [if_neg Bool.false_ne_true] at e5
      refine iteF ?_
      obtain ⟨f6, s6, n6, m6⟩ := s5.wipe n5 vs
      exact ⟨hlt, im.trans ev25.imm, en7, acc2, xs2, fa, f6, w2.via (ev25.sub m6) n6, s6.relax (by rw [wipe_length, hlen]) fun j d' hj => by rw [← hw]; exact wipe_out (wipeE_some hj), e5⟩
    | true =>
      rw [if_pos rfl] at e5
      refine iteT ?_
      obtain ⟨⟨js, en8⟩, e8, e5⟩ := Option.bind_eq_some_iff.mp e5
      obtain ⟨⟨acc9, en9⟩, e9, e5⟩ := Option.bind_eq_some_iff.mp e5
      refine ⟨en7, en8, fp5, js, s5, n5, e8, fun J1 H7 fp7 ev7 s7 n7 yl1 => ?_⟩
      have ev27 := ev25.trans ev7
      -- the inner loop
      refine ⟨fun j k H8 => k = js.length - j ∧ j ≤ js.length ∧ ImmExt H7 H8 ∧ ∃ env3 acc3 xs3 fb fp8, Grow X.K Dl H1 fp1 H8 acc3 xs3 fb fp8 ∧ SR X.K H8 (wipeE env3 vs1) (L2.wipe σ4 vs1) fp8 ∧
        compI vs1 g1 c1 el (js.drop j) env3 acc3 = some (acc9, en9), ?_, ?_⟩
      · obtain ⟨f8, s8, n8, m8⟩ := s7.wipe n7 vs1
        exact ⟨js.length, by omega, Nat.zero_le _, ImmExt.refl H7, en8, acc2, xs2, fa, f8, w2.via (ev27.sub m8) n8, s8.relax (by rw [wipe_length]) fun j d' hj => wipe_out (wipeE_some hj), by rw [List.drop_zero]; exact e9⟩
      rintro j k H8 ⟨rfl, hj, im8, env3, acc3, xs3, fb, fp8, w8, s8, e10⟩
      have y8 := yl1 H8 im8
      have n8 : fp8.Nodup := (List.nodup_append.mp w8.nd).2.1
      by_cases hlt1 : j < js.length
      · refine .inr ?_
        have ed1 : js[j]? = some js[j] := List.getElem?_eq_getElem hlt1
        obtain ⟨go1, yj⟩ := y8.1 j _ ed1
        refine ⟨go1, fun H8 => j + 1 ≤ js.length ∧ ImmExt H7 H8 ∧ ∃ env3 acc3 xs3 fb fp8, Grow X.K Dl H1 fp1 H8 acc3 xs3 fb fp8 ∧ SR X.K H8 (wipeE env3 vs1) (L2.wipe σ4 vs1) fp8 ∧
          compI vs1 g1 c1 el (js.drop (j + 1)) env3 acc3 = some (acc9, en9), fun H' z => ⟨js.length - (j + 1), by omega, rfl, z⟩, fun x1 H9 hy1 => ?_⟩
        obtain ⟨sm1, rx1⟩ := yj x1 H9 hy1
        rw [List.drop_eq_getElem_cons hlt1] at e10
        unfold compI at e10
        obtain ⟨en11, e11, e10⟩ := Option.bind_eq_some_iff.mp e10
        obtain ⟨⟨k1, en12⟩, e12, e10⟩ := Option.bind_eq_some_iff.mp e10
        refine ⟨js[j], wipeE env3 vs1, en11, fp8, [], s8.same sm1, rx1.ro, n8, e11, fun σ10 H10 fp10 ev10 s10 n10 p10 => ?_⟩
        have ev10 : Evo fp8 H9 fp10 H10 := ev10
        have ev810 : Evo fp8 H8 fp10 H10 := (Evo.of_same (fr := []) sm1 fun a z => (nomatch z)).trans ev10
        have hlen1 : σ10.length = σ4.length := p10.1.trans (wipe_length σ4 vs1)
        have hw1 : L2.wipe σ10 vs1 = L2.wipe σ4 vs1 := by
          rw [wipe_ext (σ := L2.wipe σ4 vs1) (by rw [wipe_length]; exact hlen1) fun j hj => p10.2 j (by simp [ownP, hj])]
          exact wipe_ext (by rw [wipe_length]) fun j hj => wipe_out hj
        refine ⟨hw1, ?_⟩
        refine ⟨en11, en12, fp10, k1, s10, n10, e12, fun H11 fp11 ev11 s11 n11 => ?_⟩
        have ev811 := ev810.trans ev11
        cases k1 with
        | false =>
          rw [if_neg Bool.false_ne_true] at e10
          refine iteF ?_
          obtain ⟨f12, s12, n12, m12⟩ := s11.wipe n11 vs1
          exact ⟨hlt1, im8.trans ev811.imm, en12, acc3, xs3, fb, f12, w8.via (ev811.sub m12) n12, s12.relax (by rw [wipe_length, hlen1]) fun j d' hj => by rw [← hw1]; exact wipe_out (wipeE_some hj), e10⟩
        | true =>
          rw [if_pos rfl] at e10
          refine iteT ?_
          obtain ⟨⟨dv, en13⟩, e13, e10⟩ := Option.bind_eq_some_iff.mp e10
          simp only at e10
          split at e10
          case isFalse => cases e10
          rename_i hz
          refine ⟨en12, en13, fp11, dv, s11, n11, e13, fun y H12 fr fp12 ev12 s12 ry n12 => ?_⟩
          have n12' := (List.nodup_append.mp n12).2.1
          obtain ⟨f13, s13, n13, m13⟩ := s12.wipe n12' vs1
          have nfr : (fr ++ f13).Nodup := List.nodup_append.mpr ⟨(List.nodup_append.mp n12).1, n13, fun a m b m' => (List.nodup_append.mp n12).2.2 a m b (m13 b m')⟩
          have ev13 : Evo fp11 H11 (fr ++ f13) H12 := ev12.sub fun a m => (List.mem_append.mp m).elim (List.mem_append_left _) fun z => List.mem_append_right _ (m13 a z)
          have w13 := w8.via (ev811.trans ev13) nfr
          obtain ⟨w14, im14, nD⟩ := w13.snoc hD ry
          refine ⟨xs3, w13.at_, by rw [szL_eq, w13.ro.length]; exact hz, hlt1, (im8.trans (ev811.imm.trans ev13.imm)).trans im14, en13, acc3 ++ [dv], xs3 ++ [y], fb ++ fr, f13, w14, ?_, e10⟩
          exact (s13.mono im14 fun a m => upd_ne (nD a m)).relax (by rw [wipe_length, hlen1]) fun j d' hj => by rw [← hw1]; exact wipe_out (wipeE_some hj)
      · have e : j = js.length := by omega
        subst e
        rw [List.drop_length] at e10
        cases e10
        refine .inl ⟨y8.2, hlt, (im.trans ev27.imm).trans im8, wipeE env3 vs1, acc9, xs3, fb, ?_⟩
        obtain ⟨f9, s9, n9, m9⟩ := s8.wipe n8 vs
        refine ⟨f9, w8.via ((Evo.refl fp8 H8).sub m9) n9, s9.relax (by rw [wipe_length, wipe_length, hlen]) fun j d' hj => ?_, e5⟩
        have hj' := wipeE_some hj
        rw [← hw, wipe_out hj', wipe_out (fun m => hj' (hv j m))]
  · have e : i = ds.length := by omega
    subst e
    rw [List.drop_length] at e5
    cases e5
    refine .inl ⟨y2.2, q (.ref Dl) H2 (Dl :: fa) fp2 (ev1.trans w2.ev) ?_ (.inr ⟨rfl, Dl, xs2, fa, rfl, rfl, w2.at_, w2.ro⟩) w2.nd⟩
    exact s2.relax (by rw [wipe_length]) fun j d' hj => (wipe_out (wipeE_some hj)).symm
theorem de_comp2 (hc : X.calm = true) (hN : X.N.Nodup) (hi : DI X tg iter it) (ok : BlkOk X.N X.env.scope scope own) (hv : ∀ i ∈ vs1, i ∈ own.map (·.2))
    (hg : ∀ (s : Shared) (H : Hp) (C : Addr) (cl : List (Str × Addr)) (fp : List Addr), DG (ownP (own.map (·.2))) (X.blk s H scope (compEnvC scope cl C X.env) fp) tg g)
    (ht : ∀ (s : Shared) (H : Hp) (C : Addr) (cl : List (Str × Addr)) (fp : List Addr), PTs (X.blk s H scope (compEnvC scope cl C X.env) fp) ifs (tT X.K c))
    (hi1 : ∀ (s : Shared) (H : Hp) (C : Addr) (cl : List (Str × Addr)) (fp : List Addr), DI (X.blk s H scope (compEnvC scope cl C X.env) fp) tg1 iter1 it1)
    (hg1 : ∀ (s : Shared) (H : Hp) (C : Addr) (cl : List (Str × Addr)) (fp : List Addr), DG (ownP vs1) (X.blk s H scope (compEnvC scope cl C X.env) fp) tg1 g1)
    (ht1 : ∀ (s : Shared) (H : Hp) (C : Addr) (cl : List (Str × Addr)) (fp : List Addr), PTs (X.blk s H scope (compEnvC scope cl C X.env) fp) ifs1 (tT X.K c1))
    (he : ∀ (s : Shared) (H : Hp) (C : Addr) (cl : List (Str × Addr)) (fp : List Addr), DE (X.blk s H scope (compEnvC scope cl C X.env) fp) elt el) (hs : ∀ x, foldedSetIterable iter X.env x = pure x := by intro _; rfl) (hs1 : ∀ env x, foldedSetIterable iter1 env x = pure x := by intro _ _; rfl) :
    DE X (.ListComp elt [⟨tg, iter, ifs, 0⟩, ⟨tg1, iter1, ifs1, 0⟩] scope pos) (eComp2 (own.map (·.2)) vs1 it g c it1 g1 c1 el) :=
  ⟨_, pe_lc2 (g := tG X.K (ownP (own.map (fun x : Str × Nat => x.2))) g) (g1 := tG X.K (ownP vs1) g1) (wi1 := tI X.K it1) (te := tE X.K el) hc hN hi ok hv (fun s H C cl fp => hg s H C cl fp) ht (fun s H C cl fp => hi1 s H C cl fp) (fun s H C cl fp => hg1 s H C cl fp) ht1 (fun s H C cl fp => (he s H C cl fp).pe) hs hs1, fun σ H env env' fp d s nd hf Q q => comp2_core hv ⟨env, env', fp, d, s, nd, hf, q⟩⟩
theorem ds_setComp2 {i : Nat} {y : Str} {py spos : Pos} (hc : X.calm = true) (hN : X.N.Nodup) (hy : X.N[i]? = some y) (hyl : X.env.scope.names.lookup y = some .local) (hP : P i = false)
    (hsw : swapsWith (.ListComp elt [⟨tg, iter, ifs, 0⟩, ⟨tg1, iter1, ifs1, 0⟩] scope pos) (some (.Name y py)) spos.line X.env = pure true) (hi : DI X tg iter it) (ok : BlkOk X.N X.env.scope scope own) (hv : ∀ i ∈ vs1, i ∈ own.map (·.2))
    (hg : ∀ (s : Shared) (H : Hp) (C : Addr) (cl : List (Str × Addr)) (fp : List Addr), DG (ownP (own.map (·.2))) (X.blk s H scope (compEnvC scope cl C X.env) fp) tg g)
    (ht : ∀ (s : Shared) (H : Hp) (C : Addr) (cl : List (Str × Addr)) (fp : List Addr), PTs (X.blk s H scope (compEnvC scope cl C X.env) fp) ifs (tT X.K c))
    (hi1 : ∀ (s : Shared) (H : Hp) (C : Addr) (cl : List (Str × Addr)) (fp : List Addr), DI (X.blk s H scope (compEnvC scope cl C X.env) fp) tg1 iter1 it1)
    (hg1 : ∀ (s : Shared) (H : Hp) (C : Addr) (cl : List (Str × Addr)) (fp : List Addr), DG (ownP vs1) (X.blk s H scope (compEnvC scope cl C X.env) fp) tg1 g1)
    (ht1 : ∀ (s : Shared) (H : Hp) (C : Addr) (cl : List (Str × Addr)) (fp : List Addr), PTs (X.blk s H scope (compEnvC scope cl C X.env) fp) ifs1 (tT X.K c1))
    (he : ∀ (s : Shared) (H : Hp) (C : Addr) (cl : List (Str × Addr)) (fp : List Addr), DE (X.blk s H scope (compEnvC scope cl C X.env) fp) elt el) (hs : ∀ x, foldedSetIterable iter X.env x = pure x := by intro _; rfl) (hs1 : ∀ env x, foldedSetIterable iter1 env x = pure x := by intro _ _; rfl) :
    DS P X (.Assign [.Name y py] (.ListComp elt [⟨tg, iter, ifs, 0⟩, ⟨tg1, iter1, ifs1, 0⟩] scope pos) spos) (sAsg (eComp2 (own.map (·.2)) vs1 it g c it1 g1 c1 el) (gNm i)) :=
  fun W tk => ps_of (ps_setLc2 (g := tG X.K (ownP (own.map (fun x : Str × Nat => x.2))) g) (g1 := tG X.K (ownP vs1) g1) (wi1 := tI X.K it1) (te := tE X.K el) hc hN hy hyl hsw hi ok hv (fun s H C cl fp => hg s H C cl fp) ht (fun s H C cl fp => hi1 s H C cl fp) (fun s H C cl fp => hg1 s H C cl fp) ht1 (fun s H C cl fp => (he s H C cl fp).pe) hs hs1) fun D σ H z => asg_core (fun _ _ _ z => comp2_core hv z) (fun v σ H Q ⟨d, env, env', fp, fr, s, r, nd, hg, q⟩ => by
    unfold gNm at hg
    split at hg
    case isFalse => cases hg
    rename_i hl
    cases hg
    obtain ⟨fp', s', n', m'⟩ := put_slot s r nd hl
    exact q _ H fp' ((Evo.refl _ H).sub m') s' n' (Pin.set hP)) z
end
/-! ### in plain -/
theorem w_eComp2 {env : Env} {vs vs1 : List Nat} {it it1 : ISm} {g g1 : GSm} {c c1 : TSm} {el : ESm} {Q : D × Env → Prop} : Ok (eComp2 vs vs1 it g c it1 g1 c1 el env) Q = Ok (it env) fun ds => Ok (comp2L vs vs1 g c it1 g1 c1 el ds.1 ds.2 []) fun r => Q (.lst false r.1, r.2) := by
  unfold eComp2; rw [ok_bind]; refine ok_cg fun x => ?_; rw [ok_map]
theorem compI_map {β : Type} {vs1 : List Nat} {g1 : GSm} {el : ESm} {w1 : Env} {f1 : β → D} {k : β → D} : ∀ {ys : List β} {env : Env} {acc : List D}, wipeE env vs1 = w1 →
    (∀ y ∈ ys, Ok (g1 (f1 y) w1) fun e => Ok (el e) fun r => r.1 = k y ∧ wipeE r.2 vs1 = w1) → acc.length + ys.length ≤ 16777216 → compI vs1 g1 yesT el (ys.map f1) env acc = some (acc ++ ys.map k, w1)
  | [], env, acc, h0, _, _ => by
    show some (acc, wipeE env vs1) = _
    rw [h0, List.map_nil, List.append_nil]
  | y :: ys, env, acc, h0, hs, hz => by
    obtain ⟨e1, k1, ⟨r, e2⟩, k2, k3, k4⟩ := hs y List.mem_cons_self
    have k3 : r = k y := k3
    subst k3
    have hz' : acc.length + (ys.length + 1) ≤ 16777216 := hz
    rw [List.map_cons]
    unfold compI
    have yes : yesT e1 = some (true, e1) := rfl
    rw [h0, k1, Option.bind_some, yes, Option.bind_some, if_pos rfl, k2, Option.bind_some, if_pos (show acc.length < szL from (show acc.length < 16777216 by omega)), compI_map (k := k) k4 (fun x m => hs x (List.mem_cons_of_mem _ m)) (by rw [List.length_append]; show acc.length + 1 + ys.length ≤ 16777216; omega), List.append_assoc]
    rfl
theorem comp2_map {α β : Type} {vs vs1 : List Nat} {g g1 : GSm} {it1 : ISm} {el : ESm} {w : Env} {f : α → D} {f1 : β → D} (inn : α → List β) (k : α → β → D) : ∀ {xs : List α} {env : Env} {acc : List D} {Q : List D × Env → Prop}, wipeE env vs = w →
    (∀ x ∈ xs, Ok (g (f x) w) fun e => Ok (it1 e) fun js => js.1 = (inn x).map f1 ∧ wipeE (wipeE js.2 vs1) vs = w ∧ ∀ y ∈ inn x, Ok (g1 (f1 y) (wipeE js.2 vs1)) fun e => Ok (el e) fun r => r.1 = k x y ∧ wipeE r.2 vs1 = wipeE js.2 vs1) →
    acc.length + (xs.flatMap fun x => (inn x).map (k x)).length ≤ 16777216 → Q (acc ++ xs.flatMap fun x => (inn x).map (k x), w) → Ok (comp2L vs vs1 g yesT it1 g1 yesT el (xs.map f) env acc) Q
  | [], env, acc, Q, h0, _, _, q => by
    rw [List.flatMap_nil, List.append_nil] at q
    exact ⟨(acc, wipeE env vs), rfl, by rw [h0]; exact q⟩
  | x :: xs, env, acc, Q, h0, hs, hz, q => by
    obtain ⟨e1, k1, ⟨js, e2⟩, k2, k3, k4, k5⟩ := hs x List.mem_cons_self
    have k3 : js = (inn x).map f1 := k3
    subst k3
    rw [List.flatMap_cons, List.length_append, List.length_map] at hz
    rw [List.map_cons]
    unfold comp2L
    have yes : yesT e1 = some (true, e1) := rfl
    rw [h0, k1, Option.bind_some, yes, Option.bind_some, if_pos rfl, k2, Option.bind_some]
    show Ok ((compI vs1 g1 yesT el ((inn x).map f1) e2 acc).bind _) Q
    rw [compI_map (k := k x) rfl k5 (by omega), Option.bind_some]
    rw [List.flatMap_cons, ← List.append_assoc] at q
    exact comp2_map inn k k4 (fun x m => hs x (List.mem_cons_of_mem _ m)) (by rw [List.length_append, List.length_map]; omega) q
end DL

set_option maxHeartbeats 4000000
/-! DL, part xo: sorted(a tuple) -/
namespace DL
open PySem PySem.Spec PyProof.Rows L2
section
variable {prog : Program} {w : World} {A : Around} {E : Value → Shared → Prop} {s : Shared} {β : Type}
theorem collect_tup {t : Addr} {vs : List Value} {Q : List Value → Shared → Prop} (ht : IsTup s.heap t vs.toArray) (hz : vs.length ≤ sizeLine)
    (h : Q vs { s with heap := (s.heap.push (seqObj "list" #[] 0)).update s.heap.objs.size (Obj.mapSeq (· ++ vs.toArray)) }) : wpAny (model prog w) A (collect (.ref t)) Q E s := by
  obtain ⟨o, ho, hc, n, hd⟩ := id ht
  unfold collect; refine wpAny_bind (wpAny_runValue (codeAny_builtin entry_proto_collect' ?_))
  show wpAny _ _ (do again (.builtin "list.__iadd__" ⟨[← newList [], .ref t], []⟩)) _ _ s
  refine wpAny_bind (wpAny_newList (wpAny_pure ⟨Code.quiet_builtin _ (by decide +kernel), codeAny_builtin entry_list_iadd' ?_⟩)); unfold Builtin.«list.__iadd__»
  have hT : (s.heap.push (seqObj "list" #[] 0)).get? t = some o := Heap.get?_push_of_some _ ho
  show wpAny _ _ (Builtin.List.listExtendWith (.ref s.heap.objs.size) (.ref t) (.ref s.heap.objs.size)) _ _ { s with heap := s.heap.push (seqObj "list" #[] 0) }; unfold Builtin.List.listExtendWith
  refine wpAny_bind (wpAny_typeOf (T := "tuple") ⟨o, hT, hc⟩ ?_)
  have hb : (Value.type "tuple" == Value.type "tuple") = true := by rfl
  rw [if_pos (by rw [hb]; simp)]
  refine wpAny_bind (listItems_at hT hd (wpAny_bind (listItems_at (xs := #[]) (n := 0) (Heap.get?_push_size _ rfl) rfl ?_)))
  rw [if_neg (by simp)]
  refine wpAny_bind (listUpdate_at (xs := #[]) (n := 0) (Heap.get?_push_size _ rfl) rfl (wpAny_pure ?_) (Nat.zero_le _) (by show (#[] ++ vs.toArray).size ≤ sizeLine + 1; simp; omega))
  show wpAny (model prog w) A (do
      let o ← load s.heap.objs.size
      match o.data with
      | .seq xs _ => pure xs.toList
      | _ => unsupported "internal:collect") Q E { s with heap := (s.heap.push (seqObj "list" #[] 0)).update s.heap.objs.size (Obj.mapSeq (· ++ vs.toArray)) }
  obtain ⟨e, he⟩ : ∃ e, ((s.heap.push (seqObj "list" #[] 0)).update s.heap.objs.size (Obj.mapSeq (· ++ vs.toArray))).get? s.heap.objs.size = some (seqObj "list" vs.toArray e) := by
    have hE := get?_update_seq (h := s.heap.push (seqObj "list" #[] 0)) (a := s.heap.objs.size) (Heap.get?_push_size s.heap (o := seqObj "list" #[] 0) rfl) (fun x => x ++ vs.toArray)
    rw [show ((#[] : Array Value) ++ vs.toArray) = vs.toArray by simp] at hE
    exact ⟨_, hE⟩
  refine wpAny_bind (wpAny_load he ?_)
  exact wpAny_pure h
theorem sorted_tup {t : Addr} {vs : List Value} {bs : List β} {enc : β → PyData} {R : Value → β → Prop} {Q : Value → Shared → Prop} (ht : IsTup s.heap t vs.toArray) (e : PySem.W.EachIs R vs bs) (er : PySem.W.EachIs (fun v b => ∃ as, Reads s.heap v (enc b) as) vs bs)
    (hal : PySem.W.AllAlike (bs.map enc)) (hk : PySem.W.Sortable (bs.map enc)) (hL : bs.length ≤ sizeLine) (hu : ∀ b, b ∈ bs → A.units + 2 + (enc b).depth < cLine)
    (h : ∀ (out : List Value) (a : Addr) (h' : Heap) (n : Nat), out.length = bs.length → PySem.W.EachIs R out (bs.mergeSort (PySem.W.dataLe false enc)) → (∀ b o, s.heap.get? b = some o → h'.get? b = some o) → s.heap.objs.size ≤ a → h'.get? a = some (seqObj "list" out.toArray n) → Q (.ref a) { s with heap := h' }) :
    wpAny (model prog w) A (call (.builtin "sorted") [.ref t]) Q E s := by
  have hv : vs.length ≤ sizeLine := by rw [e.length]; exact hL
  refine call_function_entry_kw kind_sorted plain_sorted entry_sorted (args_sorted1 _) ?_; unfold Builtin.«sorted»
  refine wpAny_bind (m := checkCount "sorted" 1 1 _) (wpAny_pure (wpAny_bind (collect_tup ht hv (wpAny_bind (wpAny_newList ?_ hv)))))
  obtain ⟨h1, hh1⟩ : ∃ h1, h1 = (s.heap.push (seqObj "list" #[] 0)).update s.heap.objs.size (Obj.mapSeq (· ++ vs.toArray)) := ⟨_, rfl⟩
  rw [← hh1]
  have hsz : s.heap.objs.size ≤ h1.objs.size := by rw [hh1, Heap.size_update, size_push']; omega
  have k1 : ∀ b o, s.heap.get? b = some o → h1.get? b = some o := fun b o q => by
    rw [hh1, Heap.get?_update_ne _ _ _ _ (Nat.ne_of_lt (Heap.lt_size q))]
    exact Heap.get?_push_of_some _ q
  have ha : (h1.push (seqObj "list" vs.toArray 0)).get? h1.objs.size = some (seqObj "list" vs.toArray 0) := Heap.get?_push_size _ rfl
  have old : ∀ b o, s.heap.get? b = some o → (h1.push (seqObj "list" vs.toArray 0)).get? b = some o := fun b o q => Heap.get?_push_of_some _ (k1 b o q)
  have ne : ∀ b o, s.heap.get? b = some o → b ≠ h1.objs.size := fun b o q => Nat.ne_of_lt (Nat.lt_of_lt_of_le (Heap.lt_size q) hsz)
  have er' : PySem.W.EachIs (fun v b => ∃ as, Reads (PySem.W.sortingHeap (h1.push (seqObj "list" vs.toArray 0)) h1.objs.size vs) v (enc b) as) vs bs := er.mono fun _ _ ⟨as, r⟩ => ⟨as, PyProof.Rows.Reads.keeps (fun b o q => PySem.W.sortingHeap_old (ne b o q) (old b o q)) r⟩
  have S := PySem.W.SortsAt.data (prog := prog) (w := w) (A := A.in1.in1) (s := { s with heap := PySem.W.sortingHeap (h1.push (seqObj "list" vs.toArray 0)) h1.objs.size vs }) (PySem.W.each_map (R := fun v d => ∃ as, Reads (PySem.W.sortingHeap (h1.push (seqObj "list" vs.toArray 0)) h1.objs.size vs) v d as) enc er') hal hk (PySem.W.bound_map hu)
  refine wpAny_bind (wpAny_holding (wpAny_call_entry_kw slot_list_sort ⟨_, ha, rfl⟩ entry_list_sort ?body (PyProof.Rows.args_list_sort _)))
  case body =>
    refine PySem.W.list_sort_vals (s := { s with heap := h1.push (seqObj "list" vs.toArray 0) }) ha S hv ⟨_, rfl, wpAny_pure ⟨_, rfl, ?_⟩⟩
    obtain ⟨ep, he⟩ := PyProof.Rows.sortedHeap_at (out := (PySem.W.sortVals (PySem.W.dataKind (PySem.W.sortingHeap (h1.push (seqObj "list" vs.toArray 0)) h1.objs.size vs) (bs.map enc)) false vs vs).toArray) ha
    refine h _ _ _ ep (by rw [PySem.W.sortVals_length false rfl]; exact e.length) (PySem.W.sortVals_data false e er' hal) (fun b o q => ?_) hsz he
    rw [PyProof.Rows.sortedHeap_old (ne b o q) (by rw [PyProof.Rows.size_push']; exact Nat.lt_succ_of_lt (Nat.lt_of_lt_of_le (Heap.lt_size q) hsz))]
    exact old b o q
end
def rSrtT (K : PySem.W.Frag) : List V → Hp → VK → Prop := fun vs H Q => ∃ (a : Addr) (zs : List (D × V)), vs = [V.ref a] ∧ SqT K H a (zs.map (·.2)) ∧ (∀ z ∈ zs, Dp K H z.2 (py z.1)) ∧
  PySem.W.AllAlike (zs.map fun z => py z.1) ∧ PySem.W.Sortable (zs.map fun z => py z.1) ∧ zs.length ≤ sizeLine ∧ (∀ z ∈ zs, (py z.1).depth ≤ 20) ∧ ∀ p, H p = none → Q (.ref p) (upd H p (.lst ((zs.mergeSort (PySem.W.dataLe false fun z => py z.1)).map (·.2))))
section
variable {X : Cx}
theorem cr_srtT (hu : X.A.units + 65 < cLine) : CallR X (.builtin "sorted") (rSrtT X.K) := by
  intro pins s σ H vs us Q I r h
  obtain ⟨a, zs, rfl, hs, hd, hal, hso, hz, hdep, q⟩ := h
  obtain ⟨its, rv, hl, _⟩ := I.tuple hs
  rw [Vals.ref1 r]
  refine sorted_tup (enc := fun z : D × V => py z.1) (R := fun u z => RelV z.2 u) hl (each_of rv fun z _ u h => h) (each_of rv fun z m u h => Dp.reads I _ _ _ (hd z m) h) hal hso hz (fun z m => by have := hdep z m; omega) fun out p h' n ho eo kp le at_ => ?_
  have hv := each_vals eo
  have hlen : ((zs.mergeSort (PySem.W.dataLe false fun z : D × V => py z.1)).map (·.2)).length ≤ sizeLine := by rw [List.length_map, List.length_mergeSort]; exact hz
  exact ⟨.ref p, upd H p (.lst ((zs.mergeSort (PySem.W.dataLe false fun z : D × V => py z.1)).map (·.2))), I.laid (t' := s.toks) kp le ⟨hlen, out, n, hv, at_⟩, rfl, q _ (I.hok.fresh le)⟩
def gSortedT : List D → Option D
  | [.tup ds] => gSorted [.lst false ds]
  | xs => gSorted xs
theorem c_sortedT (hu : X.A.units + 65 < cLine) : OC true X (.builtin "sorted") gSortedT := by
  obtain ⟨r, hr, ho⟩ := c_sorted (X := X) hu
  refine ⟨_, hr.or (cr_srtT hu), fun H vs ds fp d hv hg Q q => ?_⟩
  unfold gSortedT at hg
  split at hg
  case h_2 => exact .inl (ho H vs ds fp d hv hg Q q)
  rename_i es
  refine .inr ?_
  unfold gSorted at hg
  simp only [seqD, Option.bind_some] at hg
  split at hg
  case isFalse => cases hg
  rename_i hc
  cases hg
  obtain ⟨⟨h1, h2⟩, h3, h4, h5, h6⟩ := hc
  obtain ⟨v, rfl, rr⟩ := hv.one
  obtain ⟨_, a, xs, k1, k2, ri⟩ := rr
  obtain ⟨z1, z2⟩ := zip_split ri.length
  have hm : (es.zip xs).map (fun z => py z.1) = es.map py := by
    have z := congrArg (List.map py) z1
    rw [List.map_map] at z; exact z
  have hp : ∀ z ∈ es.zip xs, z.1 ∈ es := fun z m => by rw [← z1]; exact List.mem_map_of_mem m
  have nod := nodics_mem h2
  refine ⟨a, es.zip xs, by rw [k1], by rw [z2]; exact SqT.of k2, fun z m => RI.dp _ _ (ri.zip z m) (nod _ (hp z m)), ?_, ?_, ?_, fun z m => ?_, fun p hpn => ?_⟩
  · rw [hm]
    intro x hx y hy
    obtain ⟨x', mx, rfl⟩ := List.mem_map.mp hx
    obtain ⟨y', my, rfl⟩ := List.mem_map.mp hy
    exact List.all_eq_true.mp (List.all_eq_true.mp h3 x' mx) y' my
  · rw [hm]
    rcases h4 with h4 | h4
    · exact .inl fun x hx => by
        obtain ⟨x', mx, rfl⟩ := List.mem_map.mp hx
        exact py_tup (List.all_eq_true.mp h4 x' mx)
    · exact .inr fun x hx => by
        obtain ⟨x', mx, rfl⟩ := List.mem_map.mp hx
        exact py_not (List.all_eq_true.mp h4 x' mx) (nod x' mx)
  · rw [List.length_zip, szL_eq, ri.length, Nat.min_self]; exact h5
  · exact of_decide_eq_true (List.all_eq_true.mp h6 _ (hp z m))
  · have e2 : ((es.zip xs).mergeSort (PySem.W.dataLe false fun z => py z.1)).map (·.1) = es.mergeSort leD := by
      have z := List.map_mergeSort (r := PySem.W.dataLe false fun z : D × V => py z.1) (s := leD) (f := fun z : D × V => z.1) (l := es.zip xs) (fun x _ y _ => rfl)
      rw [z, z1]
    have hr : RIs X.K H (es.mergeSort leD) (((es.zip xs).mergeSort (PySem.W.dataLe false fun z => py z.1)).map (·.2)) := by
      rw [← e2]
      exact RIs.of_pairs fun z m => ri.zip z (List.mem_mergeSort.mp m)
    exact q.lst hr hpn
end
theorem srt_tup {ds : List D} : gSortedT [.tup ds] = gSorted [.lst false ds] := rfl
theorem srt_lst {z : Bool} {ds : List D} : gSortedT [.lst z ds] = gSorted [.lst z ds] := rfl
end DL

set_option maxHeartbeats 4000000
/-! DL, part xp: a tuple unpacked while an exception is handled -/
namespace DL
open PySem PySem.Spec PyProof.Rows L2
section
variable {prog : Program} {w : World} {A : Around} {E : Value → Shared → Prop} {s : Shared}
theorem tup_end_hot {it t x1 : Addr} {i : Nat} {items : Array Value} {Q : Option Value → Shared → Prop} (hot : HotX.HotAt A x1 s.heap) (ne : x1 ≠ it) (hit : IsTupIter s.heap it t i) (ht : IsTup s.heap t items) (hx : items[i]? = none)
    (hQ : ∀ h', Heap.ExtBut it s.heap h' → Q none { s with heap := h' }) : wpAny (model prog w) A (pyNext (.ref it)) Q E s := by
  obtain ⟨o, ho, hc, hd⟩ := id hit; obtain ⟨ol, hol, _, nl, hdl⟩ := ht
  obtain ⟨hh, o1, vs1, h1, d1, c1⟩ := hot
  unfold pyNext; refine wpAny_bind (wpAny_attempt (wpAny_callSpecial?_slot (name := Str.ofString "__next__") hit.typeIs slot_tupleiter_next (wpAny_call_entry slot_tupleiter_next hit.typeIs entry_tupleiter_next ?_ (args_tupleiter_next _))))
  show wpAny _ _ (field (.ref it) 0 >>= _) _ _ s; refine wpAny_bind (wpAny_field ho hd (x := .ref t) rfl ?_)
  show wpAny _ _ (if (Value.ref t == Value.none) = true then _ else _) _ _ s; rw [if_neg (show ¬ ((Value.ref t == Value.none) = true) from Bool.false_ne_true)]
  show wpAny _ _ (field (.ref it) 1 >>= _) _ _ s; refine wpAny_bind (wpAny_field ho hd (x := .int i 0) rfl ?_)
  show wpAny _ _ (seqItems? (.ref t) >>= _) _ _ s; refine wpAny_bind (wpAny_seqItems hol hdl ?_)
  simp only [Int.toNat_natCast, hx]
  refine wpAny_bind (wpAny_rule (wpAny_bind (wpAny_setField ho hd (by simp) ?_)))
  show wpAny _ _ (newExc (.type "StopIteration") [] >>= _) _ _ _; refine wpAny_bind ?_; simp only [newExc, newTuple]
  refine wpAny_bind (wpAny_newObj_type ?_ (by size_fits)); refine wpAny_bind (m := firstArgMember _ _) (wpAny_of_eq (a := Value.none) (by first | rfl | (simp only [firstArgMember]; rfl)) ?_); refine wpAny_newObj_type ?_ (by size_fits)
  have k1 : ∀ b u, b ≠ it → s.heap.get? b = some u → (s.heap.update it (Obj.mapFields (·.setIfInBounds 0 Value.none))).get? b = some u := fun b u nb e => by
    rw [Heap.get?_update_other _ _ (Ne.symm nb)]; exact e
  have hx1 := k1 x1 o1 ne h1
  refine HotX.raiseNew_hot ⟨hh, o1, vs1, Heap.get?_push_of_some _ (Heap.get?_push_of_some _ hx1), d1, c1⟩ (Nat.ne_of_lt (Heap.lt_size (Heap.get?_push_of_some _ hx1))) (Heap.get?_push_size _ rfl) rfl (by first | (simp; done) | (simp; omega) | (simp only [Array.size_append]; simp; omega)) ?_
  refine wpAny_bind (wpAny_isInstance (T := "StopIteration") (b := true) ⟨_, Heap.get?_update_self _ (Heap.get?_push_size _ rfl) rfl, rfl⟩ isSubtype_stop ?_); refine wpAny_pure (hQ _ fun b u nb e => ?_)
  have e1 := k1 b u nb e
  rw [Heap.get?_update_other _ _ (Nat.ne_of_gt (Heap.lt_size (Heap.get?_push_of_some _ e1)))]; exact Heap.get?_push_of_some _ (Heap.get?_push_of_some _ e1)
theorem hot_kept {x1 : Addr} {h h' : Heap} (hot : HotX.HotAt A x1 h) (k : ∀ o, h.get? x1 = some o → h'.get? x1 = some o) : HotX.HotAt A x1 h' := by
  obtain ⟨hh, o1, vs1, h1, d⟩ := hot
  exact ⟨hh, o1, vs1, k o1 h1, d⟩
theorem hot_lt {x1 : Addr} {h : Heap} (hot : HotX.HotAt A x1 h) : x1 < h.objs.size := by
  obtain ⟨_, o1, _, h1, _⟩ := hot
  exact Heap.lt_size h1
theorem items_hot {t x1 : Addr} {items : Array Value} {Q : List Value → Shared → Prop} (hot : HotX.HotAt A x1 s.heap) (ht : IsTup s.heap t items)
    (hQ : ∀ h', Heap.ExtBut s.heap.objs.size s.heap h' → Q items.toList { s with heap := h' }) : wpAny (model prog w) A (unpackItems (.ref t) items.size none) Q E s := by
  have hlt : t ≠ s.heap.objs.size := by obtain ⟨o, ho, _⟩ := ht; exact Nat.ne_of_lt (Heap.lt_size ho)
  have hx : x1 ≠ s.heap.objs.size := Nat.ne_of_lt (hot_lt hot)
  unfold unpackItems; refine wpAny_bind ?_; unfold notIterableAtAll; refine wpAny_bind (wpAny_specialOf ht.typeIs slot_tuple_iter.lookup (wpAny_pure ?_))
  simp only [Bool.false_eq_true, if_false]; refine wpAny_bind (wpAny_holding (iter_tuple ht ?_))
  refine wpAny_bind (wpAny_holding (draw_tuple hlt items.size 0 _ _ ⟨_, Heap.get?_push_size _ rfl, rfl, rfl⟩ (ht.push _) (by omega) fun h₁ it1 sb => ?_))
  have hall : List.take items.size (List.drop 0 items.toList) = items.toList := by rw [List.drop_zero]; exact List.take_of_length_le (by simp)
  rw [hall, if_neg (by simp)]
  have ht1 : IsTup h₁ t items := (ht.push _).extBut sb.extBut hlt
  have hot1 : HotX.HotAt A x1 h₁ := hot_kept hot fun o e => sb.extBut x1 o hx (Heap.get?_push_of_some _ e)
  refine wpAny_bind (wpAny_holding (tup_end_hot hot1 hx it1 ht1 (by simp) fun h2 e2 => ?_))
  simp only [Option.isSome_none, Bool.false_eq_true, if_false]; exact wpAny_pure (hQ h2 fun b o hb e => e2 b o hb (sb.extBut b o hb (Heap.get?_push_of_some _ e)))
theorem asg_tup_hot {env : PySem.Env} {elts : List Expr} {k} {pos : Pos} {t x1 : Addr} {items : Array Value} {Q : Unit → Shared → Prop} (hot : HotX.HotAt A x1 s.heap) (ht : IsTup s.heap t items)
    (hn : (assignEach elts env).length = items.size) (hst : (assignEach elts env).findIdx? (·.1) = none)
    (h : ∀ h', Heap.ExtBut s.heap.objs.size s.heap h' → wpAny (model prog w) A (assignInOrder ((assignEach elts env).map (·.2)) items.toList) Q E { s with heap := h' }) : wpAny (model prog w) A (assign (.Tuple elts k pos) env (.ref t)) Q E s := by
  rw [assign_Tuple]; refine wpAny_bind (wpAny_standAt ?_)
  unfold unpack; rw [hn, hst]
  exact wpAny_bind (wpAny_holding (items_hot hot ht h))
end
section
variable {X : Cx} {P : Nat → Bool}
theorem pg_tupH {es : List Expr} {k : Nat} {t : TGs} {n : Nat} {pos : Pos} (hc : L2H.HotC X) (h : PGs X es t) (hn : (assignEach es X.env).length = n := by rfl) (hst : (assignEach es X.env).findIdx? (·.1) = none := by rfl) : PG X (.Tuple es k pos) (gTup X.K n t) := by
  refine ⟨fun pins s σ H v u Q I r hw => ?_⟩
  obtain ⟨a, xs, e1, hq, hl, hw⟩ := hw; subst e1; cases r
  obtain ⟨its, rv, ht, hz⟩ := I.tuple hq; obtain ⟨x1, hot⟩ := hc.at I
  refine asg_tup_hot hot ht (by simp [hn, ← hl, rv.length]) hst fun h' hx => ?_
  have I1 : Inv X pins σ H { s with heap := h' } := I.kept (t' := s.toks) fun b o e => hx b o (Nat.ne_of_lt (Heap.lt_size e)) e; exact h.run pins _ σ H xs _ Q I1 (by simpa using rv) hw
theorem dg_tupH {es : List Expr} {k : Nat} {g : GsSm} {n : Nat} {p : Pos} (hc : L2H.HotC X) (h : DGs P X es g) (hn : (assignEach es X.env).length = n := by rfl) (hst : (assignEach es X.env).findIdx? (·.1) = none := by rfl) : DG P X (.Tuple es k p) (gTu n g) :=
  pg_of (pg_tupH hc h hn hst) fun v σ H Q ⟨d, env, env', fp, fr, s, r, nd, hg, q⟩ => by
  cases d with
  | tup ds =>
    obtain ⟨ez, a, xs, h1, h2, h3⟩ := r
    subst ez
    unfold gTu at hg
    simp only at hg
    split at hg
    case isFalse => cases hg
    rename_i hl
    exact ⟨a, xs, h1, SqT.of h2, by rw [h3.length]; exact hl, ds, env, env', fp, s, h3, nd, hg, q⟩
  | _ => cases hg
end
end DL

set_option maxHeartbeats 4000000
namespace DL
open PySem PySem.Spec PyProof.Rows L2
/-! ### of k30: the common part -/
section
variable {f g : SSm} {c : TSm} {env e1 e' : Env} {r : Option (Out × Env)} {d : D} {P : Nat → Bool} {n m : Nat} {body : SSm} {ds : List D}
theorem seq_nx (h : f env = some (.nx, e1)) (h' : g e1 = r) : sSeq f g env = r := by unfold sSeq; rw [h]; exact h'
theorem seq_rt (h : f env = some (.rt d, e1)) : sSeq f g env = some (.rt d, e1) := by unfold sSeq; rw [h]; rfl
theorem if_t (h : c env = some (true, e1)) (h' : f e1 = r) : sIf c f g env = r := by unfold sIf; rw [h]; exact h'
theorem if_f (h : c env = some (false, e1)) (h' : g e1 = r) : sIf c f g env = r := by unfold sIf; rw [h]; exact h'
theorem fn_rt (hl : ds.length = n) (h : body (ds.map some ++ List.replicate m none) = some (.rt d, e')) : fnF P n m body ds = some (d, outsOf P n e') := by unfold fnF; rw [if_pos hl, h]; rfl
end
theorem ix0 {d : D} {ds : List D} {z : Bool} : dIx (.lst z (d :: ds)) (.int 0) = some d := by rw [ix_lst, at0]
theorem tru_cons {z : Bool} {d : D} {ds : List D} : tru (.lst z (d :: ds)) = some true := rfl
theorem tru_nil {z : Bool} : tru (.lst z []) = some false := rfl
theorem tru_ints {z : Bool} {bs : List Int} : tru (.lst z (bs.map D.int)) = some (!bs.isEmpty) := by cases bs <;> rfl
theorem fzs_ints : ∀ l : List Int, fzs (l.map D.int) = l.map D.int
  | [] => rfl
  | x :: l => by show fz (.int x) :: fzs (l.map D.int) = _; rw [fzs_ints l]; rfl
theorem cut_map {f : Int → D} (l : List Int) (lo hi : Option Int) : ∃ l' : List Int, cutD (l.map f) lo hi = l'.map f ∧ l'.length ≤ l.length := ⟨_, by unfold cutD; rw [← List.map_drop, ← List.map_take], by simp; omega⟩
theorem pow18 : dPow (.int 10) (.int 18) = some (.int 1000000000000000000) := by simp [dPow]
theorem ixi_of {a b d : D} (h : dIx a b = some d) (hi : isImm d = true) : dIxI a b = some d := by
  unfold dIxI
  rw [h]
  show (if isImm d = true then some d else none) = _
  rw [if_pos hi]
def rstrip (r : Int) (l : List Int) : List Int := (l.reverse.dropWhile fun x => x == r).reverse
theorem rstrip_nil {r : Int} : rstrip r [] = [] := rfl
theorem rstrip_snoc {r x : Int} {l : List Int} : rstrip r (l ++ [x]) = if x = r then rstrip r l else l ++ [x] := by
  unfold rstrip
  rw [List.reverse_append]
  simp only [List.reverse_cons, List.reverse_nil, List.nil_append, List.cons_append, List.dropWhile_cons]
  by_cases h : x = r
  · simp [h]
  · simp [h]
theorem snoc_ind {P : List Int → Prop} (h0 : P []) (h1 : ∀ l x, P l → P (l ++ [x])) : ∀ l, P l := by
  intro l
  have : ∀ m : List Int, P m.reverse := fun m => by
    induction m with
    | nil => exact h0
    | cons x m ih => rw [List.reverse_cons]; exact h1 _ _ ih
  have z := this l.reverse
  rwa [List.reverse_reverse] at z
theorem rstrip_pre (r : Int) : ∀ l : List Int, ∃ t, l = rstrip r l ++ t := snoc_ind ⟨[], rfl⟩ fun l x ⟨t, h⟩ => by
  rw [rstrip_snoc]
  split
  · exact ⟨t ++ [x], by rw [← List.append_assoc, ← h]⟩
  · exact ⟨[], by simp⟩
theorem rstrip_le (r : Int) (l : List Int) : (rstrip r l).length ≤ l.length := by
  obtain ⟨t, h⟩ := rstrip_pre r l
  have := congrArg List.length h
  rw [List.length_append] at this
  omega
theorem rstrip_mem {r x : Int} {l : List Int} (h : x ∈ rstrip r l) : x ∈ l := by
  obtain ⟨t, e⟩ := rstrip_pre r l
  rw [e]; exact List.mem_append_left _ h
theorem at_last {α : Type} {l : List α} {x : α} : L2.atI (l ++ [x]) (-1) = some x := by
  unfold L2.atI L2.ixN
  rw [if_neg (by omega), if_pos (by simp; omega)]
  have e : (-1 + ((l ++ [x]).length : Int)).toNat = l.length := by simp; omega
  rw [Option.bind_some, e]
  simp
theorem pop_last {l : List D} {x : D} : mPop (.lst false (l ++ [x])) [] = some (x, .lst false l) := by
  simp [mPop]
theorem ints_imm (l : List Int) : (l.map D.int).all isImm = true := all_map _ fun _ => rfl
theorem cut_take {l : List D} {n : Nat} (h : n ≤ l.length) : cutD l none (some (n : Int)) = l.take n := by
  unfold cutD
  have e1 : HT.sIx l.length 0 none = 0 := rfl
  have e2 : HT.sIx l.length l.length (some (n : Int)) = n := by
    rw [HT.sIx_nat]; omega
  rw [e1, e2]
  simp
theorem one_ok {c : Nat} (h : c < 0x110000) : PyData.strOk ⟨#[c]⟩ = true := by simp [PyData.strOk, h]
theorem app_ok {a b : Str} (ha : PyData.strOk a = true) (hb : PyData.strOk b = true) : PyData.strOk (a ++ b) = true := by
  unfold PyData.strOk at *
  rw [Str.cps_append, Array.all_append, ha, hb]; rfl
theorem join_ok : ∀ {ss : List Str}, (∀ s ∈ ss, PyData.strOk s = true) → PyData.strOk (Str.join ("" : Str) ss) = true
  | [], _ => by decide +kernel
  | [x], h => h x List.mem_cons_self
  | x :: y :: r, h => by
    have ih := join_ok (ss := y :: r) fun s m => h s (List.mem_cons_of_mem _ m)
    show PyData.strOk (x ++ ("" : Str) ++ Str.join ("" : Str) (y :: r)) = true
    exact app_ok (app_ok (h x List.mem_cons_self) (by decide +kernel)) ih
theorem ix_strO {s : Str} {r : Int} (ok : PyData.strOk s = true) (h0 : 0 ≤ r) (h1 : r < s.length) (hz : s.length ≤ 16777216) : ∃ c, c < 0x110000 ∧ dIx (.str s) (.int r) = some (.str ⟨#[c]⟩) := by
  obtain ⟨n, rfl⟩ := Int.eq_ofNat_of_zero_le h0
  have hn : n < s.cps.toList.length := by rw [Array.length_toList]; exact_mod_cast h1
  refine ⟨s.cps.toList[n], ?_, ?_⟩
  · unfold PyData.strOk at ok
    rw [← Array.all_toList] at ok
    exact of_decide_eq_true (List.all_eq_true.mp ok _ (List.getElem_mem hn))
  show (if s.length ≤ szL then (L2.atI s.cps.toList (n : Int)).map fun c => D.str ⟨#[c]⟩ else none) = _
  rw [if_pos hz, at_nat hn]
  rfl
theorem one_len {c : Nat} : (⟨#[c]⟩ : Str).length = 1 := rfl
theorem fzs_map {α : Type} {f : α → D} (l : List α) (h : ∀ a, fz (f a) = f a) : fzs (l.map f) = l.map f := fzs_imm fun d m => by
  obtain ⟨a, _, rfl⟩ := List.mem_map.mp m
  exact h a
theorem sorted_any {α : Type} {f : α → D} (l : List α) (h : l.length ≤ 16777216) (hi : ∀ a, isImm (f a) = true) (hn : ∀ a, nodic (f a) = true) (hal : ∀ a b, PySem.W.alike (py (f a)) (py (f b)) = true) (ht : ∀ a, tupNe (f a) = true) (hd : ∀ a, (py (f a)).depth ≤ 20) :
    ∃ l' : List α, l'.length = l.length ∧ gSorted [.lst false (l.map f)] = some (.lst false (l'.map f)) ∧ ∀ d ∈ l'.map f, d ∈ l.map f := by
  have h1 : ((l.map f).all isImm = true ∧ nodics (l.map f) = true) ∧ alikeB (l.map f) = true ∧ ((l.map f).all tupNe = true ∨ (l.map f).all notTup = true) ∧ (l.map f).length ≤ szL ∧ ((l.map f).all fun z => decide ((py z).depth ≤ 20)) = true :=
    ⟨⟨all_map _ hi, nodics_all fun d m => by obtain ⟨a, _, rfl⟩ := List.mem_map.mp m; exact hn a⟩, by unfold alikeB; simp [List.all_eq_true, hal], .inl (all_map _ ht), by rw [List.length_map]; exact h, all_map _ fun a => by simp [hd a]⟩
  have key : ∀ ds : List D, (∀ d ∈ ds, ∃ a, d = f a) → ∃ l' : List α, ds = l'.map f := fun ds => by
    induction ds with
    | nil => exact fun _ => ⟨[], rfl⟩
    | cons d ds ih =>
      intro h
      obtain ⟨s, rfl⟩ := h d List.mem_cons_self
      obtain ⟨l', rfl⟩ := ih fun e m => h e (List.mem_cons_of_mem _ m)
      exact ⟨s :: l', rfl⟩
  obtain ⟨l', hl'⟩ := key ((l.map f).mergeSort leD) fun d m => by
    obtain ⟨a, _, rfl⟩ := List.mem_map.mp (List.mem_mergeSort.mp m)
    exact ⟨a, rfl⟩
  refine ⟨l', ?_, ?_, fun d m => ?_⟩
  · have := congrArg List.length hl'
    simpa using this.symm
  · show (if _ then some (D.lst false ((l.map f).mergeSort leD)) else none) = _
    rw [if_pos h1, hl']
  · rw [← hl'] at m
    exact List.mem_mergeSort.mp m
theorem pick_ints {r : Int} (vs : List Int) (h0 : 0 ≤ r) (h1 : r < vs.length) : ∃ v : Int, dIxI (.lst false (vs.map D.int)) (.int r) = some (.int v) := by
  obtain ⟨d, m, e⟩ := pick_list (ds := vs.map D.int) (ints_imm vs) h0 (by simpa using h1)
  obtain ⟨v, _, rfl⟩ := List.mem_map.mp m
  exact ⟨v, e⟩
theorem at_map {α : Type} {f : α → D} {l : List α} {i : Nat} (h : i < l.length) : L2.atI (l.map f) (i : Int) = some (f l[i]) := by
  rw [at_nat (by simpa using h)]; simp
theorem g_max {i j : Int} : gMax [.int i, .int j] = some (.int (if i < j then j else i)) := rfl
theorem g_min {i j : Int} : gMin [.int i, .int j] = some (.int (if j < i then j else i)) := rfl
theorem lt_tup {a b c d : Int} : dLtX (.tup [.int a, .int b]) (.tup [.int c, .int d]) = some (.bl (HT.lexLt [a, b] [c, d])) := rfl
theorem fm_len {α β : Type} (f : α → Option β) (l : List α) : (l.filterMap f).length ≤ l.length := List.length_filterMap_le ..
theorem comp_fm {α β : Type} {vs : List Nat} {g : GSm} {c : TSm} {el : ESm} {w : Env} {f : α → D} {h : β → D} (sel : α → Option β) : ∀ {xs : List α} {env : Env} {acc : List D} {Q : List D × Env → Prop}, wipeE env vs = w →
    (∀ x ∈ xs, Ok (g (f x) w) fun e1 => Ok (c e1) fun b => if b.1 = true then (∃ y, sel x = some y ∧ Ok (el b.2) fun r => r.1 = h y ∧ wipeE r.2 vs = w) else sel x = none ∧ wipeE b.2 vs = w) → acc.length + xs.length ≤ 16777216 →
    Q (acc ++ (xs.filterMap sel).map h, w) → Ok (compL vs g c el (xs.map f) env acc) Q
  | [], env, acc, Q, h0, _, _, q => by
    rw [List.filterMap_nil, List.map_nil, List.append_nil] at q
    exact ⟨(acc, wipeE env vs), rfl, by rw [h0]; exact q⟩
  | x :: xs, env, acc, Q, h0, hs, hz, q => by
    obtain ⟨e1, k1, ⟨b, e2⟩, k2, k3⟩ := hs x List.mem_cons_self
    have hz' : acc.length + (xs.length + 1) ≤ 16777216 := hz
    rw [List.map_cons]
    unfold compL
    rw [h0, k1, Option.bind_some, k2, Option.bind_some]
    cases b with
    | false =>
      obtain ⟨k4, k5⟩ : sel x = none ∧ wipeE e2 vs = w := by simpa using k3
      rw [List.filterMap_cons_none k4] at q
      exact comp_fm sel k5 (fun x m => hs x (List.mem_cons_of_mem _ m)) (by omega) q
    | true =>
      obtain ⟨y, k4, ⟨r, e3⟩, k5, k6, k7⟩ : ∃ y, sel x = some y ∧ Ok (el e2) fun r => r.1 = h y ∧ wipeE r.2 vs = w := by simpa using k3
      have k6 : r = h y := k6
      subst k6
      rw [List.filterMap_cons_some k4] at q
      show Ok ((el e2).bind _) Q
      rw [k5, Option.bind_some]
      show Ok (if acc.length < szL then _ else none) Q
      rw [if_pos (show acc.length < 16777216 by omega)]
      refine comp_fm sel k7 (fun x m => hs x (List.mem_cons_of_mem _ m)) (by rw [List.length_append]; show acc.length + 1 + xs.length ≤ 16777216; omega) ?_
      simpa using q
theorem filterMap_all {α β : Type} (f : α → β) (l : List α) : l.filterMap (fun x => some (f x)) = l.map f := by
  rw [List.filterMap_eq_map']
theorem rng_map (m : Int) (n : Nat) : rngD m n = (List.range n).map fun k => D.int (m + (k : Nat)) := rfl
mutual
def nodes : D → Nat
  | .tup ds => nodesL ds + 1
  | _ => 1
def nodesL : List D → Nat
  | [] => 0
  | d :: ds => nodes d + nodesL ds
end
mutual
def plainD : D → Bool
  | .int _ => true
  | .str _ => true
  | .tup ds => plainL ds
  | _ => false
def plainL : List D → Bool
  | [] => true
  | d :: ds => plainD d && plainL ds
end
theorem nodes_pos (d : D) : 1 ≤ nodes d := by cases d <;> simp [nodes]
theorem nodesL_app : ∀ a b : List D, nodesL (a ++ b) = nodesL a + nodesL b
  | [], b => by simp [nodesL]
  | d :: a, b => by simp only [List.cons_append, nodesL, nodesL_app a b]; omega
theorem nodesL_len : ∀ a : List D, a.length ≤ nodesL a
  | [] => Nat.le_refl _
  | d :: a => by
    have := nodesL_len a
    have := nodes_pos d
    simp only [List.length_cons, nodesL]; omega
theorem plainL_app : ∀ a b : List D, plainL (a ++ b) = (plainL a && plainL b)
  | [], b => by simp [plainL]
  | d :: a, b => by simp only [List.cons_append, plainL, plainL_app a b, Bool.and_assoc]
theorem plain_imm {d : D} (h : plainD d = true) : isImm d = true := by cases d <;> first | rfl | simp [plainD] at h
theorem plainL_mem : ∀ {ds : List D}, plainL ds = true → ∀ d ∈ ds, plainD d = true
  | [], _, _, m => (nomatch m)
  | d :: ds, h, e, m => by
    simp only [plainL, Bool.and_eq_true] at h
    rcases List.mem_cons.mp m with rfl | m
    · exact h.1
    · exact plainL_mem h.2 e m
theorem nodesL_map {α : Type} {f : α → D} {k : Nat} (h : ∀ a, nodes (f a) ≤ k) : ∀ l : List α, nodesL (l.map f) ≤ k * l.length
  | [] => by simp [nodesL]
  | a :: l => by
    have := h a
    have := nodesL_map h l
    simp only [List.map_cons, nodesL, List.length_cons, Nat.mul_succ]
    omega
theorem plainL_map {α : Type} {f : α → D} (h : ∀ a, plainD (f a) = true) : ∀ l : List α, plainL (l.map f) = true
  | [] => by simp [plainL]
  | a :: l => by simp only [List.map_cons, plainL, h a, plainL_map h l, Bool.and_self]
theorem is_int {i : Int} : dIs (.int i) .non = some (.bl false) := rfl
theorem is_str {s : Str} : dIs (.str s) .non = some (.bl false) := rfl
theorem rng_self (ds : List D) : rngD 0 ds.length = (List.range ds.length).map fun k => D.int (k : Nat) := by
  unfold rngD
  congr 1
  funext k
  rw [Int.zero_add]
theorem range_getD (ds : List D) : ((List.range ds.length).map fun k => ds.getD k .non) = ds := by
  apply List.ext_getElem
  · simp
  · intro k h1 h2
    simp [List.getD_eq_getElem?_getD, h2]
theorem isT_int {i : Int} : isD "tuple" (.int i) = false := by simp [isD, tyN]
theorem isL_int {i : Int} : isD "list" (.int i) = false := by simp [isD, tyN]
theorem isT_str {s : Str} : isD "tuple" (.str s) = false := by simp [isD, tyN]
theorem isL_str {s : Str} : isD "list" (.str s) = false := by simp [isD, tyN]
theorem isT_tup {ds : List D} : isD "tuple" (.tup ds) = true := by simp [isD, tyN]
theorem nft_int {i : Int} : notFT (.int i) = true := rfl
theorem nft_str {s : Str} : notFT (.str s) = true := rfl
theorem nft_tup {ds : List D} : notFT (.tup ds) = true := rfl
theorem bne_self (b : Bool) : (!(b == b)) = false := by simp
theorem ine_self (i : Int) : (!(i == i)) = false := by simp
theorem sne_self (s : Str) : (!decide (s = s)) = false := by simp
def kS (s : Str) : L2.Key := (.inr s : Int ⊕ Str)
def kI (i : Int) : L2.Key := (.inl i : Int ⊕ Str)
theorem kS_inj {a b : Str} : kS a = kS b ↔ a = b := ⟨fun h => Sum.inr.inj h, fun h => by rw [h]⟩
theorem kI_inj {a b : Int} : kI a = kI b ↔ a = b := ⟨fun h => Sum.inl.inj h, fun h => by rw [h]⟩
theorem kSI {a : Str} {b : Int} : (kS a = kI b) = False := eq_false fun h => (nomatch (show (.inr a : Int ⊕ Str) = .inl b from h))
theorem kIS {a : Str} {b : Int} : (kI b = kS a) = False := eq_false fun h => (nomatch (show (.inl b : Int ⊕ Str) = .inr a from h))
theorem getZ_isSome {κ : Type} [DecidableEq κ] : ∀ {ks : List κ} {ds : List D} {k : κ}, ks.length = ds.length → ((getZ ks ds k).isSome = true ↔ k ∈ ks)
  | [], _, k, _ => by simp [getZ]
  | a :: ks, [], k, h => by cases h
  | a :: ks, d :: ds, k, h => by
    unfold getZ
    by_cases e : a = k
    · simp [e]
    · rw [if_neg e, getZ_isSome (by simpa using h)]
      simp [Ne.symm e]
theorem setZ_mem {κ : Type} [DecidableEq κ] : ∀ {ks : List κ} {ds : List D} {k : κ} {v x : D}, x ∈ setZ ks ds k v → x = v ∨ x ∈ ds
  | [], ds, k, v, x, h => .inr (by cases ds <;> simpa [setZ] using h)
  | a :: ks, [], k, v, x, h => by simp [setZ] at h
  | a :: ks, d :: ds, k, v, x, h => by
    simp only [setZ, List.mem_cons] at h
    rcases h with h | h
    · by_cases e : a = k
      · rw [if_pos e] at h; exact .inl h
      · rw [if_neg e] at h; exact .inr (by rw [h]; exact List.mem_cons_self)
    · exact (setZ_mem h).imp id (List.mem_cons_of_mem _)
theorem dc_ok {vs : List Nat} {g : GSm} {c : TSm} {kx vx : ESm} {Q : D × Env → Prop} (I : Nat → Env → D → Prop) : ∀ {ds : List D} {env : Env} {acc : D}, I 0 env acc →
    (∀ i d e acc, ds[i]? = some d → I i e acc → Ok (g d (wipeE e vs)) fun e1 => Ok (c e1) fun b => if b.1 = true then Ok (kx b.2) fun k => Ok (vx k.2) fun v => Ok (dPut acc k.1 v.1) fun acc' => I (i + 1) v.2 acc' else I (i + 1) b.2 acc) →
    (∀ e acc, I ds.length e acc → Q (acc, wipeE e vs)) → Ok (dcL vs g c kx vx ds env acc) Q
  | [], env, acc, h0, _, hq => ⟨(acc, wipeE env vs), rfl, hq env acc h0⟩
  | d :: ds, env, acc, h0, hs, hq => by
    obtain ⟨e1, k1, ⟨b, e2⟩, k2, k3⟩ := hs 0 d env acc rfl h0
    unfold dcL
    rw [k1, Option.bind_some, k2, Option.bind_some]
    cases b with
    | false =>
      exact dc_ok (fun i e a => I (i + 1) e a) (by simpa using k3) (fun i x e a hx hi => hs (i + 1) x e a (by simpa using hx) hi) hq
    | true =>
      obtain ⟨⟨k, e3⟩, k4, ⟨v, e4⟩, k5, a', k6, k7⟩ : Ok (kx e2) fun k => Ok (vx k.2) fun v => Ok (dPut acc k.1 v.1) fun acc' => I 1 v.2 acc' := by simpa using k3
      show Ok ((kx e2).bind _) Q
      rw [k4, Option.bind_some]
      show Ok ((vx e3).bind _) Q
      rw [k5, Option.bind_some]
      show Ok ((dPut acc k v).bind _) Q
      rw [k6, Option.bind_some]
      exact dc_ok (fun i e a => I (i + 1) e a) k7 (fun i x e a hx hi => hs (i + 1) x e a (by simpa using hx) hi) hq

theorem put_at {l : List Int} {h : Nat} {v : Int} (hh : h < l.length) : dPut (.lst false (l.map D.int)) (.int (h : Nat)) (.int v) = some (.lst false ((l.set h v).map D.int)) := by
  show ((L2.ixN (l.map D.int).length (h : Int)).map fun j => D.lst false ((l.map D.int).set j (.int v))) = _
  unfold L2.ixN
  rw [if_pos (by omega), if_pos (by simp; omega)]
  simp
theorem for_nil {g : GSm} {body : SSm} {env : Env} {Q : Out × Env → Prop} (q : Q (.nx, env)) : Ok (forL g body [] env) Q := ok_of rfl q
theorem for_cons {g : GSm} {body : SSm} {d : D} {ds : List D} {env : Env} {Q : Out × Env → Prop} (h : Ok (g d env) fun e1 => Ok (body e1) fun r => r.1 = .nx ∧ Ok (forL g body ds r.2) Q) : Ok (forL g body (d :: ds) env) Q := by
  obtain ⟨e1, h1, ⟨o, e2⟩, h2, h3, h4⟩ := h
  have h3 : o = .nx := h3
  subst h3
  unfold forL
  rw [h1, Option.bind_some, h2, Option.bind_some]
  exact h4
theorem set_self {l : List Int} {i : Nat} {v : Int} (h : l[i]? = some v) : l.set i v = l := by
  obtain ⟨h1, h2⟩ := List.getElem?_eq_some_iff.mp h
  rw [← h2, List.set_getElem_self]
theorem take_at {α : Type} {l : List α} {i : Nat} (h : i < l.length) : l.take (i + 1) = l.take i ++ [l[i]] := by
  rw [List.take_succ]; simp [h]
theorem at_mapE {α : Type} {f : α → D} {l : List α} {i : Nat} {d : D} (h : (l.map f)[i]? = some d) : ∃ hi : i < l.length, d = f l[i] := by
  rw [List.getElem?_map] at h
  obtain ⟨c, h1, h2⟩ := Option.map_eq_some_iff.mp h
  obtain ⟨h3, h4⟩ := List.getElem?_eq_some_iff.mp h1
  exact ⟨h3, by rw [h4, h2]⟩
theorem in_strs {z : Bool} {n : Str} {bs : List Str} : dIn (.str n) (.lst z (bs.map D.str)) = some (.bl (decide (n ∈ bs))) := by
  have e : dIn0 (.str n) (.lst z (bs.map D.str)) = some (L2.inV (fv (.str n)) ((bs.map D.str).map fv)) := by
    simp only [dIn0, dGet, seqD]
    rw [if_pos ⟨rfl, all_map _ fun _ => rfl⟩]
  unfold dIn
  rw [e]
  show some (D.bl (L2.inV (.str n) ((bs.map D.str).map fv))) = _
  congr 2
  unfold L2.inV
  induction bs with
  | nil => simp
  | cons b bs ih =>
    rw [List.map_cons, List.map_cons, List.any_cons, ih (by
      simp only [dIn0, dGet, seqD]
      rw [if_pos ⟨rfl, all_map _ fun _ => rfl⟩])]
    by_cases hb : b = n
    · subst hb
      simp [fv, L2.eqV]
    · have : L2.eqV (fv (.str b)) (.str n) = false := by simp [fv, L2.eqV, hb]
      rw [this]
      simp [Ne.symm hb]
theorem pys_map {α : Type} (f : α → D) : ∀ l : List α, pys (l.map f) = l.map fun a => py (f a)
  | [] => by simp [pys]
  | a :: l => by simp [pys, pys_map f l]
theorem lay_all : ∀ {l : List PyData}, (∀ d ∈ l, d.canLay0 = true) → PyData.canLayAll0 l = true
  | [], _ => by simp [PyData.canLayAll0]
  | d :: l, h => by rw [PyData.canLayAll0, h d List.mem_cons_self, lay_all fun e m => h e (List.mem_cons_of_mem _ m)]; rfl
theorem dep_all : ∀ {l : List PyData}, (∀ d ∈ l, d.depth ≤ 1) → PyData.depthAll l ≤ 1
  | [], _ => by simp [PyData.depthAll]
  | d :: l, h => by
    rw [PyData.depthAll]
    have := h d List.mem_cons_self
    have := dep_all fun e m => h e (List.mem_cons_of_mem _ m)
    omega
theorem nat_add {k : Nat} {r : Int} (h : 0 ≤ r) : (k : Int) + r = ((k + r.toNat : Nat) : Int) := by omega
/-! ### more of the same -/
section
variable {env : Env} {d : D} {i : Nat}
theorem w_oNoE {Q : Option Int × Env → Prop} : Ok (oNoE env) Q = Q (none, env) := ok_some
theorem w_oSomeE {f : ESm} {Q : Option Int × Env → Prop} : Ok (oSomeE f env) Q = Ok (f env) fun r => ∃ i, r.1 = .int i ∧ Q (some i, r.2) := by
  unfold oSomeE Ok
  refine propext ⟨?_, ?_⟩
  · rintro ⟨a, e, q⟩
    split at e
    · rename_i i en h; cases e; exact ⟨_, h, i, rfl, q⟩
    · cases e
  · rintro ⟨⟨d, en⟩, h, i, z, q⟩
    have z : d = .int i := z
    subst z
    exact ⟨(some i, en), by rw [h], q⟩
theorem w_eSl {f : ESm} {l h : Env → Option (Option Int × Env)} {Q : D × Env → Prop} : Ok (eSl f l h env) Q = Ok (f env) fun d => Ok (l d.2) fun i => Ok (h i.2) fun j => Ok (dSl d.1 i.1 j.1) fun r => Q (r, j.2) := by
  unfold eSl; rw [ok_bind]; refine ok_cg fun x => ?_; rw [ok_bind]; refine ok_cg fun y => ?_; rw [ok_bind]; refine ok_cg fun z => ?_; rw [ok_map]
theorem w_eNot {f : ESm} {Q : D × Env → Prop} : Ok (eNot f env) Q = Ok (f env) fun d => Ok (tru d.1) fun b => Q (.bl (!b), d.2) := by unfold eNot; rw [ok_bind]; refine ok_cg fun x => ?_; rw [ok_map]
theorem w_eAnd2 {f g : ESm} {Q : D × Env → Prop} : Ok (eAnd2 f g env) Q = Ok (f env) fun d => Ok (tru d.1) fun b => if b = true then Ok (g d.2) Q else Q d := by
  unfold eAnd2; rw [ok_bind]; refine ok_cg fun x => ?_; rw [ok_bind]; refine ok_cg fun y => ?_; rw [ok_ite, ok_some]
theorem w_eOr2 {f g : ESm} {Q : D × Env → Prop} : Ok (eOr2 f g env) Q = Ok (f env) fun d => Ok (tru d.1) fun b => if b = true then Q d else Ok (g d.2) Q := by
  unfold eOr2; rw [ok_bind]; refine ok_cg fun x => ?_; rw [ok_bind]; refine ok_cg fun y => ?_; rw [ok_ite, ok_some]
theorem w_eIxV {f : ESm} {Q : D × Env → Prop} : Ok (eIxV i f env) Q = Ok (env[i]?).join fun _ => Ok (f env) fun y => Ok (y.2[i]?).join fun d => Ok (dIxI d y.1) fun r => Q (r, y.2) := by
  unfold eIxV
  cases e1 : env[i]? with
  | none => exact propext ⟨fun ⟨_, e, _⟩ => (nomatch e), fun ⟨_, e, _⟩ => (nomatch e)⟩
  | some o => cases o with
    | none => exact propext ⟨fun ⟨_, e, _⟩ => (nomatch e), fun ⟨_, e, _⟩ => (nomatch e)⟩
    | some d =>
      rw [Option.join_some, ok_some]
      show Ok ((f env).bind _) Q = _
      rw [ok_bind]
      refine ok_cg fun y => ?_
      cases e3 : y.2[i]? with
      | none => exact propext ⟨fun ⟨_, e, _⟩ => (nomatch e), fun ⟨_, e, _⟩ => (nomatch e)⟩
      | some o => cases o with
        | none => exact propext ⟨fun ⟨_, e, _⟩ => (nomatch e), fun ⟨_, e, _⟩ => (nomatch e)⟩
        | some d => show Ok ((dIxI d y.1).map _) Q = _; rw [ok_map, Option.join_some, ok_some]
theorem w_pLMet {o : PSm} {m : D → List D → Option D} {f : APm} {Q : D → Prop} : Ok (pLMet o m f env) Q = Ok (o env) fun d => Ok (f env) fun ds => Ok (m d ds) Q := by unfold pLMet; rw [ok_bind]; refine ok_cg fun x => ?_; rw [ok_bind]
theorem w_sCt {Q : Out × Env → Prop} : Ok (sCt env) Q = Q (.ct, env) := ok_some
theorem w_sBk {Q : Out × Env → Prop} : Ok (sBk env) Q = Q (.bk, env) := ok_some
theorem w_sRetN {Q : Out × Env → Prop} : Ok (sRetN env) Q = Q (.rt .non, env) := ok_some
theorem w_sAug {h : Int → Int → Int} {f : ESm} {Q : Out × Env → Prop} : Ok (sAug i h f env) Q = Ok (f env) fun r => Ok (env[i]?).join fun d => ∃ a b, d = .int a ∧ r.1 = .int b ∧ i < r.2.length ∧ Q (.nx, r.2.set i (some (.int (h a b)))) := by
  unfold sAug
  rw [ok_bind]
  refine ok_cg fun r => ?_
  obtain ⟨r1, r2⟩ := r
  refine propext ⟨?_, ?_⟩
  · rintro ⟨a, e, q⟩
    split at e
    · rename_i x y h1 h2
      split at e
      · rename_i hl
        cases e
        exact ⟨.int x, by rw [h1]; rfl, x, y, rfl, h2, hl, q⟩
      · cases e
    · cases e
  · rintro ⟨d, h1, x, y, rfl, h2, hl, q⟩
    have h2 : r1 = .int y := h2
    subst h2
    have h1 : env[i]? = some (some (.int x)) := by
      cases e1 : env[i]? with
      | none => rw [e1] at h1; cases h1
      | some o => rw [e1] at h1; cases o with
        | none => cases h1
        | some d' => cases h1; rfl
    refine ⟨_, ?_, q⟩
    rw [h1]
    show (if i < r2.length then _ else _) = _
    rw [if_pos hl]
/-- the loop whose body may go on early -/
theorem for_okc {g : GSm} {body : SSm} {ds : List D} {Q : Out × Env → Prop} (I : Nat → Env → Prop) (h0 : I 0 env) (hs : ∀ i d e, ds[i]? = some d → I i e → Ok (g d e) fun e1 => Ok (body e1) fun r => (r.1 = .nx ∨ r.1 = .ct) ∧ I (i + 1) r.2) (hq : ∀ e, I ds.length e → Q (.nx, e)) : Ok (forL g body ds env) Q := by
  obtain ⟨e', h1, h2⟩ := forL_inv I h0 fun i d e hi hI => by
    obtain ⟨e1, k1, ⟨o, e2⟩, k2, k3, k4⟩ := hs i d e hi hI
    refine ⟨e1, e2, k1, ?_, k4⟩
    rcases k3 with k3 | k3
    · have k3 : o = .nx := k3
      subst k3; exact .inl k2
    · have k3 : o = .ct := k3
      subst k3; exact .inr k2
  exact ⟨_, h1, hq e' h2⟩
/-- the loop that may end the def: RI holds of what it returns -/
theorem for_okr {g : GSm} {body : SSm} : ∀ {ds : List D} {env : Env} {Q : Out × Env → Prop} (I : Nat → Env → Prop), I 0 env → (∀ i d e, ds[i]? = some d → I i e → Ok (g d e) fun e1 => Ok (body e1) fun r => match r.1 with | .nx => I (i + 1) r.2 | .ct => I (i + 1) r.2 | .bk => Q (.nx, r.2) | .rt v => Q (.rt v, r.2) | .xc x ns es => Q (.xc x ns es, r.2)) → (∀ e, I ds.length e → Q (.nx, e)) → Ok (forL g body ds env) Q
  | [], env, Q, I, h0, _, hq => ⟨_, rfl, hq env h0⟩
  | d :: ds, env, Q, I, h0, hs, hq => by
    obtain ⟨e1, k1, ⟨o, e2⟩, k2, k3⟩ := hs 0 d env rfl h0
    unfold forL
    rw [k1, Option.bind_some, k2, Option.bind_some]
    cases o with
    | nx => exact for_okr (fun i e => I (i + 1) e) k3 (fun i x e hx hi => hs (i + 1) x e (by simpa using hx) hi) hq
    | ct => exact for_okr (fun i e => I (i + 1) e) k3 (fun i x e hx hi => hs (i + 1) x e (by simpa using hx) hi) hq
    | bk => exact ⟨_, rfl, k3⟩
    | rt v => exact ⟨_, rfl, k3⟩
    | xc x ns es => exact ⟨_, rfl, k3⟩
end
theorem int_at {l : List Int} {i : Nat} {d : D} (h : (l.map D.int)[i]? = some d) : ∃ c ∈ l, d = .int c := by
  rw [List.getElem?_map] at h
  obtain ⟨c, h1, e⟩ := Option.map_eq_some_iff.mp h
  exact ⟨c, List.mem_of_getElem? h1, e.symm⟩
theorem len_lt {l : List D} {n : Nat} (h : l.length = n) (h2 : n < 16777216) : l.length < szL := by show l.length < 16777216; omega
theorem mem_snoc {α : Type} {P : α → Prop} {l : List α} {x : α} (h : ∀ a ∈ l, P a) (hx : P x) : ∀ a ∈ l ++ [x], P a := fun a m => by
  rcases List.mem_append.mp m with m | m
  · exact h a m
  · rw [show a = x by simpa using m]; exact hx
/-! ### more rules, forward -/
section
variable {env : Env} {d : D} {i : Nat}
theorem w_sAugD {p : PlSm} {idx f : PSm} {h : Int → Int → Int} {Q : Out × Env → Prop} : Ok (sAugD p idx h f env) Q = Ok (p env) fun q => Ok (idx env) fun k => ∃ a, dGet q.1 k = some (some (.int a)) ∧ Ok (f env) fun r => ∃ b, r = .int b ∧ Ok (dPut q.1 k (.int (h a b))) fun d => Q (.nx, q.2 d) := by
  unfold sAugD
  rw [ok_bind]
  refine ok_cg fun q => ?_
  rw [ok_bind]
  refine ok_cg fun k => ?_
  refine propext ⟨?_, ?_⟩
  · rintro ⟨r, e, z⟩
    split at e
    case h_2 => cases e
    rename_i a hg
    obtain ⟨x, e1, e⟩ := Option.bind_eq_some_iff.mp e
    split at e
    case h_2 => cases e
    rename_i b
    obtain ⟨d1, e3, e4⟩ := Option.map_eq_some_iff.mp e
    subst e4
    exact ⟨a, hg, .int b, e1, b, rfl, d1, e3, z⟩
  · rintro ⟨a, hg, x, e1, b, rfl, d1, e3, z⟩
    refine ⟨_, ?_, z⟩
    rw [hg]
    show (f env).bind _ = _
    rw [e1, Option.bind_some]
    show (dPut q.1 k (.int (h a b))).map _ = _
    rw [e3]; rfl
theorem w_pGet1 {o k : PSm} {Q : D → Prop} : Ok (pGet1 o k env) Q = Ok (o env) fun d => Ok (k env) fun y => Ok (dGet d y) fun r => Q (r.getD .non) := by
  unfold pGet1; rw [ok_bind]; refine ok_cg fun x => ?_; rw [ok_bind]; refine ok_cg fun y => ?_; rw [ok_map]
theorem w_pGet2 {o k z : PSm} {Q : D → Prop} : Ok (pGet2 o k z env) Q = Ok (o env) fun d => Ok (k env) fun y => Ok (z env) fun w => Ok (dGet d y) fun r => Q (r.getD w) := by
  unfold pGet2; rw [ok_bind]; refine ok_cg fun x => ?_; rw [ok_bind]; refine ok_cg fun y => ?_; rw [ok_bind]; refine ok_cg fun z => ?_; rw [ok_map]
theorem w_iRevE {f : ESm} {Q : List D × Env → Prop} : Ok (iRevE f env) Q = Ok (f env) fun r => Ok (seqI r.1) fun ds => Q (ds.reverse, r.2) := by unfold iRevE; rw [ok_bind]; refine ok_cg fun x => ?_; rw [ok_map]
theorem w_iItemsE {f : ESm} {Q : List D × Env → Prop} : Ok (iItemsE f env) Q = Ok (f env) fun r => ∃ ks ds, r.1 = .dcK true ks ds ∧ Q (itemD ks ds, r.2) := by
  unfold iItemsE
  rw [ok_bind]
  refine ok_cg fun r => ?_
  obtain ⟨r1, r2⟩ := r
  refine propext ⟨?_, ?_⟩
  · rintro ⟨a, e, q⟩
    split at e
    · rename_i ks ds h; cases e; exact ⟨ks, ds, h, q⟩
    · cases e
  · rintro ⟨ks, ds, e, q⟩
    have e : r1 = _ := e
    subst e
    exact ⟨_, rfl, q⟩
theorem whl_ok {c : TSm} {body : SSm} {Q : Out × Env → Prop} (I : Nat → Env → Prop) (hs : ∀ n e, I n e → Ok (c e) fun b => if b.1 = true then Ok (body b.2) fun r => r.1 = .nx ∧ ∃ m, m < n ∧ I m r.2 else Q (.nx, b.2)) : ∀ n e, I n e → Ok (sWhl c body e) Q := by
  intro n
  induction n using Nat.strongRecOn with
  | _ n ih =>
    intro e hI
    obtain ⟨⟨b, e1⟩, h1, h2⟩ := hs n e hI
    cases b with
    | false =>
      have h2 : Q (.nx, e1) := by simpa using h2
      exact ⟨_, whl_stop h1, h2⟩
    | true =>
      obtain ⟨⟨o, e2⟩, h3, h4, m, hm, h5⟩ : Ok (body e1) fun r => r.1 = .nx ∧ ∃ m, m < n ∧ I m r.2 := by simpa using h2
      have h4 : o = .nx := h4
      subst h4
      obtain ⟨r, h6, h7⟩ := ih m hm e2 h5
      exact ⟨r, whl_nx h1 h3 h6, h7⟩
end

end DL
namespace DL
open PySem PySem.Spec PyProof.Rows L2
/-! ### tables, as lists of pairs -/
section
variable {α β : Type} [DecidableEq α]
def aget : List (α × β) → α → Option β
  | [], _ => none
  | p :: l, k => if p.1 = k then some p.2 else aget l k
def aset (l : List (α × β)) (k : α) (v : β) : List (α × β) := l.map fun p => if p.1 = k then (p.1, v) else p
def aput (l : List (α × β)) (k : α) (v : β) : List (α × β) := if (aget l k).isSome then aset l k v else l ++ [(k, v)]
theorem aget_none {k : α} : ∀ {l : List (α × β)}, aget l k = none ↔ k ∉ l.map (·.1)
  | [] => by simp [aget]
  | p :: l => by
    unfold aget
    by_cases e : p.1 = k
    · simp [e]
    · rw [if_neg e, aget_none (l := l)]
      simp [Ne.symm e]
theorem aget_some {k : α} {l : List (α × β)} : (aget l k).isSome = true ↔ k ∈ l.map (·.1) := by
  rw [← Decidable.not_iff_not, ← aget_none]
  cases aget l k <;> simp
theorem aget_mem {k : α} {v : β} : ∀ {l : List (α × β)}, aget l k = some v → (k, v) ∈ l
  | [], h => by cases h
  | p :: l, h => by
    unfold aget at h
    by_cases e : p.1 = k
    · rw [if_pos e] at h; cases h; rw [← e]; exact List.mem_cons_self
    · rw [if_neg e] at h; exact List.mem_cons_of_mem _ (aget_mem h)
theorem aget_of_mem {k : α} {v : β} : ∀ {l : List (α × β)}, (l.map (·.1)).Nodup → (k, v) ∈ l → aget l k = some v
  | [], _, h => by cases h
  | p :: l, hn, h => by
    have hn := List.nodup_cons.mp hn
    unfold aget
    rcases List.mem_cons.mp h with h | h
    · rw [← h, if_pos rfl]
    · rw [if_neg fun (e : p.1 = k) => hn.1 (by show p.1 ∈ _; rw [e]; exact List.mem_map.mpr ⟨_, h, rfl⟩)]
      exact aget_of_mem hn.2 h
theorem aset_keys {l : List (α × β)} {k : α} {v : β} : (aset l k v).map (·.1) = l.map (·.1) := by
  unfold aset
  rw [List.map_map]
  refine List.map_congr_left fun p _ => ?_
  simp only [Function.comp]
  split <;> rfl
theorem aput_keys {l : List (α × β)} {k : α} {v : β} : (aput l k v).map (·.1) = if k ∈ l.map (·.1) then l.map (·.1) else l.map (·.1) ++ [k] := by
  unfold aput
  by_cases h : k ∈ l.map (·.1)
  · rw [if_pos (aget_some.mpr h), if_pos h, aset_keys]
  · rw [if_neg fun z => h (aget_some.mp z), if_neg h]; simp
theorem aput_nodup {l : List (α × β)} {k : α} {v : β} (h : (l.map (·.1)).Nodup) : ((aput l k v).map (·.1)).Nodup := by
  rw [aput_keys]
  split
  · exact h
  · rename_i hn
    rw [List.nodup_append]
    exact ⟨h, by simp, fun a ha b hb => by rw [show b = k by simpa using hb]; exact fun e => hn (e ▸ ha)⟩
theorem aput_mem {l : List (α × β)} {k : α} {v : β} {p : α × β} (h : p ∈ aput l k v) : p = (k, v) ∨ p ∈ l := by
  unfold aput at h
  split at h
  · obtain ⟨q, hq, e⟩ := List.mem_map.mp h
    split at e
    · rename_i e2; left; rw [← e, e2]
    · right; rw [← e]; exact hq
  · rcases List.mem_append.mp h with h | h
    · exact .inr h
    · exact .inl (by simpa using h)
theorem aput_len {l : List (α × β)} {k : α} {v : β} : (aput l k v).length ≤ l.length + 1 := by
  unfold aput
  split
  · unfold aset; simp
  · simp
theorem aget_aset {l : List (α × β)} {k j : α} {v : β} : aget (aset l k v) j = if k = j then (aget l j).map fun _ => v else aget l j := by
  induction l with
  | nil => simp [aset, aget]
  | cons p l ih =>
    unfold aset at ih ⊢
    rw [List.map_cons]
    unfold aget
    by_cases e : p.1 = k
    · rw [if_pos e]
      by_cases ej : p.1 = j
      · rw [if_pos ej, if_pos ej, if_pos (e.symm.trans ej)]; rfl
      · rw [if_neg ej, if_neg ej, ih]
    · rw [if_neg e]
      by_cases ej : p.1 = j
      · rw [if_pos ej, if_pos ej, if_neg fun z => e (ej.trans z.symm)]
      · rw [if_neg ej, if_neg ej, ih]
theorem aget_app {l m : List (α × β)} {j : α} : aget (l ++ m) j = (aget l j).or (aget m j) := by
  induction l with
  | nil => simp [aget]
  | cons p l ih =>
    rw [List.cons_append]
    show (if p.1 = j then some p.2 else aget (l ++ m) j) = (if p.1 = j then some p.2 else aget l j).or (aget m j)
    split
    · simp
    · exact ih
theorem aget_aput {l : List (α × β)} {k j : α} {v : β} : aget (aput l k v) j = if k = j then some v else aget l j := by
  unfold aput
  split
  · rename_i h
    rw [aget_aset]
    by_cases e : k = j
    · subst e
      obtain ⟨b, hb⟩ := Option.isSome_iff_exists.mp h
      rw [if_pos rfl, if_pos rfl, hb]; rfl
    · rw [if_neg e, if_neg e]
  · rename_i h
    have h0 : aget l k = none := by cases g : aget l k <;> simp [g] at h ⊢
    rw [aget_app]
    by_cases e : k = j
    · subst e
      rw [h0, if_pos rfl]; simp [aget]
    · rw [if_neg e]
      have : aget [(k, v)] j = none := by unfold aget; rw [if_neg e]; rfl
      rw [this]; cases aget l j <;> rfl
/-- keys of the tables -/
structure KeyF (κ : Type) (α : Type) (kf : α → κ) (kd : α → D) : Prop where
  inj : ∀ a b, kf a = kf b → a = b
variable {κ : Type} [DecidableEq κ] {kf : α → κ} {vf : β → D}
theorem getZ_tab (hi : ∀ a b, kf a = kf b → a = b) {k : α} : ∀ {l : List (α × β)}, getZ (l.map fun p => kf p.1) (l.map fun p => vf p.2) (kf k) = (aget l k).map vf
  | [] => rfl
  | p :: l => by
    rw [List.map_cons, List.map_cons]
    unfold getZ aget
    by_cases e : p.1 = k
    · rw [if_pos e, if_pos (by rw [e])]; rfl
    · rw [if_neg e, if_neg fun z => e (hi _ _ z)]; exact getZ_tab hi
theorem setZ_tab (hi : ∀ a b, kf a = kf b → a = b) {k : α} {v : β} : ∀ {l : List (α × β)}, setZ (l.map fun p => kf p.1) (l.map fun p => vf p.2) (kf k) (vf v) = (aset l k v).map fun p => vf p.2
  | [] => rfl
  | p :: l => by
    have ih := setZ_tab (v := v) hi (k := k) (l := l)
    unfold aset at ih ⊢
    rw [List.map_cons, List.map_cons, List.map_cons, List.map_cons]
    unfold setZ
    rw [ih]
    congr 1
    by_cases e : p.1 = k
    · rw [if_pos e, if_pos (by rw [e])]
    · rw [if_neg e, if_neg fun z => e (hi _ _ z)]
end
section
variable {α β : Type} [DecidableEq α] {kf : α → L2.Key} {vf : β → D} {kd : α → D} {l : List (α × β)} {k : α} {v : β} {z : Bool}
def tbK (kf : α → L2.Key) (vf : β → D) (z : Bool) (l : List (α × β)) : D := .dcK z (l.map fun p => kf p.1) (l.map fun p => vf p.2)
def tbT (kt : α → List L2.Key) (vf : β → D) (z : Bool) (l : List (α × β)) : D := .dcT z (l.map fun p => kt p.1) (l.map fun p => vf p.2)
theorem putK (hi : ∀ a b, kf a = kf b → a = b) (hk : kD (kd k) = some (kf k)) (hv : isImm (vf v) = true) (hz : l.length < 16777216) : dPut (tbK kf vf false l) (kd k) (vf v) = some (tbK kf vf false (aput l k v)) := by
  unfold tbK
  simp only [dPut]
  rw [hk, Option.bind_some, if_pos (show (l.map _).length < 16777216 by rw [List.length_map]; exact hz), getZ_tab hi]
  unfold aput
  cases g : aget l k with
  | none => simp
  | some b =>
    simp only [Option.map_some, hv, if_true, Option.isSome_some]
    rw [setZ_tab hi]
    have e : (l.map fun p => kf p.1) = (aset l k v).map fun p => kf p.1 := by
      have z := congrArg (List.map kf) (aset_keys (l := l) (k := k) (v := v))
      rw [List.map_map, List.map_map] at z
      exact z.symm
    rw [e]
theorem putT {kt : α → List L2.Key} (hi : ∀ a b, kt a = kt b → a = b) (hk : tD (kd k) = some (kt k)) (hv : isImm (vf v) = true) (hz : l.length < 16777216) : dPut (tbT kt vf false l) (kd k) (vf v) = some (tbT kt vf false (aput l k v)) := by
  unfold tbT
  simp only [dPut]
  rw [hk, Option.bind_some, if_pos (show (l.map _).length < 16777216 by rw [List.length_map]; exact hz), getZ_tab hi]
  unfold aput
  cases g : aget l k with
  | none => simp
  | some b =>
    simp only [Option.map_some, hv, if_true, Option.isSome_some]
    rw [setZ_tab hi]
    have e : (l.map fun p => kt p.1) = (aset l k v).map fun p => kt p.1 := by
      have z := congrArg (List.map kt) (aset_keys (l := l) (k := k) (v := v))
      rw [List.map_map, List.map_map] at z
      exact z.symm
    rw [e]
theorem ixK_s {kf : Str → L2.Key} {l : List (Str × β)} {k : Str} (hi : ∀ a b, kf a = kf b → a = b) (hk : ∀ a, kD (.str a) = some (kf a)) : dIx (tbK kf vf z l) (.str k) = (aget l k).map vf := by
  unfold tbK
  simp only [dIx, dGet, hk, Option.map_some]
  rw [getZ_tab hi]
theorem ixT_p {kt : Str × Str → List L2.Key} {l : List ((Str × Str) × β)} {a b : Str} (hi : ∀ a b, kt a = kt b → a = b) (hk : ∀ a b, tD (.tup [.str a, .str b]) = some (kt (a, b))) : dIx (tbT kt vf z l) (.tup [.str a, .str b]) = (aget l (a, b)).map vf := by
  unfold tbT
  simp only [dIx, dGet, hk, Option.map_some]
  rw [getZ_tab hi]
theorem len_tbK : gLen [tbK kf vf z l] = some (.int l.length) := by unfold tbK; simp [gLen]
theorem len_tbT {kt : α → List L2.Key} : gLen [tbT kt vf z l] = some (.int l.length) := by unfold tbT; simp [gLen]
theorem fz_tbK (hv : ∀ b, fz (vf b) = vf b) : fz (tbK kf vf z l) = tbK kf vf true l := by
  unfold tbK
  cases z
  · rw [fz_dcK, fzs_imm fun d m => by obtain ⟨b, _, rfl⟩ := List.mem_map.mp m; exact hv _]
  · rfl
theorem fz_tbT {kt : α → List L2.Key} (hv : ∀ b, fz (vf b) = vf b) : fz (tbT kt vf z l) = tbT kt vf true l := by
  unfold tbT
  cases z
  · rw [fz_dcT, fzs_imm fun d m => by obtain ⟨b, _, rfl⟩ := List.mem_map.mp m; exact hv _]
  · rfl
theorem im_tbK : isImm (tbK kf vf z l) = z := rfl
theorem im_tbT {kt : α → List L2.Key} : isImm (tbT kt vf z l) = z := rfl
end
/-- texts and pairs of texts as keys -/
def kP (p : Str × Str) : List L2.Key := [kS p.1, kS p.2]
theorem kS_i (a b : Str) (h : kS a = kS b) : a = b := kS_inj.mp h
theorem kP_i (a b : Str × Str) (h : kP a = kP b) : a = b := by
  obtain ⟨a1, a2⟩ := a
  obtain ⟨b1, b2⟩ := b
  simp only [kP, List.cons.injEq, and_true] at h
  rw [kS_i _ _ h.1, kS_i _ _ h.2]
section
variable {β : Type} {vf : β → D} {z : Bool}
abbrev tbS (vf : β → D) (z : Bool) (l : List (Str × β)) : D := tbK kS vf z l
abbrev tbP (vf : β → D) (z : Bool) (l : List ((Str × Str) × β)) : D := tbT kP vf z l
theorem put_tbS {l : List (Str × β)} {a : Str} {v : β} (hv : isImm (vf v) = true) (hz : l.length < 16777216) : dPut (tbS vf false l) (.str a) (vf v) = some (tbS vf false (aput l a v)) := putK (kd := D.str) kS_i rfl hv hz
theorem put_tbP {l : List ((Str × Str) × β)} {a b : Str} {v : β} (hv : isImm (vf v) = true) (hz : l.length < 16777216) : dPut (tbP vf false l) (.tup [.str a, .str b]) (vf v) = some (tbP vf false (aput l (a, b) v)) := putT (kd := fun p : Str × Str => D.tup [.str p.1, .str p.2]) (k := (a, b)) kP_i rfl hv hz
theorem ix_tbS {l : List (Str × β)} {a : Str} : dIx (tbS vf z l) (.str a) = (aget l a).map vf := ixK_s kS_i fun _ => rfl
theorem ix_tbP {l : List ((Str × Str) × β)} {a b : Str} : dIx (tbP vf z l) (.tup [.str a, .str b]) = (aget l (a, b)).map vf := ixT_p kP_i fun _ _ => rfl
theorem wk_tbP {l : List ((Str × Str) × β)} : walkD (tbP vf true l) = some (l.map fun p => .tup [.str p.1.1, .str p.1.2]) := by
  show some _ = some _
  rw [List.map_map]
  rfl
theorem wk_tbS {l : List (Str × β)} : walkD (tbS vf true l) = some (l.map fun p => .str p.1) := by
  show some _ = some _
  rw [List.map_map]
  rfl
theorem in_tbP {l : List ((Str × Str) × β)} {a b : Str} : dIn (.tup [.str a, .str b]) (tbP vf z l) = some (.bl (aget l (a, b)).isSome) := by
  have e : dGet (tbP vf z l) (.tup [.str a, .str b]) = some ((aget l (a, b)).map vf) := by
    show (tD (.tup [.str a, .str b])).map _ = _
    show some (getZ (l.map fun p => kP p.1) (l.map fun p => vf p.2) (kP (a, b))) = _
    rw [getZ_tab kP_i]
  unfold dIn dIn0
  simp only [e, Option.isSome_map, Option.map_some]
theorem in_tbS {l : List (Str × β)} {a : Str} : dIn (.str a) (tbS vf z l) = some (.bl (aget l a).isSome) := by
  have e : dGet (tbS vf z l) (.str a) = some ((aget l a).map vf) := by
    show some (getZ (l.map fun p => kS p.1) (l.map fun p => vf p.2) (kS a)) = _
    rw [getZ_tab kS_i]
  have e2 : dIn0 (.str a) (tbS vf z l) = (match dGet (tbS vf z l) (.str a) with
    | some r => some r.isSome
    | none => none) := rfl
  unfold dIn
  rw [e2, e]
  simp only [Option.isSome_map, Option.map_some]
theorem nil_tbP : D.dcT false [] [] = tbP vf false [] := rfl
theorem nil_tbS : D.dcK false [] [] = tbS vf false [] := rfl
end

end DL
namespace DL
open PySem PySem.Spec PyProof.Rows L2
/-! ### `_law_same` of 26 laws; `_law_hands` of 41 -/
mutual
def ndz : D → Nat
  | .tup ds => ndzL ds + 1
  | .lst _ ds => ndzL ds + 1
  | _ => 1
def ndzL : List D → Nat
  | [] => 0
  | d :: ds => ndz d + ndzL ds
end
mutual
def plz : D → Bool
  | .non => true
  | .bl _ => true
  | .int _ => true
  | .str _ => true
  | .tup ds => plzL ds
  | .lst z ds => z && plzL ds
  | _ => false
def plzL : List D → Bool
  | [] => true
  | d :: ds => plz d && plzL ds
end
theorem ndz_pos (d : D) : 1 ≤ ndz d := by cases d <;> simp [ndz]
theorem ndzL_app : ∀ a b : List D, ndzL (a ++ b) = ndzL a + ndzL b
  | [], b => by simp [ndzL]
  | d :: a, b => by simp only [List.cons_append, ndzL, ndzL_app a b]; omega
theorem ndzL_len : ∀ a : List D, a.length ≤ ndzL a
  | [] => Nat.le_refl _
  | d :: a => by
    have := ndzL_len a
    have := ndz_pos d
    simp only [List.length_cons, ndzL]; omega
theorem plzL_app : ∀ a b : List D, plzL (a ++ b) = (plzL a && plzL b)
  | [], b => by simp [plzL]
  | d :: a, b => by simp only [List.cons_append, plzL, plzL_app a b, Bool.and_assoc]
theorem plz_imm {d : D} (h : plz d = true) : isImm d = true := by
  cases d with
  | lst z ds => simp only [plz, Bool.and_eq_true] at h; exact h.1
  | dcK => simp [plz] at h
  | dcT => simp [plz] at h
  | _ => rfl
theorem plzL_mem : ∀ {ds : List D}, plzL ds = true → ∀ d ∈ ds, plz d = true
  | [], _, _, m => (nomatch m)
  | d :: ds, h, e, m => by
    simp only [plzL, Bool.and_eq_true] at h
    rcases List.mem_cons.mp m with rfl | m
    · exact h.1
    · exact plzL_mem h.2 e m
theorem plzL_of : ∀ {ds : List D}, (∀ d ∈ ds, plz d = true) → plzL ds = true
  | [], _ => rfl
  | d :: ds, h => by simp only [plzL, Bool.and_eq_true]; exact ⟨h d List.mem_cons_self, plzL_of fun e m => h e (List.mem_cons_of_mem _ m)⟩
theorem plzL_map {α : Type} {f : α → D} (h : ∀ a, plz (f a) = true) (l : List α) : plzL (l.map f) = true := plzL_of fun d m => by
  obtain ⟨a, _, rfl⟩ := List.mem_map.mp m
  exact h a
theorem ndzL_map {α : Type} {f : α → D} {k : Nat} (h : ∀ a, ndz (f a) ≤ k) : ∀ l : List α, ndzL (l.map f) ≤ k * l.length
  | [] => Nat.zero_le _
  | a :: l => by
    have := ndzL_map h l
    have := h a
    simp only [List.map_cons, ndzL, List.length_cons, Nat.mul_add, Nat.mul_one]; omega
def twoD (d : D) : D := .tup [d, d]
theorem two_imm (l : List D) : (l.map twoD).all isImm = true := all_map _ fun _ => rfl
theorem two_app (a b : List D) : (a ++ b).map twoD = a.map twoD ++ b.map twoD := List.map_append
noncomputable def same9 : SSm := (sSeq (sIf (tP (p2t dEq (pCall gLen (aCons (pVar 2) aNil)) (pC (.int 0)))) (sRet (eP (pC (.bl true)))) sNil)
  (sSeq (sAsg (eMeth 2 "list" mPop aNilE) (gTu 2 (gsCons (gNm 4) (gsCons (gNm 5) gsNil))))
  (sIf (tOr2 (tP (tTruP (pIsi "tuple" (pVar 5)))) (tP (tTruP (pIsi "list" (pVar 5))))) (sSeq (sIf (tAnd2 (tP (tTruP (pIsi "tuple" (pVar 5)))) (tNo (tP (tTruP (pIsi "tuple" (pVar 4)))))) (sRet (eP (pC (.bl false)))) sNil)
  (sSeq (sIf (tAnd2 (tP (tTruP (pIsi "list" (pVar 5)))) (tNo (tP (tTruP (pIsi "list" (pVar 4)))))) (sRet (eP (pC (.bl false)))) sNil)
  (sSeq (sIf (tP (p2t dNe (pCall gLen (aCons (pVar 4) aNil)) (pCall gLen (aCons (pVar 5) aNil)))) (sRet (eP (pC (.bl false)))) sNil)
  (sFor (iRange1 (aConsE (eP (pCall gLen (aCons (pVar 5) aNil))) aNilE)) (gNm 6) (sExpr (eMeth 2 "list" mAppend (aConsE (eP (pTup (aCons (p2 dIx (pVar 4) (pVar 6)) (aCons (p2 dIx (pVar 5) (pVar 6)) aNil)))) aNilE))))))) (sIf (tP (p2t dIs (pVar 5) (pC .non))) (sIf (tP (p2t dIsNot (pVar 4) (pC .non))) (sRet (eP (pC (.bl false)))) sNil) (sIf (tP (tTruP (pIsi "bool" (pVar 5)))) (sIf (tOr2 (tNo (tP (tTruP (pIsi "bool" (pVar 4))))) (tP (p2t dNe (pVar 4) (pVar 5)))) (sRet (eP (pC (.bl false)))) sNil) (sIf (tP (tTruP (pIsi "int" (pVar 5)))) (sIf (tOr2 (tNo (tP (tTruP (pIsi "int" (pVar 4))))) (tOr2 (tP (tTruP (pIsi "bool" (pVar 4)))) (tP (p2t dNe (pVar 4) (pVar 5))))) (sRet (eP (pC (.bl false)))) sNil) (sIf (tOr2 (tNo (tP (tTruP (pIsi "str" (pVar 5))))) (tOr2 (tNo (tP (tTruP (pIsi "str" (pVar 4))))) (tP (p2t dNe (pVar 4) (pVar 5))))) (sRet (eP (pC (.bl false)))) sNil)))))))
theorem isT_non : isD "tuple" .non = false := by simp [isD, tyN]
theorem isL_non : isD "list" .non = false := by simp [isD, tyN]
theorem isT_bl {b : Bool} : isD "tuple" (.bl b) = false := by simp [isD, tyN]
theorem isL_bl {b : Bool} : isD "list" (.bl b) = false := by simp [isD, tyN]
theorem isL_tup {ds : List D} : isD "list" (.tup ds) = false := by simp [isD, tyN]
theorem isT_lst {z : Bool} {ds : List D} : isD "tuple" (.lst z ds) = false := by simp [isD, tyN]
theorem isL_lst {z : Bool} {ds : List D} : isD "list" (.lst z ds) = true := by simp [isD, tyN]
theorem isB_bl {b : Bool} : isD "bool" (.bl b) = true := by simp [isD, tyN]
theorem isB_int {i : Int} : isD "bool" (.int i) = false := by simp [isD, tyN]
theorem isB_str {s : Str} : isD "bool" (.str s) = false := by simp [isD, tyN]
theorem isI_int {i : Int} : isD "int" (.int i) = true := by simp [isD, tyN]
theorem isI_str {s : Str} : isD "int" (.str s) = false := by simp [isD, tyN]
theorem isS_str {s : Str} : isD "str" (.str s) = true := by simp [isD, tyN]
theorem nft_non : notFT .non = true := rfl
theorem nft_bl {b : Bool} : notFT (.bl b) = true := rfl
theorem nft_lst {z : Bool} {ds : List D} : notFT (.lst z ds) = true := rfl
theorem is_non : dIs .non .non = some (.bl true) := rfl
theorem isn_non : dIsNot .non .non = some (.bl false) := rfl
theorem is_bl {b : Bool} : dIs (.bl b) .non = some (.bl false) := rfl
theorem pop_two {l : List D} {d : D} : mPop (.lst false ((l ++ [d]).map twoD)) [] = some (.tup [d, d], .lst false (l.map twoD)) := by
  rw [two_app]
  exact pop_last
theorem same9_push {t u x3 : Option D} {ds es : List D} {d : D} {Q : Out × Env → Prop} (hd : ∀ (i : Nat) (h : i < es.length), L2.atI es (i : Int) = some es[i] → dIx d (.int i) = some es[i]) (hz : ds.length + es.length ≤ 16777216) (him : es.all isImm = true)
    (q : ∀ x6, Q (.nx, [t, u, some (.lst false ((ds ++ es).map twoD)), x3, some d, some d, x6])) (x6 : Option D) :
    Ok (forL (gNm 6) (sExpr (eMeth 2 "list" mAppend (aConsE (eP (pTup (aCons (p2 dIx (pVar 4) (pVar 6)) (aCons (p2 dIx (pVar 5) (pVar 6)) aNil)))) aNilE))) (rngD 0 es.length) [t, u, some (.lst false (ds.map twoD)), x3, some d, some d, x6]) Q := by
  refine for_ok (fun i e => ∃ x6, e = [t, u, some (.lst false ((ds ++ es.take i).map twoD)), x3, some d, some d, x6]) ⟨x6, by simp⟩ ?_ ?_
  · rintro i dd e hi ⟨x6, rfl⟩
    obtain ⟨rfl, hin⟩ := rngD_at hi
    have e0 : (0 : Int) + (i : Int) = i := by omega
    rw [e0]
    have hx := hd i hin (at_nat hin)
    have hei : isImm es[i] = true := List.all_eq_true.mp him _ (List.getElem_mem hin)
    simp only [w_pC, w_pVar, w_pOwn, w_p1, w_p2, w_pSl, w_oNo, w_oSome, w_pTup, w_pCall, w_aNil, w_aCons, w_pIsi, w_pIsi2, w_eP, w_eMove, w_e1, w_e2, w_eTup, w_eLst, w_eFz, w_eCall, w_aNilE, w_aConsE, w_eIf, w_eComp, w_eComp2, w_eDc, w_eDef, w_cNil, w_cVal, w_cBor, w_eMeth, w_eMetP, w_plVar, w_plIx, w_eSMet, w_yesT, w_tP, w_p2t, w_e2t, w_tTruP, w_tTru, w_tNo, w_tAnd2, w_tOr2, w_iSeq, w_iRange1, w_iRange2, w_iEnumE, rngD_len, w_gNm, w_gTup, w_gsNil, w_gsCons, w_gPut, w_sNil, w_sRet, w_sExpr, w_sAsg, w_sPar, w_eSl, w_oNoE, w_oSomeE, w_eNot, w_eAnd2, w_eOr2, w_eIxV, w_pLMet, w_sAugD, w_pGet1, w_pGet2, w_eGet2, w_pDisp, p_dpNil, p_dpCons, kd_int, kd_str, w_iRevE, w_iItemsE, w_sCt, w_sBk, w_sRetN, w_sIf, w_sFor, w_sFz, ok_some, ok_map, takeB, giveB, outsOf, wipeE, im_non, im_bl, im_int, im_str, im_tup, im_scr, im_lst, im_dcK, im_dcT, fz_non, fz_bl, fz_int, fz_str, fz_tup, fz_scr, fz_lstT, fz_lst, fz_dcT, fz_dcK, wk_tup, wk_lst, wk_scr, wk_str, sI_tup, sI_lst, tr_bl, lt_int, gt_int, le_int, leX_int, ge_int, eq_int, ne_int, eq_str, ne_str, ne_bl, eq_bl, add_int, sub_int, neg_int, g_int, g_abs, ix_tup, ix_lst, at0, at1, at2, g_len_tup, g_len_lst, List.getElem?_cons_zero, List.getElem?_cons_succ, List.set_cons_zero, List.set_cons_succ, List.length_cons, List.length_nil, List.map_cons, List.map_nil, List.replicate_succ, List.replicate_zero, List.cons_append, List.nil_append, List.head?_cons, List.tail_cons, Option.join_some, Option.map_some, if_true, if_false, ite_true, ite_false, reduceIte, reduceCtorEq, BEq.rfl, Bool.false_eq_true, Bool.not_true, Bool.not_false, List.all_cons, List.all_nil, Bool.and_true, Bool.true_and, Bool.and_self, true_and, and_true, exists_eq_left, exists_eq_left', D.bl.injEq, D.int.injEq, D.str.injEq, D.tup.injEq, Out.rt.injEq, Nat.lt_add_left_iff_pos, Nat.zero_lt_succ, Nat.reduceAdd, Nat.reduceLT, hx, hei, app_lst (a := (ds ++ es.take i).map twoD) (d := .tup [es[i], es[i]]) (by rw [List.length_map, List.length_append, List.length_take]; omega)]
    exact ⟨rfl, by decide, some (.int i), by rw [take_at hin, ← List.append_assoc, two_app (ds ++ es.take i)]; rfl⟩
  · rintro e ⟨x6, rfl⟩
    rw [rngD_len, List.take_length]
    exact q x6
theorem same9_turn {t u x3 x4 x5 x6 : Option D} {ds : List D} {d : D} {Q : Out × Env → Prop} (hp : plz d = true) (hz : ndzL ds + ndz d ≤ 16777216)
    (q : ∀ es x4 x5 x6, ndzL es + 1 = ndz d → plzL es = true → Q (.nx, [t, u, some (.lst false ((ds ++ es).map twoD)), x3, x4, x5, x6])) : Ok (same9 [t, u, some (.lst false ((ds ++ [d]).map twoD)), x3, x4, x5, x6]) Q := by
  unfold same9
  have hl : ((ds ++ [d]).map twoD).length = ds.length + 1 := by simp
  have hne : (((ds.length + 1 : Nat) : Int) == 0) = false := beq_eq_false_iff_ne.mpr (by omega)
  refine seq_ok2 ?_
  simp only [w_pC, w_pVar, w_pOwn, w_p1, w_p2, w_pSl, w_oNo, w_oSome, w_pTup, w_pCall, w_aNil, w_aCons, w_pIsi, w_pIsi2, w_eP, w_eMove, w_e1, w_e2, w_eTup, w_eLst, w_eFz, w_eCall, w_aNilE, w_aConsE, w_eIf, w_eComp, w_eComp2, w_eDc, w_eDef, w_cNil, w_cVal, w_cBor, w_eMeth, w_eMetP, w_plVar, w_plIx, w_eSMet, w_yesT, w_tP, w_p2t, w_e2t, w_tTruP, w_tTru, w_tNo, w_tAnd2, w_tOr2, w_iSeq, w_iRange1, w_iRange2, w_iEnumE, rngD_len, w_gNm, w_gTup, w_gsNil, w_gsCons, w_gPut, w_sNil, w_sRet, w_sExpr, w_sAsg, w_sPar, w_eSl, w_oNoE, w_oSomeE, w_eNot, w_eAnd2, w_eOr2, w_eIxV, w_pLMet, w_sAugD, w_pGet1, w_pGet2, w_eGet2, w_pDisp, p_dpNil, p_dpCons, kd_int, kd_str, w_iRevE, w_iItemsE, w_sCt, w_sBk, w_sRetN, w_sIf, w_sFor, w_sFz, ok_some, ok_map, takeB, giveB, outsOf, wipeE, im_non, im_bl, im_int, im_str, im_tup, im_scr, im_lst, im_dcK, im_dcT, fz_non, fz_bl, fz_int, fz_str, fz_tup, fz_scr, fz_lstT, fz_lst, fz_dcT, fz_dcK, wk_tup, wk_lst, wk_scr, wk_str, sI_tup, sI_lst, tr_bl, lt_int, gt_int, le_int, leX_int, ge_int, eq_int, ne_int, eq_str, ne_str, ne_bl, eq_bl, add_int, sub_int, neg_int, g_int, g_abs, ix_tup, ix_lst, at0, at1, at2, g_len_tup, g_len_lst, List.getElem?_cons_zero, List.getElem?_cons_succ, List.set_cons_zero, List.set_cons_succ, List.length_cons, List.length_nil, List.map_cons, List.map_nil, List.replicate_succ, List.replicate_zero, List.cons_append, List.nil_append, List.head?_cons, List.tail_cons, Option.join_some, Option.map_some, if_true, if_false, ite_true, ite_false, reduceIte, reduceCtorEq, BEq.rfl, Bool.false_eq_true, Bool.not_true, Bool.not_false, List.all_cons, List.all_nil, Bool.and_true, Bool.true_and, Bool.and_self, true_and, and_true, exists_eq_left, exists_eq_left', D.bl.injEq, D.int.injEq, D.str.injEq, D.tup.injEq, Out.rt.injEq, Nat.lt_add_left_iff_pos, Nat.zero_lt_succ, Nat.reduceAdd, Nat.reduceLT, hl, hne]
  refine seq_ok2 ?_
  simp only [w_pC, w_pVar, w_pOwn, w_p1, w_p2, w_pSl, w_oNo, w_oSome, w_pTup, w_pCall, w_aNil, w_aCons, w_pIsi, w_pIsi2, w_eP, w_eMove, w_e1, w_e2, w_eTup, w_eLst, w_eFz, w_eCall, w_aNilE, w_aConsE, w_eIf, w_eComp, w_eComp2, w_eDc, w_eDef, w_cNil, w_cVal, w_cBor, w_eMeth, w_eMetP, w_plVar, w_plIx, w_eSMet, w_yesT, w_tP, w_p2t, w_e2t, w_tTruP, w_tTru, w_tNo, w_tAnd2, w_tOr2, w_iSeq, w_iRange1, w_iRange2, w_iEnumE, rngD_len, w_gNm, w_gTup, w_gsNil, w_gsCons, w_gPut, w_sNil, w_sRet, w_sExpr, w_sAsg, w_sPar, w_eSl, w_oNoE, w_oSomeE, w_eNot, w_eAnd2, w_eOr2, w_eIxV, w_pLMet, w_sAugD, w_pGet1, w_pGet2, w_eGet2, w_pDisp, p_dpNil, p_dpCons, kd_int, kd_str, w_iRevE, w_iItemsE, w_sCt, w_sBk, w_sRetN, w_sIf, w_sFor, w_sFz, ok_some, ok_map, takeB, giveB, outsOf, wipeE, im_non, im_bl, im_int, im_str, im_tup, im_scr, im_lst, im_dcK, im_dcT, fz_non, fz_bl, fz_int, fz_str, fz_tup, fz_scr, fz_lstT, fz_lst, fz_dcT, fz_dcK, wk_tup, wk_lst, wk_scr, wk_str, sI_tup, sI_lst, tr_bl, lt_int, gt_int, le_int, leX_int, ge_int, eq_int, ne_int, eq_str, ne_str, ne_bl, eq_bl, add_int, sub_int, neg_int, g_int, g_abs, ix_tup, ix_lst, at0, at1, at2, g_len_tup, g_len_lst, List.getElem?_cons_zero, List.getElem?_cons_succ, List.set_cons_zero, List.set_cons_succ, List.length_cons, List.length_nil, List.map_cons, List.map_nil, List.replicate_succ, List.replicate_zero, List.cons_append, List.nil_append, List.head?_cons, List.tail_cons, Option.join_some, Option.map_some, if_true, if_false, ite_true, ite_false, reduceIte, reduceCtorEq, BEq.rfl, Bool.false_eq_true, Bool.not_true, Bool.not_false, List.all_cons, List.all_nil, Bool.and_true, Bool.true_and, Bool.and_self, true_and, and_true, exists_eq_left, exists_eq_left', D.bl.injEq, D.int.injEq, D.str.injEq, D.tup.injEq, Out.rt.injEq, Nat.lt_add_left_iff_pos, Nat.zero_lt_succ, Nat.reduceAdd, Nat.reduceLT, pop_two]
  have dl := ndzL_len ds
  refine ⟨rfl, ?_⟩
  cases d with
  | non =>
    simp only [w_pC, w_pVar, w_pOwn, w_p1, w_p2, w_pSl, w_oNo, w_oSome, w_pTup, w_pCall, w_aNil, w_aCons, w_pIsi, w_pIsi2, w_eP, w_eMove, w_e1, w_e2, w_eTup, w_eLst, w_eFz, w_eCall, w_aNilE, w_aConsE, w_eIf, w_eComp, w_eComp2, w_eDc, w_eDef, w_cNil, w_cVal, w_cBor, w_eMeth, w_eMetP, w_plVar, w_plIx, w_eSMet, w_yesT, w_tP, w_p2t, w_e2t, w_tTruP, w_tTru, w_tNo, w_tAnd2, w_tOr2, w_iSeq, w_iRange1, w_iRange2, w_iEnumE, rngD_len, w_gNm, w_gTup, w_gsNil, w_gsCons, w_gPut, w_sNil, w_sRet, w_sExpr, w_sAsg, w_sPar, w_eSl, w_oNoE, w_oSomeE, w_eNot, w_eAnd2, w_eOr2, w_eIxV, w_pLMet, w_sAugD, w_pGet1, w_pGet2, w_eGet2, w_pDisp, p_dpNil, p_dpCons, kd_int, kd_str, w_iRevE, w_iItemsE, w_sCt, w_sBk, w_sRetN, w_sIf, w_sFor, w_sFz, ok_some, ok_map, takeB, giveB, outsOf, wipeE, im_non, im_bl, im_int, im_str, im_tup, im_scr, im_lst, im_dcK, im_dcT, fz_non, fz_bl, fz_int, fz_str, fz_tup, fz_scr, fz_lstT, fz_lst, fz_dcT, fz_dcK, wk_tup, wk_lst, wk_scr, wk_str, sI_tup, sI_lst, tr_bl, lt_int, gt_int, le_int, leX_int, ge_int, eq_int, ne_int, eq_str, ne_str, ne_bl, eq_bl, add_int, sub_int, neg_int, g_int, g_abs, ix_tup, ix_lst, at0, at1, at2, g_len_tup, g_len_lst, List.getElem?_cons_zero, List.getElem?_cons_succ, List.set_cons_zero, List.set_cons_succ, List.length_cons, List.length_nil, List.map_cons, List.map_nil, List.replicate_succ, List.replicate_zero, List.cons_append, List.nil_append, List.head?_cons, List.tail_cons, Option.join_some, Option.map_some, if_true, if_false, ite_true, ite_false, reduceIte, reduceCtorEq, BEq.rfl, Bool.false_eq_true, Bool.not_true, Bool.not_false, List.all_cons, List.all_nil, Bool.and_true, Bool.true_and, Bool.and_self, true_and, and_true, exists_eq_left, exists_eq_left', D.bl.injEq, D.int.injEq, D.str.injEq, D.tup.injEq, Out.rt.injEq, Nat.lt_add_left_iff_pos, Nat.zero_lt_succ, Nat.reduceAdd, Nat.reduceLT, isT_non, isL_non, nft_non, is_non, isn_non]
    have := q [] (some .non) (some .non) x6 rfl rfl
    simpa using this
  | bl b =>
    simp only [w_pC, w_pVar, w_pOwn, w_p1, w_p2, w_pSl, w_oNo, w_oSome, w_pTup, w_pCall, w_aNil, w_aCons, w_pIsi, w_pIsi2, w_eP, w_eMove, w_e1, w_e2, w_eTup, w_eLst, w_eFz, w_eCall, w_aNilE, w_aConsE, w_eIf, w_eComp, w_eComp2, w_eDc, w_eDef, w_cNil, w_cVal, w_cBor, w_eMeth, w_eMetP, w_plVar, w_plIx, w_eSMet, w_yesT, w_tP, w_p2t, w_e2t, w_tTruP, w_tTru, w_tNo, w_tAnd2, w_tOr2, w_iSeq, w_iRange1, w_iRange2, w_iEnumE, rngD_len, w_gNm, w_gTup, w_gsNil, w_gsCons, w_gPut, w_sNil, w_sRet, w_sExpr, w_sAsg, w_sPar, w_eSl, w_oNoE, w_oSomeE, w_eNot, w_eAnd2, w_eOr2, w_eIxV, w_pLMet, w_sAugD, w_pGet1, w_pGet2, w_eGet2, w_pDisp, p_dpNil, p_dpCons, kd_int, kd_str, w_iRevE, w_iItemsE, w_sCt, w_sBk, w_sRetN, w_sIf, w_sFor, w_sFz, ok_some, ok_map, takeB, giveB, outsOf, wipeE, im_non, im_bl, im_int, im_str, im_tup, im_scr, im_lst, im_dcK, im_dcT, fz_non, fz_bl, fz_int, fz_str, fz_tup, fz_scr, fz_lstT, fz_lst, fz_dcT, fz_dcK, wk_tup, wk_lst, wk_scr, wk_str, sI_tup, sI_lst, tr_bl, lt_int, gt_int, le_int, leX_int, ge_int, eq_int, ne_int, eq_str, ne_str, ne_bl, eq_bl, add_int, sub_int, neg_int, g_int, g_abs, ix_tup, ix_lst, at0, at1, at2, g_len_tup, g_len_lst, List.getElem?_cons_zero, List.getElem?_cons_succ, List.set_cons_zero, List.set_cons_succ, List.length_cons, List.length_nil, List.map_cons, List.map_nil, List.replicate_succ, List.replicate_zero, List.cons_append, List.nil_append, List.head?_cons, List.tail_cons, Option.join_some, Option.map_some, if_true, if_false, ite_true, ite_false, reduceIte, reduceCtorEq, BEq.rfl, Bool.false_eq_true, Bool.not_true, Bool.not_false, List.all_cons, List.all_nil, Bool.and_true, Bool.true_and, Bool.and_self, true_and, and_true, exists_eq_left, exists_eq_left', D.bl.injEq, D.int.injEq, D.str.injEq, D.tup.injEq, Out.rt.injEq, Nat.lt_add_left_iff_pos, Nat.zero_lt_succ, Nat.reduceAdd, Nat.reduceLT, isT_bl, isL_bl, nft_bl, is_bl, isB_bl, bne_self]
    have := q [] (some (.bl b)) (some (.bl b)) x6 rfl rfl
    simpa using this
  | int i =>
    simp only [w_pC, w_pVar, w_pOwn, w_p1, w_p2, w_pSl, w_oNo, w_oSome, w_pTup, w_pCall, w_aNil, w_aCons, w_pIsi, w_pIsi2, w_eP, w_eMove, w_e1, w_e2, w_eTup, w_eLst, w_eFz, w_eCall, w_aNilE, w_aConsE, w_eIf, w_eComp, w_eComp2, w_eDc, w_eDef, w_cNil, w_cVal, w_cBor, w_eMeth, w_eMetP, w_plVar, w_plIx, w_eSMet, w_yesT, w_tP, w_p2t, w_e2t, w_tTruP, w_tTru, w_tNo, w_tAnd2, w_tOr2, w_iSeq, w_iRange1, w_iRange2, w_iEnumE, rngD_len, w_gNm, w_gTup, w_gsNil, w_gsCons, w_gPut, w_sNil, w_sRet, w_sExpr, w_sAsg, w_sPar, w_eSl, w_oNoE, w_oSomeE, w_eNot, w_eAnd2, w_eOr2, w_eIxV, w_pLMet, w_sAugD, w_pGet1, w_pGet2, w_eGet2, w_pDisp, p_dpNil, p_dpCons, kd_int, kd_str, w_iRevE, w_iItemsE, w_sCt, w_sBk, w_sRetN, w_sIf, w_sFor, w_sFz, ok_some, ok_map, takeB, giveB, outsOf, wipeE, im_non, im_bl, im_int, im_str, im_tup, im_scr, im_lst, im_dcK, im_dcT, fz_non, fz_bl, fz_int, fz_str, fz_tup, fz_scr, fz_lstT, fz_lst, fz_dcT, fz_dcK, wk_tup, wk_lst, wk_scr, wk_str, sI_tup, sI_lst, tr_bl, lt_int, gt_int, le_int, leX_int, ge_int, eq_int, ne_int, eq_str, ne_str, ne_bl, eq_bl, add_int, sub_int, neg_int, g_int, g_abs, ix_tup, ix_lst, at0, at1, at2, g_len_tup, g_len_lst, List.getElem?_cons_zero, List.getElem?_cons_succ, List.set_cons_zero, List.set_cons_succ, List.length_cons, List.length_nil, List.map_cons, List.map_nil, List.replicate_succ, List.replicate_zero, List.cons_append, List.nil_append, List.head?_cons, List.tail_cons, Option.join_some, Option.map_some, if_true, if_false, ite_true, ite_false, reduceIte, reduceCtorEq, BEq.rfl, Bool.false_eq_true, Bool.not_true, Bool.not_false, List.all_cons, List.all_nil, Bool.and_true, Bool.true_and, Bool.and_self, true_and, and_true, exists_eq_left, exists_eq_left', D.bl.injEq, D.int.injEq, D.str.injEq, D.tup.injEq, Out.rt.injEq, Nat.lt_add_left_iff_pos, Nat.zero_lt_succ, Nat.reduceAdd, Nat.reduceLT, isT_int, isL_int, nft_int, is_int, isB_int, isI_int, ine_self]
    have := q [] (some (.int i)) (some (.int i)) x6 rfl rfl
    simpa using this
  | str s =>
    simp only [w_pC, w_pVar, w_pOwn, w_p1, w_p2, w_pSl, w_oNo, w_oSome, w_pTup, w_pCall, w_aNil, w_aCons, w_pIsi, w_pIsi2, w_eP, w_eMove, w_e1, w_e2, w_eTup, w_eLst, w_eFz, w_eCall, w_aNilE, w_aConsE, w_eIf, w_eComp, w_eComp2, w_eDc, w_eDef, w_cNil, w_cVal, w_cBor, w_eMeth, w_eMetP, w_plVar, w_plIx, w_eSMet, w_yesT, w_tP, w_p2t, w_e2t, w_tTruP, w_tTru, w_tNo, w_tAnd2, w_tOr2, w_iSeq, w_iRange1, w_iRange2, w_iEnumE, rngD_len, w_gNm, w_gTup, w_gsNil, w_gsCons, w_gPut, w_sNil, w_sRet, w_sExpr, w_sAsg, w_sPar, w_eSl, w_oNoE, w_oSomeE, w_eNot, w_eAnd2, w_eOr2, w_eIxV, w_pLMet, w_sAugD, w_pGet1, w_pGet2, w_eGet2, w_pDisp, p_dpNil, p_dpCons, kd_int, kd_str, w_iRevE, w_iItemsE, w_sCt, w_sBk, w_sRetN, w_sIf, w_sFor, w_sFz, ok_some, ok_map, takeB, giveB, outsOf, wipeE, im_non, im_bl, im_int, im_str, im_tup, im_scr, im_lst, im_dcK, im_dcT, fz_non, fz_bl, fz_int, fz_str, fz_tup, fz_scr, fz_lstT, fz_lst, fz_dcT, fz_dcK, wk_tup, wk_lst, wk_scr, wk_str, sI_tup, sI_lst, tr_bl, lt_int, gt_int, le_int, leX_int, ge_int, eq_int, ne_int, eq_str, ne_str, ne_bl, eq_bl, add_int, sub_int, neg_int, g_int, g_abs, ix_tup, ix_lst, at0, at1, at2, g_len_tup, g_len_lst, List.getElem?_cons_zero, List.getElem?_cons_succ, List.set_cons_zero, List.set_cons_succ, List.length_cons, List.length_nil, List.map_cons, List.map_nil, List.replicate_succ, List.replicate_zero, List.cons_append, List.nil_append, List.head?_cons, List.tail_cons, Option.join_some, Option.map_some, if_true, if_false, ite_true, ite_false, reduceIte, reduceCtorEq, BEq.rfl, Bool.false_eq_true, Bool.not_true, Bool.not_false, List.all_cons, List.all_nil, Bool.and_true, Bool.true_and, Bool.and_self, true_and, and_true, exists_eq_left, exists_eq_left', D.bl.injEq, D.int.injEq, D.str.injEq, D.tup.injEq, Out.rt.injEq, Nat.lt_add_left_iff_pos, Nat.zero_lt_succ, Nat.reduceAdd, Nat.reduceLT, isT_str, isL_str, nft_str, is_str, isB_str, isI_str, isS_str, sne_self]
    have := q [] (some (.str s)) (some (.str s)) x6 rfl rfl
    simpa using this
  | tup es =>
    have hes : plzL es = true := by simpa [plz] using hp
    have el := ndzL_len es
    simp only [ndz] at hz
    simp only [w_pC, w_pVar, w_pOwn, w_p1, w_p2, w_pSl, w_oNo, w_oSome, w_pTup, w_pCall, w_aNil, w_aCons, w_pIsi, w_pIsi2, w_eP, w_eMove, w_e1, w_e2, w_eTup, w_eLst, w_eFz, w_eCall, w_aNilE, w_aConsE, w_eIf, w_eComp, w_eComp2, w_eDc, w_eDef, w_cNil, w_cVal, w_cBor, w_eMeth, w_eMetP, w_plVar, w_plIx, w_eSMet, w_yesT, w_tP, w_p2t, w_e2t, w_tTruP, w_tTru, w_tNo, w_tAnd2, w_tOr2, w_iSeq, w_iRange1, w_iRange2, w_iEnumE, rngD_len, w_gNm, w_gTup, w_gsNil, w_gsCons, w_gPut, w_sNil, w_sRet, w_sExpr, w_sAsg, w_sPar, w_eSl, w_oNoE, w_oSomeE, w_eNot, w_eAnd2, w_eOr2, w_eIxV, w_pLMet, w_sAugD, w_pGet1, w_pGet2, w_eGet2, w_pDisp, p_dpNil, p_dpCons, kd_int, kd_str, w_iRevE, w_iItemsE, w_sCt, w_sBk, w_sRetN, w_sIf, w_sFor, w_sFz, ok_some, ok_map, takeB, giveB, outsOf, wipeE, im_non, im_bl, im_int, im_str, im_tup, im_scr, im_lst, im_dcK, im_dcT, fz_non, fz_bl, fz_int, fz_str, fz_tup, fz_scr, fz_lstT, fz_lst, fz_dcT, fz_dcK, wk_tup, wk_lst, wk_scr, wk_str, sI_tup, sI_lst, tr_bl, lt_int, gt_int, le_int, leX_int, ge_int, eq_int, ne_int, eq_str, ne_str, ne_bl, eq_bl, add_int, sub_int, neg_int, g_int, g_abs, ix_tup, ix_lst, at0, at1, at2, g_len_tup, g_len_lst, List.getElem?_cons_zero, List.getElem?_cons_succ, List.set_cons_zero, List.set_cons_succ, List.length_cons, List.length_nil, List.map_cons, List.map_nil, List.replicate_succ, List.replicate_zero, List.cons_append, List.nil_append, List.head?_cons, List.tail_cons, Option.join_some, Option.map_some, if_true, if_false, ite_true, ite_false, reduceIte, reduceCtorEq, BEq.rfl, Bool.false_eq_true, Bool.not_true, Bool.not_false, List.all_cons, List.all_nil, Bool.and_true, Bool.true_and, Bool.and_self, true_and, and_true, exists_eq_left, exists_eq_left', D.bl.injEq, D.int.injEq, D.str.injEq, D.tup.injEq, Out.rt.injEq, Nat.lt_add_left_iff_pos, Nat.zero_lt_succ, Nat.reduceAdd, Nat.reduceLT, isT_tup, nft_tup]
    refine seq_ok2 ?_
    simp only [w_pC, w_pVar, w_pOwn, w_p1, w_p2, w_pSl, w_oNo, w_oSome, w_pTup, w_pCall, w_aNil, w_aCons, w_pIsi, w_pIsi2, w_eP, w_eMove, w_e1, w_e2, w_eTup, w_eLst, w_eFz, w_eCall, w_aNilE, w_aConsE, w_eIf, w_eComp, w_eComp2, w_eDc, w_eDef, w_cNil, w_cVal, w_cBor, w_eMeth, w_eMetP, w_plVar, w_plIx, w_eSMet, w_yesT, w_tP, w_p2t, w_e2t, w_tTruP, w_tTru, w_tNo, w_tAnd2, w_tOr2, w_iSeq, w_iRange1, w_iRange2, w_iEnumE, rngD_len, w_gNm, w_gTup, w_gsNil, w_gsCons, w_gPut, w_sNil, w_sRet, w_sExpr, w_sAsg, w_sPar, w_eSl, w_oNoE, w_oSomeE, w_eNot, w_eAnd2, w_eOr2, w_eIxV, w_pLMet, w_sAugD, w_pGet1, w_pGet2, w_eGet2, w_pDisp, p_dpNil, p_dpCons, kd_int, kd_str, w_iRevE, w_iItemsE, w_sCt, w_sBk, w_sRetN, w_sIf, w_sFor, w_sFz, ok_some, ok_map, takeB, giveB, outsOf, wipeE, im_non, im_bl, im_int, im_str, im_tup, im_scr, im_lst, im_dcK, im_dcT, fz_non, fz_bl, fz_int, fz_str, fz_tup, fz_scr, fz_lstT, fz_lst, fz_dcT, fz_dcK, wk_tup, wk_lst, wk_scr, wk_str, sI_tup, sI_lst, tr_bl, lt_int, gt_int, le_int, leX_int, ge_int, eq_int, ne_int, eq_str, ne_str, ne_bl, eq_bl, add_int, sub_int, neg_int, g_int, g_abs, ix_tup, ix_lst, at0, at1, at2, g_len_tup, g_len_lst, List.getElem?_cons_zero, List.getElem?_cons_succ, List.set_cons_zero, List.set_cons_succ, List.length_cons, List.length_nil, List.map_cons, List.map_nil, List.replicate_succ, List.replicate_zero, List.cons_append, List.nil_append, List.head?_cons, List.tail_cons, Option.join_some, Option.map_some, if_true, if_false, ite_true, ite_false, reduceIte, reduceCtorEq, BEq.rfl, Bool.false_eq_true, Bool.not_true, Bool.not_false, List.all_cons, List.all_nil, Bool.and_true, Bool.true_and, Bool.and_self, true_and, and_true, exists_eq_left, exists_eq_left', D.bl.injEq, D.int.injEq, D.str.injEq, D.tup.injEq, Out.rt.injEq, Nat.lt_add_left_iff_pos, Nat.zero_lt_succ, Nat.reduceAdd, Nat.reduceLT, isT_tup, nft_tup]
    refine seq_ok2 ?_
    simp only [w_pC, w_pVar, w_pOwn, w_p1, w_p2, w_pSl, w_oNo, w_oSome, w_pTup, w_pCall, w_aNil, w_aCons, w_pIsi, w_pIsi2, w_eP, w_eMove, w_e1, w_e2, w_eTup, w_eLst, w_eFz, w_eCall, w_aNilE, w_aConsE, w_eIf, w_eComp, w_eComp2, w_eDc, w_eDef, w_cNil, w_cVal, w_cBor, w_eMeth, w_eMetP, w_plVar, w_plIx, w_eSMet, w_yesT, w_tP, w_p2t, w_e2t, w_tTruP, w_tTru, w_tNo, w_tAnd2, w_tOr2, w_iSeq, w_iRange1, w_iRange2, w_iEnumE, rngD_len, w_gNm, w_gTup, w_gsNil, w_gsCons, w_gPut, w_sNil, w_sRet, w_sExpr, w_sAsg, w_sPar, w_eSl, w_oNoE, w_oSomeE, w_eNot, w_eAnd2, w_eOr2, w_eIxV, w_pLMet, w_sAugD, w_pGet1, w_pGet2, w_eGet2, w_pDisp, p_dpNil, p_dpCons, kd_int, kd_str, w_iRevE, w_iItemsE, w_sCt, w_sBk, w_sRetN, w_sIf, w_sFor, w_sFz, ok_some, ok_map, takeB, giveB, outsOf, wipeE, im_non, im_bl, im_int, im_str, im_tup, im_scr, im_lst, im_dcK, im_dcT, fz_non, fz_bl, fz_int, fz_str, fz_tup, fz_scr, fz_lstT, fz_lst, fz_dcT, fz_dcK, wk_tup, wk_lst, wk_scr, wk_str, sI_tup, sI_lst, tr_bl, lt_int, gt_int, le_int, leX_int, ge_int, eq_int, ne_int, eq_str, ne_str, ne_bl, eq_bl, add_int, sub_int, neg_int, g_int, g_abs, ix_tup, ix_lst, at0, at1, at2, g_len_tup, g_len_lst, List.getElem?_cons_zero, List.getElem?_cons_succ, List.set_cons_zero, List.set_cons_succ, List.length_cons, List.length_nil, List.map_cons, List.map_nil, List.replicate_succ, List.replicate_zero, List.cons_append, List.nil_append, List.head?_cons, List.tail_cons, Option.join_some, Option.map_some, if_true, if_false, ite_true, ite_false, reduceIte, reduceCtorEq, BEq.rfl, Bool.false_eq_true, Bool.not_true, Bool.not_false, List.all_cons, List.all_nil, Bool.and_true, Bool.true_and, Bool.and_self, true_and, and_true, exists_eq_left, exists_eq_left', D.bl.injEq, D.int.injEq, D.str.injEq, D.tup.injEq, Out.rt.injEq, Nat.lt_add_left_iff_pos, Nat.zero_lt_succ, Nat.reduceAdd, Nat.reduceLT, isL_tup, nft_tup]
    refine seq_ok2 ?_
    simp only [w_pC, w_pVar, w_pOwn, w_p1, w_p2, w_pSl, w_oNo, w_oSome, w_pTup, w_pCall, w_aNil, w_aCons, w_pIsi, w_pIsi2, w_eP, w_eMove, w_e1, w_e2, w_eTup, w_eLst, w_eFz, w_eCall, w_aNilE, w_aConsE, w_eIf, w_eComp, w_eComp2, w_eDc, w_eDef, w_cNil, w_cVal, w_cBor, w_eMeth, w_eMetP, w_plVar, w_plIx, w_eSMet, w_yesT, w_tP, w_p2t, w_e2t, w_tTruP, w_tTru, w_tNo, w_tAnd2, w_tOr2, w_iSeq, w_iRange1, w_iRange2, w_iEnumE, rngD_len, w_gNm, w_gTup, w_gsNil, w_gsCons, w_gPut, w_sNil, w_sRet, w_sExpr, w_sAsg, w_sPar, w_eSl, w_oNoE, w_oSomeE, w_eNot, w_eAnd2, w_eOr2, w_eIxV, w_pLMet, w_sAugD, w_pGet1, w_pGet2, w_eGet2, w_pDisp, p_dpNil, p_dpCons, kd_int, kd_str, w_iRevE, w_iItemsE, w_sCt, w_sBk, w_sRetN, w_sIf, w_sFor, w_sFz, ok_some, ok_map, takeB, giveB, outsOf, wipeE, im_non, im_bl, im_int, im_str, im_tup, im_scr, im_lst, im_dcK, im_dcT, fz_non, fz_bl, fz_int, fz_str, fz_tup, fz_scr, fz_lstT, fz_lst, fz_dcT, fz_dcK, wk_tup, wk_lst, wk_scr, wk_str, sI_tup, sI_lst, tr_bl, lt_int, gt_int, le_int, leX_int, ge_int, eq_int, ne_int, eq_str, ne_str, ne_bl, eq_bl, add_int, sub_int, neg_int, g_int, g_abs, ix_tup, ix_lst, at0, at1, at2, g_len_tup, g_len_lst, List.getElem?_cons_zero, List.getElem?_cons_succ, List.set_cons_zero, List.set_cons_succ, List.length_cons, List.length_nil, List.map_cons, List.map_nil, List.replicate_succ, List.replicate_zero, List.cons_append, List.nil_append, List.head?_cons, List.tail_cons, Option.join_some, Option.map_some, if_true, if_false, ite_true, ite_false, reduceIte, reduceCtorEq, BEq.rfl, Bool.false_eq_true, Bool.not_true, Bool.not_false, List.all_cons, List.all_nil, Bool.and_true, Bool.true_and, Bool.and_self, true_and, and_true, exists_eq_left, exists_eq_left', D.bl.injEq, D.int.injEq, D.str.injEq, D.tup.injEq, Out.rt.injEq, Nat.lt_add_left_iff_pos, Nat.zero_lt_succ, Nat.reduceAdd, Nat.reduceLT, ine_self]
    refine ⟨_, rfl, small_nat (by omega), ?_⟩
    rw [Int.toNat_natCast]
    exact same9_push (fun i h e => by rw [ix_tup]; exact e) (by omega) (List.all_eq_true.mpr fun x m => plz_imm (plzL_mem hes x m)) (fun x6 => q es _ _ _ (by simp [ndz]) hes) x6
  | lst z es =>
    have hes : z = true ∧ plzL es = true := by simpa [plz] using hp
    obtain ⟨rfl, hes⟩ := hes
    have el := ndzL_len es
    simp only [ndz] at hz
    simp only [w_pC, w_pVar, w_pOwn, w_p1, w_p2, w_pSl, w_oNo, w_oSome, w_pTup, w_pCall, w_aNil, w_aCons, w_pIsi, w_pIsi2, w_eP, w_eMove, w_e1, w_e2, w_eTup, w_eLst, w_eFz, w_eCall, w_aNilE, w_aConsE, w_eIf, w_eComp, w_eComp2, w_eDc, w_eDef, w_cNil, w_cVal, w_cBor, w_eMeth, w_eMetP, w_plVar, w_plIx, w_eSMet, w_yesT, w_tP, w_p2t, w_e2t, w_tTruP, w_tTru, w_tNo, w_tAnd2, w_tOr2, w_iSeq, w_iRange1, w_iRange2, w_iEnumE, rngD_len, w_gNm, w_gTup, w_gsNil, w_gsCons, w_gPut, w_sNil, w_sRet, w_sExpr, w_sAsg, w_sPar, w_eSl, w_oNoE, w_oSomeE, w_eNot, w_eAnd2, w_eOr2, w_eIxV, w_pLMet, w_sAugD, w_pGet1, w_pGet2, w_eGet2, w_pDisp, p_dpNil, p_dpCons, kd_int, kd_str, w_iRevE, w_iItemsE, w_sCt, w_sBk, w_sRetN, w_sIf, w_sFor, w_sFz, ok_some, ok_map, takeB, giveB, outsOf, wipeE, im_non, im_bl, im_int, im_str, im_tup, im_scr, im_lst, im_dcK, im_dcT, fz_non, fz_bl, fz_int, fz_str, fz_tup, fz_scr, fz_lstT, fz_lst, fz_dcT, fz_dcK, wk_tup, wk_lst, wk_scr, wk_str, sI_tup, sI_lst, tr_bl, lt_int, gt_int, le_int, leX_int, ge_int, eq_int, ne_int, eq_str, ne_str, ne_bl, eq_bl, add_int, sub_int, neg_int, g_int, g_abs, ix_tup, ix_lst, at0, at1, at2, g_len_tup, g_len_lst, List.getElem?_cons_zero, List.getElem?_cons_succ, List.set_cons_zero, List.set_cons_succ, List.length_cons, List.length_nil, List.map_cons, List.map_nil, List.replicate_succ, List.replicate_zero, List.cons_append, List.nil_append, List.head?_cons, List.tail_cons, Option.join_some, Option.map_some, if_true, if_false, ite_true, ite_false, reduceIte, reduceCtorEq, BEq.rfl, Bool.false_eq_true, Bool.not_true, Bool.not_false, List.all_cons, List.all_nil, Bool.and_true, Bool.true_and, Bool.and_self, true_and, and_true, exists_eq_left, exists_eq_left', D.bl.injEq, D.int.injEq, D.str.injEq, D.tup.injEq, Out.rt.injEq, Nat.lt_add_left_iff_pos, Nat.zero_lt_succ, Nat.reduceAdd, Nat.reduceLT, isT_lst, isL_lst, nft_lst]
    refine seq_ok2 ?_
    simp only [w_pC, w_pVar, w_pOwn, w_p1, w_p2, w_pSl, w_oNo, w_oSome, w_pTup, w_pCall, w_aNil, w_aCons, w_pIsi, w_pIsi2, w_eP, w_eMove, w_e1, w_e2, w_eTup, w_eLst, w_eFz, w_eCall, w_aNilE, w_aConsE, w_eIf, w_eComp, w_eComp2, w_eDc, w_eDef, w_cNil, w_cVal, w_cBor, w_eMeth, w_eMetP, w_plVar, w_plIx, w_eSMet, w_yesT, w_tP, w_p2t, w_e2t, w_tTruP, w_tTru, w_tNo, w_tAnd2, w_tOr2, w_iSeq, w_iRange1, w_iRange2, w_iEnumE, rngD_len, w_gNm, w_gTup, w_gsNil, w_gsCons, w_gPut, w_sNil, w_sRet, w_sExpr, w_sAsg, w_sPar, w_eSl, w_oNoE, w_oSomeE, w_eNot, w_eAnd2, w_eOr2, w_eIxV, w_pLMet, w_sAugD, w_pGet1, w_pGet2, w_eGet2, w_pDisp, p_dpNil, p_dpCons, kd_int, kd_str, w_iRevE, w_iItemsE, w_sCt, w_sBk, w_sRetN, w_sIf, w_sFor, w_sFz, ok_some, ok_map, takeB, giveB, outsOf, wipeE, im_non, im_bl, im_int, im_str, im_tup, im_scr, im_lst, im_dcK, im_dcT, fz_non, fz_bl, fz_int, fz_str, fz_tup, fz_scr, fz_lstT, fz_lst, fz_dcT, fz_dcK, wk_tup, wk_lst, wk_scr, wk_str, sI_tup, sI_lst, tr_bl, lt_int, gt_int, le_int, leX_int, ge_int, eq_int, ne_int, eq_str, ne_str, ne_bl, eq_bl, add_int, sub_int, neg_int, g_int, g_abs, ix_tup, ix_lst, at0, at1, at2, g_len_tup, g_len_lst, List.getElem?_cons_zero, List.getElem?_cons_succ, List.set_cons_zero, List.set_cons_succ, List.length_cons, List.length_nil, List.map_cons, List.map_nil, List.replicate_succ, List.replicate_zero, List.cons_append, List.nil_append, List.head?_cons, List.tail_cons, Option.join_some, Option.map_some, if_true, if_false, ite_true, ite_false, reduceIte, reduceCtorEq, BEq.rfl, Bool.false_eq_true, Bool.not_true, Bool.not_false, List.all_cons, List.all_nil, Bool.and_true, Bool.true_and, Bool.and_self, true_and, and_true, exists_eq_left, exists_eq_left', D.bl.injEq, D.int.injEq, D.str.injEq, D.tup.injEq, Out.rt.injEq, Nat.lt_add_left_iff_pos, Nat.zero_lt_succ, Nat.reduceAdd, Nat.reduceLT, isT_lst, nft_lst]
    refine seq_ok2 ?_
    simp only [w_pC, w_pVar, w_pOwn, w_p1, w_p2, w_pSl, w_oNo, w_oSome, w_pTup, w_pCall, w_aNil, w_aCons, w_pIsi, w_pIsi2, w_eP, w_eMove, w_e1, w_e2, w_eTup, w_eLst, w_eFz, w_eCall, w_aNilE, w_aConsE, w_eIf, w_eComp, w_eComp2, w_eDc, w_eDef, w_cNil, w_cVal, w_cBor, w_eMeth, w_eMetP, w_plVar, w_plIx, w_eSMet, w_yesT, w_tP, w_p2t, w_e2t, w_tTruP, w_tTru, w_tNo, w_tAnd2, w_tOr2, w_iSeq, w_iRange1, w_iRange2, w_iEnumE, rngD_len, w_gNm, w_gTup, w_gsNil, w_gsCons, w_gPut, w_sNil, w_sRet, w_sExpr, w_sAsg, w_sPar, w_eSl, w_oNoE, w_oSomeE, w_eNot, w_eAnd2, w_eOr2, w_eIxV, w_pLMet, w_sAugD, w_pGet1, w_pGet2, w_eGet2, w_pDisp, p_dpNil, p_dpCons, kd_int, kd_str, w_iRevE, w_iItemsE, w_sCt, w_sBk, w_sRetN, w_sIf, w_sFor, w_sFz, ok_some, ok_map, takeB, giveB, outsOf, wipeE, im_non, im_bl, im_int, im_str, im_tup, im_scr, im_lst, im_dcK, im_dcT, fz_non, fz_bl, fz_int, fz_str, fz_tup, fz_scr, fz_lstT, fz_lst, fz_dcT, fz_dcK, wk_tup, wk_lst, wk_scr, wk_str, sI_tup, sI_lst, tr_bl, lt_int, gt_int, le_int, leX_int, ge_int, eq_int, ne_int, eq_str, ne_str, ne_bl, eq_bl, add_int, sub_int, neg_int, g_int, g_abs, ix_tup, ix_lst, at0, at1, at2, g_len_tup, g_len_lst, List.getElem?_cons_zero, List.getElem?_cons_succ, List.set_cons_zero, List.set_cons_succ, List.length_cons, List.length_nil, List.map_cons, List.map_nil, List.replicate_succ, List.replicate_zero, List.cons_append, List.nil_append, List.head?_cons, List.tail_cons, Option.join_some, Option.map_some, if_true, if_false, ite_true, ite_false, reduceIte, reduceCtorEq, BEq.rfl, Bool.false_eq_true, Bool.not_true, Bool.not_false, List.all_cons, List.all_nil, Bool.and_true, Bool.true_and, Bool.and_self, true_and, and_true, exists_eq_left, exists_eq_left', D.bl.injEq, D.int.injEq, D.str.injEq, D.tup.injEq, Out.rt.injEq, Nat.lt_add_left_iff_pos, Nat.zero_lt_succ, Nat.reduceAdd, Nat.reduceLT, isL_lst, nft_lst]
    refine seq_ok2 ?_
    simp only [w_pC, w_pVar, w_pOwn, w_p1, w_p2, w_pSl, w_oNo, w_oSome, w_pTup, w_pCall, w_aNil, w_aCons, w_pIsi, w_pIsi2, w_eP, w_eMove, w_e1, w_e2, w_eTup, w_eLst, w_eFz, w_eCall, w_aNilE, w_aConsE, w_eIf, w_eComp, w_eComp2, w_eDc, w_eDef, w_cNil, w_cVal, w_cBor, w_eMeth, w_eMetP, w_plVar, w_plIx, w_eSMet, w_yesT, w_tP, w_p2t, w_e2t, w_tTruP, w_tTru, w_tNo, w_tAnd2, w_tOr2, w_iSeq, w_iRange1, w_iRange2, w_iEnumE, rngD_len, w_gNm, w_gTup, w_gsNil, w_gsCons, w_gPut, w_sNil, w_sRet, w_sExpr, w_sAsg, w_sPar, w_eSl, w_oNoE, w_oSomeE, w_eNot, w_eAnd2, w_eOr2, w_eIxV, w_pLMet, w_sAugD, w_pGet1, w_pGet2, w_eGet2, w_pDisp, p_dpNil, p_dpCons, kd_int, kd_str, w_iRevE, w_iItemsE, w_sCt, w_sBk, w_sRetN, w_sIf, w_sFor, w_sFz, ok_some, ok_map, takeB, giveB, outsOf, wipeE, im_non, im_bl, im_int, im_str, im_tup, im_scr, im_lst, im_dcK, im_dcT, fz_non, fz_bl, fz_int, fz_str, fz_tup, fz_scr, fz_lstT, fz_lst, fz_dcT, fz_dcK, wk_tup, wk_lst, wk_scr, wk_str, sI_tup, sI_lst, tr_bl, lt_int, gt_int, le_int, leX_int, ge_int, eq_int, ne_int, eq_str, ne_str, ne_bl, eq_bl, add_int, sub_int, neg_int, g_int, g_abs, ix_tup, ix_lst, at0, at1, at2, g_len_tup, g_len_lst, List.getElem?_cons_zero, List.getElem?_cons_succ, List.set_cons_zero, List.set_cons_succ, List.length_cons, List.length_nil, List.map_cons, List.map_nil, List.replicate_succ, List.replicate_zero, List.cons_append, List.nil_append, List.head?_cons, List.tail_cons, Option.join_some, Option.map_some, if_true, if_false, ite_true, ite_false, reduceIte, reduceCtorEq, BEq.rfl, Bool.false_eq_true, Bool.not_true, Bool.not_false, List.all_cons, List.all_nil, Bool.and_true, Bool.true_and, Bool.and_self, true_and, and_true, exists_eq_left, exists_eq_left', D.bl.injEq, D.int.injEq, D.str.injEq, D.tup.injEq, Out.rt.injEq, Nat.lt_add_left_iff_pos, Nat.zero_lt_succ, Nat.reduceAdd, Nat.reduceLT, ine_self]
    refine ⟨_, rfl, small_nat (by omega), ?_⟩
    rw [Int.toNat_natCast]
    exact same9_push (fun i h e => by rw [ix_lst]; exact e) (by omega) (List.all_eq_true.mpr fun x m => plz_imm (plzL_mem hes x m)) (fun x6 => q es _ _ _ (by simp [ndz]) hes) x6
  | scr es => simp [plz] at hp
  | dcK z ks ds => simp [plz] at hp
  | dcT z ks ds => simp [plz] at hp
  | exo _ _ _ _ _ => simp [plz] at hp
theorem same9_loop {t u : Option D} {Q : Out × Env → Prop} (q : ∀ x2 x3 x4 x5 x6, Q (.rt (.bl true), [t, u, x2, x3, x4, x5, x6])) : ∀ (rs ds : List D) (x3 x4 x5 x6 : Option D), ndzL ds < rs.length → plzL ds = true → ndzL ds ≤ 16777216 →
    Ok (forL (gNm 3) same9 rs [t, u, some (.lst false (ds.map twoD)), x3, x4, x5, x6]) Q
  | [], ds, _, _, _, _, h, _, _ => absurd h (Nat.not_lt_zero _)
  | r :: rs, ds, x3, x4, x5, x6, h, hp, hz => by
    rcases List.eq_nil_or_concat ds with rfl | ⟨ds', d, rfl⟩
    · have hb : Ok (same9 [t, u, some (.lst false []), some r, x4, x5, x6]) fun z => z = (.rt (.bl true), [t, u, some (.lst false []), some r, x4, x5, x6]) := by
        unfold same9
        refine seq_ok2 ?_
        simp only [w_pC, w_pVar, w_pOwn, w_p1, w_p2, w_pSl, w_oNo, w_oSome, w_pTup, w_pCall, w_aNil, w_aCons, w_pIsi, w_pIsi2, w_eP, w_eMove, w_e1, w_e2, w_eTup, w_eLst, w_eFz, w_eCall, w_aNilE, w_aConsE, w_eIf, w_eComp, w_eComp2, w_eDc, w_eDef, w_cNil, w_cVal, w_cBor, w_eMeth, w_eMetP, w_plVar, w_plIx, w_eSMet, w_yesT, w_tP, w_p2t, w_e2t, w_tTruP, w_tTru, w_tNo, w_tAnd2, w_tOr2, w_iSeq, w_iRange1, w_iRange2, w_iEnumE, rngD_len, w_gNm, w_gTup, w_gsNil, w_gsCons, w_gPut, w_sNil, w_sRet, w_sExpr, w_sAsg, w_sPar, w_eSl, w_oNoE, w_oSomeE, w_eNot, w_eAnd2, w_eOr2, w_eIxV, w_pLMet, w_sAugD, w_pGet1, w_pGet2, w_eGet2, w_pDisp, p_dpNil, p_dpCons, kd_int, kd_str, w_iRevE, w_iItemsE, w_sCt, w_sBk, w_sRetN, w_sIf, w_sFor, w_sFz, ok_some, ok_map, takeB, giveB, outsOf, wipeE, im_non, im_bl, im_int, im_str, im_tup, im_scr, im_lst, im_dcK, im_dcT, fz_non, fz_bl, fz_int, fz_str, fz_tup, fz_scr, fz_lstT, fz_lst, fz_dcT, fz_dcK, wk_tup, wk_lst, wk_scr, wk_str, sI_tup, sI_lst, tr_bl, lt_int, gt_int, le_int, leX_int, ge_int, eq_int, ne_int, eq_str, ne_str, ne_bl, eq_bl, add_int, sub_int, neg_int, g_int, g_abs, ix_tup, ix_lst, at0, at1, at2, g_len_tup, g_len_lst, List.getElem?_cons_zero, List.getElem?_cons_succ, List.set_cons_zero, List.set_cons_succ, List.length_cons, List.length_nil, List.map_cons, List.map_nil, List.replicate_succ, List.replicate_zero, List.cons_append, List.nil_append, List.head?_cons, List.tail_cons, Option.join_some, Option.map_some, if_true, if_false, ite_true, ite_false, reduceIte, reduceCtorEq, BEq.rfl, Bool.false_eq_true, Bool.not_true, Bool.not_false, List.all_cons, List.all_nil, Bool.and_true, Bool.true_and, Bool.and_self, true_and, and_true, exists_eq_left, exists_eq_left', D.bl.injEq, D.int.injEq, D.str.injEq, D.tup.injEq, Out.rt.injEq, Nat.lt_add_left_iff_pos, Nat.zero_lt_succ, Nat.reduceAdd, Nat.reduceLT, Int.ofNat_zero]
      obtain ⟨z, h1, rfl⟩ := hb
      unfold forL
      show Ok ((same9 [t, u, some (.lst false []), some r, x4, x5, x6]).bind _) Q
      rw [h1]
      exact ok_of rfl (q _ _ _ _ _)
    · rw [List.concat_eq_append] at h hp hz ⊢
      rw [ndzL_app] at h hz
      have hd : ndzL [d] = ndz d := by simp [ndzL]
      rw [plzL_app] at hp
      have hp1 : plzL ds' = true := by simp only [Bool.and_eq_true] at hp; exact hp.1
      have hp2 : plz d = true := by simp [plzL] at hp; exact hp.2
      have hb : Ok (same9 [t, u, some (.lst false ((ds' ++ [d]).map twoD)), some r, x4, x5, x6]) fun z => ∃ es x4 x5 x6, ndzL es + 1 = ndz d ∧ plzL es = true ∧ z = (.nx, [t, u, some (.lst false ((ds' ++ es).map twoD)), some r, x4, x5, x6]) :=
        same9_turn hp2 (by omega) fun es x4 x5 x6 h1 h2 => ⟨es, x4, x5, x6, h1, h2, rfl⟩
      obtain ⟨z, h1, es, y4, y5, y6, h2, h3, rfl⟩ := hb
      unfold forL
      show Ok ((same9 [t, u, some (.lst false ((ds' ++ [d]).map twoD)), some r, x4, x5, x6]).bind _) Q
      rw [h1]
      exact same9_loop q rs (ds' ++ es) _ _ _ _ (by rw [ndzL_app]; simp only [List.length_cons] at h; omega) (by rw [plzL_app, hp1, h3]; rfl) (by rw [ndzL_app]; omega)
noncomputable def B_same9 : SSm := (sSeq (sAsg (eLst (aConsE (eP (pTup (aCons (pVar 0) (aCons (pVar 1) aNil)))) aNilE)) (gNm 2))
  (sSeq (sFor (iRange1 (aConsE (eP (pC (.int 3000000))) aNilE)) (gNm 3) (sSeq (sIf (tP (p2t dEq (pCall gLen (aCons (pVar 2) aNil)) (pC (.int 0)))) (sRet (eP (pC (.bl true)))) sNil)
  (sSeq (sAsg (eMeth 2 "list" mPop aNilE) (gTu 2 (gsCons (gNm 4) (gsCons (gNm 5) gsNil))))
  (sIf (tOr2 (tP (tTruP (pIsi "tuple" (pVar 5)))) (tP (tTruP (pIsi "list" (pVar 5))))) (sSeq (sIf (tAnd2 (tP (tTruP (pIsi "tuple" (pVar 5)))) (tNo (tP (tTruP (pIsi "tuple" (pVar 4)))))) (sRet (eP (pC (.bl false)))) sNil)
  (sSeq (sIf (tAnd2 (tP (tTruP (pIsi "list" (pVar 5)))) (tNo (tP (tTruP (pIsi "list" (pVar 4)))))) (sRet (eP (pC (.bl false)))) sNil)
  (sSeq (sIf (tP (p2t dNe (pCall gLen (aCons (pVar 4) aNil)) (pCall gLen (aCons (pVar 5) aNil)))) (sRet (eP (pC (.bl false)))) sNil)
  (sFor (iRange1 (aConsE (eP (pCall gLen (aCons (pVar 5) aNil))) aNilE)) (gNm 6) (sExpr (eMeth 2 "list" mAppend (aConsE (eP (pTup (aCons (p2 dIx (pVar 4) (pVar 6)) (aCons (p2 dIx (pVar 5) (pVar 6)) aNil)))) aNilE))))))) (sIf (tP (p2t dIs (pVar 5) (pC .non))) (sIf (tP (p2t dIsNot (pVar 4) (pC .non))) (sRet (eP (pC (.bl false)))) sNil) (sIf (tP (tTruP (pIsi "bool" (pVar 5)))) (sIf (tOr2 (tNo (tP (tTruP (pIsi "bool" (pVar 4))))) (tP (p2t dNe (pVar 4) (pVar 5)))) (sRet (eP (pC (.bl false)))) sNil) (sIf (tP (tTruP (pIsi "int" (pVar 5)))) (sIf (tOr2 (tNo (tP (tTruP (pIsi "int" (pVar 4))))) (tOr2 (tP (tTruP (pIsi "bool" (pVar 4)))) (tP (p2t dNe (pVar 4) (pVar 5))))) (sRet (eP (pC (.bl false)))) sNil) (sIf (tOr2 (tNo (tP (tTruP (pIsi "str" (pVar 5))))) (tOr2 (tNo (tP (tTruP (pIsi "str" (pVar 4))))) (tP (p2t dNe (pVar 4) (pVar 5))))) (sRet (eP (pC (.bl false)))) sNil))))))))
  (sRet (eP (pC (.bl false))))))
theorem same9_w {d : D} {Q : D × List (Option D) → Prop} (hp : plz d = true) (hz : ndz d < 3000000) (q : Q (.bl true, [some d, some d])) : Ok (fnF (pinP [0, 1]) 2 5 B_same9 [d, d]) Q := by
  have im := plz_imm hp
  refine fn_ok rfl ?_
  unfold B_same9
  simp only [List.map_cons, List.map_nil, List.replicate_succ, List.replicate_zero, List.cons_append, List.nil_append]
  refine seq_ok ?_
  simp only [w_pC, w_pVar, w_pOwn, w_p1, w_p2, w_pSl, w_oNo, w_oSome, w_pTup, w_pCall, w_aNil, w_aCons, w_pIsi, w_pIsi2, w_eP, w_eMove, w_e1, w_e2, w_eTup, w_eLst, w_eFz, w_eCall, w_aNilE, w_aConsE, w_eIf, w_eComp, w_eComp2, w_eDc, w_eDef, w_cNil, w_cVal, w_cBor, w_eMeth, w_eMetP, w_plVar, w_plIx, w_eSMet, w_yesT, w_tP, w_p2t, w_e2t, w_tTruP, w_tTru, w_tNo, w_tAnd2, w_tOr2, w_iSeq, w_iRange1, w_iRange2, w_iEnumE, rngD_len, w_gNm, w_gTup, w_gsNil, w_gsCons, w_gPut, w_sNil, w_sRet, w_sExpr, w_sAsg, w_sPar, w_eSl, w_oNoE, w_oSomeE, w_eNot, w_eAnd2, w_eOr2, w_eIxV, w_pLMet, w_sAugD, w_pGet1, w_pGet2, w_eGet2, w_pDisp, p_dpNil, p_dpCons, kd_int, kd_str, w_iRevE, w_iItemsE, w_sCt, w_sBk, w_sRetN, w_sIf, w_sFor, w_sFz, ok_some, ok_map, takeB, giveB, outsOf, wipeE, im_non, im_bl, im_int, im_str, im_tup, im_scr, im_lst, im_dcK, im_dcT, fz_non, fz_bl, fz_int, fz_str, fz_tup, fz_scr, fz_lstT, fz_lst, fz_dcT, fz_dcK, wk_tup, wk_lst, wk_scr, wk_str, sI_tup, sI_lst, tr_bl, lt_int, gt_int, le_int, leX_int, ge_int, eq_int, ne_int, eq_str, ne_str, ne_bl, eq_bl, add_int, sub_int, neg_int, g_int, g_abs, ix_tup, ix_lst, at0, at1, at2, g_len_tup, g_len_lst, List.getElem?_cons_zero, List.getElem?_cons_succ, List.set_cons_zero, List.set_cons_succ, List.length_cons, List.length_nil, List.map_cons, List.map_nil, List.replicate_succ, List.replicate_zero, List.cons_append, List.nil_append, List.head?_cons, List.tail_cons, Option.join_some, Option.map_some, if_true, if_false, ite_true, ite_false, reduceIte, reduceCtorEq, BEq.rfl, Bool.false_eq_true, Bool.not_true, Bool.not_false, List.all_cons, List.all_nil, Bool.and_true, Bool.true_and, Bool.and_self, true_and, and_true, exists_eq_left, exists_eq_left', D.bl.injEq, D.int.injEq, D.str.injEq, D.tup.injEq, Out.rt.injEq, Nat.lt_add_left_iff_pos, Nat.zero_lt_succ, Nat.reduceAdd, Nat.reduceLT, im]
  refine ⟨by decide, by decide, ?_⟩
  refine seq_ok2 ?_
  simp only [w_pC, w_pVar, w_pOwn, w_p1, w_p2, w_pSl, w_oNo, w_oSome, w_pTup, w_pCall, w_aNil, w_aCons, w_pIsi, w_pIsi2, w_eP, w_eMove, w_e1, w_e2, w_eTup, w_eLst, w_eFz, w_eCall, w_aNilE, w_aConsE, w_eIf, w_eComp, w_eComp2, w_eDc, w_eDef, w_cNil, w_cVal, w_cBor, w_eMeth, w_eMetP, w_plVar, w_plIx, w_eSMet, w_yesT, w_tP, w_p2t, w_e2t, w_tTruP, w_tTru, w_tNo, w_tAnd2, w_tOr2, w_iSeq, w_iRange1, w_iRange2, w_iEnumE, rngD_len, w_gNm, w_gTup, w_gsNil, w_gsCons, w_gPut, w_sNil, w_sRet, w_sExpr, w_sAsg, w_sPar, w_eSl, w_oNoE, w_oSomeE, w_eNot, w_eAnd2, w_eOr2, w_eIxV, w_pLMet, w_sAugD, w_pGet1, w_pGet2, w_eGet2, w_pDisp, p_dpNil, p_dpCons, kd_int, kd_str, w_iRevE, w_iItemsE, w_sCt, w_sBk, w_sRetN, w_sIf, w_sFor, w_sFz, ok_some, ok_map, takeB, giveB, outsOf, wipeE, im_non, im_bl, im_int, im_str, im_tup, im_scr, im_lst, im_dcK, im_dcT, fz_non, fz_bl, fz_int, fz_str, fz_tup, fz_scr, fz_lstT, fz_lst, fz_dcT, fz_dcK, wk_tup, wk_lst, wk_scr, wk_str, sI_tup, sI_lst, tr_bl, lt_int, gt_int, le_int, leX_int, ge_int, eq_int, ne_int, eq_str, ne_str, ne_bl, eq_bl, add_int, sub_int, neg_int, g_int, g_abs, ix_tup, ix_lst, at0, at1, at2, g_len_tup, g_len_lst, List.getElem?_cons_zero, List.getElem?_cons_succ, List.set_cons_zero, List.set_cons_succ, List.length_cons, List.length_nil, List.map_cons, List.map_nil, List.replicate_succ, List.replicate_zero, List.cons_append, List.nil_append, List.head?_cons, List.tail_cons, Option.join_some, Option.map_some, if_true, if_false, ite_true, ite_false, reduceIte, reduceCtorEq, BEq.rfl, Bool.false_eq_true, Bool.not_true, Bool.not_false, List.all_cons, List.all_nil, Bool.and_true, Bool.true_and, Bool.and_self, true_and, and_true, exists_eq_left, exists_eq_left', D.bl.injEq, D.int.injEq, D.str.injEq, D.tup.injEq, Out.rt.injEq, Nat.lt_add_left_iff_pos, Nat.zero_lt_succ, Nat.reduceAdd, Nat.reduceLT]
  refine ⟨_, rfl, by decide, ?_⟩
  refine same9_loop (fun x2 x3 x4 x5 x6 => ?_) (rngD 0 (3000000 : Int).toNat) [d] none none none none (by rw [rngD_len]; simpa [ndzL] using hz) (by simp [plzL, hp]) (by simp [ndzL]; omega)
  simp only [w_pC, w_pVar, w_pOwn, w_p1, w_p2, w_pSl, w_oNo, w_oSome, w_pTup, w_pCall, w_aNil, w_aCons, w_pIsi, w_pIsi2, w_eP, w_eMove, w_e1, w_e2, w_eTup, w_eLst, w_eFz, w_eCall, w_aNilE, w_aConsE, w_eIf, w_eComp, w_eComp2, w_eDc, w_eDef, w_cNil, w_cVal, w_cBor, w_eMeth, w_eMetP, w_plVar, w_plIx, w_eSMet, w_yesT, w_tP, w_p2t, w_e2t, w_tTruP, w_tTru, w_tNo, w_tAnd2, w_tOr2, w_iSeq, w_iRange1, w_iRange2, w_iEnumE, rngD_len, w_gNm, w_gTup, w_gsNil, w_gsCons, w_gPut, w_sNil, w_sRet, w_sExpr, w_sAsg, w_sPar, w_eSl, w_oNoE, w_oSomeE, w_eNot, w_eAnd2, w_eOr2, w_eIxV, w_pLMet, w_sAugD, w_pGet1, w_pGet2, w_eGet2, w_pDisp, p_dpNil, p_dpCons, kd_int, kd_str, w_iRevE, w_iItemsE, w_sCt, w_sBk, w_sRetN, w_sIf, w_sFor, w_sFz, ok_some, ok_map, takeB, giveB, outsOf, wipeE, im_non, im_bl, im_int, im_str, im_tup, im_scr, im_lst, im_dcK, im_dcT, fz_non, fz_bl, fz_int, fz_str, fz_tup, fz_scr, fz_lstT, fz_lst, fz_dcT, fz_dcK, wk_tup, wk_lst, wk_scr, wk_str, sI_tup, sI_lst, tr_bl, lt_int, gt_int, le_int, leX_int, ge_int, eq_int, ne_int, eq_str, ne_str, ne_bl, eq_bl, add_int, sub_int, neg_int, g_int, g_abs, ix_tup, ix_lst, at0, at1, at2, g_len_tup, g_len_lst, List.getElem?_cons_zero, List.getElem?_cons_succ, List.set_cons_zero, List.set_cons_succ, List.length_cons, List.length_nil, List.map_cons, List.map_nil, List.replicate_succ, List.replicate_zero, List.cons_append, List.nil_append, List.head?_cons, List.tail_cons, Option.join_some, Option.map_some, if_true, if_false, ite_true, ite_false, reduceIte, reduceCtorEq, BEq.rfl, Bool.false_eq_true, Bool.not_true, Bool.not_false, List.all_cons, List.all_nil, Bool.and_true, Bool.true_and, Bool.and_self, true_and, and_true, exists_eq_left, exists_eq_left', D.bl.injEq, D.int.injEq, D.str.injEq, D.tup.injEq, Out.rt.injEq, Nat.lt_add_left_iff_pos, Nat.zero_lt_succ, Nat.reduceAdd, Nat.reduceLT]
  exact q

end DL
namespace DL
open PySem PySem.Spec PyProof.Rows L2
/-! ### what is in a row of ints; where a text stands; the table of places -/
theorem inV_ints {n : Int} {bs : List Int} : L2.inV (.int n) ((bs.map D.int).map fv) = decide (n ∈ bs) := by
  unfold L2.inV
  induction bs with
  | nil => simp
  | cons b bs ih =>
    rw [List.map_cons, List.map_cons, List.any_cons, ih]
    by_cases hb : b = n
    · subst hb
      simp [fv, L2.eqV]
    · have : L2.eqV (fv (.int b)) (.int n) = false := by simp [fv, L2.eqV, hb]
      rw [this]
      simp [Ne.symm hb]
theorem in0_intsT {n : Int} {bs : List Int} : dIn0 (.int n) (.tup (bs.map D.int)) = some (decide (n ∈ bs)) := by
  have e : dIn0 (.int n) (.tup (bs.map D.int)) = some (L2.inV (fv (.int n)) ((bs.map D.int).map fv)) := by
    simp only [dIn0, dGet, seqD]
    rw [if_pos ⟨rfl, all_map _ fun _ => rfl⟩]
  rw [e]
  exact congrArg some inV_ints
theorem in_intsT {n : Int} {bs : List Int} : dIn (.int n) (.tup (bs.map D.int)) = some (.bl (decide (n ∈ bs))) := by unfold dIn; rw [in0_intsT]; rfl
theorem notin_intsT {n : Int} {bs : List Int} : dNotIn (.int n) (.tup (bs.map D.int)) = some (.bl (!decide (n ∈ bs))) := by unfold dNotIn; rw [in0_intsT]; rfl
theorem in_strsT {n : Str} {bs : List Str} : dIn (.str n) (.tup (bs.map D.str)) = some (.bl (decide (n ∈ bs))) := by
  have e : dIn0 (.str n) (.tup (bs.map D.str)) = some (L2.inV (fv (.str n)) ((bs.map D.str).map fv)) := by
    simp only [dIn0, dGet, seqD]
    rw [if_pos ⟨rfl, all_map _ fun _ => rfl⟩]
  have e2 : dIn0 (.str n) (.lst true (bs.map D.str)) = some (L2.inV (fv (.str n)) ((bs.map D.str).map fv)) := by
    simp only [dIn0, dGet, seqD]
    rw [if_pos ⟨rfl, all_map _ fun _ => rfl⟩]
  have z := in_strs (z := true) (n := n) (bs := bs)
  unfold dIn at z ⊢
  rw [e2] at z
  rw [e]
  exact z
/-- the place of a text that is there -/
theorem ixof_lt {l : List Str} {a : Str} (h : a ∈ l) : l.idxOf a < l.length := List.idxOf_lt_length_iff.mpr h
theorem index_strs {z : Bool} {l : List Str} {a : Str} (h : a ∈ l) : lIndex (.lst z (l.map D.str)) [.str a] = some (.int (l.idxOf a : Nat)) := by
  have e : ∀ l : List Str, a ∈ l → (((l.map D.str).map fv).findIdx? fun y => L2.eqV y (fv (.str a))) = some (l.idxOf a) := by
    intro l
    induction l with
    | nil => intro h; cases h
    | cons b l ih =>
      intro h
      rw [List.map_cons, List.map_cons, List.findIdx?_cons]
      by_cases hb : b = a
      · subst hb
        simp [fv, L2.eqV]
      · have h2 : L2.eqV (fv (.str b)) (fv (.str a)) = false := by simp [fv, L2.eqV, hb]
        have hm : a ∈ l := (List.mem_cons.mp h).resolve_left (Ne.symm hb)
        have hbe : (b == a) = false := beq_eq_false_iff_ne.mpr hb
        rw [h2, ih hm, List.idxOf_cons]
        simp [hbe]
  show (if flatD (.str a) = true ∧ (l.map D.str).all flatD = true then (((l.map D.str).map fv).findIdx? fun y => L2.eqV y (fv (.str a))).map fun j => D.int (j : Nat) else none) = _
  rw [if_pos ⟨rfl, all_map _ fun _ => rfl⟩, e l h]
  rfl
def placesFrom : Nat → List Str → List (Str × Int)
  | _, [] => []
  | k, a :: l => (a, (k : Int)) :: placesFrom (k + 1) l
theorem places_keys : ∀ (k : Nat) (l : List Str), (placesFrom k l).map (·.1) = l
  | _, [] => rfl
  | k, a :: l => by simp only [placesFrom, List.map_cons, places_keys (k + 1) l]
theorem places_len (k : Nat) (l : List Str) : (placesFrom k l).length = l.length := by
  have := congrArg List.length (places_keys k l)
  simpa using this
theorem places_snoc : ∀ (k : Nat) (l : List Str) (a : Str), placesFrom k (l ++ [a]) = placesFrom k l ++ [(a, ((k + l.length : Nat) : Int))]
  | k, [], a => by simp [placesFrom]
  | k, b :: l, a => by
    simp only [List.cons_append, placesFrom, places_snoc (k + 1) l a, List.length_cons]
    rw [show k + 1 + l.length = k + (l.length + 1) by omega]
theorem places_get : ∀ (k : Nat) (l : List Str) (a : Str), a ∈ l → aget (placesFrom k l) a = some ((k + l.idxOf a : Nat) : Int)
  | _, [], _, h => by cases h
  | k, b :: l, a, h => by
    unfold placesFrom aget
    by_cases e : b = a
    · subst e; simp
    · rw [if_neg e, places_get (k + 1) l a ((List.mem_cons.mp h).resolve_left (Ne.symm e)), List.idxOf_cons]
      have hbe : (b == a) = false := beq_eq_false_iff_ne.mpr e
      simp only [hbe, cond_false]
      congr 1
      omega
theorem places_w {l : List Str} {vs : List Nat} {c : Env} {Q : D × Env → Prop} {g : GSm} {kx vx : ESm} (hn : l.Nodup) (hz : l.length ≤ 1000000)
    (hs : ∀ i a, Ok (g (.tup [.int (i : Nat), .str a]) (wipeE c vs)) fun e1 => Ok (kx e1) fun k => Ok (vx k.2) fun v => k.1 = .str a ∧ v.1 = .int (i : Nat) ∧ wipeE v.2 vs = wipeE c vs)
    (q : Q (tbS D.int false (placesFrom 0 l), wipeE c vs)) : Ok (dcL vs g yesT kx vx (enumD (l.map D.str)) c (.dcK false [] [])) Q := by
  refine dc_ok (fun i e acc => wipeE e vs = wipeE c vs ∧ acc = tbS D.int false (placesFrom 0 (l.take i))) ⟨rfl, rfl⟩ ?_ ?_
  · rintro i d e acc hi ⟨he, rfl⟩
    obtain ⟨d', hd, rfl⟩ := enum_at hi
    obtain ⟨hil, rfl⟩ := at_mapE hd
    rw [he]
    refine ok_mono (hs i l[i]) fun e1 h1 => ?_
    rw [w_yesT]
    simp only [if_true]
    refine ok_mono h1 fun k h2 => ok_mono h2 fun v h3 => ?_
    obtain ⟨h4, h5, h6⟩ := h3
    rw [h4, h5]
    have hnew : aget (placesFrom 0 (l.take i)) l[i] = none := by
      rw [aget_none, places_keys]
      intro m
      obtain ⟨j, hj, e2⟩ := List.mem_iff_getElem.mp m
      rw [List.getElem_take] at e2
      rw [List.length_take] at hj
      have := (List.getElem_inj hn).mp e2
      omega
    refine ok_of (put_tbS (v := (i : Int)) rfl (by rw [places_len, List.length_take]; omega)) ⟨h6, ?_⟩
    unfold aput
    rw [hnew, take_at hil, places_snoc, List.length_take, Nat.min_eq_left (by omega), Nat.zero_add]
    rfl
  · rintro e acc ⟨he, rfl⟩
    rw [he, show (enumD (l.map D.str)).length = l.length by simp [enumD], List.take_length]
    exact q

end DL
namespace DL
open PySem PySem.Spec PyProof.Rows L2
/-! ### ties, rows of ties, lags -/
abbrev Tie := Str × Str × Int
inductive Path (T : List Tie) : Str → Str → Int → Prop where
  | one {a b : Str} {g : Int} : (a, b, g) ∈ T → Path T a b g
  | cons {a b c : Str} {g w : Int} : (a, b, g) ∈ T → Path T b c w → Path T a c (g + w)
theorem Path.app {T : List Tie} {a b c : Str} {v w : Int} (h : Path T a b v) (k : Path T b c w) : Path T a c (v + w) := by
  induction h with
  | one m => exact .cons m k
  | cons m _ ih => rw [Int.add_assoc]; exact .cons m (ih k)
/-- the lags of the ties -/
def IsLag (T : List Tie) (L : Str → Str → Option Int) : Prop := (∀ a c v, L a c = some v → Path T a c v) ∧ ∀ a c w, Path T a c w → ∃ v, L a c = some v ∧ w ≤ v
theorem IsLag.le {T : List Tie} {L L' : Str → Str → Option Int} (h : IsLag T L) (h' : IsLag T L') {a c : Str} {v : Int} (e : L a c = some v) : ∃ v', L' a c = some v' ∧ v ≤ v' := h'.2 a c v (h.1 a c v e)
theorem IsLag.eq {T : List Tie} {L L' : Str → Str → Option Int} (h : IsLag T L) (h' : IsLag T L') (a c : Str) : L a c = L' a c := by
  cases e : L a c with
  | none =>
    cases e' : L' a c with
    | none => rfl
    | some v' =>
      obtain ⟨v, e2, _⟩ := h'.le h e'
      rw [e] at e2; cases e2
  | some v =>
    obtain ⟨v', e2, l1⟩ := h.le h' e
    obtain ⟨v2, e3, l2⟩ := h'.le h e2
    rw [e] at e3; cases e3
    rw [e2, show v = v' by omega]
def cntOut (T : List Tie) (S : List Str) (n : Str) : Nat := T.countP fun t => decide (t.2.1 = n) && !decide (t.1 ∈ S)
def headsOf (T : List Tie) (c : Str) : List Str := (T.filter fun t => decide (t.1 = c)).map (·.2.1)
def linksOf (T : List Tie) (c : Str) : List (Str × Int) := (T.filter fun t => decide (t.1 = c)).map (·.2)
theorem cnt_step {T : List Tie} {S : List Str} {c n : Str} (h : c ∉ S) : cntOut T S n = cntOut T (S ++ [c]) n + (headsOf T c).count n := by
  unfold cntOut headsOf
  induction T with
  | nil => rfl
  | cons t T ih =>
    rw [List.countP_cons, List.countP_cons, ih, List.filter_cons]
    by_cases h1 : t.1 = c
    · subst h1
      by_cases h2 : t.2.1 = n
      · simp [h, h2]; omega
      · simp [h, h2]
    · by_cases h2 : t.2.1 = n
      · by_cases h3 : t.1 ∈ S
        · simp [h1, h2, h3]
        · simp [h1, h2, h3]; omega
      · simp [h1, h2]
/-- the walk of the names, so far: S are done, rest are the heads of the last one of S that are still to be counted -/
structure KI (names : List Str) (T : List Tie) (ah : List (Str × Int)) (walk S rest : List Str) : Prop where
  keys : ah.map (·.1) = names
  val : ∀ n ∈ names, aget ah n = some ((cntOut T S n + rest.count n : Nat) : Int)
  nd : walk.Nodup
  sub : ∀ n ∈ walk, n ∈ names
  zero : ∀ n ∈ names, cntOut T S n + rest.count n = 0 ↔ n ∈ walk
  topo : ∀ t ∈ T, ∀ (j : Nat) (hj : j < walk.length), walk[j] = t.2.1 → ∃ (i : Nat) (hi : i < walk.length), i < j ∧ walk[i] = t.1
  inW : ∀ x ∈ S, x ∈ walk
theorem KI.start {names : List Str} {T : List Tie} {ah : List (Str × Int)} {walk S : List Str} {c : Str} (h : KI names T ah walk S []) (hc : c ∉ S) (hw : c ∈ walk) : KI names T ah walk (S ++ [c]) (headsOf T c) where
  keys := h.keys
  val := fun n m => by rw [h.val n m, cnt_step hc]; simp
  nd := h.nd
  sub := h.sub
  zero := fun n m => by rw [← h.zero n m, cnt_step hc]; simp
  topo := h.topo
  inW := mem_snoc h.inW hw
theorem aset_get {α β : Type} [DecidableEq α] {l : List (α × β)} {k j : α} {v : β} (h : k ∈ l.map (·.1)) : aget (aset l k v) j = if k = j then some v else aget l j := by
  rw [aget_aset]
  by_cases e : k = j
  · subst e
    obtain ⟨b, hb⟩ := Option.isSome_iff_exists.mp (aget_some.mpr h)
    rw [if_pos rfl, if_pos rfl, hb]; rfl
  · rw [if_neg e, if_neg e]
theorem KI.step {names : List Str} {T : List Tie} {ah : List (Str × Int)} {walk S rest : List Str} {o : Str} (h : KI names T ah walk S (o :: rest)) (ho : o ∈ names) :
    ∃ m : Nat, aget ah o = some ((m : Int) + 1) ∧ KI names T (aset ah o (m : Int)) (if m = 0 then walk ++ [o] else walk) S rest := by
  refine ⟨cntOut T S o + rest.count o, by rw [h.val o ho, List.count_cons_self]; simp; omega, ?_⟩
  have hk : o ∈ ah.map (·.1) := by rw [h.keys]; exact ho
  have hne : o ∉ walk := fun m => by
    have := (h.zero o ho).mpr m
    rw [List.count_cons_self] at this; omega
  have val : ∀ n ∈ names, aget (aset ah o ((cntOut T S o + rest.count o : Nat) : Int)) n = some ((cntOut T S n + rest.count n : Nat) : Int) := fun n m => by
    rw [aset_get hk]
    by_cases e : o = n
    · subst e; rw [if_pos rfl]
    · rw [if_neg e, h.val n m, List.count_cons_of_ne e]
  have zero : ∀ n ∈ names, n ≠ o → (cntOut T S n + rest.count n = 0 ↔ n ∈ walk) := fun n m e => by
    rw [← h.zero n m, List.count_cons_of_ne (Ne.symm e)]
  by_cases h0 : cntOut T S o + rest.count o = 0
  · rw [if_pos h0]
    have c0 : cntOut T S o = 0 := by omega
    refine ⟨by rw [aset_keys]; exact h.keys, val, ?_, mem_snoc h.sub ho, fun n m => ?_, fun t mt j hj e => ?_, fun x m => List.mem_append_left _ (h.inW x m)⟩
    · rw [List.nodup_append]
      exact ⟨h.nd, by simp, fun a ha b hb => by rw [show b = o by simpa using hb]; exact fun e => hne (e ▸ ha)⟩
    · by_cases e : n = o
      · subst e; simp [h0]
      · rw [zero n m e]; simp [e]
    · by_cases hj' : j < walk.length
      · rw [List.getElem_append_left hj'] at e
        obtain ⟨i, hi, hij, e2⟩ := h.topo t mt j hj' e
        exact ⟨i, by rw [List.length_append]; omega, hij, by rw [List.getElem_append_left hi]; exact e2⟩
      · have hjl : j = walk.length := by rw [List.length_append] at hj; simp at hj; omega
        subst hjl
        rw [List.getElem_append_right (by omega)] at e
        have e : o = t.2.1 := by simpa using e
        have hS : t.1 ∈ S := by
          by_cases z : t.1 ∈ S
          · exact z
          · exfalso
            unfold cntOut at c0
            rw [List.countP_eq_zero] at c0
            exact c0 t mt (by simp [← e, z])
        obtain ⟨i, hi, e2⟩ := List.mem_iff_getElem.mp (h.inW _ hS)
        exact ⟨i, by rw [List.length_append]; omega, hi, by rw [List.getElem_append_left hi]; exact e2⟩
  · rw [if_neg h0]
    refine ⟨by rw [aset_keys]; exact h.keys, val, h.nd, h.sub, fun n m => ?_, h.topo, h.inW⟩
    by_cases e : n = o
    · subst e
      exact ⟨fun z => absurd z h0, fun z => absurd z hne⟩
    · exact zero n m e
/-- ties between the names, without a ring -/
structure TiesOk (names : List Str) (T : List Tie) : Prop where
  mem : ∀ t ∈ T, t.1 ∈ names ∧ t.2.1 ∈ names
  pos : ∀ t ∈ T, 0 ≤ t.2.2
  acyc : ∃ r : Str → Nat, ∀ t ∈ T, r t.1 < r t.2.1
theorem KI.all {names : List Str} {T : List Tie} {ah : List (Str × Int)} {walk : List Str} (hT : TiesOk names T) (h : KI names T ah walk walk []) : ∀ n ∈ names, n ∈ walk := by
  obtain ⟨r, hr⟩ := hT.acyc
  have key : ∀ (k : Nat) (n : Str), r n = k → n ∈ names → n ∈ walk := by
    intro k
    induction k using Nat.strongRecOn with
    | _ k ih =>
      intro n hk hn
      by_cases hw : n ∈ walk
      · exact hw
      · exfalso
        refine hw ((h.zero n hn).mp ?_)
        show cntOut T walk n + 0 = 0
        unfold cntOut
        rw [Nat.add_zero, List.countP_eq_zero]
        intro t mt z
        simp only [Bool.and_eq_true, decide_eq_true_eq, Bool.not_eq_true', decide_eq_false_iff_not] at z
        refine z.2 (ih (r t.1) ?_ t.1 rfl (hT.mem t mt).1)
        have := hr t mt
        rw [z.1, hk] at this
        exact this
  exact fun n m => key _ n rfl m
/-- all names, each tie's first one ahead of its second -/
structure Topo (names : List Str) (T : List Tie) (walk : List Str) : Prop where
  nd : walk.Nodup
  sub : ∀ n ∈ walk, n ∈ names
  all : ∀ n ∈ names, n ∈ walk
  topo : ∀ t ∈ T, ∀ (j : Nat) (hj : j < walk.length), walk[j] = t.2.1 → ∃ (i : Nat) (hi : i < walk.length), i < j ∧ walk[i] = t.1
theorem Topo.later {names : List Str} {T : List Tie} {walk : List Str} (h : Topo names T walk) (hT : TiesOk names T) {t : Tie} (mt : t ∈ T) {i : Nat} (hi : i < walk.length) (e : walk[i] = t.1) : t.2.1 ∈ walk.drop (i + 1) := by
  obtain ⟨j, hj, ej⟩ := List.mem_iff_getElem.mp (h.all _ (hT.mem t mt).2)
  obtain ⟨i', hi', hlt, e'⟩ := h.topo t mt j hj ej
  have : i' = i := (List.getElem_inj h.nd).mp (e'.trans e.symm)
  subst this
  refine List.mem_iff_getElem.mpr ⟨j - (i' + 1), by rw [List.length_drop]; omega, ?_⟩
  rw [List.getElem_drop]
  have : i' + 1 + (j - (i' + 1)) = j := by omega
  simp only [this]
  exact ej
/-! ### one name's lags -/
def upL (l : List (Str × Int)) (c : Str) (x : Int) : List (Str × Int) := aput l c (if x < (aget l c).getD 0 then (aget l c).getD 0 else x)
def LeL (l l' : List (Str × Int)) : Prop := ∀ c v, aget l c = some v → ∃ v', aget l' c = some v' ∧ v ≤ v'
theorem LeL.refl (l : List (Str × Int)) : LeL l l := fun c v e => ⟨v, e, Int.le_refl _⟩
theorem LeL.trans {a b c : List (Str × Int)} (h : LeL a b) (k : LeL b c) : LeL a c := fun x v e => by
  obtain ⟨v', e', l'⟩ := h x v e
  obtain ⟨v2, e2, l2⟩ := k x v' e'
  exact ⟨v2, e2, by omega⟩
theorem up_get {l : List (Str × Int)} {c j : Str} {x : Int} : aget (upL l c x) j = if c = j then some (if x < (aget l c).getD 0 then (aget l c).getD 0 else x) else aget l j := aget_aput
theorem up_le {l : List (Str × Int)} {c : Str} {x : Int} : LeL l (upL l c x) := fun j v e => by
  rw [up_get]
  by_cases h : c = j
  · subst h
    rw [if_pos rfl, e]
    refine ⟨_, rfl, ?_⟩
    show v ≤ if x < v then v else x
    split <;> omega
  · rw [if_neg h]; exact ⟨v, e, Int.le_refl _⟩
theorem up_has {l : List (Str × Int)} {c : Str} {x : Int} : ∃ v, aget (upL l c x) c = some v ∧ x ≤ v := by
  rw [up_get, if_pos rfl]
  refine ⟨_, rfl, ?_⟩
  split <;> omega
def SoundL (T : List Tie) (a : Str) (l : List (Str × Int)) : Prop := ∀ c v, aget l c = some v → Path T a c v
theorem up_sound {T : List Tie} {a c : Str} {l : List (Str × Int)} {x : Int} (h : SoundL T a l) (hp : Path T a c x) (h0 : 0 ≤ x) : SoundL T a (upL l c x) := fun j v e => by
  rw [up_get] at e
  by_cases hc : c = j
  · subst hc
    rw [if_pos rfl] at e
    cases g : aget l c with
    | none =>
      rw [g] at e
      simp only [Option.getD_none] at e
      rw [if_neg (by omega)] at e
      cases e; exact hp
    | some y =>
      rw [g] at e
      simp only [Option.getD_some] at e
      by_cases z : x < y
      · rw [if_pos z] at e; cases e; exact h c _ g
      · rw [if_neg z] at e; cases e; exact hp
  · rw [if_neg hc] at e; exact h j v e
def RowOk (T : List Tie) (a : Str) (l : List (Str × Int)) : Prop := SoundL T a l ∧ ∀ c w, Path T a c w → ∃ v, aget l c = some v ∧ w ≤ v
theorem path_pos {T : List Tie} (h : ∀ t ∈ T, 0 ≤ t.2.2) {a c : Str} {w : Int} (p : Path T a c w) : 0 ≤ w := by
  induction p with
  | one m => exact h _ m
  | cons m _ ih => have := h _ m; show 0 ≤ _; simp only at this; omega
/-- the links of a name are counted in -/
def CovL (T : List Tie) (done : List (Str × Int)) (l : List (Str × Int)) : Prop := ∀ p ∈ done, (∃ v, aget l p.1 = some v ∧ p.2 ≤ v) ∧ ∀ c w, Path T p.1 c w → ∃ v, aget l c = some v ∧ p.2 + w ≤ v
theorem CovL.mono {T : List Tie} {done l l' : List (Str × Int)} (h : CovL T done l) (k : LeL l l') : CovL T done l' := fun p m => by
  obtain ⟨⟨v, e, le⟩, h2⟩ := h p m
  refine ⟨?_, fun c w pw => ?_⟩
  · obtain ⟨v', e', le'⟩ := k _ v e
    exact ⟨v', e', by omega⟩
  · obtain ⟨v, e, le⟩ := h2 c w pw
    obtain ⟨v', e', le'⟩ := k _ v e
    exact ⟨v', e', by omega⟩
theorem links_mem {T : List Tie} {a : Str} {p : Str × Int} : p ∈ linksOf T a ↔ (a, p.1, p.2) ∈ T := by
  unfold linksOf
  rw [List.mem_map]
  constructor
  · rintro ⟨t, m, rfl⟩
    have m := List.mem_filter.mp m
    obtain ⟨t1, t2⟩ := t
    have e : t1 = a := of_decide_eq_true m.2
    rw [← e]; exact m.1
  · intro m
    exact ⟨(a, p), List.mem_filter.mpr ⟨m, by simp⟩, rfl⟩
theorem row_of {T : List Tie} {a : Str} {l : List (Str × Int)} (h1 : SoundL T a l) (h2 : CovL T (linksOf T a) l) : RowOk T a l := ⟨h1, fun c w p => by
  cases p with
  | one m => exact (h2 (c, w) (links_mem.mpr m)).1
  | @cons _ b _ g w' m p => exact (h2 (b, g) (links_mem.mpr m)).2 c w' p⟩

end DL
namespace DL
open PySem PySem.Spec PyProof.Rows L2
section
variable {β : Type} {vf : β → D} {z : Bool} {l : List (Str × β)} {a : Str} {v : β}
theorem get_tbS : dGet (tbS vf z l) (.str a) = some ((aget l a).map vf) := by
  show some (getZ (l.map fun p => kS p.1) (l.map fun p => vf p.2) (kS a)) = _
  rw [getZ_tab kS_i]
theorem get_tbP {l : List ((Str × Str) × β)} {b : Str} : dGet (tbP vf z l) (.tup [.str a, .str b]) = some ((aget l (a, b)).map vf) := by
  show some (getZ (l.map fun p => kP p.1) (l.map fun p => vf p.2) (kP (a, b))) = _
  rw [getZ_tab kP_i]
theorem items_tbS : itemD (l.map fun p => kS p.1) (l.map fun p => vf p.2) = l.map fun p => .tup [.str p.1, vf p.2] := by
  unfold itemD
  induction l with
  | nil => rfl
  | cons p l ih => simp only [List.map_cons, List.zipWith_cons_cons, ih]; rfl
theorem put_newS (h : aget l a = none) (hz : l.length < 16777216) : dPut (tbS vf false l) (.str a) (vf v) = some (tbS vf false (l ++ [(a, v)])) := by
  have e : getZ (l.map fun p => kS p.1) (l.map fun p => vf p.2) (kS a) = none := by rw [getZ_tab kS_i, h]; rfl
  unfold tbS tbK
  simp only [dPut]
  show (some (kS a)).bind _ = _
  rw [Option.bind_some, if_pos (show (l.map _).length < 16777216 by rw [List.length_map]; exact hz), e]
  simp
theorem put_newP {l : List ((Str × Str) × β)} {b : Str} (h : aget l (a, b) = none) (hz : l.length < 16777216) : dPut (tbP vf false l) (.tup [.str a, .str b]) (vf v) = some (tbP vf false (l ++ [((a, b), v)])) := by
  have e : getZ (l.map fun p => kP p.1) (l.map fun p => vf p.2) (kP (a, b)) = none := by rw [getZ_tab kP_i, h]; rfl
  unfold tbP tbT
  simp only [dPut]
  show (some (kP (a, b))).bind _ = _
  rw [Option.bind_some, if_pos (show (l.map _).length < 16777216 by rw [List.length_map]; exact hz), e]
  simp
/-- a table from a comprehension, its keys all new -/
theorem dc_fresh {α : Type} {vs : List Nat} {g : GSm} {kx vx : ESm} {c : Env} {Q : D × Env → Prop} (f : α → D) (key : α → Str) (val : α → β) {xs : List α} (hn : (xs.map key).Nodup) (hz : xs.length ≤ 1000000)
    (hs : ∀ x ∈ xs, Ok (g (f x) (wipeE c vs)) fun e1 => Ok (kx e1) fun k => Ok (vx k.2) fun v => k.1 = .str (key x) ∧ v.1 = vf (val x) ∧ wipeE v.2 vs = wipeE c vs)
    (q : Q (tbS vf false (xs.map fun x => (key x, val x)), wipeE c vs)) : Ok (dcL vs g yesT kx vx (xs.map f) c (.dcK false [] [])) Q := by
  refine dc_ok (fun i e acc => wipeE e vs = wipeE c vs ∧ acc = tbS vf false ((xs.take i).map fun x => (key x, val x))) ⟨rfl, rfl⟩ ?_ ?_
  · rintro i d e acc hi ⟨he, rfl⟩
    obtain ⟨hil, rfl⟩ := at_mapE hi
    rw [he]
    refine ok_mono (hs _ (List.getElem_mem hil)) fun e1 h1 => ?_
    rw [w_yesT]
    simp only [if_true]
    refine ok_mono h1 fun k h2 => ok_mono h2 fun v h3 => ?_
    obtain ⟨h4, h5, h6⟩ := h3
    rw [h4, h5]
    have hnew : aget ((xs.take i).map fun x => (key x, val x)) (key xs[i]) = none := by
      rw [aget_none, List.map_map]
      intro m
      have m : key xs[i] ∈ (xs.map key).take i := by
        rw [← List.map_take]
        exact m
      obtain ⟨j, hj, e2⟩ := List.mem_iff_getElem.mp m
      rw [List.getElem_take] at e2
      rw [List.length_take, List.length_map] at hj
      have e3 : (xs.map key)[j]'(by rw [List.length_map]; omega) = (xs.map key)[i]'(by rw [List.length_map]; omega) := by rw [e2, List.getElem_map]
      have := (List.getElem_inj hn).mp e3
      omega
    refine ok_of (put_newS hnew (by rw [List.length_map, List.length_take]; omega)) ⟨h6, ?_⟩
    rw [take_at hil, List.map_append]
    rfl
  · rintro e acc ⟨he, rfl⟩
    rw [he, List.length_map, List.take_length]
    exact q
/-- a place within a table -/
theorem posZ_tab : ∀ {l : List (Str × β)}, a ∈ l.map (·.1) → ∃ j, posZ (l.map fun p => kS p.1) (kS a) = some j ∧ ∃ h : j < l.length, l[j].1 = a ∧ aget l a = some l[j].2
  | [], h => by cases h
  | p :: l, h => by
    by_cases e : p.1 = a
    · refine ⟨0, ?_, by simp, e, ?_⟩
      · show posZ (kS p.1 :: _) _ = _
        unfold posZ; rw [if_pos (by rw [e])]
      · unfold aget; rw [if_pos e]; rfl
    · obtain ⟨j, h1, h2, h3, h4⟩ := posZ_tab (l := l) ((List.mem_cons.mp h).resolve_left (Ne.symm e))
      refine ⟨j + 1, ?_, by simp; exact h2, by simpa using h3, ?_⟩
      · show posZ (kS p.1 :: _) _ = _
        unfold posZ; rw [if_neg fun z => e (kS_i _ _ z), h1]; rfl
      · unfold aget; rw [if_neg e, h4]; simp
theorem aset_set {β : Type} {v : β} : ∀ {l : List (Str × β)} {j : Nat} (hn : (l.map (·.1)).Nodup) (h : j < l.length), aset l l[j].1 v = l.set j (l[j].1, v)
  | [], j, _, h => absurd h (Nat.not_lt_zero _)
  | p :: l, 0, hn, h => by
    have hn := List.nodup_cons.mp hn
    show (if p.1 = p.1 then (p.1, v) else p) :: aset l p.1 v = (p.1, v) :: l
    rw [if_pos rfl]
    congr 1
    unfold aset
    conv => rhs; rw [← List.map_id l]
    refine List.map_congr_left fun q m => ?_
    rw [if_neg fun e => hn.1 (by show p.1 ∈ _; rw [← e]; exact List.mem_map_of_mem m)]
    rfl
  | p :: l, j + 1, hn, h => by
    have hn := List.nodup_cons.mp hn
    have hj : j < l.length := by simpa using h
    show (if p.1 = l[j].1 then (p.1, v) else p) :: aset l l[j].1 v = p :: l.set j (l[j].1, v)
    rw [if_neg fun e => hn.1 (by show p.1 ∈ _; rw [e]; exact List.mem_map_of_mem (List.getElem_mem hj)), aset_set hn.2 hj]
theorem sub_tbS {put : D → Env} (hn : (l.map (·.1)).Nodup) (ha : a ∈ l.map (·.1)) : ∃ v, ∃ G : D → D, aget l a = some v ∧ subP (tbS vf false l) (.str a) put = some (vf v, fun d => put (G d)) ∧ ∀ v', G (vf v') = tbS vf false (aset l a v') := by
  obtain ⟨j, h1, h2, h3, h4⟩ := posZ_tab ha
  refine ⟨l[j].2, fun d => .dcK false (l.map fun p => kS p.1) ((l.map fun p => vf p.2).set j d), h4, ?_, fun v' => ?_⟩
  · show ((posZ (l.map fun p => kS p.1) (kS a)).bind fun j => ((l.map fun p => vf p.2)[j]?).map fun x => (x, fun d' => put (.dcK false (l.map fun p => kS p.1) ((l.map fun p => vf p.2).set j d')))) = _
    rw [h1, Option.bind_some, List.getElem?_map, List.getElem?_eq_getElem h2]
    rfl
  · have e := aset_set (v := v') hn h2
    rw [h3] at e
    unfold tbS tbK
    rw [e]
    have e1 : ((l.set j (a, v')).map fun p => kS p.1) = l.map fun p => kS p.1 := by
      rw [List.map_set]
      refine List.ext_getElem (by simp) fun n _ _ => ?_
      rw [List.getElem_set]
      split
      · rename_i hjn; subst hjn; rw [List.getElem_map, h3]
      · rfl
    rw [e1, List.map_set]
end
/-! ### sheets -/
structure Sheet where
  row : List Int
  rest : Int
  works : List (Str × Int × Int)
  ties : List (Str × Str × Int)
def workD (w : Str × Int × Int) : D := .tup [.str w.1, .int w.2.1, .int w.2.2]
def tieD (t : Str × Str × Int) : D := .tup [.str t.1, .str t.2.1, .int t.2.2]
def handsD (row : List Int) (rest : Int) : D := .tup [.tup (row.map D.int), .int rest]
def sheetD (S : Sheet) : D := .tup [handsD S.row S.rest, .tup (S.works.map workD), .tup (S.ties.map tieD)]
theorem sheet_imm (S : Sheet) : isImm (sheetD S) = true := rfl
theorem sheet_fz (S : Sheet) : fz (sheetD S) = sheetD S := rfl
def namesS (S : Sheet) : List Str := S.works.map (·.1)
theorem cnt_take {T : List Tie} {i : Nat} (hi : i < T.length) (n : Str) : cntOut (T.take (i + 1)) [] n = cntOut (T.take i) [] n + if T[i].2.1 = n then 1 else 0 := by
  rw [take_at hi]
  unfold cntOut
  rw [List.countP_append]
  congr 1
  by_cases h : T[i].2.1 = n <;> simp [h]
theorem heads_take {T : List Tie} {i : Nat} (hi : i < T.length) (n : Str) : headsOf (T.take (i + 1)) n = headsOf (T.take i) n ++ if T[i].1 = n then [T[i].2.1] else [] := by
  rw [take_at hi]
  unfold headsOf
  rw [List.filter_append, List.map_append]
  congr 1
  by_cases h : T[i].1 = n <;> simp [h]
theorem links_take {T : List Tie} {i : Nat} (hi : i < T.length) (n : Str) : linksOf (T.take (i + 1)) n = linksOf (T.take i) n ++ if T[i].1 = n then [T[i].2] else [] := by
  rw [take_at hi]
  unfold linksOf
  rw [List.filter_append, List.map_append]
  congr 1
  by_cases h : T[i].1 = n <;> simp [h]
theorem aput_there {α β : Type} [DecidableEq α] {l : List (α × β)} {k : α} {v : β} (h : k ∈ l.map (·.1)) : aput l k v = aset l k v := by
  unfold aput
  rw [if_pos (aget_some.mpr h)]
theorem aget_const {α β : Type} [DecidableEq α] {v : β} {n : α} : ∀ {l : List α}, n ∈ l → aget (l.map fun x => (x, v)) n = some v
  | [], h => by cases h
  | x :: l, h => by
    show (if x = n then some v else aget (l.map fun x => (x, v)) n) = _
    by_cases e : x = n
    · rw [if_pos e]
    · rw [if_neg e]; exact aget_const ((List.mem_cons.mp h).resolve_left (Ne.symm e))
theorem heads_mem {T : List Tie} {c o : Str} (h : o ∈ headsOf T c) : ∃ t ∈ T, t.1 = c ∧ t.2.1 = o := by
  obtain ⟨t, m, e⟩ := List.mem_map.mp h
  have m := List.mem_filter.mp m
  exact ⟨t, m.1, of_decide_eq_true m.2, e⟩
def LF (l : List Str) : D := .lst false (l.map D.str)
def LT (l : List Str) : D := .lst true (l.map D.str)
theorem fz_links {lk : List (Str × List Str)} : fz (tbS LF false lk) = tbS LT true lk := by
  unfold tbS tbK
  rw [fz_dcK]
  congr 1
  induction lk with
  | nil => rfl
  | cons p l ih =>
    show fz (LF p.2) :: fzs _ = _
    rw [ih]
    show D.lst true (fzs (p.2.map D.str)) :: _ = _
    rw [fzs_map p.2 fun _ => fz_str]
    rfl
theorem mapk {α β γ : Type} {l : List α} {f : α → β} {g : α → γ} : (l.map fun x => (f x, g x)).map (·.1) = l.map f := by rw [List.map_map]; rfl
/-! ### of k28 -/
theorem cut_ok {s : Str} {lo hi : Option Int} (h : PyData.strOk s = true) : PyData.strOk (cutS s lo hi) = true := by
  unfold PyData.strOk at *
  unfold cutS
  rw [← Array.all_toList, List.all_eq_true] at *
  intro c m
  exact h c (List.mem_of_mem_drop (List.mem_of_mem_take m))
theorem cut_le {s : Str} {n : Nat} : (cutS s none (some (n : Int))).length ≤ n := by
  show (cutS s none (some (n : Int))).cps.size ≤ n
  unfold cutS
  rw [List.size_toArray, List.length_take]
  have e1 : HT.sIx s.length 0 none = 0 := rfl
  have e2 : HT.sIx s.length s.length (some (n : Int)) = min n s.length := HT.sIx_nat ..
  rw [e1, e2]
  omega
theorem nodup_sub_len {α : Type} [DecidableEq α] : ∀ {l1 l2 : List α}, l1.Nodup → (∀ a ∈ l1, a ∈ l2) → l1.length ≤ l2.length
  | [], _, _, _ => Nat.zero_le _
  | a :: l1, l2, h, hs => by
    have ha := hs a List.mem_cons_self
    have h := List.nodup_cons.mp h
    have z := nodup_sub_len (l1 := l1) (l2 := l2.erase a) h.2 fun b m => by
      rw [List.mem_erase_of_ne (fun e => h.1 (by rw [← e]; exact m))]
      exact hs b (List.mem_cons_of_mem _ m)
    rw [List.length_erase_of_mem ha] at z
    have : 0 < l2.length := List.length_pos_of_mem ha
    simp only [List.length_cons]
    omega
def unS : D → Str
  | .str s => s
  | _ => "" 
theorem sorted_strsP (l : List Str) (h : l.length ≤ 16777216) : ∃ l' : List Str, l'.Perm l ∧ ∀ z, gSorted [.lst z (l.map D.str)] = some (.lst false (l'.map D.str)) := by
  have h1 : ((l.map D.str).all isImm = true ∧ nodics (l.map D.str) = true) ∧ alikeB (l.map D.str) = true ∧ ((l.map D.str).all tupNe = true ∨ (l.map D.str).all notTup = true) ∧ (l.map D.str).length ≤ szL ∧ ((l.map D.str).all fun z => decide ((py z).depth ≤ 20)) = true :=
    ⟨⟨all_map _ fun _ => rfl, nodics_all fun d m => by obtain ⟨a, _, rfl⟩ := List.mem_map.mp m; simp [nodic]⟩, alike_strs l, .inr (all_map _ fun _ => rfl), by rw [List.length_map]; exact h, all_map _ fun a => by simp [py, PyData.depth]⟩
  have hp : ((l.map D.str).mergeSort leD).Perm (l.map D.str) := List.mergeSort_perm _ _
  have e : ∀ k : List Str, (k.map D.str).map unS = k := fun k => by rw [List.map_map]; exact List.map_id _
  have e2 : ((l.map D.str).mergeSort leD) = (((l.map D.str).mergeSort leD).map unS).map D.str := by
    rw [List.map_map]
    conv => lhs; rw [← List.map_id ((l.map D.str).mergeSort leD)]
    refine List.map_congr_left fun d m => ?_
    obtain ⟨s, _, rfl⟩ := List.mem_map.mp (List.mem_mergeSort.mp m)
    rfl
  refine ⟨((l.map D.str).mergeSort leD).map unS, ?_, fun z => ?_⟩
  · have := hp.map unS
    rwa [e] at this
  · rw [← e2]
    show (if _ then some (D.lst false ((l.map D.str).mergeSort leD)) else none) = _
    rw [if_pos h1]
theorem pick_strs {l : List Str} {z : Bool} {r : Int} (h0 : 0 ≤ r) (h1 : r < l.length) : ∃ s ∈ l, dIxI (.lst z (l.map D.str)) (.int r) = some (.str s) := by
  obtain ⟨n, rfl⟩ := Int.eq_ofNat_of_zero_le h0
  have hn : n < l.length := by omega
  refine ⟨l[n], List.getElem_mem hn, ?_⟩
  unfold dIxI
  rw [ix_lst, at_map hn]
  rfl
theorem sl_str {s : Str} {lo hi : Option Int} (h : s.length ≤ 16777216) : dSl (.str s) lo hi = some (.str (cutS s lo hi)) := by
  show (if s.length ≤ szL then _ else _) = _
  rw [if_pos h]
/-- the text q100 .. -/
def qn (n : Nat) : Str := ("q" : Str) ++ ((toString (n : Int) : String) : Str)
def numS (s : Str) : Nat := (s.cps.toList.drop 1).foldl (fun a c => a * 10 + (c - 48)) 0
theorem qn_facts : ((List.range 2400).all fun n => decide (numS (qn n) = n) && PyData.strOk (qn n) && decide ((qn n).length ≤ 5) && decide (((toString (n : Int) : String) : Str).length ≤ 4)) = true := by decide +kernel
theorem qn_fact {n : Nat} (h : n < 2400) : numS (qn n) = n ∧ PyData.strOk (qn n) = true ∧ (qn n).length ≤ 5 ∧ ((toString (n : Int) : String) : Str).length ≤ 4 := by
  have := List.all_eq_true.mp qn_facts n (List.mem_range.mpr h)
  simp only [Bool.and_eq_true, decide_eq_true_eq] at this
  exact ⟨this.1.1.1, this.1.1.2, this.1.2, this.2⟩
theorem g_str {n : Nat} (h : n < 2400) : gStr [.int (n : Nat)] = some (.str ((toString (n : Int) : String) : Str)) := by
  show (if (n : Int).natAbs.log2 < 1920 then _ else _) = _
  rw [if_pos]
  show n.log2 < 1920
  have := Nat.log2_le_self n
  by_cases h0 : n = 0
  · subst h0; decide
  have : n.log2 < 12 := (Nat.log2_lt h0).mpr (by omega)
  omega
theorem abc_ix {r : Int} (h0 : 0 ≤ r) (h1 : r < 26) : ∃ c, c < 0x110000 ∧ dIxI (.str "abcdefghijklmnopqrstuvwxyz") (.int r) = some (.str ⟨#[c]⟩) := by
  have hl : ("abcdefghijklmnopqrstuvwxyz" : Str).length = 26 := by decide +kernel
  obtain ⟨c, h2, h3⟩ := ix_strO (s := "abcdefghijklmnopqrstuvwxyz") (r := r) (by decide +kernel) h0 (by rw [hl]; exact h1) (by rw [hl]; decide)
  exact ⟨c, h2, ixi_of h3 rfl⟩
theorem er_map {α β : Type} (f : α → β) : ∀ (l : List α) (i : Nat), (l.map f).eraseIdx i = (l.eraseIdx i).map f
  | [], _ => rfl
  | a :: l, 0 => rfl
  | a :: l, i + 1 => by simp [er_map f l i]
theorem pop_nat {l : List Str} {i : Nat} (h : i < l.length) (hz : i < 1000000) : mPop (.lst false (l.map D.str)) [.int (i : Nat)] = some (.str l[i], .lst false ((l.eraseIdx i).map D.str)) := by
  have e : seqIndex? (i : Int) (l.map D.str).length = some i := by
    unfold seqIndex?
    rw [List.length_map]
    simp
    omega
  show (if -9223372036854775808 ≤ (i : Int) ∧ (i : Int) < 9223372036854775808 then (seqIndex? (i : Int) (l.map D.str).length).bind fun k => ((l.map D.str)[k]?).map fun d => (d, D.lst false ((l.map D.str).eraseIdx k)) else none) = _
  rw [if_pos ⟨by omega, by omega⟩, e, Option.bind_some, List.getElem?_map, List.getElem?_eq_getElem h]
  simp [er_map]
theorem min_str (a b : Str) : ∃ c, gMin [.str a, .str b] = some (.str c) ∧ (c = a ∨ c = b) := ⟨_, rfl, by split <;> simp⟩
theorem max_str (a b : Str) : ∃ c, gMax [.str a, .str b] = some (.str c) ∧ (c = a ∨ c = b) := ⟨_, rfl, by split <;> simp⟩
theorem mu_rep {x : Int} {k : Nat} (h : k ≤ 1000000) : dMu (.lst false [.int x]) (.int (k : Nat)) = some (.lst false ((List.replicate k x).map D.int)) := by
  have e : (List.replicate k [D.int x]).flatten = (List.replicate k x).map D.int := by
    induction k with
    | zero => rfl
    | succ k ih => rw [List.replicate_succ, List.flatten_cons, ih (by omega), List.replicate_succ]; rfl
  show (if (-9223372036854775808 ≤ (k : Int) ∧ (k : Int) < 9223372036854775808) ∧ [D.int x].length * (k : Int).toNat ≤ szL ∧ [D.int x].all isImm = true then some (D.lst false (List.replicate (k : Int).toNat [D.int x]).flatten) else none) = _
  rw [if_pos ⟨⟨by omega, by omega⟩, by show 1 * (k : Int).toNat ≤ 16777216; omega, rfl⟩, Int.toNat_natCast, e]
theorem snoc_cases (l : List Int) : l = [] ∨ ∃ m x, l = m ++ [x] := snoc_ind (P := fun l => l = [] ∨ ∃ m x, l = m ++ [x]) (.inl rfl) (fun m x _ => .inr ⟨m, x, rfl⟩) l
theorem emod_nat {x m : Int} (h : 0 < m) : ∃ k : Nat, x % m = k ∧ (k : Int) < m := by
  obtain ⟨k, hk⟩ := Int.eq_ofNat_of_zero_le (Int.emod_nonneg x (by omega : m ≠ 0))
  exact ⟨k, hk, by have := Int.emod_lt_of_pos x h; omega⟩
theorem sum_tup {l : List Int} : gSum [.tup (l.map D.int)] = some (.int l.sum) := by
  show (intsD (l.map D.int)).map _ = _
  rw [intsD_map]; rfl
theorem sl_tup {ds : List D} {lo hi : Option Int} : dSl (.tup ds) lo hi = some (.tup (cutD ds lo hi)) := rfl
theorem add_tup {a b : List D} (h : a.length + b.length ≤ 16777216) : dAdd (.tup a) (.tup b) = some (.tup (a ++ b)) := by
  show (if a.length + b.length ≤ szL then _ else _) = _
  rw [if_pos h]
theorem sl_lst {z : Bool} {ds : List D} {lo hi : Option Int} (h : ds.all isImm = true) : dSl (.lst z ds) lo hi = some (.lst false (cutD ds lo hi)) := by
  show (if ds.all isImm = true then _ else _) = _
  rw [if_pos h]

end DL
namespace DL
open PySem PySem.Spec PyProof.Rows L2
/-! ### exceptions, forward -/
section
variable {env : Env} {d : D} {i : Nat}
theorem w_pCh {g g' : D → D → Option D} {fa fb fc : PSm} {Q : D → Prop} : Ok (pCh g g' fa fb fc env) Q = Ok (fa env) fun x => Ok (fb env) fun y => Ok (g x y) fun r => ∃ b, r = .bl b ∧ (if b = true then Ok (fc env) fun z => Ok (g' y z) Q else Q (.bl false)) := by
  unfold pCh
  rw [ok_bind]; refine ok_cg fun x => ?_; rw [ok_bind]; refine ok_cg fun y => ?_; rw [ok_bind]; refine ok_cg fun r => ?_
  cases r with
  | bl b =>
    cases b with
    | true => simp only [ok_bind]; simp
    | false => simp only [ok_some]; simp
  | _ => exact propext ⟨fun ⟨_, e, _⟩ => (nomatch e), fun ⟨_, e, _⟩ => (nomatch e)⟩
theorem w_pChT {g g' : D → D → Option D} {fa fb fc : PSm} {Q : Bool → Prop} : Ok (pChT g g' fa fb fc env) Q = Ok (pCh g g' fa fb fc env) fun d => ∃ b, d = .bl b ∧ Q b := by
  unfold pChT
  refine propext ⟨fun ⟨b, e, q⟩ => ?_, fun ⟨d, e, b, h, q⟩ => ?_⟩
  · split at e
    · rename_i c h
      cases e
      exact ⟨_, h, _, rfl, q⟩
    · cases e
  · subst h
    exact ⟨b, by rw [e], q⟩
theorem w_ePick {m : Int → List Int → Int} {f : ESm} {g : PSm} {Q : D × Env → Prop} : Ok (ePick m f g env) Q = Ok (f env) fun d => Ok (g d.2) fun z => isImm z = true ∧ Ok (pickL d.1) fun ns => Q (pickD m z ns, d.2) := by
  unfold ePick
  rw [ok_bind]; refine ok_cg fun x => ?_; rw [ok_bind]; refine ok_cg fun z => ?_
  by_cases h : isImm z = true
  · rw [if_pos h, ok_map]; simp [h]
  · rw [if_neg h]; exact propext ⟨fun ⟨_, e, _⟩ => (nomatch e), fun q => absurd q.1 h⟩
theorem w_sRaise {x : Str} {ns : List Str} {f : ASm} {Q : Out × Env → Prop} : Ok (sRaise x ns f env) Q = Ok (f env) fun r => (r.1.all isImm = true ∧ r.1.length = ns.length) ∧ Q (.xc x ns.reverse r.1.reverse, r.2) := by
  unfold sRaise
  rw [ok_bind]; refine ok_cg fun r => ?_
  by_cases h : r.1.all isImm = true ∧ r.1.length = ns.length
  · rw [if_pos h, ok_some]; exact propext ⟨fun q => ⟨h, q⟩, fun q => q.2⟩
  · rw [if_neg h]; exact propext ⟨fun ⟨_, e, _⟩ => (nomatch e), fun q => absurd q.1 h⟩
theorem w_xOf {f : ESm} {Q : Out × Env → Prop} : Ok (xOf f env) Q = Ok (f env) fun r => Q (.rt r.1, r.2) := ok_map
theorem w_xIte {c : TSm} {f g : EXm} {Q : Out × Env → Prop} : Ok (xIte c f g env) Q = Ok (c env) fun b => if b.1 = true then Ok (f b.2) Q else Ok (g b.2) Q := by unfold xIte; rw [ok_bind]; refine ok_cg fun b => ?_; split <;> rfl
theorem w_xDef {F : FXm} {c : CSm} {Q : Out × Env → Prop} : Ok (xDef F c env) Q = Ok (c env) fun a => Ok (takeB a.1 a.2) fun t => Ok (F t.1) fun r => Q (r.1, giveB a.1 t.1 r.2 t.2) := by
  unfold xDef; rw [ok_bind]; refine ok_cg fun a => ?_; rw [ok_bind]; refine ok_cg fun t => ?_; rw [ok_map]
theorem w_sRetX {f : EXm} {Q : Out × Env → Prop} : Ok (sRetX f env) Q = Ok (f env) fun r => match r.1 with | .rt d => Q (.rt d, r.2) | .xc x ns es => Q (.xc x ns es, r.2) | _ => False := by
  unfold sRetX; rw [ok_bind]; refine ok_cg fun r => ?_
  obtain ⟨o, e⟩ := r
  cases o <;> first | exact ok_some | exact propext ⟨fun ⟨_, e, _⟩ => (nomatch e), fun q => q.elim⟩
theorem w_sExprX {f : EXm} {Q : Out × Env → Prop} : Ok (sExprX f env) Q = Ok (f env) fun r => match r.1 with | .rt _ => Q (.nx, r.2) | .xc x ns es => Q (.xc x ns es, r.2) | _ => False := by
  unfold sExprX; rw [ok_bind]; refine ok_cg fun r => ?_
  obtain ⟨o, e⟩ := r
  cases o <;> first | exact ok_some | exact propext ⟨fun ⟨_, e, _⟩ => (nomatch e), fun q => q.elim⟩
theorem w_sAsgX {f : EXm} {g : GSm} {Q : Out × Env → Prop} : Ok (sAsgX f g env) Q = Ok (f env) fun r => match r.1 with | .rt d => Ok (g d r.2) fun e => Q (.nx, e) | .xc x ns es => Q (.xc x ns es, r.2) | _ => False := by
  unfold sAsgX; rw [ok_bind]; refine ok_cg fun r => ?_
  obtain ⟨o, e⟩ := r
  cases o <;> first | exact ok_map | exact ok_some | exact propext ⟨fun ⟨_, e, _⟩ => (nomatch e), fun q => q.elim⟩
theorem w_noX {F : FXm} {ds : List D} {Q : D × List (Option D) → Prop} : Ok (noX F ds) Q = Ok (F ds) fun r => match r.1 with | .rt d => Q (d, r.2) | _ => False := by
  unfold noX; rw [ok_bind]; refine ok_cg fun r => ?_
  obtain ⟨o, e⟩ := r
  cases o <;> first | exact ok_some | exact propext ⟨fun ⟨_, e, _⟩ => (nomatch e), fun q => q.elim⟩
theorem fnX_ok {P : Nat → Bool} {n m : Nat} {body : SSm} {ds : List D} {Q : Out × List (Option D) → Prop} (hl : ds.length = n) (h : Ok (body (ds.map some ++ List.replicate m none)) fun r => match r.1 with | .rt d => Q (.rt d, outsOf P n r.2) | .nx => Q (.rt .non, outsOf P n r.2) | .xc x ns es => Q (.xc x ns es, outsOf P n r.2) | _ => False) : Ok (fnX P n m body ds) Q := by
  obtain ⟨⟨o, e⟩, h1, h2⟩ := h
  unfold fnX
  rw [if_pos hl, h1]
  cases o with
  | rt d => exact ⟨_, rfl, h2⟩
  | nx => exact ⟨_, rfl, h2⟩
  | xc x ns es => exact ⟨_, rfl, h2⟩
  | _ => exact h2.elim
def TryQ (i : Nat) (yes no : List Str) (suite : Addr → Addr → Str → SSm) (Q : Out × Env → Prop) (r : Out × Env) : Prop := match r.1 with
  | .xc x ns es => (x ∈ yes ∧ i < r.2.length ∧ ∃ r', Q r' ∧ ∀ a d, Ok (suite a d x (r.2.set i (some (.exo a d x ns es)))) fun z => outNX i z = some r') ∨ (x ∉ yes ∧ x ∈ no ∧ Q (.xc x ns es, r.2))
  | o => Q (o, r.2)
variable {yes no : List Str} {suite : Addr → Addr → Str → SSm} {Q : Out × Env → Prop} {x : Str} {ns : List Str} {es : List D}
theorem tq_nx : TryQ i yes no suite Q (.nx, env) = Q (.nx, env) := rfl
theorem tq_bk : TryQ i yes no suite Q (.bk, env) = Q (.bk, env) := rfl
theorem tq_ct : TryQ i yes no suite Q (.ct, env) = Q (.ct, env) := rfl
theorem tq_rt : TryQ i yes no suite Q (.rt d, env) = Q (.rt d, env) := rfl
theorem tq_yes (hy : x ∈ yes) (hi : i < env.length) {r' : Out × Env} (hq : Q r') (h : ∀ a d, Ok (suite a d x (env.set i (some (.exo a d x ns es)))) fun z => outNX i z = some r') : TryQ i yes no suite Q (.xc x ns es, env) := .inl ⟨hy, hi, r', hq, h⟩
theorem try_ok {body : SSm} (h : Ok (body env) (TryQ i yes no suite Q)) : Ok (sTryAs i yes no body suite env) Q := by
  obtain ⟨⟨o, e⟩, h1, h2⟩ := h
  unfold sTryAs
  rw [h1, Option.bind_some]
  cases o with
  | nx => exact ⟨_, rfl, h2⟩
  | bk => exact ⟨_, rfl, h2⟩
  | ct => exact ⟨_, rfl, h2⟩
  | rt d => exact ⟨_, rfl, h2⟩
  | xc x ns es =>
    rcases h2 with ⟨hy, hi, r', hq, hs⟩ | ⟨hy, hn, hq⟩
    · refine ⟨r', ?_, hq⟩
      show (if x ∈ yes then _ else _) = _
      rw [if_pos hy, if_pos hi]
      refine allA_ok fun a d => ?_
      obtain ⟨z, e1, e2⟩ := hs a d
      rw [e1]
      exact e2
    · refine ⟨_, ?_, hq⟩
      show (if x ∈ yes then _ else _) = _
      rw [if_neg hy, if_pos hn]
def isxV (a d : Addr) (y : Str) (yes no : List Str) (v : D) : Option D := match v with
  | .exo a' d' x _ _ => if a' = a ∧ d' = d ∧ x = y then isTab y yes no else none
  | _ => none
theorem w_pIsX {a dd : Addr} {y : Str} {f : PSm} {Q : D → Prop} : Ok (pIsX a dd y yes no f env) Q = Ok (f env) fun v => Ok (isxV a dd y yes no v) Q := ok_bind
theorem isx_exo {a dd : Addr} {y : Str} : isxV a dd y yes no (.exo a dd y ns es) = isTab y yes no := by
  show (if a = a ∧ dd = dd ∧ y = y then isTab y yes no else none) = _
  rw [if_pos ⟨rfl, rfl, rfl⟩]
theorem tab_t {y : Str} (h : y ∈ yes) : isTab y yes no = some (.bl true) := by unfold isTab; rw [if_pos h]
theorem tab_f {y : Str} (h : y ∉ yes) (h' : y ∈ no) : isTab y yes no = some (.bl false) := by unfold isTab; rw [if_neg h, if_pos h']
def fldV (a d : Addr) (y n : Str) (v : D) : Option D := match v with
  | .exo a' d' x ns ds => if a' = a ∧ d' = d ∧ x = y then (ns.zip ds).lookup n else none
  | _ => none
theorem w_pFld {a dd : Addr} {y n : Str} {f : PSm} {Q : D → Prop} : Ok (pFld a dd y n f env) Q = Ok (f env) fun v => Ok (fldV a dd y n v) Q := ok_bind
theorem fld_exo {a dd : Addr} {y n : Str} : fldV a dd y n (.exo a dd y ns es) = (ns.zip es).lookup n := by
  show (if a = a ∧ dd = dd ∧ y = y then _ else none) = _
  rw [if_pos ⟨rfl, rfl, rfl⟩]
theorem im_exo {a dd : Addr} : isImm (.exo a dd x ns es) = true := rfl
end
/-! ### tables with whole numbers for keys -/
section
variable {β : Type} {vf : β → D} {z : Bool} {l : List (Int × β)} {a : Int} {v : β}
def kN (i : Int) : L2.Key := .inl i
theorem kN_i (a b : Int) (h : kN a = kN b) : a = b := by cases h; rfl
abbrev tbI (vf : β → D) (z : Bool) (l : List (Int × β)) : D := tbK kN vf z l
theorem put_tbI (hv : isImm (vf v) = true) (hz : l.length < 16777216) : dPut (tbI vf false l) (.int a) (vf v) = some (tbI vf false (aput l a v)) := putK (kd := D.int) kN_i rfl hv hz
theorem get_tbI : dGet (tbI vf z l) (.int a) = some ((aget l a).map vf) := by
  show some (getZ (l.map fun p => kN p.1) (l.map fun p => vf p.2) (kN a)) = _
  rw [getZ_tab kN_i]
theorem ix_tbI : dIx (tbI vf z l) (.int a) = (aget l a).map vf := by
  unfold tbI tbK
  simp only [dIx, dGet, kD, Option.map_some]
  exact getZ_tab kN_i
theorem keysI_tab : ∀ {l : List (Int × β)}, keysI (l.map fun p => kN p.1) = some (l.map (·.1))
  | [] => rfl
  | p :: l => by
    have := keysI_tab (l := l)
    show (keysI (l.map fun p => kN p.1)).map _ = _
    rw [this]; rfl
theorem sorted_tbI (h : l.length < 64) : gSortedK [tbI vf z l] = some (.lst false ((sortI (l.map (·.1))).map D.int)) := by
  show gSortedK [D.dcK z (l.map fun p => kN p.1) (l.map fun p => vf p.2)] = _
  show (keysI (l.map fun p => kN p.1)).bind _ = _
  rw [keysI_tab, Option.bind_some, if_pos (by rw [List.length_map]; exact h)]
theorem items_tbI : itemD (l.map fun p => kN p.1) (l.map fun p => vf p.2) = l.map fun p => .tup [.int p.1, vf p.2] := by
  induction l with
  | nil => rfl
  | cons p l ih =>
    rw [List.map_cons, List.map_cons, List.map_cons, ← ih]
    rfl
theorem nil_tbI : D.dcK false [] [] = tbI vf false [] := rfl
end

end DL
namespace DL
open PySem PySem.Spec PyProof.Rows L2
/-! ### straight on: one simp goes through a row of statements -/
section
variable {env : Env} {o : Option D} {d : D} {i j : Nat} {f g k : SSm} {Q : Out × Env → Prop}
def ctQ (g : SSm) (Q : Out × Env → Prop) (r : Out × Env) : Prop := match r.1 with
  | .nx => Ok (g r.2) Q
  | o => Q (o, r.2)
theorem ct_nx {e : Env} : ctQ g Q (.nx, e) = Ok (g e) Q := rfl
theorem ct_rt {e : Env} : ctQ g Q (.rt d, e) = Q (.rt d, e) := rfl
theorem ct_ct {e : Env} : ctQ g Q (.ct, e) = Q (.ct, e) := rfl
theorem ct_bk {e : Env} : ctQ g Q (.bk, e) = Q (.bk, e) := rfl
theorem ct_xc {e : Env} {x : Str} {ns : List Str} {ds : List D} : ctQ g Q (.xc x ns ds, e) = Q (.xc x ns ds, e) := rfl
theorem sq_gen : Ok (sSeq f g env) Q = Ok (f env) (ctQ g Q) := by
  unfold sSeq
  rw [ok_bind]
  refine ok_cg fun ⟨o, e⟩ => ?_
  cases o <;> first | rfl | exact ok_some
theorem sq_nil : Ok (sSeq sNil k (o :: env)) Q = Ok (k (o :: env)) Q := by rw [sq_gen, w_sNil, ct_nx]
theorem sq_asg {a : ESm} {t : GSm} : Ok (sSeq (sAsg a t) k (o :: env)) Q = Ok (a (o :: env)) fun r => Ok (t r.1 r.2) fun e => Ok (k e) Q := by rw [sq_gen, w_sAsg]; rfl
theorem sq_expr {a : ESm} : Ok (sSeq (sExpr a) k (o :: env)) Q = Ok (a (o :: env)) fun r => Ok (k r.2) Q := by rw [sq_gen, w_sExpr]; rfl
theorem sq_fz : Ok (sSeq (sFz i f) k (o :: env)) Q = Ok ((o :: env)[i]?).join fun d => Ok (sSeq f k ((o :: env).set i (some (fz d)))) Q := by
  rw [sq_gen, w_sFz]
  refine ok_cg fun d => ?_
  rw [sq_gen]
theorem sq_aug {h : Int → Int → Int} {a : ESm} : Ok (sSeq (sAug i h a) k (o :: env)) Q = Ok (a (o :: env)) fun r => Ok ((o :: env)[i]?).join fun d => ∃ x y, d = .int x ∧ r.1 = .int y ∧ i < r.2.length ∧ Ok (k (r.2.set i (some (.int (h x y))))) Q := by rw [sq_gen, w_sAug]; rfl
theorem sq_augD {p : PlSm} {idx a : PSm} {h : Int → Int → Int} : Ok (sSeq (sAugD p idx h a) k (o :: env)) Q = Ok (p (o :: env)) fun q => Ok (idx (o :: env)) fun y => ∃ x, dGet q.1 y = some (some (.int x)) ∧ Ok (a (o :: env)) fun r => ∃ b, r = .int b ∧ Ok (dPut q.1 y (.int (h x b))) fun d => Ok (k (q.2 d)) Q := by rw [sq_gen, w_sAugD]; rfl
theorem sq_par {a b : ESm} : Ok (sSeq (sPar i j (aConsE a (aConsE b aNilE))) k (o :: env)) Q = Ok (a (o :: env)) fun x => Ok (b x.2) fun y => i < y.2.length ∧ j < y.2.length ∧ Ok (k ((y.2.set i (some x.1)).set j (some y.1))) Q := by rw [sq_gen, w_sPar]; rfl
theorem sq_ret {a : ESm} : Ok (sSeq (sRet a) k (o :: env)) Q = Ok (a (o :: env)) fun r => Q (.rt r.1, r.2) := by rw [sq_gen, w_sRet]; rfl
/-- `if c: return a` -/
theorem sq_ifr {c : TSm} {a : ESm} : Ok (sSeq (sIf c (sRet a) sNil) k (o :: env)) Q = Ok (c (o :: env)) fun b => if b.1 = true then Ok (a b.2) fun r => Q (.rt r.1, r.2) else Ok (k b.2) Q := by
  rw [sq_gen, w_sIf]
  refine ok_cg fun b => ?_
  rw [w_sRet, w_sNil]; rfl
theorem sq_ifc {c : TSm} : Ok (sSeq (sIf c sCt sNil) k (o :: env)) Q = Ok (c (o :: env)) fun b => if b.1 = true then Q (.ct, b.2) else Ok (k b.2) Q := by
  rw [sq_gen, w_sIf]
  refine ok_cg fun b => ?_
  rw [w_sCt, w_sNil]; rfl
theorem sq_ifb {c : TSm} : Ok (sSeq (sIf c sBk sNil) k (o :: env)) Q = Ok (c (o :: env)) fun b => if b.1 = true then Q (.bk, b.2) else Ok (k b.2) Q := by
  rw [sq_gen, w_sIf]
  refine ok_cg fun b => ?_
  rw [w_sBk, w_sNil]; rfl
/-- an `if` that goes on (not in the set) -/
theorem sq_if {c : TSm} : Ok (sSeq (sIf c f g) k (o :: env)) Q = Ok (c (o :: env)) fun b => if b.1 = true then Ok (f b.2) (ctQ k Q) else Ok (g b.2) (ctQ k Q) := by rw [sq_gen, w_sIf]
theorem sq_for {it : ISm} {t : GSm} {body : SSm} : Ok (sSeq (sFor it t body) k (o :: env)) Q = Ok (it (o :: env)) fun ds => Ok (forL t body ds.1 ds.2) (ctQ k Q) := by rw [sq_gen, w_sFor]
theorem sq_whl {c : TSm} {body : SSm} : Ok (sSeq (sWhl c body) k (o :: env)) Q = Ok (sWhl c body (o :: env)) (ctQ k Q) := sq_gen
end
/-! ### loops by the slots that they change -/
section
variable {env : Env} {g : GSm} {body : SSm} {vs : List Nat} {Q : Out × Env → Prop}
def getA (e : Env) (vs : List Nat) : List (Option D) := vs.map fun v => (e[v]?).join
def setA : Env → List Nat → List (Option D) → Env
  | e, v :: vs, o :: os => setA (e.set v o) vs os
  | e, _, _ => e
theorem wipe_len : ∀ (vs : List Nat) (e : Env), (wipeE e vs).length = e.length
  | [], _ => rfl
  | v :: vs, e => by show ((wipeE e vs).set v none).length = _; rw [List.length_set, wipe_len vs]
theorem wipe_at : ∀ (vs : List Nat) (e : Env) (j : Nat), (wipeE e vs)[j]? = if j ∈ vs then (e[j]?).map (fun _ => none) else e[j]?
  | [], _, _ => by simp [wipeE]
  | v :: vs, e, j => by
    show ((wipeE e vs).set v none)[j]? = _
    rw [List.getElem?_set, wipe_len]
    by_cases h : v = j
    · subst h
      rw [if_pos rfl, if_pos List.mem_cons_self]
      by_cases hl : v < e.length
      · rw [if_pos hl, List.getElem?_eq_getElem hl]; rfl
      · rw [if_neg hl, List.getElem?_eq_none (by omega)]; rfl
    · rw [if_neg h, wipe_at vs e j]
      have : (j ∈ v :: vs) ↔ j ∈ vs := by simp [Ne.symm h]
      simp only [this]
theorem setA_at : ∀ (vs : List Nat) (e e' : Env) (j : Nat), e'.length = e.length → (setA e vs (getA e' vs))[j]? = if j ∈ vs then e'[j]? else e[j]?
  | [], _, _, _, _ => by simp [setA, getA]
  | v :: vs, e, e', j, hl => by
    show (setA (e.set v (e'[v]?).join) vs (getA e' vs))[j]? = _
    rw [setA_at vs _ e' j (by rw [List.length_set]; exact hl)]
    by_cases h : j ∈ vs
    · rw [if_pos h, if_pos (List.mem_cons_of_mem _ h)]
    · rw [if_neg h, List.getElem?_set]
      by_cases hv : v = j
      · subst hv
        rw [if_pos rfl, if_pos List.mem_cons_self]
        by_cases hx : v < e.length
        · rw [if_pos hx, List.getElem?_eq_getElem (show v < e'.length by omega)]; rfl
        · rw [if_neg hx, List.getElem?_eq_none (by omega)]
      · rw [if_neg hv, if_neg (by simp [Ne.symm hv, h])]
theorem setA_get {e : Env} (h : wipeE e vs = wipeE env vs) : setA env vs (getA e vs) = e := by
  have hl : e.length = env.length := by have := congrArg List.length h; rwa [wipe_len, wipe_len] at this
  refine List.ext_getElem? fun j => ?_
  rw [setA_at vs env e j hl]
  by_cases hj : j ∈ vs
  · rw [if_pos hj]
  · rw [if_neg hj]
    have := congrArg (fun l : Env => l[j]?) h
    simp only [wipe_at, if_neg hj] at this
    exact this.symm
/-- alike but for these slots -/
def same (e env : Env) (vs : List Nat) : Prop := wipeE e vs = wipeE env vs
/-- behind a body: on, or out -/
def bdQ (env : Env) (vs : List Nat) (J : List (Option D) → Prop) (Q : Out × Env → Prop) (r : Out × Env) : Prop := match r.1 with
  | .nx => same r.2 env vs ∧ J (getA r.2 vs)
  | .ct => same r.2 env vs ∧ J (getA r.2 vs)
  | .bk => Q (.nx, r.2)
  | o => Q (o, r.2)
variable {J : List (Option D) → Prop} {e : Env} {d : D}
theorem bd_nx : bdQ env vs J Q (.nx, e) = (same e env vs ∧ J (getA e vs)) := rfl
theorem bd_ct : bdQ env vs J Q (.ct, e) = (same e env vs ∧ J (getA e vs)) := rfl
theorem bd_bk : bdQ env vs J Q (.bk, e) = Q (.nx, e) := rfl
theorem bd_rt : bdQ env vs J Q (.rt d, e) = Q (.rt d, e) := rfl
theorem bd_xc {x : Str} {ns : List Str} {ds : List D} : bdQ env vs J Q (.xc x ns ds, e) = Q (.xc x ns ds, e) := rfl
theorem for_set {ds : List D} (vs : List Nat) (I : Nat → List (Option D) → Prop) (h0 : I 0 (getA env vs))
    (hs : ∀ i d ss, ds[i]? = some d → I i ss → Ok (g d (setA env vs ss)) fun e1 => Ok (body e1) (bdQ env vs (I (i + 1)) Q))
    (hq : ∀ ss, I ds.length ss → Q (.nx, setA env vs ss)) : Ok (forL g body ds env) Q := by
  refine for_okr (fun i e => wipeE e vs = wipeE env vs ∧ I i (getA e vs)) ⟨rfl, h0⟩ (fun i d e hi hI => ?_) fun e hI => ?_
  · have z := hs i d _ hi hI.2
    rw [setA_get hI.1] at z
    refine ok_mono z fun e1 z => ok_mono z fun r z => ?_
    obtain ⟨o, e2⟩ := r
    cases o <;> exact z
  · have z := hq _ hI.2
    rwa [setA_get hI.1] at z
/-- over a list of things of one kind -/
theorem for_setM {α : Type} {f : α → D} {xs : List α} (vs : List Nat) (I : Nat → List (Option D) → Prop) (h0 : I 0 (getA env vs))
    (hs : ∀ i (h : i < xs.length) ss, I i ss → Ok (g (f xs[i]) (setA env vs ss)) fun e1 => Ok (body e1) (bdQ env vs (I (i + 1)) Q))
    (hq : ∀ ss, I xs.length ss → Q (.nx, setA env vs ss)) : Ok (forL g body (xs.map f) env) Q := by
  refine for_set vs I h0 (fun i d ss hi hI => ?_) fun ss h => hq ss (by rwa [List.length_map] at h)
  obtain ⟨h, rfl⟩ := at_mapE hi
  exact hs i h ss hI
theorem for_setR {a : Int} {n : Nat} (vs : List Nat) (I : Nat → List (Option D) → Prop) (h0 : I 0 (getA env vs))
    (hs : ∀ i ss, i < n → I i ss → Ok (g (.int (a + (i : Int))) (setA env vs ss)) fun e1 => Ok (body e1) (bdQ env vs (I (i + 1)) Q))
    (hq : ∀ ss, I n ss → Q (.nx, setA env vs ss)) : Ok (forL g body (rngD a n) env) Q := by
  refine for_set vs I h0 (fun i d ss hi hI => ?_) fun ss h => hq ss (by rwa [rngD_len] at h)
  obtain ⟨rfl, h⟩ := rngD_at hi
  exact hs i ss h hI
theorem whl_xc {c : TSm} {e e1 e2 : Env} {x : Str} {ns : List Str} {ds : List D} (h : c e = some (true, e1)) (hb : body e1 = some (.xc x ns ds, e2)) : sWhl c body e = some (.xc x ns ds, e2) := by
  refine sWhl_of (n := 1) ?_
  unfold whL
  rw [h]
  show (body e1).bind _ = _
  rw [hb]; rfl
/-- a while, by a measure -/
theorem whl_set {c : TSm} (vs : List Nat) (I : Nat → List (Option D) → Prop) (n : Nat) (h0 : I n (getA env vs))
    (hs : ∀ n ss, I n ss → Ok (c (setA env vs ss)) fun b => if b.1 = true then Ok (body b.2) (bdQ env vs (fun s => ∃ m, m < n ∧ I m s) Q) else Q (.nx, b.2)) : Ok (sWhl c body env) Q := by
  have key : ∀ n e, wipeE e vs = wipeE env vs → I n (getA e vs) → Ok (sWhl c body e) Q := by
    intro n
    induction n using Nat.strongRecOn with
    | ind n ih =>
      intro e hw hI
      obtain ⟨⟨b, e1⟩, h1, h2⟩ := hs n _ hI
      rw [setA_get hw] at h1
      cases b with
      | false => exact ⟨_, whl_stop h1, by simpa using h2⟩
      | true =>
        obtain ⟨⟨o, e2⟩, h3, h4⟩ : Ok (body e1) _ := by simpa using h2
        cases o with
        | nx =>
          obtain ⟨hw2, m, hm, hI2⟩ := h4
          obtain ⟨r, h5, h6⟩ := ih m hm e2 hw2 hI2
          exact ⟨r, whl_nx h1 h3 h5, h6⟩
        | ct =>
          obtain ⟨hw2, m, hm, hI2⟩ := h4
          obtain ⟨r, h5, h6⟩ := ih m hm e2 hw2 hI2
          exact ⟨r, whl_ct h1 h3 h5, h6⟩
        | bk => exact ⟨_, whl_bk h1 h3, h4⟩
        | rt v => exact ⟨_, whl_rt h1 h3, h4⟩
        | xc x ns ds => exact ⟨_, whl_xc h1 h3, h4⟩
  exact key n env rfl h0
/-- a comprehension that changes slots (draws) -/
theorem comp_set {c : TSm} {el : ESm} {ds : List D} {own : List Nat} {Q : List D × Env → Prop} (vs : List Nat) (I : Nat → List (Option D) → List D → Prop) (h0 : I 0 (getA env vs) [])
    (hs : ∀ i d ss acc, ds[i]? = some d → I i ss acc → Ok (g d (setA (wipeE env own) vs ss)) fun e1 => Ok (c e1) fun b => if b.1 = true then Ok (el b.2) fun r => acc.length < szL ∧ same (wipeE r.2 own) (wipeE env own) vs ∧ I (i + 1) (getA r.2 vs) (acc ++ [r.1]) else same (wipeE b.2 own) (wipeE env own) vs ∧ I (i + 1) (getA b.2 vs) acc)
    (hd : ∀ v ∈ vs, v ∉ own) (hq : ∀ ss acc, I ds.length ss acc → Q (acc, setA (wipeE env own) vs ss)) : Ok (compL own g c el ds env []) Q := by
  have hg : ∀ e : Env, getA (wipeE e own) vs = getA e vs := fun e => by
    refine List.map_congr_left fun v m => ?_
    rw [wipe_at, if_neg (hd v m)]
  refine comp_ok (fun i e acc => wipeE (wipeE e own) vs = wipeE (wipeE env own) vs ∧ I i (getA e vs) acc) ⟨rfl, h0⟩ (fun i d e acc hi hI => ?_) fun e acc hI => ?_
  · have z := hs i d _ acc hi hI.2
    rw [← hg e, setA_get hI.1] at z
    exact ok_mono z fun e1 z => ok_mono z fun b z => by
      by_cases hb : b.1 = true
      · rw [if_pos hb] at z ⊢; exact z
      · rw [if_neg hb] at z ⊢; exact z
  · have z := hq _ acc hI.2
    rw [← hg e, setA_get hI.1] at z
    exact z
end
/-! ### data by conditions -/
section
variable {α : Type} {f : α → D} {xs : List α} {x : α} {z : Bool} {n : Int}
theorem at_int {α : Type} {l : List α} {n : Int} (h0 : 0 ≤ n) (h1 : n.toNat < l.length) : L2.atI l n = some l[n.toNat] := by
  obtain ⟨k, rfl⟩ := Int.eq_ofNat_of_zero_le h0
  exact at_nat h1
theorem at_mapI (h0 : 0 ≤ n) (h1 : n.toNat < xs.length) : L2.atI (xs.map f) n = some (f xs[n.toNat]) := by
  obtain ⟨k, rfl⟩ := Int.eq_ofNat_of_zero_le h0
  exact at_map h1
theorem at_negN {α : Type} {l : List α} (h : 0 < l.length) : L2.atI l (-1) = some l[l.length - 1] := by
  have e : l = l.take (l.length - 1) ++ [l[l.length - 1]] := by
    have := take_at (l := l) (i := l.length - 1) (by omega)
    rw [Nat.sub_add_cancel h, List.take_length] at this
    exact this
  have := at_last (l := l.take (l.length - 1)) (x := l[l.length - 1])
  rwa [← e] at this
theorem appM (h : xs.length < 16777216) : mAppend (.lst false (xs.map f)) [f x] = some (.non, .lst false ((xs ++ [x]).map f)) := by
  rw [app_lst (by rw [List.length_map]; exact h), List.map_append]; rfl
theorem app_int {xs : List Int} {x : Int} (h : xs.length < 16777216) : mAppend (.lst false (xs.map D.int)) [.int x] = some (.non, .lst false ((xs ++ [x]).map D.int)) := appM h
theorem app_str {xs : List Str} {x : Str} (h : xs.length < 16777216) : mAppend (.lst false (xs.map D.str)) [.str x] = some (.non, .lst false ((xs ++ [x]).map D.str)) := appM h
theorem nil_map : ([] : List D) = ([] : List α).map f := rfl
end
section
variable {env : Env} {a b c : ESm} {n m : Nat} {z i j : Int}
theorem le_szL (h : n ≤ 16777216) : (n ≤ szL) = True := eq_true h
theorem lt_szL (h : n < 16777216) : (n < szL) = True := eq_true h
theorem smallI_t (h0 : -4611686018427387904 ≤ z) (h1 : z < 4611686018427387904) : smallI z = True := eq_true ⟨h0, h1⟩
theorem p_iRange1 {Q : List D × Env → Prop} : Ok (iRange1 (aConsE a aNilE) env) Q = Ok (a env) fun r => ∃ j, r.1 = .int j ∧ smallI j ∧ Q (rngD 0 j.toNat, r.2) := by
  rw [w_iRange1, w_aConsE]
  refine ok_cg fun d => ?_
  rw [w_aNilE]; simp only [List.cons.injEq, and_true]
theorem p_iRange2 {Q : List D × Env → Prop} : Ok (iRange2 (aConsE a (aConsE b aNilE)) env) Q = Ok (a env) fun r => Ok (b r.2) fun s => ∃ i j, (r.1 = .int i ∧ s.1 = .int j) ∧ (smallI i ∧ smallI j) ∧ Q (rngD i (j - i).toNat, s.2) := by
  rw [w_iRange2, w_aConsE]
  refine ok_cg fun d => ?_
  rw [w_aConsE]
  refine ok_cg fun e => ?_
  rw [w_aNilE]; simp only [List.cons.injEq, and_true]
theorem p_iRange3 {Q : List D × Env → Prop} : Ok (iRange3 (aConsE a (aConsE b (aConsE c aNilE))) env) Q = Ok (a env) fun r => Ok (b r.2) fun s => Ok (c s.2) fun t => ∃ i j, (r.1 = .int i ∧ s.1 = .int j ∧ t.1 = .int (-1)) ∧ (smallI i ∧ smallI j) ∧ Q (rngC i (-1) (i - j).toNat, t.2) := by
  rw [w_iRange3, w_aConsE]
  refine ok_cg fun d => ?_
  rw [w_aConsE]
  refine ok_cg fun e => ?_
  rw [w_aConsE]
  refine ok_cg fun f => ?_
  rw [w_aNilE]; simp only [List.cons.injEq, and_true]
theorem p_iEnumE {Q : List D × Env → Prop} : Ok (iEnumE (aConsE a aNilE) env) Q = Ok (a env) fun r => Ok (seqI r.1) fun ds => Q (enumD ds, r.2) := by
  rw [w_iEnumE, w_aConsE]
  refine ok_cg fun r => ?_
  rw [w_aNilE]
  refine propext ⟨?_, ?_⟩
  · rintro ⟨d, ds, h0, h, q⟩
    obtain ⟨h1, _⟩ := List.cons.inj h0
    exact ⟨ds, by rw [h1]; exact h, q⟩
  · rintro ⟨ds, h, q⟩; exact ⟨_, ds, rfl, h, q⟩
theorem ex2_int {P : Int → Int → Prop} : (∃ i' j', (D.int i = D.int i' ∧ D.int j = D.int j') ∧ P i' j') = P i j := propext ⟨fun ⟨_, _, ⟨h1, h2⟩, p⟩ => by cases h1; cases h2; exact p, fun p => ⟨i, j, ⟨rfl, rfl⟩, p⟩⟩
theorem ex3_int {k : Int} {P : Int → Int → Prop} : (∃ i' j', (D.int i = D.int i' ∧ D.int j = D.int j' ∧ D.int k = D.int (-1)) ∧ P i' j') = (k = -1 ∧ P i j) := propext ⟨fun ⟨_, _, ⟨h1, h2, h3⟩, p⟩ => by cases h1; cases h2; exact ⟨D.int.inj h3, p⟩, fun ⟨h, p⟩ => ⟨i, j, ⟨rfl, rfl, by rw [h]⟩, p⟩⟩
theorem g_tupM {α : Type} {f : α → D} {xs : List α} {z : Bool} (h : (xs.map f).all isImm = true) : gTuple [.lst z (xs.map f)] = some (.tup (xs.map f)) := g_tuple h
theorem g_tupI {xs : List Int} {z : Bool} : gTuple [.lst z (xs.map D.int)] = some (.tup (xs.map D.int)) := g_tuple (ints_imm xs)
theorem g_tupS {xs : List Str} {z : Bool} : gTuple [.lst z (xs.map D.str)] = some (.tup (xs.map D.str)) := g_tuple (all_map _ fun _ => rfl)
theorem fzs_strs {xs : List Str} : fzs (xs.map D.str) = xs.map D.str := fzs_map xs fun _ => fz_str
theorem rng0_len : ((rngD i n).length) = n := rngD_len i n
theorem mu_t (h : i.natAbs < 18446744073709551616) (h' : j.natAbs < 18446744073709551616) : dMu (.int i) (.int j) = some (.int (i * j)) := mu_int h h'
theorem enum_map {α : Type} {f : α → D} {xs : List α} {i : Nat} {d : D} (h : (enumD (xs.map f))[i]? = some d) : ∃ hi : i < xs.length, d = .tup [.int (i : Nat), f xs[i]] := by
  unfold enumD at h
  rw [List.getElem?_mapIdx] at h
  obtain ⟨x, h1, rfl⟩ := Option.map_eq_some_iff.mp h
  obtain ⟨hi, rfl⟩ := at_mapE h1
  exact ⟨hi, rfl⟩
theorem enum_lenM {α : Type} {f : α → D} {xs : List α} : (enumD (xs.map f)).length = xs.length := by unfold enumD; simp
/-- over an enumeration of things of one kind -/
theorem for_setE {α : Type} {f : α → D} {xs : List α} {g : GSm} {body : SSm} {Q : Out × Env → Prop} (vs : List Nat) (I : Nat → List (Option D) → Prop) (h0 : I 0 (getA env vs))
    (hs : ∀ i (h : i < xs.length) ss, I i ss → Ok (g (.tup [.int (i : Nat), f xs[i]]) (setA env vs ss)) fun e1 => Ok (body e1) (bdQ env vs (I (i + 1)) Q))
    (hq : ∀ ss, I xs.length ss → Q (.nx, setA env vs ss)) : Ok (forL g body (enumD (xs.map f)) env) Q := by
  refine for_set vs I h0 (fun i d ss hi hI => ?_) fun ss h => hq ss (by rwa [enum_lenM] at h)
  obtain ⟨h, rfl⟩ := enum_map hi
  exact hs i h ss hI
/-- two ways that meet again -/
theorem ct_join {g : SSm} {Q : Out × Env → Prop} {c : Prop} [Decidable c] {e e' : Env} : (if c then ctQ g Q (.nx, e) else ctQ g Q (.nx, e')) = Ok (g (if c then e else e')) Q := by split <;> rfl
theorem ite_cons {α : Type} {c : Prop} [Decidable c] {a b : α} {l m : List α} : (if c then a :: l else b :: m) = (if c then a else b) :: (if c then l else m) := by split <;> rfl
theorem ite_some {α : Type} {c : Prop} [Decidable c] {a b : α} : (if c then some a else some b) = some (if c then a else b) := by split <;> rfl
theorem ite_int {c : Prop} [Decidable c] {i j : Int} : (if c then D.int i else D.int j) = D.int (if c then i else j) := by split <;> rfl
end
/-! ### cuts -/
section
variable {env : Env} {f g : SSm} {Q : Out × Env → Prop}
theorem seq_set (i : Nat) (v : D) (h : Ok (f env) fun r => r = (.nx, env.set i (some v))) (h2 : Ok (g (env.set i (some v))) Q) : Ok (sSeq f g env) Q := by
  obtain ⟨r, h1, rfl⟩ := h
  rw [sq_gen]
  exact ⟨_, h1, h2⟩
/-- behind f only the slots vs may be others, and P holds of them -/
theorem seq_ex (vs : List Nat) (P : List (Option D) → Prop) (h : Ok (f env) fun r => r.1 = .nx ∧ same r.2 env vs ∧ P (getA r.2 vs)) (h2 : ∀ os, P os → Ok (g (setA env vs os)) Q) : Ok (sSeq f g env) Q := by
  obtain ⟨⟨o, e⟩, h1, h3, h4, h5⟩ := h
  have h3 : o = .nx := h3
  subst h3
  rw [sq_gen]
  refine ⟨_, h1, ?_⟩
  have z := h2 _ h5
  rw [setA_get h4] at z
  exact z
end
section
variable {x d : D} {ds : List D} {o : D} {os : List (Option D)} {env : Env} {e : Option D} {r : List (D ⊕ Nat)} {i : Nat}
theorem gb_nil : giveB [] ds os env = env := rfl
theorem gb_inl {z : Option D} : giveB (.inl x :: r) (d :: ds) (z :: os) env = giveB r ds os env := rfl
theorem gb_some : giveB (.inr i :: r) (d :: ds) (some o :: os) env = giveB r ds os (if isImm d = true then env else if i < env.length then env.set i (some o) else env) := rfl
theorem gb_none : giveB (.inr i :: r) (d :: ds) (none :: os) env = giveB r ds os env := rfl
theorem tb_nil : takeB [] env = some ([], env) := rfl
theorem tb_inl : takeB (.inl d :: r) (e :: env) = (takeB r (e :: env)).map fun p => (d :: p.1, p.2) := rfl
theorem tb_inr : takeB (.inr i :: r) (e :: env) = match (e :: env)[i]? with
  | some (some d) => (takeB r (if isImm d = true then e :: env else (e :: env).set i none)).map fun p => (d :: p.1, p.2)
  | _ => none := rfl
end

end DL
namespace DL
open PySem PySem.Spec PyProof.Rows L2
/-! ### sorted, with its order -/
theorem leD_total : PySem.W.TotalLe leD := by unfold leD PySem.W.dataLe; exact PySem.W.sortLe_total _ _ _
theorem sorted_gen {α : Type} {f : α → D} (l : List α) (h : l.length ≤ 16777216) (hi : ∀ a, isImm (f a) = true) (hn : ∀ a, nodic (f a) = true) (hal : ∀ a b, PySem.W.alike (py (f a)) (py (f b)) = true) (ht : (∀ a, tupNe (f a) = true) ∨ ∀ a, notTup (f a) = true) (hd : ∀ a, (py (f a)).depth ≤ 20) :
    ∃ l' : List α, l'.Perm l ∧ (∀ z, gSorted [.lst z (l.map f)] = some (.lst false (l'.map f))) ∧ l'.Pairwise fun a b => leD (f a) (f b) = true := by
  have h1 : ((l.map f).all isImm = true ∧ nodics (l.map f) = true) ∧ alikeB (l.map f) = true ∧ ((l.map f).all tupNe = true ∨ (l.map f).all notTup = true) ∧ (l.map f).length ≤ szL ∧ ((l.map f).all fun z => decide ((py z).depth ≤ 20)) = true :=
    ⟨⟨all_map _ hi, nodics_all fun d m => by obtain ⟨a, _, rfl⟩ := List.mem_map.mp m; exact hn a⟩, by unfold alikeB; simp [List.all_eq_true, hal], ht.imp (fun q => all_map _ q) (fun q => all_map _ q), by rw [List.length_map]; exact h, all_map _ fun a => by simp [hd a]⟩
  have e : (l.mergeSort fun a b => leD (f a) (f b)).map f = (l.map f).mergeSort leD := List.map_mergeSort (r := fun a b => leD (f a) (f b)) (s := leD) (f := f) (l := l) fun _ _ _ _ => rfl
  refine ⟨l.mergeSort fun a b => leD (f a) (f b), List.mergeSort_perm _ _, fun z => ?_, List.pairwise_mergeSort (fun a b c => leD_total.trans (f a) (f b) (f c)) (fun a b => ?_) l⟩
  · rw [e]
    show (if _ then some (D.lst false ((l.map f).mergeSort leD)) else none) = _
    rw [if_pos h1]
  · rcases leD_total.total (f a) (f b) with h | h <;> simp [h]
theorem leD_ii {a b c d : Int} : leD (.tup [.int a, .int b]) (.tup [.int c, .int d]) = decide (a < c ∨ (a = c ∧ b ≤ d)) := by
  have := congrFun (congrFun (PySem.W.dataLe_ii (β := Int × Int) (fun p => p.1) (fun p => p.2)) (a, b)) (c, d)
  exact this
theorem leD_str {a b : Str} : leD (.str a) (.str b) = decide (a.cps.toList ≤ b.cps.toList) := congrFun (congrFun (PySem.W.dataLe_str (β := Str) fun s => s) a) b
/-! ### lists -/
theorem rep_map {x : Int} {k : Nat} : (List.replicate k x).map D.int = List.replicate k (D.int x) := by simp
theorem getD_app_l {l m : List Int} {i : Nat} {r : Int} (h : i < l.length) : (l ++ m).getD i r = l.getD i r := by
  rw [List.getD_eq_getElem?_getD, List.getD_eq_getElem?_getD, List.getElem?_append_left h]
theorem getD_at {α : Type} {l : List α} {i : Nat} {r : α} (h : i < l.length) : l.getD i r = l[i] := by
  rw [List.getD_eq_getElem?_getD, List.getElem?_eq_getElem h]; rfl
theorem getD_out {α : Type} {l : List α} {i : Nat} {r : α} (h : l.length ≤ i) : l.getD i r = r := by
  rw [List.getD_eq_getElem?_getD, List.getElem?_eq_none h]; rfl
theorem getD_snoc {l : List Int} {x r : Int} {i : Nat} (hx : x = r) : (l ++ [x]).getD i r = l.getD i r := by
  by_cases h : i < l.length
  · exact getD_app_l h
  · rw [getD_out (l := l) (by omega)]
    by_cases h2 : i = l.length
    · subst h2; rw [getD_at (by simp)]; simp [hx]
    · exact getD_out (by simp; omega)
theorem sum_two : ∀ {l : List Int}, (∀ c ∈ l, 2 ≤ c) → 2 * (l.length : Int) ≤ l.sum
  | [], _ => by simp
  | a :: l, h => by
    have h1 := h a List.mem_cons_self
    have h2 := sum_two (l := l) fun c m => h c (List.mem_cons_of_mem _ m)
    rw [List.sum_cons, List.length_cons]; omega
theorem sum_set : ∀ {l : List Int} {i : Nat} {v : Int} (h : i < l.length), (l.set i v).sum = l.sum - l[i] + v
  | a :: l, 0, v, _ => by simp; omega
  | a :: l, i + 1, v, h => by
    have h' : i < l.length := by simpa using h
    rw [List.set_cons_succ, List.sum_cons, List.sum_cons, sum_set h', List.getElem_cons_succ]; omega
theorem sum_zero : ∀ {l : List Int}, (∀ c ∈ l, c = 0) → l.sum = 0
  | [], _ => rfl
  | a :: l, h => by rw [List.sum_cons, sum_zero fun c m => h c (List.mem_cons_of_mem _ m), h a List.mem_cons_self]; rfl
theorem all_two {cs : List Int} {t h0 : Nat} (hc : cs.length = t) (ht : 0 < t) (h0t : h0 < t) (h : ∀ i < t, ∀ hx : (h0 + i) % t < cs.length, 2 ≤ cs[(h0 + i) % t]) : ∀ c ∈ cs, 2 ≤ c := by
  intro c m
  obtain ⟨x, hx, rfl⟩ := List.mem_iff_getElem.mp m
  have e : (h0 + (x + t - h0) % t) % t = x := by
    rw [Nat.add_mod_mod, show h0 + (x + t - h0) = x + t by omega, Nat.add_mod_right, Nat.mod_eq_of_lt (by omega)]
  have := h ((x + t - h0) % t) (Nat.mod_lt _ ht) (by rw [e]; exact hx)
  simpa only [e] using this
theorem set_getD {l : List Int} {i j : Nat} {v : Int} (h : i < l.length) : (l.set i v).getD j 0 = if i = j then v else l.getD j 0 := by
  rw [List.getD_eq_getElem?_getD, List.getD_eq_getElem?_getD, List.getElem?_set]
  by_cases e : i = j
  · subst e; simp [h]
  · simp [e]
theorem for_cut {g : GSm} {body k : SSm} {ds : List D} {env : Env} {Q : Out × Env → Prop} (vs : List Nat) (P : List (Option D) → Prop) (h : Ok (forL g body ds env) fun r => r.1 = .nx ∧ same r.2 env vs ∧ P (getA r.2 vs)) (h2 : ∀ os, P os → Ok (k (setA env vs os)) Q) : Ok (forL g body ds env) (ctQ k Q) := by
  obtain ⟨⟨o, e⟩, h1, h3, h4, h5⟩ := h
  have h3 : o = .nx := h3
  subst h3
  refine ⟨_, h1, ?_⟩
  have z := h2 _ h5
  rw [setA_get h4] at z
  exact z
theorem recv_lst {ds : List D} : (okRecv "list" (.lst false ds) = true) = True := eq_true rfl

end DL
namespace DL
open PySem PySem.Spec PyProof.Rows L2
/-! ### more of going straight on -/
section
variable {env : Env} {a b c : ESm}
theorem of_ok {α : Type} {x : Option α} {v : α} (h : Ok x fun r => r = v) : x = some v := by
  obtain ⟨r, h1, rfl⟩ := h; exact h1
def zip2 : D → D → Option (List D)
  | .tup ds, .tup es => some (zipD ds es)
  | .lst true ds, .lst true es => some (zipD ds es)
  | _, _ => none
theorem p_iZipE {Q : List D × Env → Prop} : Ok (iZipE (aConsE a (aConsE b aNilE)) env) Q = Ok (a env) fun r => Ok (b r.2) fun s => Ok (zip2 r.1 s.1) fun ds => Q (ds, s.2) := by
  unfold iZipE
  rw [ok_bind, w_aConsE]
  refine ok_cg fun r => ?_
  rw [w_aConsE]
  refine ok_cg fun s => ?_
  rw [w_aNilE]
  obtain ⟨x, e1⟩ := r
  obtain ⟨y, e2⟩ := s
  show Ok (match [x, y] with | [.tup ds, .tup es] => some (zipD ds es, e2) | [.lst true ds, .lst true es] => some (zipD ds es, e2) | _ => none) Q = Ok (zip2 x y) _
  unfold zip2
  split
  · rename_i h; cases h; rw [ok_some, ok_some]
  · rename_i h; cases h; rw [ok_some, ok_some]
  · rename_i h1 h2
    split
    · exact absurd rfl (h1 _ _)
    · exact absurd rfl (h2 _ _)
    · exact propext ⟨fun ⟨_, e, _⟩ => (nomatch e), fun ⟨_, e, _⟩ => (nomatch e)⟩
theorem zip_tt {ds es : List D} : zip2 (.tup ds) (.tup es) = some (zipD ds es) := rfl
theorem zip_ll {ds es : List D} : zip2 (.lst true ds) (.lst true es) = some (zipD ds es) := rfl
theorem zipD_map {α β : Type} {f : α → D} {g : β → D} : ∀ {xs : List α} {ys : List β}, zipD (xs.map f) (ys.map g) = (xs.zip ys).map fun p => .tup [f p.1, g p.2]
  | [], _ => rfl
  | _ :: _, [] => rfl
  | x :: xs, y :: ys => by
    have := zipD_map (f := f) (g := g) (xs := xs) (ys := ys)
    unfold zipD at *
    rw [List.map_cons, List.map_cons, List.zipWith_cons_cons, this]; rfl
theorem zip_rng {α β : Type} {x : α} {y : β} {xs : List α} {ys : List β} (h : xs.length = ys.length) : xs.zip ys = (List.range xs.length).map fun k => (xs.getD k x, ys.getD k y) := by
  apply List.ext_getElem
  · simp; omega
  · intro i h1 h2
    have hi : i < xs.length := by simp at h1; omega
    rw [List.getElem_zip, List.getElem_map, List.getElem_range, getD_at hi, getD_at (by omega)]
theorem sorted_int {z : Bool} {l : List Int} (h : l.length ≤ 16777216) : gSorted [.lst z (l.map D.int)] = some (.lst false ((sortI l).map D.int)) := by
  obtain ⟨l', h1, h2, h3⟩ := sorted_gen (f := D.int) l h (fun _ => rfl) (fun _ => by simp [nodic]) (fun _ _ => by simp [py, PySem.W.alike]) (.inr fun _ => rfl) (fun _ => by simp [py, PyData.depth])
  have e : l' = sortI l := by
    refine perm_sorted (h1.trans (sortI_perm l).symm) (h3.imp fun {a b} q => ?_) (sortI_le l)
    have : leD (.int a) (.int b) = decide (a ≤ b) := congrFun (congrFun (PySem.W.dataLe_int (β := Int) fun s => s) a) b
    rw [this] at q
    exact of_decide_eq_true q
  rw [h2, e]
theorem sortI_congr {l m : List Int} (h : l.Perm m) : sortI l = sortI m := perm_sorted ((sortI_perm l).trans (h.trans (sortI_perm m).symm)) (sortI_le l) (sortI_le m)
theorem perm_of_mem {l m : List Int} (h1 : l.Nodup) (h2 : m.Nodup) (h : ∀ a, a ∈ l ↔ a ∈ m) : l.Perm m := (List.perm_ext_iff_of_nodup h1 h2).mpr h
theorem rngC_map {i : Int} {n : Nat} : rngC i (-1) n = (List.range n).map fun k => D.int (i - (k : Nat)) := by
  unfold rngC
  refine List.map_congr_left fun k _ => ?_
  congr 1; omega
end
section
variable {env : Env} {f : ESm}
def itemsO : D → Option (List D)
  | .dcK true ks ds => some (itemD ks ds)
  | _ => none
theorem p_iItemsE {Q : List D × Env → Prop} : Ok (iItemsE f env) Q = Ok (f env) fun r => Ok (itemsO r.1) fun ds => Q (ds, r.2) := by
  rw [w_iItemsE]
  refine ok_cg fun r => ?_
  refine propext ⟨?_, ?_⟩
  · rintro ⟨ks, ds, e, q⟩; exact ⟨_, by rw [e]; rfl, q⟩
  · rintro ⟨a, e, q⟩
    unfold itemsO at e
    split at e
    · rename_i ks ds h; cases e; exact ⟨ks, ds, h, q⟩
    · cases e
theorem items_I {β : Type} {vf : β → D} {l : List (Int × β)} : itemsO (tbI vf true l) = some (l.map fun p => .tup [.int p.1, vf p.2]) := by
  show some (itemD _ _) = _
  rw [items_tbI]
theorem items_S {β : Type} {vf : β → D} {l : List (Str × β)} : itemsO (tbS vf true l) = some (l.map fun p => .tup [.str p.1, vf p.2]) := by
  show some (itemD _ _) = _
  rw [items_tbS]
theorem hands_imm {row : List Int} {rest : Int} : isImm (handsD row rest) = true := rfl
theorem sheet_parts {S : Sheet} : sheetD S = .tup [handsD S.row S.rest, .tup (S.works.map workD), .tup (S.ties.map tieD)] := rfl
theorem work_imm {w : Str × Int × Int} : isImm (workD w) = true := rfl
theorem tie_imm {w : Str × Str × Int} : isImm (tieD w) = true := rfl
theorem fz_tbI {l : List (Int × Int)} : fz (tbI D.int false l) = tbI D.int true l := fz_tbK (vf := D.int) fun _ => rfl
theorem fz_tbSi {l : List (Str × Int)} : fz (tbS D.int false l) = tbS D.int true l := fz_tbK (vf := D.int) fun _ => rfl
end
section
variable {env : Env} {o : Option D} {k : SSm} {Q : Out × Env → Prop}
theorem sq_exprX {f : EXm} : Ok (sSeq (sExprX f) k (o :: env)) Q = Ok (f (o :: env)) fun r => match r.1 with | .rt _ => Ok (k r.2) Q | .xc x ns es => Q (.xc x ns es, r.2) | _ => False := by
  rw [sq_gen, w_sExprX]; rfl
theorem sq_asgX {f : EXm} {g : GSm} : Ok (sSeq (sAsgX f g) k (o :: env)) Q = Ok (f (o :: env)) fun r => match r.1 with | .rt d => Ok (g d r.2) fun e => Ok (k e) Q | .xc x ns es => Q (.xc x ns es, r.2) | _ => False := by
  rw [sq_gen, w_sAsgX]; rfl
end
theorem ex2_eq {a b : Int} {P : Int → Int → Prop} : (∃ i j, (a = i ∧ b = j) ∧ P i j) = P a b := propext ⟨fun ⟨_, _, ⟨h1, h2⟩, p⟩ => by subst h1 h2; exact p, fun p => ⟨a, b, ⟨rfl, rfl⟩, p⟩⟩

end DL
namespace DL
open PySem PySem.Spec PyProof.Rows L2
/-! ### a try that sets a slot -/
section
variable {env : Env} {Q : Out × Env → Prop} {yes no : List Str} {suite : Addr → Addr → Str → SSm} {body g : SSm} {x : Str} {ns : List Str} {es : List D} {i : Nat}
/-- the body raises x, the suite ends in r' -/
theorem try_yes {e1 : Env} (r' : Out × Env) (hb : body env = some (.xc x ns es, e1)) (hy : x ∈ yes) (hi : i < e1.length) (h : ∀ a d, Ok (suite a d x (e1.set i (some (.exo a d x ns es)))) fun z => outNX i z = some r') : Ok (sTryAs i yes no body suite env) fun r => r = r' :=
  try_ok ⟨_, hb, tq_yes hy hi rfl h⟩
theorem sq_try {o : Option D} : Ok (sSeq (sTryAs i yes no body suite) g (o :: env)) Q = Ok (body (o :: env)) (TryQ i yes no suite (ctQ g Q)) := by
  rw [sq_gen]
  refine propext ⟨fun h => ?_, fun h => try_ok h⟩
  obtain ⟨r, h1, h2⟩ := h
  unfold sTryAs at h1
  obtain ⟨⟨o', e⟩, h3, h4⟩ := Option.bind_eq_some_iff.mp h1
  refine ⟨_, h3, ?_⟩
  unfold TryQ
  cases o' with
  | xc y ms fs =>
    simp only at h4 ⊢
    by_cases hy : y ∈ yes
    · rw [if_pos hy] at h4
      by_cases hi : i < e.length
      · rw [if_pos hi] at h4
        refine .inl ⟨hy, hi, r, h2, fun a d => ?_⟩
        have := allA_inv h4 a d
        obtain ⟨z, h5, h6⟩ := Option.bind_eq_some_iff.mp this
        exact ⟨z, h5, h6⟩
      · rw [if_neg hi] at h4; cases h4
    · rw [if_neg hy] at h4
      by_cases hn : y ∈ no
      · rw [if_pos hn] at h4; cases h4; exact .inr ⟨hy, hn, h2⟩
      · rw [if_neg hn] at h4; cases h4
  | nx => cases h4; exact h2
  | bk => cases h4; exact h2
  | ct => cases h4; exact h2
  | rt d => cases h4; exact h2
theorem look1 {n : Str} {d : D} : (([n] : List Str).zip [d]).lookup n = some d := by simp [List.lookup]
theorem look2a {n m : Str} {d e : D} : (([n, m] : List Str).zip [d, e]).lookup n = some d := by simp [List.lookup]
theorem look2b {n m : Str} {d e : D} (h : m ≠ n) : (([n, m] : List Str).zip [d, e]).lookup m = some e := by
  have : (m == n) = false := beq_eq_false_iff_ne.mpr h
  simp [List.lookup, this]
end
theorem cut_dropA {α : Type} {f : α → D} {l : List α} {n : Nat} (h : n ≤ l.length) : cutD (l.map f) (some (n : Int)) none = (l.drop n).map f := by
  unfold cutD
  have e1 : HT.sIx (l.map f).length 0 (some (n : Int)) = n := by rw [HT.sIx_nat, List.length_map]; omega
  have e2 : HT.sIx (l.map f).length (l.map f).length none = (l.map f).length := rfl
  rw [e1, e2, ← List.map_drop, List.take_of_length_le (by simp)]
theorem cut_takeA {α : Type} {f : α → D} {l : List α} {n : Nat} (h : n ≤ l.length) : cutD (l.map f) none (some (n : Int)) = (l.take n).map f := by
  rw [cut_take (by rw [List.length_map]; exact h), List.map_take]
/-! ### rules of the library, for types -/
section
variable {α β : Type} {a : α} {l : List α} {n i : Nat} {f : α → β}
theorem l_gz : (a :: l)[0]? = some a := List.getElem?_cons_zero
theorem l_gs : (a :: l)[i + 1]? = l[i]? := List.getElem?_cons_succ
theorem l_sz {b : α} : (a :: l).set 0 b = b :: l := List.set_cons_zero
theorem l_ss {b : α} : (a :: l).set (n + 1) b = a :: l.set n b := List.set_cons_succ
theorem l_sn : ([] : List α).set n a = [] := List.set_nil
theorem l_lc : (a :: l).length = l.length + 1 := List.length_cons
theorem l_ln : ([] : List α).length = 0 := List.length_nil
theorem l_lm : (l.map f).length = l.length := List.length_map f
theorem l_mc : (a :: l).map f = f a :: l.map f := List.map_cons
theorem l_mn : ([] : List α).map f = [] := List.map_nil
theorem l_rs : List.replicate (n + 1) a = a :: List.replicate n a := List.replicate_succ
theorem l_rz : List.replicate 0 a = [] := List.replicate_zero
theorem l_ca {m : List α} : (a :: l) ++ m = a :: (l ++ m) := List.cons_append
theorem l_na : [] ++ l = l := List.nil_append l
theorem l_hc : (a :: l).head? = some a := List.head?_cons
theorem l_tc : (a :: l).tail = l := List.tail_cons
theorem l_ac {p : α → Bool} : (a :: l).all p = (p a && l.all p) := List.all_cons
theorem l_an {p : α → Bool} : ([] : List α).all p = true := List.all_nil
theorem o_js {x : Option α} : (some x).join = x := Option.join_some
theorem o_ms : (some a).map f = some (f a) := rfl
theorem o_bs {g : α → Option β} : (some a).bind g = g a := Option.bind_some a g
theorem o_se {b : α} : (some a = some b) = (a = b) := Option.some.injEq a b
theorem c_it {b : α} : (if True then a else b) = a := if_pos trivial
theorem c_if {b : α} : (if False then a else b) = b := if_neg not_false
theorem c_pt {b c : Prop} : (if True then b else c) = b := if_pos trivial
theorem c_pf {b c : Prop} : (if False then b else c) = c := if_neg not_false
theorem c_ta {p : Prop} : (True ∧ p) = p := true_and p
theorem c_at {p : Prop} : (p ∧ True) = p := and_true p
theorem c_el {p : α → Prop} : (∃ x, x = a ∧ p x) = p a := propext exists_eq_left
theorem c_er {p : α → Prop} : (∃ x, a = x ∧ p x) = p a := propext exists_eq_left'
theorem c_es : (a = a) = True := eq_self a
theorem c_dt {h : Decidable True} : @decide True h = true := decide_true h
theorem c_df {h : Decidable False} : @decide False h = false := decide_false h
theorem c_be {b : Bool} : (b == b) = true := by simp
end

end DL
namespace DL
open PySem PySem.Spec PyProof.Rows L2
/-! ### the rules, bundled -/
theorem preS : type_of% (And.intro @w_pC (And.intro @w_pVar (And.intro @w_pOwn (And.intro @w_p1 (And.intro @w_p2 (And.intro @w_pSl (And.intro @w_oNo (And.intro @w_oSome (And.intro @w_pTup (And.intro @w_pCall (And.intro @w_aNil (And.intro @w_aCons (And.intro @w_pIsi (And.intro @w_pIsi2 (And.intro @w_eP (And.intro @w_eMove (And.intro @w_e1 (And.intro @w_e2 (And.intro @w_eTup (And.intro @w_eLst (And.intro @w_eFz (And.intro @w_eCall (And.intro @w_aNilE (And.intro @w_aConsE (And.intro @w_eIf (And.intro @w_eComp (And.intro @w_eComp2 (And.intro @w_eDc (And.intro @w_eDef (And.intro @w_cNil (And.intro @w_cVal (And.intro @w_cBor (And.intro @w_eMeth (And.intro @w_eMetP (And.intro @w_plVar (And.intro @w_plIx (And.intro @w_eSMet (And.intro @w_yesT (And.intro @w_tP (And.intro @w_p2t (And.intro @w_e2t (And.intro @w_tTruP (And.intro @w_tTru (And.intro @w_tNo (And.intro @w_tAnd2 (And.intro @w_tOr2 (And.intro @w_iSeq (And.intro @w_gNm (And.intro @w_gTup (And.intro @w_gsNil (And.intro @w_gsCons (And.intro @w_gPut (And.intro @w_sNil (And.intro @w_sRet (And.intro @w_sExpr (And.intro @w_sAsg (And.intro @w_sPar (And.intro @w_eSl (And.intro @w_oNoE (And.intro @w_oSomeE (And.intro @w_eNot (And.intro @w_eAnd2 (And.intro @w_eOr2 (And.intro @w_eIxV (And.intro @w_pLMet (And.intro @w_sAugD (And.intro @w_pGet1 (And.intro @w_pGet2 (And.intro @w_eGet2 (And.intro @w_pDisp (And.intro @p_dpNil (And.intro @p_dpCons (And.intro @w_iRevE (And.intro @w_sCt (And.intro @w_sBk (And.intro @w_sRetN (And.intro @w_sIf (And.intro @w_sFor (And.intro @w_sFz (And.intro @ok_some (And.intro @ok_map (And.intro @w_pCh (And.intro @w_pChT (And.intro @w_ePick (And.intro @w_sRaise (And.intro @w_xOf (And.intro @w_xIte (And.intro @w_xDef (And.intro @w_xDefK (And.intro @w_sRetX (And.intro @w_sExprX (And.intro @w_sAsgX (And.intro @w_noX (And.intro @w_pIsX (And.intro @w_pFld (And.intro @sq_nil (And.intro @sq_asg (And.intro @sq_expr (And.intro @sq_fz (And.intro @sq_aug (And.intro @sq_augD (And.intro @sq_par (And.intro @sq_ret (And.intro @sq_ifr (And.intro @sq_ifc (And.intro @sq_ifb (And.intro @sq_for (And.intro @sq_whl (And.intro @ct_rt (And.intro @ct_ct (And.intro @ct_bk (And.intro @ct_xc (And.intro @bd_nx (And.intro @bd_ct (And.intro @bd_bk (And.intro @bd_rt (And.intro @bd_xc (And.intro @w_sAug (And.intro @p_iRange1 (And.intro @p_iRange2 (And.intro @p_iRange3 (And.intro @p_iEnumE (And.intro @sq_exprX (And.intro @sq_asgX (And.intro @p_iItemsE (And.intro @p_iZipE (And.intro @p_iZipM @w_eDefK))))))))))))))))))))))))))))))))))))))))))))))))))))))))))))))))))))))))))))))))))))))))))))))))))))))))))))))))))))))))))))))) := (And.intro @w_pC (And.intro @w_pVar (And.intro @w_pOwn (And.intro @w_p1 (And.intro @w_p2 (And.intro @w_pSl (And.intro @w_oNo (And.intro @w_oSome (And.intro @w_pTup (And.intro @w_pCall (And.intro @w_aNil (And.intro @w_aCons (And.intro @w_pIsi (And.intro @w_pIsi2 (And.intro @w_eP (And.intro @w_eMove (And.intro @w_e1 (And.intro @w_e2 (And.intro @w_eTup (And.intro @w_eLst (And.intro @w_eFz (And.intro @w_eCall (And.intro @w_aNilE (And.intro @w_aConsE (And.intro @w_eIf (And.intro @w_eComp (And.intro @w_eComp2 (And.intro @w_eDc (And.intro @w_eDef (And.intro @w_cNil (And.intro @w_cVal (And.intro @w_cBor (And.intro @w_eMeth (And.intro @w_eMetP (And.intro @w_plVar (And.intro @w_plIx (And.intro @w_eSMet (And.intro @w_yesT (And.intro @w_tP (And.intro @w_p2t (And.intro @w_e2t (And.intro @w_tTruP (And.intro @w_tTru (And.intro @w_tNo (And.intro @w_tAnd2 (And.intro @w_tOr2 (And.intro @w_iSeq (And.intro @w_gNm (And.intro @w_gTup (And.intro @w_gsNil (And.intro @w_gsCons (And.intro @w_gPut (And.intro @w_sNil (And.intro @w_sRet (And.intro @w_sExpr (And.intro @w_sAsg (And.intro @w_sPar (And.intro @w_eSl (And.intro @w_oNoE (And.intro @w_oSomeE (And.intro @w_eNot (And.intro @w_eAnd2 (And.intro @w_eOr2 (And.intro @w_eIxV (And.intro @w_pLMet (And.intro @w_sAugD (And.intro @w_pGet1 (And.intro @w_pGet2 (And.intro @w_eGet2 (And.intro @w_pDisp (And.intro @p_dpNil (And.intro @p_dpCons (And.intro @w_iRevE (And.intro @w_sCt (And.intro @w_sBk (And.intro @w_sRetN (And.intro @w_sIf (And.intro @w_sFor (And.intro @w_sFz (And.intro @ok_some (And.intro @ok_map (And.intro @w_pCh (And.intro @w_pChT (And.intro @w_ePick (And.intro @w_sRaise (And.intro @w_xOf (And.intro @w_xIte (And.intro @w_xDef (And.intro @w_xDefK (And.intro @w_sRetX (And.intro @w_sExprX (And.intro @w_sAsgX (And.intro @w_noX (And.intro @w_pIsX (And.intro @w_pFld (And.intro @sq_nil (And.intro @sq_asg (And.intro @sq_expr (And.intro @sq_fz (And.intro @sq_aug (And.intro @sq_augD (And.intro @sq_par (And.intro @sq_ret (And.intro @sq_ifr (And.intro @sq_ifc (And.intro @sq_ifb (And.intro @sq_for (And.intro @sq_whl (And.intro @ct_rt (And.intro @ct_ct (And.intro @ct_bk (And.intro @ct_xc (And.intro @bd_nx (And.intro @bd_ct (And.intro @bd_bk (And.intro @bd_rt (And.intro @bd_xc (And.intro @w_sAug (And.intro @p_iRange1 (And.intro @p_iRange2 (And.intro @p_iRange3 (And.intro @p_iEnumE (And.intro @sq_exprX (And.intro @sq_asgX (And.intro @p_iItemsE (And.intro @p_iZipE (And.intro @p_iZipM @w_eDefK)))))))))))))))))))))))))))))))))))))))))))))))))))))))))))))))))))))))))))))))))))))))))))))))))))))))))))))))))))))))))))))))
theorem postS : type_of% (And.intro @rngD_len (And.intro @kd_int (And.intro @kd_str (And.intro @im_non (And.intro @im_bl (And.intro @im_int (And.intro @im_str (And.intro @im_tup (And.intro @im_scr (And.intro @im_lst (And.intro @im_dcK (And.intro @im_dcT (And.intro @fz_non (And.intro @fz_bl (And.intro @fz_int (And.intro @fz_str (And.intro @fz_tup (And.intro @fz_scr (And.intro @fz_lstT (And.intro @fz_lst (And.intro @fz_dcT (And.intro @fz_dcK (And.intro @wk_tup (And.intro @wk_lst (And.intro @wk_scr (And.intro @wk_str (And.intro @sI_tup (And.intro @sI_lst (And.intro @tr_bl (And.intro @lt_int (And.intro @gt_int (And.intro @le_int (And.intro @leX_int (And.intro @ge_int (And.intro @eq_int (And.intro @ne_int (And.intro @eq_str (And.intro @ne_str (And.intro @ne_bl (And.intro @eq_bl (And.intro @add_int (And.intro @sub_int (And.intro @neg_int (And.intro @g_int (And.intro @g_abs (And.intro @ix_tup (And.intro @ix_lst (And.intro @at0 (And.intro @at1 (And.intro @at2 (And.intro @g_len_tup (And.intro @g_len_lst (And.intro @Bool.not_true (And.intro @Bool.not_false (And.intro @Bool.and_true (And.intro @Bool.true_and (And.intro @Bool.and_self (And.intro @D.bl.injEq (And.intro @D.int.injEq (And.intro @D.str.injEq (And.intro @D.tup.injEq (And.intro @Out.rt.injEq (And.intro @Nat.lt_add_left_iff_pos (And.intro @Nat.zero_lt_succ (And.intro @isx_exo (And.intro @fld_exo (And.intro @im_exo (And.intro @tq_nx (And.intro @tq_rt (And.intro @fzs_ints (And.intro @Int.toNat_natCast (And.intro @Nat.add_zero (And.intro @Int.zero_add (And.intro @app_int (And.intro @app_str (And.intro @at_map (And.intro @mod_int (And.intro @add_str (And.intro @le_szL (And.intro @lt_szL (And.intro @smallI_t (And.intro @ex2_int (And.intro @ex3_int (And.intro @g_tupI (And.intro @g_tupS (And.intro @fzs_strs (And.intro @g_max (And.intro @g_min (And.intro @mu_t (And.intro @div_int (And.intro @sl_tup (And.intro @gb_nil (And.intro @gb_inl (And.intro @gb_some (And.intro @gb_none (And.intro @tb_nil (And.intro @tb_inl (And.intro @tb_inr (And.intro @ex2_eq (And.intro @items_I (And.intro @items_S (And.intro @hands_imm (And.intro @sheet_imm (And.intro @work_imm (And.intro @tie_imm (And.intro @im_tbK (And.intro @fz_tbI (And.intro @fz_tbSi (And.intro @zip_tt (And.intro @zip_ll (And.intro @recv_lst (And.intro @Bool.and_false (And.intro @Bool.false_and (And.intro @Bool.or_true (And.intro @Bool.true_or (And.intro @Bool.or_false (And.intro @Bool.false_or (And.intro @is_int (And.intro @is_str (And.intro @zip_tl (And.intro @g_max3 (And.intro @g_min3 (And.intro @l_gz (And.intro @l_gs (And.intro @l_sz (And.intro @l_ss (And.intro @l_sn (And.intro @l_lc (And.intro @l_ln (And.intro @l_lm (And.intro @l_mc (And.intro @l_mn (And.intro @l_rs (And.intro @l_rz (And.intro @l_ca (And.intro @l_na (And.intro @l_hc (And.intro @l_tc (And.intro @l_ac (And.intro @l_an (And.intro @o_js (And.intro @o_ms (And.intro @o_bs (And.intro @o_se (And.intro @c_it (And.intro @c_if (And.intro @c_pt (And.intro @c_pf (And.intro @c_ta (And.intro @c_at (And.intro @c_el (And.intro @c_er (And.intro @c_es (And.intro @c_dt @c_df)))))))))))))))))))))))))))))))))))))))))))))))))))))))))))))))))))))))))))))))))))))))))))))))))))))))))))))))))))))))))))))))))))))))))))))))))))))))))) := (And.intro @rngD_len (And.intro @kd_int (And.intro @kd_str (And.intro @im_non (And.intro @im_bl (And.intro @im_int (And.intro @im_str (And.intro @im_tup (And.intro @im_scr (And.intro @im_lst (And.intro @im_dcK (And.intro @im_dcT (And.intro @fz_non (And.intro @fz_bl (And.intro @fz_int (And.intro @fz_str (And.intro @fz_tup (And.intro @fz_scr (And.intro @fz_lstT (And.intro @fz_lst (And.intro @fz_dcT (And.intro @fz_dcK (And.intro @wk_tup (And.intro @wk_lst (And.intro @wk_scr (And.intro @wk_str (And.intro @sI_tup (And.intro @sI_lst (And.intro @tr_bl (And.intro @lt_int (And.intro @gt_int (And.intro @le_int (And.intro @leX_int (And.intro @ge_int (And.intro @eq_int (And.intro @ne_int (And.intro @eq_str (And.intro @ne_str (And.intro @ne_bl (And.intro @eq_bl (And.intro @add_int (And.intro @sub_int (And.intro @neg_int (And.intro @g_int (And.intro @g_abs (And.intro @ix_tup (And.intro @ix_lst (And.intro @at0 (And.intro @at1 (And.intro @at2 (And.intro @g_len_tup (And.intro @g_len_lst (And.intro @Bool.not_true (And.intro @Bool.not_false (And.intro @Bool.and_true (And.intro @Bool.true_and (And.intro @Bool.and_self (And.intro @D.bl.injEq (And.intro @D.int.injEq (And.intro @D.str.injEq (And.intro @D.tup.injEq (And.intro @Out.rt.injEq (And.intro @Nat.lt_add_left_iff_pos (And.intro @Nat.zero_lt_succ (And.intro @isx_exo (And.intro @fld_exo (And.intro @im_exo (And.intro @tq_nx (And.intro @tq_rt (And.intro @fzs_ints (And.intro @Int.toNat_natCast (And.intro @Nat.add_zero (And.intro @Int.zero_add (And.intro @app_int (And.intro @app_str (And.intro @at_map (And.intro @mod_int (And.intro @add_str (And.intro @le_szL (And.intro @lt_szL (And.intro @smallI_t (And.intro @ex2_int (And.intro @ex3_int (And.intro @g_tupI (And.intro @g_tupS (And.intro @fzs_strs (And.intro @g_max (And.intro @g_min (And.intro @mu_t (And.intro @div_int (And.intro @sl_tup (And.intro @gb_nil (And.intro @gb_inl (And.intro @gb_some (And.intro @gb_none (And.intro @tb_nil (And.intro @tb_inl (And.intro @tb_inr (And.intro @ex2_eq (And.intro @items_I (And.intro @items_S (And.intro @hands_imm (And.intro @sheet_imm (And.intro @work_imm (And.intro @tie_imm (And.intro @im_tbK (And.intro @fz_tbI (And.intro @fz_tbSi (And.intro @zip_tt (And.intro @zip_ll (And.intro @recv_lst (And.intro @Bool.and_false (And.intro @Bool.false_and (And.intro @Bool.or_true (And.intro @Bool.true_or (And.intro @Bool.or_false (And.intro @Bool.false_or (And.intro @is_int (And.intro @is_str (And.intro @zip_tl (And.intro @g_max3 (And.intro @g_min3 (And.intro @l_gz (And.intro @l_gs (And.intro @l_sz (And.intro @l_ss (And.intro @l_sn (And.intro @l_lc (And.intro @l_ln (And.intro @l_lm (And.intro @l_mc (And.intro @l_mn (And.intro @l_rs (And.intro @l_rz (And.intro @l_ca (And.intro @l_na (And.intro @l_hc (And.intro @l_tc (And.intro @l_ac (And.intro @l_an (And.intro @o_js (And.intro @o_ms (And.intro @o_bs (And.intro @o_se (And.intro @c_it (And.intro @c_if (And.intro @c_pt (And.intro @c_pf (And.intro @c_ta (And.intro @c_at (And.intro @c_el (And.intro @c_er (And.intro @c_es (And.intro @c_dt @c_df))))))))))))))))))))))))))))))))))))))))))))))))))))))))))))))))))))))))))))))))))))))))))))))))))))))))))))))))))))))))))))))))))))))))))))))))))))))))))

end DL
namespace DL
open PySem PySem.Spec PyProof.Rows L2 C8
abbrev top (i : Nat) : Stmt := PySem.Challenge.pw_donebytwo_k36_behind_beside_turned.main.body.getD i (.Pass ⟨0, 0, 0, 0⟩)
structure Glo (mg : Str → Option Value) : Prop where
  n_bool : mg "bool" = none
  n_int : mg "int" = none
  n_isinstance : mg "isinstance" = none
  n_len : mg "len" = none
  n_list : mg "list" = none
  n_range : mg "range" = none
  n_sorted : mg "sorted" = none
  n_str : mg "str" = none
  n_tuple : mg "tuple" = none
  g_WORKS_MOST : ∃ t, mg "WORKS_MOST" = some (.int 40 t)
structure XGl (K : PySem.W.Frag) (mg : Str → Option Value) : Prop where
  k_PlanError : ∃ D, mg "PlanError" = some (.ref D)
  k_BadStep : ∃ D, mg "BadStep" = some (.ref D)
  xa : ∀ y ∈ (["BadStep"] : List Str), ∀ C, mg y = some (.ref C) → ExcA K C
  fld_word : ∀ y ∈ (["BadStep"] : List Str), ∀ C, mg y = some (.ref C) → PySem.W.findIn K (.ref C) "word" = some none
  hd_PlanError : ∀ D, mg "PlanError" = some (.ref D) → Caught K mg (.ref D) ["BadStep"] []
  tb_1_BadStep : ∀ D0, mg "BadStep" = some (.ref D0) → TabOk K mg ["BadStep"] [] fun C b => PySem.W.kitOne K (.ref C) (.ref D0) = some b
section
variable {P : Program} {w : World} {K : PySem.W.Frag} {mg : Str → Option Value} {base : Heap}
abbrev N_turned_bare : List Str := ["bare", ".0", "one", "other"]
noncomputable def B_turned_bare : SSm := (sRet (eTup (aConsE (eP (pOwn (p2 dIx (pVar 0) (pC (.int 0))))) (aConsE (eCall gTuple (aConsE (eCall gSorted (aConsE (eComp [1, 2, 3] (iSeq (eFz (eP (pOwn (p2 dIx (pVar 0) (pC (.int 1))))))) (gTu 2 (gsCons (gNm 2) (gsCons (gNm 3) gsNil))) yesT (eP (pTup (aCons (pVar 3) (aCons (pVar 2) aNil))))) aNilE)) aNilE)) aNilE))))
noncomputable def F_turned_bare : FSm := fnF (pinP [0]) 1 3 B_turned_bare
theorem sc_turned_bare : FnScope N_turned_bare ["bare"] (fnScope (top 8)) := fnScope_by (by decide +kernel)
theorem ok_turned_bare {f : Addr} {fd : FuncData} (T : Glo mg) (D : Def K mg "turned_bare" (top 8) f fd)  : FnOk P w K mg base C8.CX0 2 f fd ["bare"] (Prom K F_turned_bare) := by
  have S := sc_turned_bare
  refine fnok_of D.fn S rfl fun cdv A outer s H E hr => ?_
  obtain ⟨u0, u1, u64, u65⟩ := units_of hr
  exact (ds_one (ds_ret (de_tup (da_cons (de_pure (db_own (db_ix u1 (db_var 0 (pe_var (i := 0) rfl (Or.inl rfl))) (db_any db_int) fun _ _ => rfl))) (da_cons (de_callTy (c_tuple) rfl T.n_tuple rfl (da_cons (de_callB (c_sorted u65) rfl T.n_sorted rfl (da_cons (de_comp (own := [(".0", 1), ("one", 2), ("other", 3)]) rfl S.nd (di_seq (de_fz (de_pure (db_own (db_ix u1 (db_var 0 (pe_var (i := 0) rfl (Or.inl rfl))) (db_any db_int) fun _ _ => rfl))))) (blkOk_by (own := [(".0", 1), ("one", 2), ("other", 3)]) (N := N_turned_bare) (sc := (fnScope (top 8))) (by decide +kernel)) (fun _ _ _ _ _ => (dg_tup rfl (dgs_cons (dg_name (i := 2) S.nd rfl (Or.inl rfl) rfl) (dgs_cons (dg_name (i := 3) S.nd rfl (Or.inl rfl) rfl) dgs_nil)))) (fun _ _ _ _ _ => pts_yes) (fun _ _ _ _ _ => (de_pure (db_tup (dap_cons (db_var 3 (pe_var (i := 3) rfl (Or.inl rfl))) (dap_cons (db_var 2 (pe_var (i := 2) rfl (Or.inl rfl))) dap_nil)))))) da_nil)) da_nil)) da_nil)))))
abbrev N__law_draws : List Str := ["script", "salt", "many", "cell", "rest", "mixed", "draws", "k"]
noncomputable def B__law_draws : SSm := (sSeq (sAsg (eFz (eIf (tP (p2t dGt (pCall gLen (aCons (pVar 0) aNil)) (pC (.int 0)))) (eP (pOwn (p2 dIx (pVar 0) (p2 dMod (pCall gInt (aCons (pVar 1) aNil)) (pCall gLen (aCons (pVar 0) aNil)))))) (eMove 1))) (gNm 3))
  (sSeq (sAsg (eFz (eIf (tP (p2t dLtX (pVar 3) (pC (.int 0)))) (eP (p1 dNeg (pVar 3))) (eMove 3))) (gNm 3))
  (sSeq (sAsg (eFz (eIf (tP (p2t dGe (pVar 3) (p2 dPow (pC (.int 10)) (pC (.int 18))))) (eMove 3) (eP (pC (.int 0))))) (gNm 4))
  (sSeq (sAsg (eFz (eP (p2 dMod (pCall gInt (aCons (p2 dAdd (p2 dAdd (p2 dMu (pVar 3) (pC (.int 69621))) (p2 dMu (pVar 1) (pC (.int 6151)))) (pC (.int 1))) aNil)) (pC (.int 2147483587))))) (gNm 5))
  (sSeq (sAsg (eLst aNilE) (gNm 6))
  (sSeq (sFor (iRange1 (aConsE (eMove 2) aNilE)) (gNm 7) (sSeq (sAsg (eFz (eP (p2 dMod (pCall gInt (aCons (p2 dAdd (p2 dAdd (p2 dMu (pVar 5) (pC (.int 41358))) (pVar 7)) (pC (.int 1))) aNil)) (pC (.int 2147483587))))) (gNm 5))
  (sIf (tP (p2t dGt (pVar 4) (pC (.int 0)))) (sSeq (sExpr (eMeth 6 "list" mAppend (aConsE (eP (p2 dMod (pCall gInt (aCons (pVar 4) aNil)) (pC (.int 10007)))) aNilE)))
  (sAsg (eFz (eP (p2 dDiv (pVar 4) (pC (.int 10007))))) (gNm 4))) (sExpr (eMeth 6 "list" mAppend (aConsE (eP (p2 dDiv (pVar 5) (pC (.int 32768)))) aNilE))))))
  (sRet (eMove 6))))))))
noncomputable def F__law_draws : FSm := fnF (pinP [0, 1, 2]) 3 5 B__law_draws
theorem sc__law_draws : FnScope N__law_draws ["script", "salt", "many"] (fnScope (top 10)) := fnScope_by (by decide +kernel)
theorem ok__law_draws {f : Addr} {fd : FuncData} (T : Glo mg) (D : Def K mg "_law_draws" (top 10) f fd)  : FnOk P w K mg base C8.CX0 2 f fd ["script", "salt", "many"] (Prom K F__law_draws) := by
  have S := sc__law_draws
  refine fnok_of D.fn S rfl fun cdv A outer s H E hr => ?_
  obtain ⟨u0, u1, u64, u65⟩ := units_of hr
  exact (ds_cons (ds_set (i := 3) S.nd rfl (Or.inl rfl) rfl (de_fz (de_if (dt_pure (dtp_cmp o_gt (db_any (db_callB (c_len) rfl T.n_len rfl (dap_cons (db_var 0 (pe_var (i := 0) rfl (Or.inl rfl))) dap_nil))) (db_any db_int) rfl)) (de_pure (db_own (db_ix u1 (db_var 0 (pe_var (i := 0) rfl (Or.inl rfl))) (db_any (db_op o_mod (db_any (db_callTy (c_int) rfl T.n_int rfl (dap_cons (db_var 1 (pe_var (i := 1) rfl (Or.inl rfl))) dap_nil))) (db_any (db_callB (c_len) rfl T.n_len rfl (dap_cons (db_var 0 (pe_var (i := 0) rfl (Or.inl rfl))) dap_nil))))) fun _ _ => rfl))) (de_move 1 (pe_var (i := 1) rfl (Or.inl rfl))))))
  (ds_cons (ds_set (i := 3) S.nd rfl (Or.inl rfl) rfl (de_fz (de_if (dt_pure (dtp_cmp (o_ltX u0) (db_var 3 (pe_var (i := 3) rfl (Or.inl rfl))) (db_any db_int) rfl)) (de_pure (db_neg (db_var 3 (pe_var (i := 3) rfl (Or.inl rfl))))) (de_move 3 (pe_var (i := 3) rfl (Or.inl rfl))))))
  (ds_cons (ds_set (i := 4) S.nd rfl (Or.inl rfl) rfl (de_fz (de_if (dt_pure (dtp_cmp o_ge (db_var 3 (pe_var (i := 3) rfl (Or.inl rfl))) (db_any (db_op o_pow (db_any db_int) (db_any db_int))) rfl)) (de_move 3 (pe_var (i := 3) rfl (Or.inl rfl))) (de_pure db_int))))
  (ds_cons (ds_set (i := 5) S.nd rfl (Or.inl rfl) rfl (de_fz (de_pure (db_op o_mod (db_any (db_callTy (c_int) rfl T.n_int rfl (dap_cons (db_any (db_op o_add (db_any (db_op o_add (db_any (db_op o_mul (db_var 3 (pe_var (i := 3) rfl (Or.inl rfl))) (db_any db_int))) (db_any (db_op o_mul (db_var 1 (pe_var (i := 1) rfl (Or.inl rfl))) (db_any db_int))))) (db_any db_int))) dap_nil))) (db_any db_int)))))
  (ds_cons (ds_set (i := 6) S.nd rfl (Or.inl rfl) rfl (de_lst da_nil))
  (ds_cons (ds_for PassesOwn.never rfl (di_range1 rfl T.n_range (da_cons (de_move 2 (pe_var (i := 2) rfl (Or.inl rfl))) da_nil)) (dg_name (i := 7) S.nd rfl (Or.inl rfl) rfl) (ds_cons (ds_set (i := 5) S.nd rfl (Or.inl rfl) rfl (de_fz (de_pure (db_op o_mod (db_any (db_callTy (c_int) rfl T.n_int rfl (dap_cons (db_any (db_op o_add (db_any (db_op o_add (db_any (db_op o_mul (db_var 5 (pe_var (i := 5) rfl (Or.inl rfl))) (db_any db_int))) (db_var 7 (pe_var (i := 7) rfl (Or.inl rfl))))) (db_any db_int))) dap_nil))) (db_any db_int)))))
  (ds_one (ds_if (dt_pure (dtp_cmp o_gt (db_var 4 (pe_var (i := 4) rfl (Or.inl rfl))) (db_any db_int) rfl)) (ds_cons (ds_expr (de_meth F.plainAttrs_list F.slot_list_append F.type_list_append m_append (pe_var (i := 6) rfl (Or.inl rfl)) (da_cons (de_pure (db_op o_mod (db_any (db_callTy (c_int) rfl T.n_int rfl (dap_cons (db_var 4 (pe_var (i := 4) rfl (Or.inl rfl))) dap_nil))) (db_any db_int))) da_nil)))
  (ds_one (ds_set (i := 4) S.nd rfl (Or.inl rfl) rfl (de_fz (de_pure (db_op o_div (db_var 4 (pe_var (i := 4) rfl (Or.inl rfl))) (db_any db_int))))))) (ds_one (ds_expr (de_meth F.plainAttrs_list F.slot_list_append F.type_list_append m_append (pe_var (i := 6) rfl (Or.inl rfl)) (da_cons (de_pure (db_op o_div (db_var 5 (pe_var (i := 5) rfl (Or.inl rfl))) (db_any db_int))) da_nil))))))))
  (ds_one (ds_ret (de_move 6 (pe_var (i := 6) rfl (Or.inl rfl)))))))))))
abbrev N__law_names : List Str := ["draws", "many", "names", "k", "pick", "head", "part", "tails", "name"]
noncomputable def B__law_names : SSm := (sSeq (sAsg (eLst aNilE) (gNm 2))
  (sSeq (sFor (iRange1 (aConsE (eMove 1) aNilE)) (gNm 3) (sSeq (sAsg (eFz (eP (pOwn (p2 dIx (pVar 0) (p2 dMod (pCall gInt (aCons (pVar 3) aNil)) (pCall gLen (aCons (pVar 0) aNil))))))) (gNm 4))
  (sSeq (sAsg (eFz (eP (pOwn (p2 dIx (pC (.str "abcdefghijklmnopqrstuvwxyz")) (p2 dMod (pCall gInt (aCons (pVar 4) aNil)) (pC (.int 26))))))) (gNm 5))
  (sSeq (sAsg (eFz (eP (p2 dDiv (pVar 4) (pC (.int 26))))) (gNm 6))
  (sSeq (sAsg (eFz (eLst (aConsE (eP (pC (.str ""))) (aConsE (eP (pC (.str ""))) (aConsE (eP (pC (.str "1"))) (aConsE (eP (pC (.str "a"))) (aConsE (eP (pC (.str "9z"))) (aConsE (eP (pSl (pC (.str "bcdefgh")) oNo (oSome (p2 dMod (pCall gInt (aCons (pVar 6) aNil)) (pC (.int 8)))))) (aConsE (eP (pCall gStr (aCons (p2 dMod (pCall gInt (aCons (pVar 6) aNil)) (pC (.int 100))) aNil))) (aConsE (eP (pC (.str "aa"))) aNilE)))))))))) (gNm 7))
  (sSeq (sAsg (eFz (eP (p2 dAdd (pVar 5) (p2 dIx (pVar 7) (p2 dMod (pCall gInt (aCons (p2 dDiv (pVar 6) (pC (.int 8))) aNil)) (pC (.int 8))))))) (gNm 8))
  (sSeq (sIf (tP (p2t dIn (pVar 8) (pVar 2))) (sAsg (eFz (eP (p2 dAdd (pVar 5) (pCall gStr (aCons (p2 dAdd (pC (.int 100)) (pVar 3)) aNil))))) (gNm 8)) sNil)
  (sExpr (eMeth 2 "list" mAppend (aConsE (eMove 8) aNilE))))))))))
  (sRet (eMove 2))))
noncomputable def F__law_names : FSm := fnF (pinP [0, 1]) 2 7 B__law_names
theorem sc__law_names : FnScope N__law_names ["draws", "many"] (fnScope (top 11)) := fnScope_by (by decide +kernel)
theorem ok__law_names {f : Addr} {fd : FuncData} (T : Glo mg) (D : Def K mg "_law_names" (top 11) f fd)  : FnOk P w K mg base C8.CX0 2 f fd ["draws", "many"] (Prom K F__law_names) := by
  have S := sc__law_names
  refine fnok_of D.fn S rfl fun cdv A outer s H E hr => ?_
  obtain ⟨u0, u1, u64, u65⟩ := units_of hr
  exact (ds_cons (ds_set (i := 2) S.nd rfl (Or.inl rfl) rfl (de_lst da_nil))
  (ds_cons (ds_for PassesOwn.never rfl (di_range1 rfl T.n_range (da_cons (de_move 1 (pe_var (i := 1) rfl (Or.inl rfl))) da_nil)) (dg_name (i := 3) S.nd rfl (Or.inl rfl) rfl) (ds_cons (ds_set (i := 4) S.nd rfl (Or.inl rfl) rfl (de_fz (de_pure (db_own (db_ix u1 (db_var 0 (pe_var (i := 0) rfl (Or.inl rfl))) (db_any (db_op o_mod (db_any (db_callTy (c_int) rfl T.n_int rfl (dap_cons (db_var 3 (pe_var (i := 3) rfl (Or.inl rfl))) dap_nil))) (db_any (db_callB (c_len) rfl T.n_len rfl (dap_cons (db_var 0 (pe_var (i := 0) rfl (Or.inl rfl))) dap_nil))))) fun _ _ => rfl)))))
  (ds_cons (ds_set (i := 5) S.nd rfl (Or.inl rfl) rfl (de_fz (de_pure (db_own (db_ix u1 (db_any db_str) (db_any (db_op o_mod (db_any (db_callTy (c_int) rfl T.n_int rfl (dap_cons (db_var 4 (pe_var (i := 4) rfl (Or.inl rfl))) dap_nil))) (db_any db_int))) fun _ _ => rfl)))))
  (ds_cons (ds_set (i := 6) S.nd rfl (Or.inl rfl) rfl (de_fz (de_pure (db_op o_div (db_var 4 (pe_var (i := 4) rfl (Or.inl rfl))) (db_any db_int)))))
  (ds_cons (ds_set (i := 7) S.nd rfl (Or.inl rfl) rfl (de_fz (de_lst (da_cons (de_pure db_str) (da_cons (de_pure db_str) (da_cons (de_pure db_str) (da_cons (de_pure db_str) (da_cons (de_pure db_str) (da_cons (de_pure (db_sl (db_any db_str) dpo_none (dpo_some (db_any (db_op o_mod (db_any (db_callTy (c_int) rfl T.n_int rfl (dap_cons (db_var 6 (pe_var (i := 6) rfl (Or.inl rfl))) dap_nil))) (db_any db_int)))))) (da_cons (de_pure (db_callTy (c_str) rfl T.n_str rfl (dap_cons (db_any (db_op o_mod (db_any (db_callTy (c_int) rfl T.n_int rfl (dap_cons (db_var 6 (pe_var (i := 6) rfl (Or.inl rfl))) dap_nil))) (db_any db_int))) dap_nil))) (da_cons (de_pure db_str) da_nil)))))))))))
  (ds_cons (ds_set (i := 8) S.nd rfl (Or.inl rfl) rfl (de_fz (de_pure (db_op o_add (db_var 5 (pe_var (i := 5) rfl (Or.inl rfl))) (db_ix u1 (db_var 7 (pe_var (i := 7) rfl (Or.inl rfl))) (db_any (db_op o_mod (db_any (db_callTy (c_int) rfl T.n_int rfl (dap_cons (db_any (db_op o_div (db_var 6 (pe_var (i := 6) rfl (Or.inl rfl))) (db_any db_int))) dap_nil))) (db_any db_int))) fun _ _ => rfl)))))
  (ds_cons (ds_if (dt_pure (dtp_cmp (o_in u65) (db_var 8 (pe_var (i := 8) rfl (Or.inl rfl))) (db_var 2 (pe_var (i := 2) rfl (Or.inl rfl))) rfl)) (ds_one (ds_set (i := 8) S.nd rfl (Or.inl rfl) rfl (de_fz (de_pure (db_op o_add (db_var 5 (pe_var (i := 5) rfl (Or.inl rfl))) (db_any (db_callTy (c_str) rfl T.n_str rfl (dap_cons (db_any (db_op o_add (db_any db_int) (db_var 3 (pe_var (i := 3) rfl (Or.inl rfl))))) dap_nil)))))))) ds_nil)
  (ds_one (ds_expr (de_meth F.plainAttrs_list F.slot_list_append F.type_list_append m_append (pe_var (i := 2) rfl (Or.inl rfl)) (da_cons (de_move 8 (pe_var (i := 8) rfl (Or.inl rfl))) da_nil)))))))))))
  (ds_one (ds_ret (de_move 2 (pe_var (i := 2) rfl (Or.inl rfl)))))))
abbrev N__law_links : List Str := ["draws", "names", "often", "links", "at", "k", "j"]
noncomputable def B__law_links : SSm := (sSeq (sAsg (eLst aNilE) (gNm 3))
  (sSeq (sAsg (eP (pC (.int 0))) (gNm 4))
  (sSeq (sFor (iRange1 (aConsE (eP (pCall gLen (aCons (pVar 1) aNil))) aNilE)) (gNm 5) (sFor (iRange1 (aConsE (eMove 5) aNilE)) (gNm 6) (sSeq (sIf (tP (p2t dLtX (p2 dMod (pCall gInt (aCons (p2 dIx (pVar 0) (p2 dMod (pCall gInt (aCons (pVar 4) aNil)) (pCall gLen (aCons (pVar 0) aNil)))) aNil)) (pC (.int 16))) (pVar 2))) (sExpr (eMeth 3 "list" mAppend (aConsE (eP (pTup (aCons (p2 dIx (pVar 1) (pVar 6)) (aCons (p2 dIx (pVar 1) (pVar 5)) aNil)))) aNilE))) sNil)
  (sAug 4 (fun a b => a + b) (eP (pC (.int 1)))))))
  (sRet (eMove 3)))))
noncomputable def F__law_links : FSm := fnF (pinP [0, 1, 2]) 3 4 B__law_links
theorem sc__law_links : FnScope N__law_links ["draws", "names", "often"] (fnScope (top 12)) := fnScope_by (by decide +kernel)
theorem ok__law_links {f : Addr} {fd : FuncData} (T : Glo mg) (D : Def K mg "_law_links" (top 12) f fd)  : FnOk P w K mg base C8.CX0 2 f fd ["draws", "names", "often"] (Prom K F__law_links) := by
  have S := sc__law_links
  refine fnok_of D.fn S rfl fun cdv A outer s H E hr => ?_
  obtain ⟨u0, u1, u64, u65⟩ := units_of hr
  exact (ds_cons (ds_set (i := 3) S.nd rfl (Or.inl rfl) rfl (de_lst da_nil))
  (ds_cons (ds_set (i := 4) S.nd rfl (Or.inl rfl) rfl (de_pure db_int))
  (ds_cons (ds_for PassesOwn.never rfl (di_range1 rfl T.n_range (da_cons (de_pure (db_callB (c_len) rfl T.n_len rfl (dap_cons (db_var 1 (pe_var (i := 1) rfl (Or.inl rfl))) dap_nil))) da_nil)) (dg_name (i := 5) S.nd rfl (Or.inl rfl) rfl) (ds_one (ds_for PassesOwn.never rfl (di_range1 rfl T.n_range (da_cons (de_move 5 (pe_var (i := 5) rfl (Or.inl rfl))) da_nil)) (dg_name (i := 6) S.nd rfl (Or.inl rfl) rfl) (ds_cons (ds_if (dt_pure (dtp_cmp (o_ltX u0) (db_any (db_op o_mod (db_any (db_callTy (c_int) rfl T.n_int rfl (dap_cons (db_ix u1 (db_var 0 (pe_var (i := 0) rfl (Or.inl rfl))) (db_any (db_op o_mod (db_any (db_callTy (c_int) rfl T.n_int rfl (dap_cons (db_var 4 (pe_var (i := 4) rfl (Or.inl rfl))) dap_nil))) (db_any (db_callB (c_len) rfl T.n_len rfl (dap_cons (db_var 0 (pe_var (i := 0) rfl (Or.inl rfl))) dap_nil))))) fun _ _ => rfl) dap_nil))) (db_any db_int))) (db_var 2 (pe_var (i := 2) rfl (Or.inl rfl))) rfl)) (ds_one (ds_expr (de_meth F.plainAttrs_list F.slot_list_append F.type_list_append m_append (pe_var (i := 3) rfl (Or.inl rfl)) (da_cons (de_pure (db_tup (dap_cons (db_ix u1 (db_var 1 (pe_var (i := 1) rfl (Or.inl rfl))) (db_var 6 (pe_var (i := 6) rfl (Or.inl rfl))) fun _ _ => rfl) (dap_cons (db_ix u1 (db_var 1 (pe_var (i := 1) rfl (Or.inl rfl))) (db_var 5 (pe_var (i := 5) rfl (Or.inl rfl))) fun _ _ => rfl) dap_nil)))) da_nil)))) ds_nil)
  (ds_one (ds_aug (i := 4) S.nd rfl (Or.inl rfl) rfl ip_add (de_pure db_int)))))))
  (ds_one (ds_ret (de_move 3 (pe_var (i := 3) rfl (Or.inl rfl))))))))
abbrev N__law_layers : List Str := ["draws", "names", "most", "links", "rows", "at", "k", "wide", "j", "pair"]
noncomputable def B__law_layers : SSm := (sSeq (sAsg (eLst aNilE) (gNm 3))
  (sSeq (sAsg (eLst aNilE) (gNm 4))
  (sSeq (sAsg (eP (pC (.int 0))) (gNm 5))
  (sSeq (sFor (iRange1 (aConsE (eP (pCall gLen (aCons (pVar 1) aNil))) aNilE)) (gNm 6) (sSeq (sIf (tP (p2t dGe (pVar 5) (pCall gLen (aCons (pVar 1) aNil)))) sBk sNil)
  (sSeq (sAsg (eFz (eP (p2 dAdd (pC (.int 1)) (p2 dMod (pCall gInt (aCons (p2 dIx (pVar 0) (p2 dMod (pCall gInt (aCons (pVar 6) aNil)) (pCall gLen (aCons (pVar 0) aNil)))) aNil)) (pVar 2))))) (gNm 7))
  (sSeq (sExpr (eMeth 4 "list" mAppend (aConsE (eP (pSl (pVar 1) (oSome (pVar 5)) (oSome (p2 dAdd (pVar 5) (pVar 7))))) aNilE)))
  (sAug 5 (fun a b => a + b) (eMove 7))))))
  (sSeq (sFor (iRange2 (aConsE (eP (pC (.int 1))) (aConsE (eP (pCall gLen (aCons (pVar 4) aNil))) aNilE))) (gNm 6) (sFor (iRange1 (aConsE (eP (p2 dMu (pCall gLen (aCons (p2 dIx (pVar 4) (p2 dSub (pVar 6) (pC (.int 1)))) aNil)) (pCall gLen (aCons (p2 dIx (pVar 4) (pVar 6)) aNil)))) aNilE)) (gNm 8) (sSeq (sAsg (eP (pTup (aCons (p2 dIx (p2 dIx (pVar 4) (p2 dSub (pVar 6) (pC (.int 1)))) (p2 dDiv (pVar 8) (pCall gLen (aCons (p2 dIx (pVar 4) (pVar 6)) aNil)))) (aCons (p2 dIx (p2 dIx (pVar 4) (pVar 6)) (p2 dMod (pCall gInt (aCons (pVar 8) aNil)) (pCall gLen (aCons (p2 dIx (pVar 4) (pVar 6)) aNil)))) aNil)))) (gNm 9))
  (sIf (tAnd2 (tP (p2t dGt (p2 dMod (pCall gInt (aCons (p2 dIx (pVar 0) (p2 dMod (pCall gInt (aCons (p2 dAdd (p2 dMu (pC (.int 7)) (pVar 6)) (pVar 8)) aNil)) (pCall gLen (aCons (pVar 0) aNil)))) aNil)) (pC (.int 5))) (pC (.int 0)))) (tP (p2t dLtX (pCall gLen (aCons (pVar 3) aNil)) (pC (.int 200))))) (sExpr (eMeth 3 "list" mAppend (aConsE (eMove 9) aNilE))) sNil))))
  (sRet (eMove 3)))))))
noncomputable def F__law_layers : FSm := fnF (pinP [0, 1, 2]) 3 7 B__law_layers
theorem sc__law_layers : FnScope N__law_layers ["draws", "names", "most"] (fnScope (top 13)) := fnScope_by (by decide +kernel)
theorem ok__law_layers {f : Addr} {fd : FuncData} (T : Glo mg) (D : Def K mg "_law_layers" (top 13) f fd)  : FnOk P w K mg base C8.CX0 2 f fd ["draws", "names", "most"] (Prom K F__law_layers) := by
  have S := sc__law_layers
  refine fnok_of D.fn S rfl fun cdv A outer s H E hr => ?_
  obtain ⟨u0, u1, u64, u65⟩ := units_of hr
  exact (ds_cons (ds_set (i := 3) S.nd rfl (Or.inl rfl) rfl (de_lst da_nil))
  (ds_cons (ds_set (i := 4) S.nd rfl (Or.inl rfl) rfl (de_lst da_nil))
  (ds_cons (ds_set (i := 5) S.nd rfl (Or.inl rfl) rfl (de_pure db_int))
  (ds_cons (ds_for PassesOwn.never rfl (di_range1 rfl T.n_range (da_cons (de_pure (db_callB (c_len) rfl T.n_len rfl (dap_cons (db_var 1 (pe_var (i := 1) rfl (Or.inl rfl))) dap_nil))) da_nil)) (dg_name (i := 6) S.nd rfl (Or.inl rfl) rfl) (ds_cons (ds_if (dt_pure (dtp_cmp o_ge (db_var 5 (pe_var (i := 5) rfl (Or.inl rfl))) (db_any (db_callB (c_len) rfl T.n_len rfl (dap_cons (db_var 1 (pe_var (i := 1) rfl (Or.inl rfl))) dap_nil))) rfl)) (ds_one ds_break) ds_nil)
  (ds_cons (ds_set (i := 7) S.nd rfl (Or.inl rfl) rfl (de_fz (de_pure (db_op o_add (db_any db_int) (db_any (db_op o_mod (db_any (db_callTy (c_int) rfl T.n_int rfl (dap_cons (db_ix u1 (db_var 0 (pe_var (i := 0) rfl (Or.inl rfl))) (db_any (db_op o_mod (db_any (db_callTy (c_int) rfl T.n_int rfl (dap_cons (db_var 6 (pe_var (i := 6) rfl (Or.inl rfl))) dap_nil))) (db_any (db_callB (c_len) rfl T.n_len rfl (dap_cons (db_var 0 (pe_var (i := 0) rfl (Or.inl rfl))) dap_nil))))) fun _ _ => rfl) dap_nil))) (db_var 2 (pe_var (i := 2) rfl (Or.inl rfl)))))))))
  (ds_cons (ds_expr (de_meth F.plainAttrs_list F.slot_list_append F.type_list_append m_append (pe_var (i := 4) rfl (Or.inl rfl)) (da_cons (de_pure (db_sl (db_var 1 (pe_var (i := 1) rfl (Or.inl rfl))) (dpo_some (db_var 5 (pe_var (i := 5) rfl (Or.inl rfl)))) (dpo_some (db_any (db_op o_add (db_var 5 (pe_var (i := 5) rfl (Or.inl rfl))) (db_var 7 (pe_var (i := 7) rfl (Or.inl rfl)))))))) da_nil)))
  (ds_one (ds_aug (i := 5) S.nd rfl (Or.inl rfl) rfl ip_add (de_move 7 (pe_var (i := 7) rfl (Or.inl rfl)))))))))
  (ds_cons (ds_for PassesOwn.never rfl (di_range2 rfl T.n_range (da_cons (de_pure db_int) (da_cons (de_pure (db_callB (c_len) rfl T.n_len rfl (dap_cons (db_var 4 (pe_var (i := 4) rfl (Or.inl rfl))) dap_nil))) da_nil))) (dg_name (i := 6) S.nd rfl (Or.inl rfl) rfl) (ds_one (ds_for PassesOwn.never rfl (di_range1 rfl T.n_range (da_cons (de_pure (db_op o_mul (db_any (db_callB (c_len) rfl T.n_len rfl (dap_cons (db_ix u1 (db_var 4 (pe_var (i := 4) rfl (Or.inl rfl))) (db_any (db_op o_sub (db_var 6 (pe_var (i := 6) rfl (Or.inl rfl))) (db_any db_int))) fun _ _ => rfl) dap_nil))) (db_any (db_callB (c_len) rfl T.n_len rfl (dap_cons (db_ix u1 (db_var 4 (pe_var (i := 4) rfl (Or.inl rfl))) (db_var 6 (pe_var (i := 6) rfl (Or.inl rfl))) fun _ _ => rfl) dap_nil))))) da_nil)) (dg_name (i := 8) S.nd rfl (Or.inl rfl) rfl) (ds_cons (ds_set (i := 9) S.nd rfl (Or.inl rfl) rfl (de_pure (db_tup (dap_cons (db_ix u1 (db_ix u1 (db_var 4 (pe_var (i := 4) rfl (Or.inl rfl))) (db_any (db_op o_sub (db_var 6 (pe_var (i := 6) rfl (Or.inl rfl))) (db_any db_int))) fun _ _ => rfl) (db_any (db_op o_div (db_var 8 (pe_var (i := 8) rfl (Or.inl rfl))) (db_any (db_callB (c_len) rfl T.n_len rfl (dap_cons (db_ix u1 (db_var 4 (pe_var (i := 4) rfl (Or.inl rfl))) (db_var 6 (pe_var (i := 6) rfl (Or.inl rfl))) fun _ _ => rfl) dap_nil))))) fun _ _ => rfl) (dap_cons (db_ix u1 (db_ix u1 (db_var 4 (pe_var (i := 4) rfl (Or.inl rfl))) (db_var 6 (pe_var (i := 6) rfl (Or.inl rfl))) fun _ _ => rfl) (db_any (db_op o_mod (db_any (db_callTy (c_int) rfl T.n_int rfl (dap_cons (db_var 8 (pe_var (i := 8) rfl (Or.inl rfl))) dap_nil))) (db_any (db_callB (c_len) rfl T.n_len rfl (dap_cons (db_ix u1 (db_var 4 (pe_var (i := 4) rfl (Or.inl rfl))) (db_var 6 (pe_var (i := 6) rfl (Or.inl rfl))) fun _ _ => rfl) dap_nil))))) fun _ _ => rfl) dap_nil)))))
  (ds_one (ds_if (dt_w (dw_and (dt_pure (dtp_cmp o_gt (db_any (db_op o_mod (db_any (db_callTy (c_int) rfl T.n_int rfl (dap_cons (db_ix u1 (db_var 0 (pe_var (i := 0) rfl (Or.inl rfl))) (db_any (db_op o_mod (db_any (db_callTy (c_int) rfl T.n_int rfl (dap_cons (db_any (db_op o_add (db_any (db_op o_mul (db_any db_int) (db_var 6 (pe_var (i := 6) rfl (Or.inl rfl))))) (db_var 8 (pe_var (i := 8) rfl (Or.inl rfl))))) dap_nil))) (db_any (db_callB (c_len) rfl T.n_len rfl (dap_cons (db_var 0 (pe_var (i := 0) rfl (Or.inl rfl))) dap_nil))))) fun _ _ => rfl) dap_nil))) (db_any db_int))) (db_any db_int) rfl)) (dw_and1 (dt_pure (dtp_cmp (o_ltX u0) (db_any (db_callB (c_len) rfl T.n_len rfl (dap_cons (db_var 3 (pe_var (i := 3) rfl (Or.inl rfl))) dap_nil))) (db_any db_int) rfl))))) (ds_one (ds_expr (de_meth F.plainAttrs_list F.slot_list_append F.type_list_append m_append (pe_var (i := 3) rfl (Or.inl rfl)) (da_cons (de_move 9 (pe_var (i := 9) rfl (Or.inl rfl))) da_nil)))) ds_nil))))))
  (ds_one (ds_ret (de_move 3 (pe_var (i := 3) rfl (Or.inl rfl))))))))))
abbrev N__law_same : List Str := ["told", "due", "stack", "count", "left", "right", "k"]
noncomputable def B__law_same : SSm := (sSeq (sAsg (eLst (aConsE (eP (pTup (aCons (pVar 0) (aCons (pVar 1) aNil)))) aNilE)) (gNm 2))
  (sSeq (sFor (iRange1 (aConsE (eP (pC (.int 100000))) aNilE)) (gNm 3) (sSeq (sIf (tP (p2t dEq (pCall gLen (aCons (pVar 2) aNil)) (pC (.int 0)))) (sRet (eP (pC (.bl true)))) sNil)
  (sSeq (sAsg (eMeth 2 "list" mPop aNilE) (gTu 2 (gsCons (gNm 4) (gsCons (gNm 5) gsNil))))
  (sIf (tP (tTruP (pIsi "tuple" (pVar 5)))) (sSeq (sIf (tOr2 (tNo (tP (tTruP (pIsi "tuple" (pVar 4))))) (tP (p2t dNe (pCall gLen (aCons (pVar 4) aNil)) (pCall gLen (aCons (pVar 5) aNil))))) (sRet (eP (pC (.bl false)))) sNil)
  (sFor (iRange1 (aConsE (eP (pCall gLen (aCons (pVar 5) aNil))) aNilE)) (gNm 6) (sExpr (eMeth 2 "list" mAppend (aConsE (eP (pTup (aCons (p2 dIx (pVar 4) (pVar 6)) (aCons (p2 dIx (pVar 5) (pVar 6)) aNil)))) aNilE))))) (sIf (tP (p2t dIs (pVar 5) (pC .non))) (sIf (tP (p2t dIsNot (pVar 4) (pC .non))) (sRet (eP (pC (.bl false)))) sNil) (sIf (tP (tTruP (pIsi "bool" (pVar 5)))) (sIf (tOr2 (tNo (tP (tTruP (pIsi "bool" (pVar 4))))) (tP (p2t dNe (pVar 4) (pVar 5)))) (sRet (eP (pC (.bl false)))) sNil) (sIf (tP (tTruP (pIsi "int" (pVar 5)))) (sIf (tOr2 (tNo (tP (tTruP (pIsi "int" (pVar 4))))) (tOr2 (tP (tTruP (pIsi "bool" (pVar 4)))) (tP (p2t dNe (pVar 4) (pVar 5))))) (sRet (eP (pC (.bl false)))) sNil) (sIf (tOr2 (tNo (tP (tTruP (pIsi "str" (pVar 5))))) (tOr2 (tNo (tP (tTruP (pIsi "str" (pVar 4))))) (tP (p2t dNe (pVar 4) (pVar 5))))) (sRet (eP (pC (.bl false)))) sNil))))))))
  (sRet (eP (pC (.bl false))))))
noncomputable def F__law_same : FSm := fnF (pinP [0, 1]) 2 5 B__law_same
theorem sc__law_same : FnScope N__law_same ["told", "due"] (fnScope (top 14)) := fnScope_by (by decide +kernel)
theorem ok__law_same {f : Addr} {fd : FuncData} (T : Glo mg) (D : Def K mg "_law_same" (top 14) f fd)  : FnOk P w K mg base C8.CX0 2 f fd ["told", "due"] (Prom K F__law_same) := by
  have S := sc__law_same
  refine fnok_of D.fn S rfl fun cdv A outer s H E hr => ?_
  obtain ⟨u0, u1, u64, u65⟩ := units_of hr
  exact (ds_cons (ds_set (i := 2) S.nd rfl (Or.inl rfl) rfl (de_lst (da_cons (de_pure (db_tup (dap_cons (db_var 0 (pe_var (i := 0) rfl (Or.inl rfl))) (dap_cons (db_var 1 (pe_var (i := 1) rfl (Or.inl rfl))) dap_nil)))) da_nil)))
  (ds_cons (ds_for PassesOwn.never rfl (di_range1 rfl T.n_range (da_cons (de_pure db_int) da_nil)) (dg_name (i := 3) S.nd rfl (Or.inl rfl) rfl) (ds_cons (ds_if (dt_pure (dtp_cmp (o_eq u64) (db_any (db_callB (c_len) rfl T.n_len rfl (dap_cons (db_var 2 (pe_var (i := 2) rfl (Or.inl rfl))) dap_nil))) (db_any db_int) rfl)) (ds_one (ds_ret (de_pure db_bl))) ds_nil)
  (ds_cons (ds_asg (de_meth0 F.plainAttrs_list F.slot_list_pop F.type_list_pop m_pop (pe_var (i := 2) rfl (Or.inl rfl))) (dg_tup rfl (dgs_cons (dg_name (i := 4) S.nd rfl (Or.inl rfl) rfl) (dgs_cons (dg_name (i := 5) S.nd rfl (Or.inl rfl) rfl) dgs_nil))))
  (ds_one (ds_if (dt_pure (dtp_tru (db_any (db_isi (T := "tuple") rfl rfl T.n_isinstance rfl T.n_tuple rfl (db_var 5 (pe_var (i := 5) rfl (Or.inl rfl))))))) (ds_cons (ds_if (dt_w (dw_or (dt_not (dt_pure (dtp_tru (db_any (db_isi (T := "tuple") rfl rfl T.n_isinstance rfl T.n_tuple rfl (db_var 4 (pe_var (i := 4) rfl (Or.inl rfl)))))))) (dw_or1 (dt_pure (dtp_cmp (o_ne u64) (db_any (db_callB (c_len) rfl T.n_len rfl (dap_cons (db_var 4 (pe_var (i := 4) rfl (Or.inl rfl))) dap_nil))) (db_any (db_callB (c_len) rfl T.n_len rfl (dap_cons (db_var 5 (pe_var (i := 5) rfl (Or.inl rfl))) dap_nil))) rfl))))) (ds_one (ds_ret (de_pure db_bl))) ds_nil)
  (ds_one (ds_for PassesOwn.never rfl (di_range1 rfl T.n_range (da_cons (de_pure (db_callB (c_len) rfl T.n_len rfl (dap_cons (db_var 5 (pe_var (i := 5) rfl (Or.inl rfl))) dap_nil))) da_nil)) (dg_name (i := 6) S.nd rfl (Or.inl rfl) rfl) (ds_one (ds_expr (de_meth F.plainAttrs_list F.slot_list_append F.type_list_append m_append (pe_var (i := 2) rfl (Or.inl rfl)) (da_cons (de_pure (db_tup (dap_cons (db_ix u1 (db_var 4 (pe_var (i := 4) rfl (Or.inl rfl))) (db_var 6 (pe_var (i := 6) rfl (Or.inl rfl))) fun _ _ => rfl) (dap_cons (db_ix u1 (db_var 5 (pe_var (i := 5) rfl (Or.inl rfl))) (db_var 6 (pe_var (i := 6) rfl (Or.inl rfl))) fun _ _ => rfl) dap_nil)))) da_nil))))))) (ds_one (ds_if (dt_pure (dtp_cmp o_is (db_var 5 (pe_var (i := 5) rfl (Or.inl rfl))) (db_any db_non) rfl)) (ds_one (ds_if (dt_pure (dtp_cmp o_isnot (db_var 4 (pe_var (i := 4) rfl (Or.inl rfl))) (db_any db_non) rfl)) (ds_one (ds_ret (de_pure db_bl))) ds_nil)) (ds_one (ds_if (dt_pure (dtp_tru (db_any (db_isi (T := "bool") rfl rfl T.n_isinstance rfl T.n_bool rfl (db_var 5 (pe_var (i := 5) rfl (Or.inl rfl))))))) (ds_one (ds_if (dt_w (dw_or (dt_not (dt_pure (dtp_tru (db_any (db_isi (T := "bool") rfl rfl T.n_isinstance rfl T.n_bool rfl (db_var 4 (pe_var (i := 4) rfl (Or.inl rfl)))))))) (dw_or1 (dt_pure (dtp_cmp (o_ne u64) (db_var 4 (pe_var (i := 4) rfl (Or.inl rfl))) (db_var 5 (pe_var (i := 5) rfl (Or.inl rfl))) rfl))))) (ds_one (ds_ret (de_pure db_bl))) ds_nil)) (ds_one (ds_if (dt_pure (dtp_tru (db_any (db_isi (T := "int") rfl rfl T.n_isinstance rfl T.n_int rfl (db_var 5 (pe_var (i := 5) rfl (Or.inl rfl))))))) (ds_one (ds_if (dt_w (dw_or (dt_not (dt_pure (dtp_tru (db_any (db_isi (T := "int") rfl rfl T.n_isinstance rfl T.n_int rfl (db_var 4 (pe_var (i := 4) rfl (Or.inl rfl)))))))) (dw_or (dt_pure (dtp_tru (db_any (db_isi (T := "bool") rfl rfl T.n_isinstance rfl T.n_bool rfl (db_var 4 (pe_var (i := 4) rfl (Or.inl rfl))))))) (dw_or1 (dt_pure (dtp_cmp (o_ne u64) (db_var 4 (pe_var (i := 4) rfl (Or.inl rfl))) (db_var 5 (pe_var (i := 5) rfl (Or.inl rfl))) rfl)))))) (ds_one (ds_ret (de_pure db_bl))) ds_nil)) (ds_one (ds_if (dt_w (dw_or (dt_not (dt_pure (dtp_tru (db_any (db_isi (T := "str") rfl rfl T.n_isinstance rfl T.n_str rfl (db_var 5 (pe_var (i := 5) rfl (Or.inl rfl)))))))) (dw_or (dt_not (dt_pure (dtp_tru (db_any (db_isi (T := "str") rfl rfl T.n_isinstance rfl T.n_str rfl (db_var 4 (pe_var (i := 4) rfl (Or.inl rfl)))))))) (dw_or1 (dt_pure (dtp_cmp (o_ne u64) (db_var 4 (pe_var (i := 4) rfl (Or.inl rfl))) (db_var 5 (pe_var (i := 5) rfl (Or.inl rfl))) rfl)))))) (ds_one (ds_ret (de_pure db_bl))) ds_nil)))))))))))))
  (ds_one (ds_ret (de_pure db_bl)))))
theorem okH__law_same {f : Addr} {fd : FuncData} (T : Glo mg) (D : Def K mg "_law_same" (top 14) f fd)  : L2H.FnH P w K mg base C8.CX0 2 f fd ["told", "due"] (Prom K F__law_same) := by
  have S := sc__law_same
  refine fnokH_of D.fn S rfl fun cdv A outer s H E p hot hr => ?_
  obtain ⟨u0, u1, u64, u65⟩ := unitsH_of hr
  exact (ds_cons (ds_set (i := 2) S.nd rfl (Or.inl rfl) rfl (de_lst (da_cons (de_pure (db_tup (dap_cons (db_var 0 (pe_var (i := 0) rfl (Or.inl rfl))) (dap_cons (db_var 1 (pe_var (i := 1) rfl (Or.inl rfl))) dap_nil)))) da_nil)))
  (ds_cons (ds_forH PassesOwn.never hot (di_range1H rfl T.n_range (da_cons (de_pure db_int) da_nil)) (dg_name (i := 3) S.nd rfl (Or.inl rfl) rfl) (ds_cons (ds_if (dt_pure (dtp_cmp (o_eq u64) (db_any (db_callB (c_len) rfl T.n_len rfl (dap_cons (db_var 2 (pe_var (i := 2) rfl (Or.inl rfl))) dap_nil))) (db_any db_int) rfl)) (ds_one (ds_ret (de_pure db_bl))) ds_nil)
  (ds_cons (ds_asg (de_meth0 F.plainAttrs_list F.slot_list_pop F.type_list_pop m_pop (pe_var (i := 2) rfl (Or.inl rfl))) (dg_tupH hot (dgs_cons (dg_name (i := 4) S.nd rfl (Or.inl rfl) rfl) (dgs_cons (dg_name (i := 5) S.nd rfl (Or.inl rfl) rfl) dgs_nil))))
  (ds_one (ds_if (dt_pure (dtp_tru (db_any (db_isi (T := "tuple") rfl rfl T.n_isinstance rfl T.n_tuple rfl (db_var 5 (pe_var (i := 5) rfl (Or.inl rfl))))))) (ds_cons (ds_if (dt_w (dw_or (dt_not (dt_pure (dtp_tru (db_any (db_isi (T := "tuple") rfl rfl T.n_isinstance rfl T.n_tuple rfl (db_var 4 (pe_var (i := 4) rfl (Or.inl rfl)))))))) (dw_or1 (dt_pure (dtp_cmp (o_ne u64) (db_any (db_callB (c_len) rfl T.n_len rfl (dap_cons (db_var 4 (pe_var (i := 4) rfl (Or.inl rfl))) dap_nil))) (db_any (db_callB (c_len) rfl T.n_len rfl (dap_cons (db_var 5 (pe_var (i := 5) rfl (Or.inl rfl))) dap_nil))) rfl))))) (ds_one (ds_ret (de_pure db_bl))) ds_nil)
  (ds_one (ds_forH PassesOwn.never hot (di_range1H rfl T.n_range (da_cons (de_pure (db_callB (c_len) rfl T.n_len rfl (dap_cons (db_var 5 (pe_var (i := 5) rfl (Or.inl rfl))) dap_nil))) da_nil)) (dg_name (i := 6) S.nd rfl (Or.inl rfl) rfl) (ds_one (ds_expr (de_meth F.plainAttrs_list F.slot_list_append F.type_list_append m_append (pe_var (i := 2) rfl (Or.inl rfl)) (da_cons (de_pure (db_tup (dap_cons (db_ix u1 (db_var 4 (pe_var (i := 4) rfl (Or.inl rfl))) (db_var 6 (pe_var (i := 6) rfl (Or.inl rfl))) fun _ _ => rfl) (dap_cons (db_ix u1 (db_var 5 (pe_var (i := 5) rfl (Or.inl rfl))) (db_var 6 (pe_var (i := 6) rfl (Or.inl rfl))) fun _ _ => rfl) dap_nil)))) da_nil))))))) (ds_one (ds_if (dt_pure (dtp_cmp o_is (db_var 5 (pe_var (i := 5) rfl (Or.inl rfl))) (db_any db_non) rfl)) (ds_one (ds_if (dt_pure (dtp_cmp o_isnot (db_var 4 (pe_var (i := 4) rfl (Or.inl rfl))) (db_any db_non) rfl)) (ds_one (ds_ret (de_pure db_bl))) ds_nil)) (ds_one (ds_if (dt_pure (dtp_tru (db_any (db_isi (T := "bool") rfl rfl T.n_isinstance rfl T.n_bool rfl (db_var 5 (pe_var (i := 5) rfl (Or.inl rfl))))))) (ds_one (ds_if (dt_w (dw_or (dt_not (dt_pure (dtp_tru (db_any (db_isi (T := "bool") rfl rfl T.n_isinstance rfl T.n_bool rfl (db_var 4 (pe_var (i := 4) rfl (Or.inl rfl)))))))) (dw_or1 (dt_pure (dtp_cmp (o_ne u64) (db_var 4 (pe_var (i := 4) rfl (Or.inl rfl))) (db_var 5 (pe_var (i := 5) rfl (Or.inl rfl))) rfl))))) (ds_one (ds_ret (de_pure db_bl))) ds_nil)) (ds_one (ds_if (dt_pure (dtp_tru (db_any (db_isi (T := "int") rfl rfl T.n_isinstance rfl T.n_int rfl (db_var 5 (pe_var (i := 5) rfl (Or.inl rfl))))))) (ds_one (ds_if (dt_w (dw_or (dt_not (dt_pure (dtp_tru (db_any (db_isi (T := "int") rfl rfl T.n_isinstance rfl T.n_int rfl (db_var 4 (pe_var (i := 4) rfl (Or.inl rfl)))))))) (dw_or (dt_pure (dtp_tru (db_any (db_isi (T := "bool") rfl rfl T.n_isinstance rfl T.n_bool rfl (db_var 4 (pe_var (i := 4) rfl (Or.inl rfl))))))) (dw_or1 (dt_pure (dtp_cmp (o_ne u64) (db_var 4 (pe_var (i := 4) rfl (Or.inl rfl))) (db_var 5 (pe_var (i := 5) rfl (Or.inl rfl))) rfl)))))) (ds_one (ds_ret (de_pure db_bl))) ds_nil)) (ds_one (ds_if (dt_w (dw_or (dt_not (dt_pure (dtp_tru (db_any (db_isi (T := "str") rfl rfl T.n_isinstance rfl T.n_str rfl (db_var 5 (pe_var (i := 5) rfl (Or.inl rfl)))))))) (dw_or (dt_not (dt_pure (dtp_tru (db_any (db_isi (T := "str") rfl rfl T.n_isinstance rfl T.n_str rfl (db_var 4 (pe_var (i := 4) rfl (Or.inl rfl)))))))) (dw_or1 (dt_pure (dtp_cmp (o_ne u64) (db_var 4 (pe_var (i := 4) rfl (Or.inl rfl))) (db_var 5 (pe_var (i := 5) rfl (Or.inl rfl))) rfl)))))) (ds_one (ds_ret (de_pure db_bl))) ds_nil)))))))))))))
  (ds_one (ds_ret (de_pure db_bl)))))
abbrev N__law_word : List Str := ["one", "other", ".0", "name"]
noncomputable def B__law_word : SSm := (sSeq (sIf (tP (p2t dGt (p2 dAdd (pCall gLen (aCons (p2 dIx (pVar 0) (pC (.int 0))) aNil)) (pCall gLen (aCons (p2 dIx (pVar 1) (pC (.int 0))) aNil))) (pC (.int 40)))) (sRet (eP (pC (.str "full")))) sNil)
  (sRet (eIf (e2t dGt (eCall gLen (aConsE (eComp [2, 3] (iSeq (eFz (eP (pOwn (p2 dIx (pVar 1) (pC (.int 0))))))) (gNm 3) (tP (p2t dIn (pVar 3) (p2 dIx (pVar 0) (pC (.int 0))))) (eMove 3)) aNilE)) (eP (pC (.int 0)))) (eP (pC (.str "name"))) (eP (pC (.str ""))))))
noncomputable def F__law_word : FSm := fnF (pinP [0, 1]) 2 2 B__law_word
theorem sc__law_word : FnScope N__law_word ["one", "other"] (fnScope (top 16)) := fnScope_by (by decide +kernel)
theorem ok__law_word {f : Addr} {fd : FuncData} (T : Glo mg) (D : Def K mg "_law_word" (top 16) f fd)  : FnOk P w K mg base C8.CX0 2 f fd ["one", "other"] (Prom K F__law_word) := by
  have S := sc__law_word
  refine fnok_of D.fn S rfl fun cdv A outer s H E hr => ?_
  obtain ⟨u0, u1, u64, u65⟩ := units_of hr
  exact (ds_cons (ds_if (dt_pure (dtp_cmp o_gt (db_any (db_op o_add (db_any (db_callB (c_len) rfl T.n_len rfl (dap_cons (db_ix u1 (db_var 0 (pe_var (i := 0) rfl (Or.inr (Or.inl rfl)))) (db_any db_int) fun _ _ => rfl) dap_nil))) (db_any (db_callB (c_len) rfl T.n_len rfl (dap_cons (db_ix u1 (db_var 1 (pe_var (i := 1) rfl (Or.inl rfl))) (db_any db_int) fun _ _ => rfl) dap_nil))))) (db_any db_int) rfl)) (ds_one (ds_ret (de_pure db_str))) ds_nil)
  (ds_one (ds_ret (de_if (dt_cmp o_gt (de_callB (c_len) rfl T.n_len rfl (da_cons (de_comp (own := [(".0", 2), ("name", 3)]) rfl S.nd (di_seq (de_fz (de_pure (db_own (db_ix u1 (db_var 1 (pe_var (i := 1) rfl (Or.inl rfl))) (db_any db_int) fun _ _ => rfl))))) (blkOk_by (own := [(".0", 2), ("name", 3)]) (N := N__law_word) (sc := (fnScope (top 16))) (by decide +kernel)) (fun _ _ _ _ _ => (dg_name (i := 3) S.nd rfl (Or.inl rfl) rfl)) (fun _ _ _ _ _ => (DT.pts (dt_pure (dtp_cmp (o_in u65) (db_var 3 (pe_var (i := 3) rfl (Or.inl rfl))) (db_ix u1 (db_var 0 (pe_var (i := 0) rfl (Or.inr (Or.inl rfl)))) (db_any db_int) fun _ _ => rfl) rfl)))) (fun _ _ _ _ _ => (de_move 3 (pe_var (i := 3) rfl (Or.inl rfl))))) da_nil)) (de_pure db_int) rfl) (de_pure db_str) (de_pure db_str)))))
abbrev N__law_joined : List Str := ["one", "other", "behind", "links", "a", "b"]
noncomputable def B__law_joined : SSm := (sSeq (sAsg (eP (pCall gList (aCons (p2 dAdd (p2 dIx (pVar 0) (pC (.int 1))) (p2 dIx (pVar 1) (pC (.int 1)))) aNil))) (gNm 3))
  (sSeq (sIf (tP (tTruP (pVar 2))) (sFor (iSeq (eFz (eP (pOwn (p2 dIx (pVar 0) (pC (.int 0))))))) (gNm 4) (sFor (iSeq (eFz (eP (pOwn (p2 dIx (pVar 1) (pC (.int 0))))))) (gNm 5) (sExpr (eMeth 3 "list" mAppend (aConsE (eP (pTup (aCons (pVar 4) (aCons (pVar 5) aNil)))) aNilE))))) sNil)
  (sRet (eP (pTup (aCons (pCall gTuple (aCons (pCall gSortedT (aCons (p2 dAdd (p2 dIx (pVar 0) (pC (.int 0))) (p2 dIx (pVar 1) (pC (.int 0)))) aNil)) aNil)) (aCons (pCall gTuple (aCons (pCall gSortedT (aCons (pVar 3) aNil)) aNil)) aNil)))))))
noncomputable def F__law_joined : FSm := fnF (pinP [0, 1, 2]) 3 3 B__law_joined
theorem sc__law_joined : FnScope N__law_joined ["one", "other", "behind"] (fnScope (top 17)) := fnScope_by (by decide +kernel)
theorem ok__law_joined {f : Addr} {fd : FuncData} (T : Glo mg) (D : Def K mg "_law_joined" (top 17) f fd)  : FnOk P w K mg base C8.CX0 2 f fd ["one", "other", "behind"] (Prom K F__law_joined) := by
  have S := sc__law_joined
  refine fnok_of D.fn S rfl fun cdv A outer s H E hr => ?_
  obtain ⟨u0, u1, u64, u65⟩ := units_of hr
  exact (ds_cons (ds_set (i := 3) S.nd rfl (Or.inl rfl) rfl (de_pure (db_callTy (c_list) rfl T.n_list rfl (dap_cons (db_any (db_op o_add (db_ix u1 (db_var 0 (pe_var (i := 0) rfl (Or.inl rfl))) (db_any db_int) fun _ _ => rfl) (db_ix u1 (db_var 1 (pe_var (i := 1) rfl (Or.inl rfl))) (db_any db_int) fun _ _ => rfl))) dap_nil))))
  (ds_cons (ds_if (dt_pure (dtp_tru (db_var 2 (pe_var (i := 2) rfl (Or.inl rfl))))) (ds_one (ds_for PassesOwn.never rfl (di_seq (de_fz (de_pure (db_own (db_ix u1 (db_var 0 (pe_var (i := 0) rfl (Or.inl rfl))) (db_any db_int) fun _ _ => rfl))))) (dg_name (i := 4) S.nd rfl (Or.inl rfl) rfl) (ds_one (ds_for PassesOwn.never rfl (di_seq (de_fz (de_pure (db_own (db_ix u1 (db_var 1 (pe_var (i := 1) rfl (Or.inl rfl))) (db_any db_int) fun _ _ => rfl))))) (dg_name (i := 5) S.nd rfl (Or.inl rfl) rfl) (ds_one (ds_expr (de_meth F.plainAttrs_list F.slot_list_append F.type_list_append m_append (pe_var (i := 3) rfl (Or.inl rfl)) (da_cons (de_pure (db_tup (dap_cons (db_var 4 (pe_var (i := 4) rfl (Or.inl rfl))) (dap_cons (db_var 5 (pe_var (i := 5) rfl (Or.inl rfl))) dap_nil)))) da_nil)))))))) ds_nil)
  (ds_one (ds_ret (de_pure (db_tup (dap_cons (db_any (db_callTy (c_tuple) rfl T.n_tuple rfl (dap_cons (db_any (db_callB (c_sortedT u65) rfl T.n_sorted rfl (dap_cons (db_any (db_op o_add (db_ix u1 (db_var 0 (pe_var (i := 0) rfl (Or.inl rfl))) (db_any db_int) fun _ _ => rfl) (db_ix u1 (db_var 1 (pe_var (i := 1) rfl (Or.inl rfl))) (db_any db_int) fun _ _ => rfl))) dap_nil))) dap_nil))) (dap_cons (db_any (db_callTy (c_tuple) rfl T.n_tuple rfl (dap_cons (db_any (db_callB (c_sortedT u65) rfl T.n_sorted rfl (dap_cons (db_var 3 (pe_var (i := 3) rfl (Or.inl rfl))) dap_nil))) dap_nil))) dap_nil))))))))
abbrev N_beside_bare : List Str := ["one", "other", "name"]
noncomputable def B_beside_bare : SSm := (sSeq (sIf (tP (p2t dGt (p2 dAdd (pCall gLen (aCons (p2 dIx (pVar 0) (pC (.int 0))) aNil)) (pCall gLen (aCons (p2 dIx (pVar 1) (pC (.int 0))) aNil))) (pC (.int 40)))) (sRaise "BadStep" ["word"] (aConsE (eP (pC (.str "full"))) aNilE)) sNil)
  (sSeq (sFor (iSeq (eFz (eP (pOwn (p2 dIx (pVar 1) (pC (.int 0))))))) (gNm 2) (sIf (tP (p2t dIn (pVar 2) (p2 dIx (pVar 0) (pC (.int 0))))) (sRaise "BadStep" ["word"] (aConsE (eP (pC (.str "name"))) aNilE)) sNil))
  (sRet (eP (pTup (aCons (pCall gTuple (aCons (pCall gSortedT (aCons (p2 dAdd (p2 dIx (pVar 0) (pC (.int 0))) (p2 dIx (pVar 1) (pC (.int 0)))) aNil)) aNil)) (aCons (pCall gTuple (aCons (pCall gSortedT (aCons (p2 dAdd (p2 dIx (pVar 0) (pC (.int 1))) (p2 dIx (pVar 1) (pC (.int 1)))) aNil)) aNil)) aNil)))))))
noncomputable def F_beside_bare : FXm := fnX (pinP [0, 1]) 2 1 B_beside_bare
theorem sc_beside_bare : FnScope N_beside_bare ["one", "other"] (fnScope (top 6)) := fnScope_by (by decide +kernel)
theorem ok_beside_bare {f : Addr} {fd : FuncData} (T : Glo mg) (D : Def K mg "beside_bare" (top 6) f fd)  (e_BadStep : ExcK P w K mg base 1 "BadStep" ["word"]) : FnOk P w K mg base (L2N.CX P w) 3 f fd ["one", "other"] (PromX K mg F_beside_bare) := by
  have S := sc_beside_bare
  refine fnokX_of D.fn S rfl fun cdv A outer s H E hr => ?_
  obtain ⟨u0, u1, u64, u65⟩ := units_of hr
  exact (ds_cons (ds_if (dt_pure (dtp_cmp o_gt (db_any (db_op o_add (db_any (db_callB (c_len) rfl T.n_len rfl (dap_cons (db_ix u1 (db_var 0 (pe_var (i := 0) rfl (Or.inl rfl))) (db_any db_int) fun _ _ => rfl) dap_nil))) (db_any (db_callB (c_len) rfl T.n_len rfl (dap_cons (db_ix u1 (db_var 1 (pe_var (i := 1) rfl (Or.inl rfl))) (db_any db_int) fun _ _ => rfl) dap_nil))))) (db_any (db_gint rfl T.g_WORKS_MOST)) rfl)) (ds_one (ds_raise rfl e_BadStep hr (by decide) rfl (da_cons (de_pure db_str) da_nil))) ds_nil)
  (ds_cons (ds_for PassesOwn.leaving rfl (di_seq (de_fz (de_pure (db_own (db_ix u1 (db_var 1 (pe_var (i := 1) rfl (Or.inl rfl))) (db_any db_int) fun _ _ => rfl))))) (dg_name (i := 2) S.nd rfl (Or.inl rfl) rfl) (ds_one (ds_if (dt_pure (dtp_cmp (o_in u65) (db_var 2 (pe_var (i := 2) rfl (Or.inl rfl))) (db_ix u1 (db_var 0 (pe_var (i := 0) rfl (Or.inl rfl))) (db_any db_int) fun _ _ => rfl) rfl)) (ds_one (ds_raise rfl e_BadStep hr (by decide) rfl (da_cons (de_pure db_str) da_nil))) ds_nil)))
  (ds_one (ds_ret (de_pure (db_tup (dap_cons (db_any (db_callTy (c_tuple) rfl T.n_tuple rfl (dap_cons (db_any (db_callB (c_sortedT u65) rfl T.n_sorted rfl (dap_cons (db_any (db_op o_add (db_ix u1 (db_var 0 (pe_var (i := 0) rfl (Or.inl rfl))) (db_any db_int) fun _ _ => rfl) (db_ix u1 (db_var 1 (pe_var (i := 1) rfl (Or.inl rfl))) (db_any db_int) fun _ _ => rfl))) dap_nil))) dap_nil))) (dap_cons (db_any (db_callTy (c_tuple) rfl T.n_tuple rfl (dap_cons (db_any (db_callB (c_sortedT u65) rfl T.n_sorted rfl (dap_cons (db_any (db_op o_add (db_ix u1 (db_var 0 (pe_var (i := 0) rfl (Or.inl rfl))) (db_any db_int) fun _ _ => rfl) (db_ix u1 (db_var 1 (pe_var (i := 1) rfl (Or.inl rfl))) (db_any db_int) fun _ _ => rfl))) dap_nil))) dap_nil))) dap_nil))))))))
abbrev N__law_list : List Str := ["draws", "row", "links"]
noncomputable def B__law_list : SSm := (sSeq (sIf (tP (p2t dGt (pCall gLen (aCons (pVar 1) aNil)) (pC (.int 8)))) (sAsg (eFz (eDef F__law_layers (cBor 0 (cBor 1 (cVal (eP (p2 dAdd (pC (.int 1)) (p2 dMod (pCall gInt (aCons (p2 dIx (pVar 0) (pC (.int 0))) aNil)) (pC (.int 4))))) cNil))))) (gNm 2)) (sAsg (eFz (eDef F__law_links (cBor 0 (cBor 1 (cVal (e2 dIxI (eLst (aConsE (eP (pC (.int 0))) (aConsE (eP (pC (.int 2))) (aConsE (eP (pC (.int 4))) (aConsE (eP (pC (.int 8))) (aConsE (eP (pC (.int 12))) (aConsE (eP (pC (.int 16))) aNilE))))))) (eP (p2 dMod (pCall gInt (aCons (p2 dIx (pVar 0) (pC (.int 1))) aNil)) (pC (.int 6))))) cNil))))) (gNm 2)))
  (sRet (eP (pTup (aCons (pCall gTuple (aCons (pCall gSorted (aCons (pVar 1) aNil)) aNil)) (aCons (pCall gTuple (aCons (pCall gSorted (aCons (pVar 2) aNil)) aNil)) aNil))))))
noncomputable def F__law_list : FSm := fnF (pinP [0, 1]) 2 1 B__law_list
theorem sc__law_list : FnScope N__law_list ["draws", "row"] (fnScope (top 15)) := fnScope_by (by decide +kernel)
theorem ok__law_list {f : Addr} {fd : FuncData} (T : Glo mg) (D : Def K mg "_law_list" (top 15) f fd) (c__law_links : Cal P w K mg base 2 "_law_links" (Prom K F__law_links) []) (c__law_layers : Cal P w K mg base 2 "_law_layers" (Prom K F__law_layers) []) : FnOk P w K mg base C8.CX0 3 f fd ["draws", "row"] (Prom K F__law_list) := by
  have S := sc__law_list
  refine fnok_of D.fn S rfl fun cdv A outer s H E hr => ?_
  obtain ⟨u0, u1, u64, u65⟩ := units_of hr
  exact (ds_cons (ds_if (dt_pure (dtp_cmp o_gt (db_any (db_callB (c_len) rfl T.n_len rfl (dap_cons (db_var 1 (pe_var (i := 1) rfl (Or.inl rfl))) dap_nil))) (db_any db_int) rfl)) (ds_one (ds_set (i := 2) S.nd rfl (Or.inl rfl) rfl (de_fz (de_call c__law_layers hr (by decide) rfl (dc_bor (pe_var (i := 0) rfl (Or.inl rfl)) (dc_bor (pe_var (i := 1) rfl (Or.inl rfl)) (dc_val (de_pure (db_op o_add (db_any db_int) (db_any (db_op o_mod (db_any (db_callTy (c_int) rfl T.n_int rfl (dap_cons (db_ix u1 (db_var 0 (pe_var (i := 0) rfl (Or.inl rfl))) (db_any db_int) fun _ _ => rfl) dap_nil))) (db_any db_int))))) dc_nil))))))) (ds_one (ds_set (i := 2) S.nd rfl (Or.inl rfl) rfl (de_fz (de_call c__law_links hr (by decide) rfl (dc_bor (pe_var (i := 0) rfl (Or.inl rfl)) (dc_bor (pe_var (i := 1) rfl (Or.inl rfl)) (dc_val (de_ix u1 (de_lst (da_cons (de_pure db_int) (da_cons (de_pure db_int) (da_cons (de_pure db_int) (da_cons (de_pure db_int) (da_cons (de_pure db_int) (da_cons (de_pure db_int) da_nil))))))) (de_pure (db_op o_mod (db_any (db_callTy (c_int) rfl T.n_int rfl (dap_cons (db_ix u1 (db_var 0 (pe_var (i := 0) rfl (Or.inl rfl))) (db_any db_int) fun _ _ => rfl) dap_nil))) (db_any db_int))) fun _ _ => rfl) dc_nil))))))))
  (ds_one (ds_ret (de_pure (db_tup (dap_cons (db_any (db_callTy (c_tuple) rfl T.n_tuple rfl (dap_cons (db_any (db_callB (c_sorted u65) rfl T.n_sorted rfl (dap_cons (db_var 1 (pe_var (i := 1) rfl (Or.inl rfl))) dap_nil))) dap_nil))) (dap_cons (db_any (db_callTy (c_tuple) rfl T.n_tuple rfl (dap_cons (db_any (db_callB (c_sorted u65) rfl T.n_sorted rfl (dap_cons (db_var 2 (pe_var (i := 2) rfl (Or.inl rfl))) dap_nil))) dap_nil))) dap_nil)))))))
abbrev N_behind_bare : List Str := ["one", "other", "names", "ties", "between", ".0", "first", "second"]
noncomputable def B_behind_bare : SSm := (sSeq (sAsgX (xDef F_beside_bare (cBor 0 (cBor 1 cNil))) (gTu 2 (gsCons (gNm 2) (gsCons (gNm 3) gsNil))))
  (sSeq (sAsg (eComp2 [5, 6, 7] [7] (iSeq (eFz (eP (pOwn (p2 dIx (pVar 0) (pC (.int 0))))))) (gNm 6) yesT (iSeq (eFz (eP (pOwn (p2 dIx (pVar 1) (pC (.int 0))))))) (gNm 7) yesT (eP (pTup (aCons (pVar 6) (aCons (pVar 7) aNil))))) (gNm 4))
  (sFz 4 (sRet (eP (pTup (aCons (pVar 2) (aCons (pCall gTuple (aCons (pCall gSorted (aCons (p2 dAdd (pCall gList (aCons (pVar 3) aNil)) (pVar 4)) aNil)) aNil)) aNil))))))))
noncomputable def F_behind_bare : FXm := fnX (pinP [0, 1]) 2 6 B_behind_bare
theorem sc_behind_bare : FnScope N_behind_bare ["one", "other"] (fnScope (top 7)) := fnScope_by (by decide +kernel)
theorem ok_behind_bare {f : Addr} {fd : FuncData} (T : Glo mg) (D : Def K mg "behind_bare" (top 7) f fd) (c_beside_bare : CalX P w K mg base 3 "beside_bare" (PromX K mg F_beside_bare)) : FnOk P w K mg base (L2N.CX P w) 4 f fd ["one", "other"] (PromX K mg F_behind_bare) := by
  have S := sc_behind_bare
  refine fnokX_of D.fn S rfl fun cdv A outer s H E hr => ?_
  obtain ⟨u0, u1, u64, u65⟩ := units_of hr
  exact (ds_cons (ds_asgX (dx_call c_beside_bare hr (by decide) rfl (dc_bor (pe_var (i := 0) rfl (Or.inl rfl)) (dc_bor (pe_var (i := 1) rfl (Or.inr (Or.inl rfl))) dc_nil))) (dg_tup rfl (dgs_cons (dg_name (i := 2) S.nd rfl (Or.inl rfl) rfl) (dgs_cons (dg_name (i := 3) S.nd rfl (Or.inl rfl) rfl) dgs_nil))))
  (ds_cons (ds_setComp2 (i := 4) (own := [(".0", 5), ("first", 6), ("second", 7)]) (vs1 := [7]) rfl S.nd rfl rfl rfl (sw_true rfl rfl rfl (by decide +kernel)) (di_seq (de_fz (de_pure (db_own (db_ix u1 (db_var 0 (pe_var (i := 0) rfl (Or.inl rfl))) (db_any db_int) fun _ _ => rfl))))) (blkOk_by (own := [(".0", 5), ("first", 6), ("second", 7)]) (N := N_behind_bare) (sc := (fnScope (top 7))) (by decide +kernel)) (by decide) (fun _ _ _ _ _ => (dg_name (i := 6) S.nd rfl (Or.inl rfl) rfl)) (fun _ _ _ _ _ => pts_yes) (fun _ _ _ _ _ => (di_seq (de_fz (de_pure (db_own (db_ix u1 (db_var 1 (pe_var (i := 1) rfl (Or.inr (Or.inl rfl)))) (db_any db_int) fun _ _ => rfl)))))) (fun _ _ _ _ _ => (dg_name (i := 7) S.nd rfl (Or.inl rfl) rfl)) (fun _ _ _ _ _ => pts_yes) (fun _ _ _ _ _ => (de_pure (db_tup (dap_cons (db_var 6 (pe_var (i := 6) rfl (Or.inl rfl))) (dap_cons (db_var 7 (pe_var (i := 7) rfl (Or.inl rfl))) dap_nil))))))
  (ds_one (ds_fz 4 (ds_ret (de_pure (db_tup (dap_cons (db_var 2 (pe_var (i := 2) rfl (Or.inl rfl))) (dap_cons (db_any (db_callTy (c_tuple) rfl T.n_tuple rfl (dap_cons (db_any (db_callB (c_sorted u65) rfl T.n_sorted rfl (dap_cons (db_any (db_op o_add (db_any (db_callTy (c_list) rfl T.n_list rfl (dap_cons (db_var 3 (pe_var (i := 3) rfl (Or.inl rfl))) dap_nil))) (db_var 4 (pe_var (i := 4) rfl (Or.inl rfl))))) dap_nil))) dap_nil))) dap_nil)))))))))
abbrev N__law_right : List Str := ["one", "other", "behind", "word", "told", "e"]
noncomputable def B__law_right : SSm := (sSeq (sAsg (eFz (eDef F__law_word (cBor 0 (cBor 1 cNil)))) (gNm 3))
  (sSeq (sTryAs 5 ["BadStep"] [] (sAsgX (xIte (tP (tTruP (pVar 2))) (xDef F_behind_bare (cBor 0 (cBor 1 cNil))) (xDef F_beside_bare (cBor 0 (cBor 1 cNil)))) (gNm 4)) fun a d y => (sRet (eAnd2 (eP (p2 dNe (pVar 3) (pC (.str "")))) (eAnd2 (eP (pIsX a d y ["BadStep"] [] (pVar 5))) (eDef F__law_same (cVal (eP (pOwn (pFld a d y "word" (pVar 5)))) (cBor 3 cNil)))))))
  (sRet (eAnd2 (eP (p2 dEq (pVar 3) (pC (.str "")))) (eDef F__law_same (cBor 4 (cVal (eDef F__law_joined (cBor 0 (cBor 1 (cBor 2 cNil)))) cNil)))))))
noncomputable def F__law_right : FSm := fnF (pinP [0, 1, 2]) 3 3 B__law_right
theorem sc__law_right : FnScope N__law_right ["one", "other", "behind"] (fnScope (top 18)) := fnScope_by (by decide +kernel)
theorem ok__law_right {f : Addr} {fd : FuncData} (T : Glo mg) (D : Def K mg "_law_right" (top 18) f fd) (c_beside_bare : CalX P w K mg base 3 "beside_bare" (PromX K mg F_beside_bare)) (c_behind_bare : CalX P w K mg base 4 "behind_bare" (PromX K mg F_behind_bare)) (c__law_same : Cal P w K mg base 2 "_law_same" (Prom K F__law_same) []) (c__law_word : Cal P w K mg base 2 "_law_word" (Prom K F__law_word) []) (c__law_joined : Cal P w K mg base 2 "_law_joined" (Prom K F__law_joined) []) (XT : XGl K mg) (ch__law_same : CalH P w K mg base 2 "_law_same" (Prom K F__law_same)) : FnOk P w K mg base C8.CX0 5 f fd ["one", "other", "behind"] (Prom K F__law_right) := by
  have S := sc__law_right
  refine fnok_of D.fn S rfl fun cdv A outer s H E hr => ?_
  obtain ⟨D_BadStep, m_BadStep⟩ := XT.k_BadStep
  obtain ⟨D_PlanError, m_PlanError⟩ := XT.k_PlanError
  obtain ⟨u0, u1, u64, u65⟩ := units_of hr
  exact (ds_cons (ds_set (i := 3) S.nd rfl (Or.inl rfl) rfl (de_fz (de_call c__law_word hr (by decide) rfl (dc_bor (pe_var (i := 0) rfl (Or.inl rfl)) (dc_bor (pe_var (i := 1) rfl (Or.inl rfl)) dc_nil)))))
  (ds_cons (ds_tryAs (i := 5) rfl rfl S.nd rfl rfl ⟨rfl, by decide, .inl m_PlanError⟩ rfl (XT.hd_PlanError D_PlanError m_PlanError) (fun pn xe hp => (ds_one (ds_setX (i := 4) S.nd rfl (Or.inl rfl) rfl (dx_ite (dt_pure (dtp_tru (db_var 2 (pe_var (i := 2) rfl (Or.inl rfl))))) (dx_call c_behind_bare hr (by decide) rfl (dc_bor (pe_var (i := 0) rfl (Or.inl rfl)) (dc_bor (pe_var (i := 1) rfl (Or.inl rfl)) dc_nil))) (dx_call c_beside_bare hr (by decide) rfl (dc_bor (pe_var (i := 0) rfl (Or.inl rfl)) (dc_bor (pe_var (i := 1) rfl (Or.inl rfl)) dc_nil))))))) (fun a d y C oe pn p hm hy => (ds_one (ds_ret (de_and (de_pure (db_cmp (o_ne u64) (db_var 3 (pe_var (i := 3) rfl (Or.inl rfl))) (db_any db_str) rfl)) (de_and (de_pure (db_isX p (XT.xa y hy C hm) hm rfl T.n_isinstance (db_var 5 (pe_var (i := 5) rfl (Or.inl rfl))) (ke_own rfl m_BadStep) (XT.tb_1_BadStep D_BadStep m_BadStep))) (de_one (de_callH ch__law_same (roomH_in hr) (by decide) (hot_suite p) rfl (dc_val (de_pure (db_own (db_fld p (XT.xa y hy C hm) (XT.fld_word y hy C hm) (db_var 5 (pe_var (i := 5) rfl (Or.inl rfl)))))) (dc_bor (pe_var (i := 3) rfl (Or.inl rfl)) dc_nil))))))))))
  (ds_one (ds_ret (de_and (de_pure (db_cmp (o_eq u64) (db_var 3 (pe_var (i := 3) rfl (Or.inl rfl))) (db_any db_str) rfl)) (de_one (de_call c__law_same hr (by decide) rfl (dc_bor (pe_var (i := 4) rfl (Or.inl rfl)) (dc_val (de_call c__law_joined hr (by decide) rfl (dc_bor (pe_var (i := 0) rfl (Or.inl rfl)) (dc_bor (pe_var (i := 1) rfl (Or.inl rfl)) (dc_bor (pe_var (i := 2) rfl (Or.inl rfl)) dc_nil)))) dc_nil)))))))))
abbrev N_law : List Str := ["script", "draws", "wide", "first", "second", "row", "one", "other", "more", "bare", "turned", "pairs", "mixed", "least", "pair", "behind", ".0", "link"]
noncomputable def B_law : SSm := (sSeq (sAsg (eFz (eDef F__law_draws (cBor 0 (cVal (eP (pC (.int 36))) (cVal (eP (pC (.int 110))) cNil))))) (gNm 1))
  (sSeq (sAsg (eP (p2 dEq (p2 dMod (pCall gInt (aCons (p2 dIx (pVar 1) (pC (.int 0))) aNil)) (pC (.int 3))) (pC (.int 1)))) (gNm 2))
  (sSeq (sPar 3 4 (aConsE (eP (p2 dMod (pCall gInt (aCons (p2 dIx (pVar 1) (pC (.int 1))) aNil)) (pC (.int 8)))) (aConsE (eP (p2 dMod (pCall gInt (aCons (p2 dIx (pVar 1) (pC (.int 2))) aNil)) (pC (.int 8)))) aNilE)))
  (sSeq (sIf (tP (tTruP (pVar 2))) (sSeq (sAsg (eFz (eP (p2 dAdd (pC (.int 8)) (p2 dMod (pCall gInt (aCons (p2 dIx (pVar 1) (pC (.int 1))) aNil)) (pC (.int 24)))))) (gNm 3))
  (sAsg (eFz (eP (p2 dSub (pC (.int 40)) (pVar 3)))) (gNm 4))) sNil)
  (sSeq (sAsg (eFz (eDef F__law_names (cVal (eP (pSl (pVar 1) (oSome (pC (.int 4))) (oSome (pC (.int 60))))) (cVal (eP (p2 dAdd (p2 dAdd (pVar 3) (pVar 4)) (pC (.int 1)))) cNil)))) (gNm 5))
  (sSeq (sAsg (eFz (eDef F__law_list (cVal (eP (pSl (pVar 1) (oSome (pC (.int 50))) (oSome (pC (.int 80))))) (cVal (eP (pSl (pVar 5) oNo (oSome (pVar 3)))) cNil)))) (gNm 6))
  (sSeq (sAsg (eFz (eDef F__law_list (cVal (eP (pSl (pVar 1) (oSome (pC (.int 70))) (oSome (pC (.int 100))))) (cVal (eP (pSl (pVar 5) (oSome (pVar 3)) (oSome (p2 dAdd (pVar 3) (pVar 4))))) cNil)))) (gNm 7))
  (sSeq (sAsg (eFz (eDef F__law_list (cVal (eP (pSl (pVar 1) (oSome (pC (.int 70))) (oSome (pC (.int 100))))) (cVal (eP (pSl (pVar 5) (oSome (pVar 3)) oNo)) cNil)))) (gNm 8))
  (sSeq (sFor (iSeq (eFz (eLst (aConsE (eMove 6) (aConsE (eMove 7) aNilE))))) (gNm 9) (sSeq (sAsg (eTup (aConsE (eP (pOwn (p2 dIx (pVar 9) (pC (.int 0))))) (aConsE (eCall gTuple (aConsE (eCall gSorted (aConsE (eComp [16, 17] (iSeq (eFz (eP (pOwn (p2 dIx (pVar 9) (pC (.int 1))))))) (gNm 17) yesT (eP (p1 dBk (pVar 17)))) aNilE)) aNilE)) aNilE))) (gNm 10))
  (sIf (tNo (tTru (eDef F__law_same (cVal (eDef F_turned_bare (cBor 9 cNil)) (cBor 10 cNil))))) (sRet (eP (pC (.bl false)))) sNil)))
  (sSeq (sAsg (eLst (aConsE (eP (pTup (aCons (pVar 6) (aCons (pVar 7) aNil)))) (aConsE (eP (pTup (aCons (pVar 7) (aCons (pVar 6) aNil)))) (aConsE (eP (pTup (aCons (pVar 6) (aCons (pVar 8) aNil)))) aNilE)))) (gNm 11))
  (sSeq (sIf (tAnd2 (tP (p2t dGt (pVar 3) (pC (.int 0)))) (tP (p2t dGt (pVar 4) (pC (.int 0))))) (sSeq (sAsg (eP (pSl (pVar 5) (oSome (pVar 3)) (oSome (p2 dAdd (pVar 3) (pVar 4))))) (gNm 12))
  (sSeq (sAsg (eP (pOwn (p2 dIx (pVar 5) (p2 dMod (pCall gInt (aCons (p2 dIx (pVar 1) (pC (.int 4))) aNil)) (pVar 3))))) (gPut (plVar 12) (p2 dMod (pCall gInt (aCons (p2 dIx (pVar 1) (pC (.int 3))) aNil)) (pVar 4))))
  (sSeq (sExpr (eMeth 11 "list" mAppend (aConsE (eTup (aConsE (eMove 6) (aConsE (eDef F__law_list (cVal (eP (pSl (pVar 1) (oSome (pC (.int 70))) (oSome (pC (.int 100))))) (cBor 12 cNil))) aNilE))) aNilE)))
  (sExpr (eMeth 11 "list" mAppend (aConsE (eTup (aConsE (eDef F__law_list (cVal (eP (pSl (pVar 1) (oSome (pC (.int 50))) (oSome (pC (.int 80))))) (cBor 12 cNil))) (aConsE (eMove 6) aNilE))) aNilE)))))) sNil)
  (sSeq (sAsg (eFz (eIf (tP (p2t dGt (pVar 3) (pC (.int 0)))) (eMove 6) (eP (pTup (aCons (pTup (aCons (pC (.str "a")) aNil)) (aCons (pTup aNil) aNil)))))) (gNm 13))
  (sSeq (sAsg (e2 dAdd (eMove 11) (eLst (aConsE (eP (pTup (aCons (pVar 13) (aCons (pVar 13) aNil)))) (aConsE (eP (pTup (aCons (pVar 13) (aCons (pTup (aCons (pTup aNil) (aCons (pTup aNil) aNil))) aNil)))) (aConsE (eP (pTup (aCons (pTup (aCons (pTup aNil) (aCons (pTup aNil) aNil))) (aCons (pVar 13) aNil)))) aNilE))))) (gNm 11))
  (sSeq (sFz 11 (sFor (iSeq (eMove 11)) (gNm 14) (sFor (iSeq (eFz (eLst (aConsE (eP (pC (.bl true))) (aConsE (eP (pC (.bl false))) aNilE))))) (gNm 15) (sIf (tNo (tTru (eDef F__law_right (cVal (eP (pOwn (p2 dIx (pVar 14) (pC (.int 0))))) (cVal (eP (pOwn (p2 dIx (pVar 14) (pC (.int 1))))) (cBor 15 cNil)))))) (sRet (eP (pC (.bl false)))) sNil))))
  (sRet (eP (pC (.bl true))))))))))))))))))
noncomputable def F_law : FSm := fnF (pinP [0]) 1 17 B_law
theorem sc_law : FnScope N_law ["script"] (fnScope (top 19)) := fnScope_by (by decide +kernel)
theorem ok_law {f : Addr} {fd : FuncData} (T : Glo mg) (D : Def K mg "law" (top 19) f fd) (c_turned_bare : Cal P w K mg base 2 "turned_bare" (Prom K F_turned_bare) []) (c__law_draws : Cal P w K mg base 2 "_law_draws" (Prom K F__law_draws) []) (c__law_names : Cal P w K mg base 2 "_law_names" (Prom K F__law_names) []) (c__law_same : Cal P w K mg base 2 "_law_same" (Prom K F__law_same) []) (c__law_list : Cal P w K mg base 3 "_law_list" (Prom K F__law_list) []) (c__law_right : Cal P w K mg base 5 "_law_right" (Prom K F__law_right) []) : FnOk P w K mg base C8.CX0 6 f fd ["script"] (Prom K F_law) := by
  have S := sc_law
  refine fnok_of D.fn S rfl fun cdv A outer s H E hr => ?_
  obtain ⟨u0, u1, u64, u65⟩ := units_of hr
  exact (ds_cons (ds_set (i := 1) S.nd rfl (Or.inl rfl) rfl (de_fz (de_call c__law_draws hr (by decide) rfl (dc_bor (pe_var (i := 0) rfl (Or.inl rfl)) (dc_val (de_pure db_int) (dc_val (de_pure db_int) dc_nil))))))
  (ds_cons (ds_set (i := 2) S.nd rfl (Or.inl rfl) rfl (de_pure (db_cmp (o_eq u64) (db_any (db_op o_mod (db_any (db_callTy (c_int) rfl T.n_int rfl (dap_cons (db_ix u1 (db_var 1 (pe_var (i := 1) rfl (Or.inl rfl))) (db_any db_int) fun _ _ => rfl) dap_nil))) (db_any db_int))) (db_any db_int) rfl)))
  (ds_cons (ds_par (i := 3) (j := 4) rfl S.nd rfl rfl (by decide) rfl rfl rfl rfl (da_cons (de_pure (db_op o_mod (db_any (db_callTy (c_int) rfl T.n_int rfl (dap_cons (db_ix u1 (db_var 1 (pe_var (i := 1) rfl (Or.inl rfl))) (db_any db_int) fun _ _ => rfl) dap_nil))) (db_any db_int))) (da_cons (de_pure (db_op o_mod (db_any (db_callTy (c_int) rfl T.n_int rfl (dap_cons (db_ix u1 (db_var 1 (pe_var (i := 1) rfl (Or.inl rfl))) (db_any db_int) fun _ _ => rfl) dap_nil))) (db_any db_int))) da_nil)) (by rfl))
  (ds_cons (ds_if (dt_pure (dtp_tru (db_var 2 (pe_var (i := 2) rfl (Or.inl rfl))))) (ds_cons (ds_set (i := 3) S.nd rfl (Or.inl rfl) rfl (de_fz (de_pure (db_op o_add (db_any db_int) (db_any (db_op o_mod (db_any (db_callTy (c_int) rfl T.n_int rfl (dap_cons (db_ix u1 (db_var 1 (pe_var (i := 1) rfl (Or.inl rfl))) (db_any db_int) fun _ _ => rfl) dap_nil))) (db_any db_int)))))))
  (ds_one (ds_set (i := 4) S.nd rfl (Or.inl rfl) rfl (de_fz (de_pure (db_op o_sub (db_any db_int) (db_var 3 (pe_var (i := 3) rfl (Or.inl rfl))))))))) ds_nil)
  (ds_cons (ds_set (i := 5) S.nd rfl (Or.inl rfl) rfl (de_fz (de_call c__law_names hr (by decide) rfl (dc_val (de_pure (db_sl (db_var 1 (pe_var (i := 1) rfl (Or.inl rfl))) (dpo_some (db_any db_int)) (dpo_some (db_any db_int)))) (dc_val (de_pure (db_op o_add (db_any (db_op o_add (db_var 3 (pe_var (i := 3) rfl (Or.inl rfl))) (db_var 4 (pe_var (i := 4) rfl (Or.inl rfl))))) (db_any db_int))) dc_nil)))))
  (ds_cons (ds_set (i := 6) S.nd rfl (Or.inl rfl) rfl (de_fz (de_call c__law_list hr (by decide) rfl (dc_val (de_pure (db_sl (db_var 1 (pe_var (i := 1) rfl (Or.inl rfl))) (dpo_some (db_any db_int)) (dpo_some (db_any db_int)))) (dc_val (de_pure (db_sl (db_var 5 (pe_var (i := 5) rfl (Or.inl rfl))) dpo_none (dpo_some (db_var 3 (pe_var (i := 3) rfl (Or.inl rfl)))))) dc_nil)))))
  (ds_cons (ds_set (i := 7) S.nd rfl (Or.inl rfl) rfl (de_fz (de_call c__law_list hr (by decide) rfl (dc_val (de_pure (db_sl (db_var 1 (pe_var (i := 1) rfl (Or.inl rfl))) (dpo_some (db_any db_int)) (dpo_some (db_any db_int)))) (dc_val (de_pure (db_sl (db_var 5 (pe_var (i := 5) rfl (Or.inl rfl))) (dpo_some (db_var 3 (pe_var (i := 3) rfl (Or.inl rfl)))) (dpo_some (db_any (db_op o_add (db_var 3 (pe_var (i := 3) rfl (Or.inl rfl))) (db_var 4 (pe_var (i := 4) rfl (Or.inl rfl)))))))) dc_nil)))))
  (ds_cons (ds_set (i := 8) S.nd rfl (Or.inl rfl) rfl (de_fz (de_call c__law_list hr (by decide) rfl (dc_val (de_pure (db_sl (db_var 1 (pe_var (i := 1) rfl (Or.inl rfl))) (dpo_some (db_any db_int)) (dpo_some (db_any db_int)))) (dc_val (de_pure (db_sl (db_var 5 (pe_var (i := 5) rfl (Or.inl rfl))) (dpo_some (db_var 3 (pe_var (i := 3) rfl (Or.inl rfl)))) dpo_none)) dc_nil)))))
  (ds_cons (ds_for PassesOwn.never rfl (di_seq (de_fz (de_lst (da_cons (de_move 6 (pe_var (i := 6) rfl (Or.inl rfl))) (da_cons (de_move 7 (pe_var (i := 7) rfl (Or.inl rfl))) da_nil))))) (dg_name (i := 9) S.nd rfl (Or.inl rfl) rfl) (ds_cons (ds_set (i := 10) S.nd rfl (Or.inl rfl) rfl (de_tup (da_cons (de_pure (db_own (db_ix u1 (db_var 9 (pe_var (i := 9) rfl (Or.inl rfl))) (db_any db_int) fun _ _ => rfl))) (da_cons (de_callTy (c_tuple) rfl T.n_tuple rfl (da_cons (de_callB (c_sorted u65) rfl T.n_sorted rfl (da_cons (de_comp (own := [(".0", 16), ("link", 17)]) rfl S.nd (di_seq (de_fz (de_pure (db_own (db_ix u1 (db_var 9 (pe_var (i := 9) rfl (Or.inl rfl))) (db_any db_int) fun _ _ => rfl))))) (blkOk_by (own := [(".0", 16), ("link", 17)]) (N := N_law) (sc := (fnScope (top 19))) (by decide +kernel)) (fun _ _ _ _ _ => (dg_name (i := 17) S.nd rfl (Or.inl rfl) rfl)) (fun _ _ _ _ _ => pts_yes) (fun _ _ _ _ _ => (de_pure (db_back (db_var 17 (pe_var (i := 17) rfl (Or.inl rfl))))))) da_nil)) da_nil)) da_nil))))
  (ds_one (ds_if (dt_not (dt_tru (de_call c__law_same hr (by decide) rfl (dc_val (de_call c_turned_bare hr (by decide) rfl (dc_bor (pe_var (i := 9) rfl (Or.inl rfl)) dc_nil)) (dc_bor (pe_var (i := 10) rfl (Or.inl rfl)) dc_nil))))) (ds_one (ds_ret (de_pure db_bl))) ds_nil))))
  (ds_cons (ds_set (i := 11) S.nd rfl (Or.inl rfl) rfl (de_lst (da_cons (de_pure (db_tup (dap_cons (db_var 6 (pe_var (i := 6) rfl (Or.inl rfl))) (dap_cons (db_var 7 (pe_var (i := 7) rfl (Or.inl rfl))) dap_nil)))) (da_cons (de_pure (db_tup (dap_cons (db_var 7 (pe_var (i := 7) rfl (Or.inl rfl))) (dap_cons (db_var 6 (pe_var (i := 6) rfl (Or.inl rfl))) dap_nil)))) (da_cons (de_pure (db_tup (dap_cons (db_var 6 (pe_var (i := 6) rfl (Or.inl rfl))) (dap_cons (db_var 8 (pe_var (i := 8) rfl (Or.inl rfl))) dap_nil)))) da_nil)))))
  (ds_cons (ds_if (dt_w (dw_and (dt_pure (dtp_cmp o_gt (db_var 3 (pe_var (i := 3) rfl (Or.inl rfl))) (db_any db_int) rfl)) (dw_and1 (dt_pure (dtp_cmp o_gt (db_var 4 (pe_var (i := 4) rfl (Or.inl rfl))) (db_any db_int) rfl))))) (ds_cons (ds_set (i := 12) S.nd rfl (Or.inl rfl) rfl (de_pure (db_sl (db_var 5 (pe_var (i := 5) rfl (Or.inl rfl))) (dpo_some (db_var 3 (pe_var (i := 3) rfl (Or.inl rfl)))) (dpo_some (db_any (db_op o_add (db_var 3 (pe_var (i := 3) rfl (Or.inl rfl))) (db_var 4 (pe_var (i := 4) rfl (Or.inl rfl)))))))))
  (ds_cons (ds_asg (de_pure (db_own (db_ix u1 (db_var 5 (pe_var (i := 5) rfl (Or.inl rfl))) (db_any (db_op o_mod (db_any (db_callTy (c_int) rfl T.n_int rfl (dap_cons (db_ix u1 (db_var 1 (pe_var (i := 1) rfl (Or.inl rfl))) (db_any db_int) fun _ _ => rfl) dap_nil))) (db_var 3 (pe_var (i := 3) rfl (Or.inl rfl))))) fun _ _ => rfl))) (dg_sub u1 (dpl_var (pe_var (i := 12) rfl (Or.inl rfl))) (db_any (db_op o_mod (db_any (db_callTy (c_int) rfl T.n_int rfl (dap_cons (db_ix u1 (db_var 1 (pe_var (i := 1) rfl (Or.inl rfl))) (db_any db_int) fun _ _ => rfl) dap_nil))) (db_var 4 (pe_var (i := 4) rfl (Or.inl rfl)))))))
  (ds_cons (ds_expr (de_meth F.plainAttrs_list F.slot_list_append F.type_list_append m_append (pe_var (i := 11) rfl (Or.inl rfl)) (da_cons (de_tup (da_cons (de_move 6 (pe_var (i := 6) rfl (Or.inl rfl))) (da_cons (de_call c__law_list hr (by decide) rfl (dc_val (de_pure (db_sl (db_var 1 (pe_var (i := 1) rfl (Or.inl rfl))) (dpo_some (db_any db_int)) (dpo_some (db_any db_int)))) (dc_bor (pe_var (i := 12) rfl (Or.inl rfl)) dc_nil))) da_nil))) da_nil)))
  (ds_one (ds_expr (de_meth F.plainAttrs_list F.slot_list_append F.type_list_append m_append (pe_var (i := 11) rfl (Or.inl rfl)) (da_cons (de_tup (da_cons (de_call c__law_list hr (by decide) rfl (dc_val (de_pure (db_sl (db_var 1 (pe_var (i := 1) rfl (Or.inl rfl))) (dpo_some (db_any db_int)) (dpo_some (db_any db_int)))) (dc_bor (pe_var (i := 12) rfl (Or.inl rfl)) dc_nil))) (da_cons (de_move 6 (pe_var (i := 6) rfl (Or.inl rfl))) da_nil))) da_nil))))))) ds_nil)
  (ds_cons (ds_set (i := 13) S.nd rfl (Or.inl rfl) rfl (de_fz (de_if (dt_pure (dtp_cmp o_gt (db_var 3 (pe_var (i := 3) rfl (Or.inl rfl))) (db_any db_int) rfl)) (de_move 6 (pe_var (i := 6) rfl (Or.inl rfl))) (de_pure (db_tup (dap_cons (db_any (db_tup (dap_cons (db_any db_str) dap_nil))) (dap_cons (db_any (db_tup dap_nil)) dap_nil)))))))
  (ds_cons (ds_set (i := 11) S.nd rfl (Or.inl rfl) rfl (de_op o_add (de_move 11 (pe_var (i := 11) rfl (Or.inl rfl))) (de_lst (da_cons (de_pure (db_tup (dap_cons (db_var 13 (pe_var (i := 13) rfl (Or.inl rfl))) (dap_cons (db_var 13 (pe_var (i := 13) rfl (Or.inl rfl))) dap_nil)))) (da_cons (de_pure (db_tup (dap_cons (db_var 13 (pe_var (i := 13) rfl (Or.inl rfl))) (dap_cons (db_any (db_tup (dap_cons (db_any (db_tup dap_nil)) (dap_cons (db_any (db_tup dap_nil)) dap_nil)))) dap_nil)))) (da_cons (de_pure (db_tup (dap_cons (db_any (db_tup (dap_cons (db_any (db_tup dap_nil)) (dap_cons (db_any (db_tup dap_nil)) dap_nil)))) (dap_cons (db_var 13 (pe_var (i := 13) rfl (Or.inl rfl))) dap_nil)))) da_nil))))))
  (ds_cons (ds_fz 11 (ds_for PassesOwn.never rfl (di_seq (de_move 11 (pe_var (i := 11) rfl (Or.inl rfl)))) (dg_name (i := 14) S.nd rfl (Or.inl rfl) rfl) (ds_one (ds_for PassesOwn.never rfl (di_seq (de_fz (de_lst (da_cons (de_pure db_bl) (da_cons (de_pure db_bl) da_nil))))) (dg_name (i := 15) S.nd rfl (Or.inl rfl) rfl) (ds_one (ds_if (dt_not (dt_tru (de_call c__law_right hr (by decide) rfl (dc_val (de_pure (db_own (db_ix u1 (db_var 14 (pe_var (i := 14) rfl (Or.inl rfl))) (db_any db_int) fun _ _ => rfl))) (dc_val (de_pure (db_own (db_ix u1 (db_var 14 (pe_var (i := 14) rfl (Or.inl rfl))) (db_any db_int) fun _ _ => rfl))) (dc_bor (pe_var (i := 15) rfl (Or.inl rfl)) dc_nil)))))) (ds_one (ds_ret (de_pure db_bl))) ds_nil))))))
  (ds_one (ds_ret (de_pure db_bl)))))))))))))))))
end

end DL
namespace DL
open PySem PySem.Spec PyProof.Rows L2
/-! ### draws -/
theorem ix_scr {ds : List D} {z : Int} : dIx (.scr ds) (.int z) = L2.atI ds z := by simp [dIx, dGet, seqD]
theorem g_lenS {ds : List D} : gLen [.scr ds] = some (.int ds.length) := rfl
theorem at_modI {cs : List Int} {x : Int} (h : 0 < cs.length) : ∃ c ∈ cs, L2.atI (cs.map D.int) (x % (cs.length : Int)) = some (.int c) := by
  obtain ⟨n, hn⟩ := Int.eq_ofNat_of_zero_le (Int.emod_nonneg x (by omega : (cs.length : Int) ≠ 0))
  have h2 := Int.emod_lt_of_pos x (by omega : (0 : Int) < cs.length)
  have h3 : n < cs.length := by omega
  rw [hn]
  exact ⟨cs[n], List.getElem_mem h3, at_map h3⟩
theorem bits_neg {c : Int} : Builtin.Int.intBits (-c) = Builtin.Int.intBits c := by
  unfold Builtin.Int.intBits
  by_cases h : c = 0
  · subst h; rfl
  · rw [beq_eq_false_iff_ne.mpr h, beq_eq_false_iff_ne.mpr (show -c ≠ 0 by omega), Int.natAbs_neg]
theorem draws_w {ns : List Int} {salt : Int} {many : Nat} {Q : D × List (Option D) → Prop} (hb : ∀ z ∈ ns, Builtin.Int.intBits z ≤ 1048576) (hs0 : 0 ≤ salt) (hs1 : salt < 1000) (hsb : Builtin.Int.intBits salt ≤ 1048576) (hm : many ≤ 1000)
    (q : ∀ ds : List Int, ds.length = many → Q (.lst false (ds.map D.int), [some (.scr (ns.map D.int)), some (.int salt), some (.int many)])) : Ok (F__law_draws [.scr (ns.map D.int), .int salt, .int (many : Nat)]) Q := by
  refine fn_ok rfl ?_
  unfold B__law_draws
  simp only [List.map_cons, List.map_nil, List.replicate_succ, List.replicate_zero, List.cons_append, List.nil_append]
  refine seq_ex [3] (fun os => ∃ c : Int, os = [some (.int c)] ∧ Builtin.Int.intBits c ≤ 1048576) ?_ ?_
  · by_cases h : 0 < ns.length
    · obtain ⟨c, hc, ec⟩ := at_modI (cs := ns) (x := salt) h
      have h1 : (0 : Int) < (ns.length : Int) := by omega
      simp (dsimp := false) (maxSteps := 2000000) (disch := (first | assumption | omega | (simp only [List.length_map, List.length_append, List.length_cons, List.length_nil]; omega))) only [↓preS, postS, outsOf, wipeE, reduceIte, reduceCtorEq, BEq.rfl, Bool.false_eq_true, Nat.reduceAdd, Nat.reduceLT, getA, setA, g_lenS, h1, ix_scr, ec]
      exact ⟨rfl, _, rfl, hb c hc⟩
    · have h1 : ¬ (0 : Int) < (ns.length : Int) := by omega
      simp (dsimp := false) (maxSteps := 2000000) (disch := (first | assumption | omega | (simp only [List.length_map, List.length_append, List.length_cons, List.length_nil]; omega))) only [↓preS, postS, outsOf, wipeE, reduceIte, reduceCtorEq, BEq.rfl, Bool.false_eq_true, Nat.reduceAdd, Nat.reduceLT, getA, setA, g_lenS, h1]
      exact ⟨rfl, _, rfl, hsb⟩
  rintro os ⟨c, rfl, hc⟩
  refine seq_ex [3] (fun os => ∃ c : Int, os = [some (.int c)] ∧ 0 ≤ c ∧ Builtin.Int.intBits c ≤ 1048576) ?_ ?_
  · have n1 : dNeg (.int c) = some (.int (-c)) := rfl
    by_cases h : c < 0
    · simp (dsimp := false) (maxSteps := 2000000) (disch := (first | assumption | omega | (simp only [List.length_map, List.length_append, List.length_cons, List.length_nil]; omega))) only [↓preS, postS, outsOf, wipeE, reduceIte, reduceCtorEq, BEq.rfl, Bool.false_eq_true, Nat.reduceAdd, Nat.reduceLT, getA, setA, h, n1]
      exact ⟨rfl, _, rfl, by omega, by rw [bits_neg]; exact hc⟩
    · simp (dsimp := false) (maxSteps := 2000000) (disch := (first | assumption | omega | (simp only [List.length_map, List.length_append, List.length_cons, List.length_nil]; omega))) only [↓preS, postS, outsOf, wipeE, reduceIte, reduceCtorEq, BEq.rfl, Bool.false_eq_true, Nat.reduceAdd, Nat.reduceLT, getA, setA, h]
      exact ⟨rfl, _, rfl, by omega, hc⟩
  rintro os ⟨c, rfl, hc0, hcb⟩
  refine seq_ex [4] (fun os => ∃ r : Int, os = [some (.int r)] ∧ 0 ≤ r) ?_ ?_
  · by_cases h : 1000000000000000000 ≤ c
    · simp (dsimp := false) (maxSteps := 2000000) (disch := (first | assumption | omega | (simp only [List.length_map, List.length_append, List.length_cons, List.length_nil]; omega))) only [↓preS, postS, outsOf, wipeE, reduceIte, reduceCtorEq, BEq.rfl, Bool.false_eq_true, Nat.reduceAdd, Nat.reduceLT, getA, setA, h, pow18]
      exact ⟨rfl, _, rfl, hc0⟩
    · simp (dsimp := false) (maxSteps := 2000000) (disch := (first | assumption | omega | (simp only [List.length_map, List.length_append, List.length_cons, List.length_nil]; omega))) only [↓preS, postS, outsOf, wipeE, reduceIte, reduceCtorEq, BEq.rfl, Bool.false_eq_true, Nat.reduceAdd, Nat.reduceLT, getA, setA, h, pow18]
      exact ⟨rfl, _, rfl, by decide⟩
  rintro os ⟨r, rfl, hr⟩
  have m1 : dMu (.int c) (.int 69621) = some (.int (c * 69621)) := by
    show (if bitsI c + bitsI 69621 ≤ 134217728 then _ else _) = _
    rw [if_pos]
    have : bitsI 69621 = 17 := by decide
    show Builtin.Int.intBits c + bitsI 69621 ≤ 134217728
    omega
  have b0 := Int.emod_nonneg (c * 69621 + salt * 6151 + 1) (by decide : (2147483587 : Int) ≠ 0)
  have b1 := Int.emod_lt_of_pos (c * 69621 + salt * 6151 + 1) (by decide : (0 : Int) < 2147483587)
  have sm : smallI (many : Int) := by unfold smallI; omega
  simp (dsimp := false) (maxSteps := 2000000) (disch := (first | assumption | omega | (simp only [List.length_map, List.length_append, List.length_cons, List.length_nil]; omega))) only [↓preS, postS, outsOf, wipeE, reduceIte, reduceCtorEq, BEq.rfl, Bool.false_eq_true, Nat.reduceAdd, Nat.reduceLT, getA, setA, m1, mu_int (i := salt) (j := 6151) (by omega) (by decide), sm]
  generalize (c * 69621 + salt * 6151 + 1) % 2147483587 = m at b0 b1
  refine for_setR [5, 4, 6, 7] (fun i ss => ∃ (m r : Int) (ds : List Int) (x : Option D), ss = [some (.int m), some (.int r), some (.lst false (ds.map D.int)), x] ∧ 0 ≤ m ∧ m < 2147483587 ∧ 0 ≤ r ∧ ds.length = i) ⟨m, r, [], _, rfl, b0, b1, hr, rfl⟩ ?_ ?_
  · rintro i ss hi ⟨m, r, ds, x, rfl, h0, h1, h2, h3⟩
    have d0 := Int.emod_nonneg (m * 41358 + (i : Int) + 1) (by decide : (2147483587 : Int) ≠ 0)
    have d1 := Int.emod_lt_of_pos (m * 41358 + (i : Int) + 1) (by decide : (0 : Int) < 2147483587)
    have ap : ∀ x, mAppend (.lst false (ds.map D.int)) [.int x] = some (.non, .lst false ((ds ++ [x]).map D.int)) := fun x => by
      rw [app_lst (by rw [List.length_map]; omega), List.map_append]; rfl
    by_cases hr : 0 < r
    · simp (dsimp := false) (maxSteps := 2000000) (disch := (first | assumption | omega | (simp only [List.length_map, List.length_append, List.length_cons, List.length_nil]; omega))) only [↓preS, postS, outsOf, wipeE, reduceIte, reduceCtorEq, BEq.rfl, Bool.false_eq_true, Nat.reduceAdd, Nat.reduceLT, getA, setA, mu_int (i := m) (j := 41358) (by omega) (by decide), hr, ap]
      exact ⟨rfl, _, _, ds ++ [r % 10007], _, rfl, d0, d1, Int.ediv_nonneg h2 (by decide), by simp [h3]⟩
    · simp (dsimp := false) (maxSteps := 2000000) (disch := (first | assumption | omega | (simp only [List.length_map, List.length_append, List.length_cons, List.length_nil]; omega))) only [↓preS, postS, outsOf, wipeE, reduceIte, reduceCtorEq, BEq.rfl, Bool.false_eq_true, Nat.reduceAdd, Nat.reduceLT, getA, setA, mu_int (i := m) (j := 41358) (by omega) (by decide), hr, ap]
      exact ⟨rfl, _, _, ds ++ [_], _, rfl, d0, d1, h2, by simp [h3]⟩
  rintro ss ⟨m, r, ds, x, rfl, h0, h1, h2, h3⟩
  rw [ct_nx]
  simp (dsimp := false) (maxSteps := 2000000) (disch := (first | assumption | omega | (simp only [List.length_map, List.length_append, List.length_cons, List.length_nil]; omega))) only [↓preS, postS, outsOf, wipeE, reduceIte, reduceCtorEq, BEq.rfl, Bool.false_eq_true, Nat.reduceAdd, Nat.reduceLT, getA, setA]
  exact q ds h3
/-! ### names -/
theorem abcX_ix {r : Int} (h0 : 0 ≤ r) (h1 : r < 26) : ∃ s : Str, s.length = 1 ∧ dIx (.str "abcdefghijklmnopqrstuvwxyz") (.int r) = some (.str s) := by
  obtain ⟨n, rfl⟩ := Int.eq_ofNat_of_zero_le h0
  have hl : ("abcdefghijklmnopqrstuvwxyz" : Str).length = 26 := by decide +kernel
  have hn : n < ("abcdefghijklmnopqrstuvwxyz" : Str).cps.toList.length := by rw [Array.length_toList]; exact_mod_cast (show n < ("abcdefghijklmnopqrstuvwxyz" : Str).length by omega)
  refine ⟨⟨#[("abcdefghijklmnopqrstuvwxyz" : Str).cps.toList[n]]⟩, rfl, ?_⟩
  show (if ("abcdefghijklmnopqrstuvwxyz" : Str).length ≤ szL then (L2.atI ("abcdefghijklmnopqrstuvwxyz" : Str).cps.toList (n : Int)).map fun c => D.str ⟨#[c]⟩ else none) = _
  rw [if_pos (by rw [hl]; decide), at_nat hn]; rfl
theorem numb_len : ((List.range 200).all fun k => decide (((toString (k : Int) : String) : Str).length ≤ 8)) = true := by decide +kernel
theorem numb_le {z : Int} (h0 : 0 ≤ z) (h1 : z < 200) : ((toString z : String) : Str).length ≤ 8 := by
  obtain ⟨n, rfl⟩ := Int.eq_ofNat_of_zero_le h0
  exact of_decide_eq_true (List.all_eq_true.mp numb_len n (List.mem_range.mpr (by omega)))
theorem cutS_len {s : Str} {b : Option Int} : (cutS s none b).length ≤ s.length := by
  unfold cutS
  show ((_ : List Nat).toArray).size ≤ s.cps.size
  simp
  omega

theorem at_any {l : List D} {r : Int} (h0 : 0 ≤ r) (h1 : r < l.length) : ∃ d ∈ l, L2.atI l r = some d := by
  obtain ⟨n, rfl⟩ := Int.eq_ofNat_of_zero_le h0
  have hn : n < l.length := by omega
  exact ⟨l[n], List.getElem_mem hn, at_nat hn⟩
theorem names_w {ds : List Int} {z : Bool} {many : Nat} {Q : D × List (Option D) → Prop} (hd : 0 < ds.length) (hm : many ≤ 100)
    (q : ∀ ns : List Str, ns.length = many → Q (.lst false (ns.map D.str), [some (.lst z (ds.map D.int)), some (.int many)])) : Ok (F__law_names [.lst z (ds.map D.int), .int (many : Nat)]) Q := by
  refine fn_ok rfl ?_
  unfold B__law_names
  simp only [List.map_cons, List.map_nil, List.replicate_succ, List.replicate_zero, List.cons_append, List.nil_append]
  have sm : smallI (many : Int) := by unfold smallI; omega
  simp (dsimp := false) (maxSteps := 2000000) (disch := (first | assumption | omega | (simp only [List.length_map, List.length_append, List.length_cons, List.length_nil]; omega))) only [↓preS, postS, outsOf, wipeE, reduceIte, reduceCtorEq, BEq.rfl, Bool.false_eq_true, Nat.reduceAdd, Nat.reduceLT, getA, setA, sm]
  refine for_setR [2, 3, 4, 5, 6, 7, 8] (fun i ss => ∃ (ns : List Str) (a b c d e f : Option D), ss = [some (.lst false (ns.map D.str)), a, b, c, d, e, f] ∧ ns.length = i) ⟨[], _, _, _, _, _, _, rfl, rfl⟩ ?_ ?_
  · rintro i ss hi ⟨ns, a, b, c, d, e, f, rfl, hn⟩
    obtain ⟨pick, _, ep⟩ := at_modI (cs := ds) (x := (i : Int)) hd
    have h1 : (0 : Int) < (ds.length : Int) := by omega
    obtain ⟨s, hs, es⟩ := abcX_ix (Int.emod_nonneg pick (by decide : (26 : Int) ≠ 0)) (Int.emod_lt_of_pos pick (by decide : (0 : Int) < 26))
    have r0 := Int.emod_nonneg (pick / 26) (by decide : (100 : Int) ≠ 0)
    have r1 := Int.emod_lt_of_pos (pick / 26) (by decide : (0 : Int) < 100)
    have n0 := numb_le r0 (by omega)
    have c0 := cutS_len (s := "bcdefgh") (b := some (pick / 26 % 8))
    have hbl : ("bcdefgh" : Str).length = 7 := by decide +kernel
    rw [hbl] at c0
    have slS : dSl (.str "bcdefgh") none (some (pick / 26 % 8)) = some (.str (cutS "bcdefgh" none (some (pick / 26 % 8)))) := by
      have h7 : ("bcdefgh" : Str).length ≤ szL := by rw [hbl]; decide
      have h8 : dSl (.str "bcdefgh") none (some (pick / 26 % 8)) = if ("bcdefgh" : Str).length ≤ szL then some (D.str (cutS "bcdefgh" none (some (pick / 26 % 8)))) else none := rfl
      rw [h8, if_pos h7]
    have hL : ∀ d ∈ [D.str "", .str "", .str "1", .str "a", .str "9z", .str (cutS "bcdefgh" none (some (pick / 26 % 8))), .str ((toString (pick / 26 % 100) : String) : Str), .str "aa"], ∃ t : Str, d = .str t ∧ t.length ≤ 8 := by
      intro d m
      simp only [List.mem_cons, List.not_mem_nil, or_false] at m
      rcases m with rfl | rfl | rfl | rfl | rfl | rfl | rfl | rfl
      all_goals first | exact ⟨_, rfl, by decide +kernel⟩ | exact ⟨_, rfl, by omega⟩
    obtain ⟨d, hdm, ed⟩ := at_any (l := [D.str "", .str "", .str "1", .str "a", .str "9z", .str (cutS "bcdefgh" none (some (pick / 26 % 8))), .str ((toString (pick / 26 % 100) : String) : Str), .str "aa"]) (Int.emod_nonneg (pick / 26 / 8) (by decide : (8 : Int) ≠ 0)) (by have := Int.emod_lt_of_pos (pick / 26 / 8) (by decide : (0 : Int) < 8); simpa using this)
    obtain ⟨t, rfl, ht⟩ := hL d hdm
    have fL : fzs [D.str "", .str "", .str "1", .str "a", .str "9z", .str (cutS "bcdefgh" none (some (pick / 26 % 8))), .str ((toString (pick / 26 % 100) : String) : Str), .str "aa"] = [D.str "", .str "", .str "1", .str "a", .str "9z", .str (cutS "bcdefgh" none (some (pick / 26 % 8))), .str ((toString (pick / 26 % 100) : String) : Str), .str "aa"] := rfl
    have gsI : ∀ x : Int, 0 ≤ x → x < 2400 → gStr [.int x] = some (.str ((toString x : String) : Str)) := fun x h0 h1 => by
      obtain ⟨n, rfl⟩ := Int.eq_ofNat_of_zero_le h0
      exact g_str (by omega)
    have gs1 := gsI (pick / 26 % 100) r0 (by omega)
    have gs2 := gsI (100 + (i : Int)) (by omega) (by omega)
    have ad : dAdd (.str s) (.str t) = some (.str (s ++ t)) := add_str (by omega)
    have ad2 : dAdd (.str s) (.str ((toString (100 + (i : Int)) : String) : Str)) = some (.str (s ++ ((toString (100 + (i : Int)) : String) : Str))) := add_str (by have := numb_le (z := 100 + (i : Int)) (by omega) (by omega); omega)
    simp (dsimp := false) (maxSteps := 2000000) (disch := (first | assumption | omega | (simp only [List.length_map, List.length_append, List.length_cons, List.length_nil]; omega))) only [↓preS, postS, outsOf, wipeE, reduceIte, reduceCtorEq, BEq.rfl, Bool.false_eq_true, Nat.reduceAdd, Nat.reduceLT, getA, setA, h1, ep, es, slS, gs1, fL, ed, ad]
    refine seq_ex [8] (fun os => ∃ n : Str, os = [some (.str n)]) ?_ ?_
    · by_cases hin : (s ++ t) ∈ ns
      · simp (dsimp := false) (maxSteps := 2000000) (disch := (first | assumption | omega | (simp only [List.length_map, List.length_append, List.length_cons, List.length_nil]; omega))) only [↓preS, postS, outsOf, wipeE, reduceIte, reduceCtorEq, BEq.rfl, Bool.false_eq_true, Nat.reduceAdd, Nat.reduceLT, getA, setA, in_strs, hin, decide_true, gs2, ad2]
        exact ⟨rfl, _, rfl⟩
      · simp (dsimp := false) (maxSteps := 2000000) (disch := (first | assumption | omega | (simp only [List.length_map, List.length_append, List.length_cons, List.length_nil]; omega))) only [↓preS, postS, outsOf, wipeE, reduceIte, reduceCtorEq, BEq.rfl, Bool.false_eq_true, Nat.reduceAdd, Nat.reduceLT, getA, setA, in_strs, hin, decide_false]
        exact ⟨rfl, _, rfl⟩
    rintro os ⟨n, rfl⟩
    have ap : mAppend (.lst false (ns.map D.str)) [.str n] = some (.non, .lst false ((ns ++ [n]).map D.str)) := by
      rw [app_lst (by rw [List.length_map]; omega), List.map_append]; rfl
    simp (dsimp := false) (maxSteps := 2000000) (disch := (first | assumption | omega | (simp only [List.length_map, List.length_append, List.length_cons, List.length_nil]; omega))) only [↓preS, postS, outsOf, wipeE, reduceIte, reduceCtorEq, BEq.rfl, Bool.false_eq_true, Nat.reduceAdd, Nat.reduceLT, getA, setA, ap]
    exact ⟨rfl, ns ++ [n], _, _, _, _, _, _, rfl, by simp [hn]⟩
  rintro ss ⟨ns, a, b, c, d, e, f, rfl, hn⟩
  rw [ct_nx]
  simp (dsimp := false) (maxSteps := 2000000) (disch := (first | assumption | omega | (simp only [List.length_map, List.length_append, List.length_cons, List.length_nil]; omega))) only [↓preS, postS, outsOf, wipeE, reduceIte, reduceCtorEq, BEq.rfl, Bool.false_eq_true, Nat.reduceAdd, Nat.reduceLT, getA, setA]
  exact q ns hn

/-! ### `_law_same` of k31, k32, k34 to k36, k72 to k74 -/
mutual
def plt : D → Bool
  | .non => true
  | .bl _ => true
  | .int _ => true
  | .str _ => true
  | .tup ds => pltL ds
  | _ => false
def pltL : List D → Bool
  | [] => true
  | d :: ds => plt d && pltL ds
end
theorem pltL_app : ∀ a b : List D, pltL (a ++ b) = (pltL a && pltL b)
  | [], b => by simp [pltL]
  | d :: a, b => by simp only [List.cons_append, pltL, pltL_app a b, Bool.and_assoc]
theorem plt_imm {d : D} (h : plt d = true) : isImm d = true := by
  cases d <;> first | rfl | (simp [plt] at h; done)
theorem pltL_mem : ∀ {ds : List D}, pltL ds = true → ∀ d ∈ ds, plt d = true
  | d :: ds, h, e, m => by
    simp only [pltL, Bool.and_eq_true] at h
    rcases List.mem_cons.mp m with rfl | m
    · exact h.1
    · exact pltL_mem h.2 e m
theorem pltL_of : ∀ {ds : List D}, (∀ d ∈ ds, plt d = true) → pltL ds = true
  | [], _ => rfl
  | d :: ds, h => by simp only [pltL, Bool.and_eq_true]; exact ⟨h d List.mem_cons_self, pltL_of fun e m => h e (List.mem_cons_of_mem _ m)⟩
theorem pltL_map {α : Type} {f : α → D} (h : ∀ a, plt (f a) = true) (l : List α) : pltL (l.map f) = true := pltL_of fun d m => by
  obtain ⟨a, _, rfl⟩ := List.mem_map.mp m
  exact h a
theorem isI_bl {b : Bool} : isD "int" (.bl b) = true := by simp [isD, tyN]
theorem eq_selfI {i : Int} : (i == i) = true := by simp
theorem eq_selfB {b : Bool} : (b == b) = true := by simp
theorem same_e {d : D} (hp : plt d = true) (hz : ndz d ≤ 99999) : F__law_same [d, d] = some (.bl true, [some d, some d]) := by
  refine of_ok (fn_ok rfl ?_)
  unfold B__law_same
  simp only [List.map_cons, List.map_nil, List.replicate_succ, List.replicate_zero, List.cons_append, List.nil_append]
  have hi := plt_imm hp
  simp (dsimp := false) (maxSteps := 2000000) (disch := (first | assumption | omega | (simp only [List.length_map, List.length_append, List.length_cons, List.length_nil]; omega))) only [↓preS, postS, outsOf, wipeE, reduceIte, reduceCtorEq, BEq.rfl, Bool.false_eq_true, Nat.reduceAdd, Nat.reduceLT, getA, setA, hi]
  have e0 : ([D.tup [d, d]] : List D) = [d].map twoD := rfl
  rw [e0]
  refine for_setR [2, 3, 4, 5, 6] (fun n ss => ∃ (ds : List D) (x y z w : Option D), ss = [some (.lst false (ds.map twoD)), x, y, z, w] ∧ ndzL ds + n = ndz d ∧ pltL ds = true) ⟨[d], _, _, _, _, rfl, by simp [ndzL], by simp [pltL, hp]⟩ ?_ ?_
  · rintro n ss hlt ⟨ds, x, y, z, w, rfl, hn, hpl⟩
    rcases List.eq_nil_or_concat ds with rfl | ⟨l, e, rfl⟩
    · simp (dsimp := false) (maxSteps := 2000000) (disch := (first | assumption | omega | (simp only [List.length_map, List.length_append, List.length_cons, List.length_nil]; omega))) only [↓preS, postS, outsOf, wipeE, reduceIte, reduceCtorEq, BEq.rfl, Bool.false_eq_true, Nat.reduceAdd, Nat.reduceLT, getA, setA, List.map_nil, List.length_nil]
      rfl
    rw [List.concat_eq_append] at *
    rw [ndzL_app] at hn
    simp only [pltL_app, Bool.and_eq_true] at hpl
    have he : plt e = true := by have := hpl.2; simpa [pltL] using this
    have hen : ndzL [e] = ndz e := by simp [ndzL]
    have hne : (((l ++ [e]).length : Int) == 0) = false := beq_eq_false_iff_ne.mpr (by simp; omega)
    have := ndz_pos e
    have hll := ndzL_len l
    rw [hen] at hn
    have ll : gLen [.lst false ((l ++ [e]).map twoD)] = some (.int (l ++ [e]).length) := by rw [g_len_lst, List.length_map]
    have push : ∀ (es : List D) (E : D) (hix : ∀ k (h : k < es.length), dIx E (.int (k : Nat)) = some es[k]) (hes : pltL es = true) (hz2 : ndz e = ndzL es + 1) (w : Option D) (t u v : Option D), Ok (forL (gNm 6) (sExpr (eMeth 2 "list" mAppend (aConsE (eP (pTup (aCons (p2 dIx (pVar 4) (pVar 6)) (aCons (p2 dIx (pVar 5) (pVar 6)) aNil)))) aNilE))) (rngD 0 es.length) [t, u, some (.lst false (l.map twoD)), v, some E, some E, w])
        (fun r => r.1 = .nx ∧ ∃ w, r.2 = [t, u, some (.lst false ((l ++ es).map twoD)), v, some E, some E, w]) := by
      intro es E hix hes hz2 w t u v
      have hel := ndzL_len es
      refine for_setR [2, 6] (fun k ss => ∃ x, ss = [some (.lst false ((l ++ es.take k).map twoD)), x]) ⟨_, by rw [List.take_zero, List.append_nil]; rfl⟩ ?_ ?_
      · rintro k ss hk ⟨x, rfl⟩
        have hei : isImm es[k] = true := plt_imm (pltL_mem hes _ (List.getElem_mem hk))
        have hap : mAppend (.lst false ((l ++ es.take k).map twoD)) [.tup [es[k], es[k]]] = some (.non, .lst false ((l ++ es.take (k + 1)).map twoD)) := by
          rw [app_lst (by rw [List.length_map, List.length_append, List.length_take]; omega), take_at hk, ← List.append_assoc, two_app (l ++ es.take k)]; rfl
        simp (dsimp := false) (maxSteps := 2000000) (disch := (first | assumption | omega | (simp only [List.length_map, List.length_append, List.length_cons, List.length_nil]; omega))) only [↓preS, postS, outsOf, wipeE, reduceIte, reduceCtorEq, BEq.rfl, Bool.false_eq_true, Nat.reduceAdd, Nat.reduceLT, getA, setA, hix k hk, hei, hap]
        exact ⟨rfl, _, rfl⟩
      · rintro ss ⟨x, rfl⟩
        rw [List.take_length]
        exact ⟨rfl, _, rfl⟩
    have fin : ndz e = 1 → ndzL l + (n + 1) = ndz d := fun h => by omega
    cases e with
    | non =>
      simp (dsimp := false) (maxSteps := 2000000) (disch := (first | assumption | omega | (simp only [List.length_map, List.length_append, List.length_cons, List.length_nil]; omega))) only [↓preS, postS, outsOf, wipeE, reduceIte, reduceCtorEq, BEq.rfl, Bool.false_eq_true, Nat.reduceAdd, Nat.reduceLT, getA, setA, ll, hne, ct_nx, pop_two, isT_non, nft_non, is_non, isn_non]
      exact ⟨rfl, l, _, _, _, _, rfl, fin (by simp [ndz]), hpl.1⟩
    | bl b =>
      simp (dsimp := false) (maxSteps := 2000000) (disch := (first | assumption | omega | (simp only [List.length_map, List.length_append, List.length_cons, List.length_nil]; omega))) only [↓preS, postS, outsOf, wipeE, reduceIte, reduceCtorEq, BEq.rfl, Bool.false_eq_true, Nat.reduceAdd, Nat.reduceLT, getA, setA, ll, hne, ct_nx, pop_two, isT_bl, nft_bl, is_bl, isB_bl, eq_selfB, Bool.not_true, bne_self]
      exact ⟨rfl, l, _, _, _, _, rfl, fin (by simp [ndz]), hpl.1⟩
    | int j =>
      simp (dsimp := false) (maxSteps := 2000000) (disch := (first | assumption | omega | (simp only [List.length_map, List.length_append, List.length_cons, List.length_nil]; omega))) only [↓preS, postS, outsOf, wipeE, reduceIte, reduceCtorEq, BEq.rfl, Bool.false_eq_true, Nat.reduceAdd, Nat.reduceLT, getA, setA, ll, hne, ct_nx, pop_two, isT_int, nft_int, is_int, isB_int, isI_int, eq_selfI, Bool.not_true, ine_self]
      exact ⟨rfl, l, _, _, _, _, rfl, fin (by simp [ndz]), hpl.1⟩
    | str t =>
      simp (dsimp := false) (maxSteps := 2000000) (disch := (first | assumption | omega | (simp only [List.length_map, List.length_append, List.length_cons, List.length_nil]; omega))) only [↓preS, postS, outsOf, wipeE, reduceIte, reduceCtorEq, BEq.rfl, Bool.false_eq_true, Nat.reduceAdd, Nat.reduceLT, getA, setA, ll, hne, ct_nx, pop_two, isT_str, nft_str, is_str, isB_str, isI_str, isS_str, Bool.not_true, sne_self]
      exact ⟨rfl, l, _, _, _, _, rfl, fin (by simp [ndz]), hpl.1⟩
    | tup es =>
      have hes : pltL es = true := by simpa [plt] using he
      have hz2 : ndz (.tup es) = ndzL es + 1 := by simp [ndz]
      have hel := ndzL_len es
      simp (dsimp := false) (maxSteps := 2000000) (disch := (first | assumption | omega | (simp only [List.length_map, List.length_append, List.length_cons, List.length_nil]; omega))) only [↓preS, postS, outsOf, wipeE, reduceIte, reduceCtorEq, BEq.rfl, Bool.false_eq_true, Nat.reduceAdd, Nat.reduceLT, getA, setA, ll, hne, ct_nx, pop_two, isT_tup, nft_tup, ine_self, g_len_tup]
      refine ok_mono (push es (.tup es) (fun k h => by rw [ix_tup, at_nat h]) hes hz2 _ _ _ _) ?_
      rintro ⟨o, en⟩ ⟨ho, w, hw⟩
      have ho : o = .nx := ho
      have hw : en = _ := hw
      subst ho hw
      exact ⟨rfl, l ++ es, _, _, _, _, rfl, by rw [ndzL_app]; omega, by rw [pltL_app, hpl.1, hes]; rfl⟩
    | lst zz es => simp [plt] at he
    | scr es => simp [plt] at he
    | dcK z a b => simp [plt] at he
    | dcT z a b => simp [plt] at he
    | exo a b c f g => simp [plt] at he
  rintro ss ⟨ds, x, y, z, w, rfl, hn, hpl⟩
  exact absurd hn (by omega)

/-! ### links, layers, lists -/
def prD (p : Str × Str) : D := .tup [.str p.1, .str p.2]
theorem cut_any {α : Type} {f : α → D} (l : List α) (lo hi : Option Int) : ∃ l' : List α, cutD (l.map f) lo hi = l'.map f ∧ l'.length ≤ l.length := ⟨_, by unfold cutD; rw [← List.map_drop, ← List.map_take], by simp; omega⟩
theorem at_strI {l : List Str} {x : Int} (h0 : 0 ≤ x) (h1 : x < l.length) : ∃ t : Str, L2.atI (l.map D.str) x = some (.str t) := by
  obtain ⟨n, rfl⟩ := Int.eq_ofNat_of_zero_le h0
  exact ⟨l[n]'(by omega), at_map (by omega)⟩
theorem links_w {ds : List Int} {row : List Str} {z y : Bool} {often : Int} {Q : D × List (Option D) → Prop} (hd : 0 < ds.length) (hr : row.length ≤ 45)
    (q : ∀ L : List (Str × Str), L.length ≤ 2025 → Q (.lst false (L.map prD), [some (.lst z (ds.map D.int)), some (.lst y (row.map D.str)), some (.int often)])) : Ok (F__law_links [.lst z (ds.map D.int), .lst y (row.map D.str), .int often]) Q := by
  refine fn_ok rfl ?_
  unfold B__law_links
  simp only [List.map_cons, List.map_nil, List.replicate_succ, List.replicate_zero, List.cons_append, List.nil_append]
  have h1 : (0 : Int) < (ds.length : Int) := by omega
  have sm : smallI (row.length : Int) := by unfold smallI; omega
  simp (dsimp := false) (maxSteps := 2000000) (disch := (first | assumption | omega | (simp only [List.length_map, List.length_append, List.length_cons, List.length_nil]; omega))) only [↓preS, postS, outsOf, wipeE, reduceIte, reduceCtorEq, BEq.rfl, Bool.false_eq_true, Nat.reduceAdd, Nat.reduceLT, getA, setA, sm]
  refine for_setR [3, 4, 5, 6] (fun i ss => ∃ (L : List (Str × Str)) (a : Int) (x w : Option D), ss = [some (.lst false (L.map prD)), some (.int a), x, w] ∧ L.length ≤ i * 45) ⟨[], 0, _, _, rfl, by simp⟩ ?_ ?_
  · rintro i ss hi ⟨L, a, x, w, rfl, hL⟩
    have smi : smallI (i : Int) := by unfold smallI; omega
    simp (dsimp := false) (maxSteps := 2000000) (disch := (first | assumption | omega | (simp only [List.length_map, List.length_append, List.length_cons, List.length_nil]; omega))) only [↓preS, postS, outsOf, wipeE, reduceIte, reduceCtorEq, BEq.rfl, Bool.false_eq_true, Nat.reduceAdd, Nat.reduceLT, getA, setA, smi]
    refine for_setR [3, 4, 6] (fun j ss => ∃ (L : List (Str × Str)) (a : Int) (x : Option D), ss = [some (.lst false (L.map prD)), some (.int a), x] ∧ L.length ≤ i * 45 + j) ⟨L, a, _, rfl, by omega⟩ ?_ ?_
    · rintro j ss hj ⟨L, a, x, rfl, hL⟩
      obtain ⟨d, _, ed⟩ := at_modI (cs := ds) (x := a) hd
      obtain ⟨s, es⟩ := at_strI (l := row) (x := (j : Int)) (by omega) (by omega)
      obtain ⟨t, et⟩ := at_strI (l := row) (x := (i : Int)) (by omega) (by omega)
      have ap : mAppend (.lst false (L.map prD)) [.tup [.str s, .str t]] = some (.non, .lst false ((L ++ [(s, t)]).map prD)) := by
        rw [app_lst (by rw [List.length_map]; omega), List.map_append]; rfl
      simp (dsimp := false) (maxSteps := 2000000) (disch := (first | assumption | omega | (simp only [List.length_map, List.length_append, List.length_cons, List.length_nil]; omega))) only [↓preS, postS, outsOf, wipeE, reduceIte, reduceCtorEq, BEq.rfl, Bool.false_eq_true, Nat.reduceAdd, Nat.reduceLT, getA, setA]
      by_cases c : d % 16 < often
      · rw [sq_if]
        simp (dsimp := false) (maxSteps := 2000000) (disch := (first | assumption | omega | (simp only [List.length_map, List.length_append, List.length_cons, List.length_nil]; omega))) only [↓preS, postS, outsOf, wipeE, reduceIte, reduceCtorEq, BEq.rfl, Bool.false_eq_true, Nat.reduceAdd, Nat.reduceLT, getA, setA, h1, ed, c, es, et, ap, ct_nx]
        exact ⟨_, _, rfl, rfl, rfl, L ++ [(s, t)], _, _, rfl, by simp; omega⟩
      · rw [sq_if]
        simp (dsimp := false) (maxSteps := 2000000) (disch := (first | assumption | omega | (simp only [List.length_map, List.length_append, List.length_cons, List.length_nil]; omega))) only [↓preS, postS, outsOf, wipeE, reduceIte, reduceCtorEq, BEq.rfl, Bool.false_eq_true, Nat.reduceAdd, Nat.reduceLT, getA, setA, h1, ed, c, ct_nx]
        exact ⟨_, _, rfl, rfl, rfl, L, _, _, rfl, by omega⟩
    rintro ss ⟨L, a, x, rfl, hL⟩
    simp (dsimp := false) (maxSteps := 2000000) (disch := (first | assumption | omega | (simp only [List.length_map, List.length_append, List.length_cons, List.length_nil]; omega))) only [↓preS, postS, outsOf, wipeE, reduceIte, reduceCtorEq, BEq.rfl, Bool.false_eq_true, Nat.reduceAdd, Nat.reduceLT, getA, setA]
    exact ⟨rfl, L, _, _, _, rfl, by omega⟩
  rintro ss ⟨L, a, x, w, rfl, hL⟩
  rw [ct_nx]
  simp (dsimp := false) (maxSteps := 2000000) (disch := (first | assumption | omega | (simp only [List.length_map, List.length_append, List.length_cons, List.length_nil]; omega))) only [↓preS, postS, outsOf, wipeE, reduceIte, reduceCtorEq, BEq.rfl, Bool.false_eq_true, Nat.reduceAdd, Nat.reduceLT, getA, setA]
  have hL : L.length ≤ row.length * 45 := hL
  exact q L (by omega)

/-! ### layers, lists -/
def rowD (r : List Str) : D := .lst false (r.map D.str)
theorem mod_nat {a b : Nat} (h : 0 < b) : ((a : Int) % (b : Int)) < (b : Int) ∧ 0 ≤ (a : Int) % (b : Int) := ⟨Int.emod_lt_of_pos _ (by omega), Int.emod_nonneg _ (by omega)⟩
theorem layers_w {ds : List Int} {row : List Str} {z y : Bool} {most : Int} {Q : D × List (Option D) → Prop} (hd : 0 < ds.length) (hr : row.length ≤ 45) (hm : 0 < most)
    (q : ∀ L : List (Str × Str), L.length ≤ 2025 → Q (.lst false (L.map prD), [some (.lst z (ds.map D.int)), some (.lst y (row.map D.str)), some (.int most)])) : Ok (F__law_layers [.lst z (ds.map D.int), .lst y (row.map D.str), .int most]) Q := by
  refine fn_ok rfl ?_
  unfold B__law_layers
  simp only [List.map_cons, List.map_nil, List.replicate_succ, List.replicate_zero, List.cons_append, List.nil_append]
  have h1 : (0 : Int) < (ds.length : Int) := by omega
  have sm : smallI (row.length : Int) := by unfold smallI; omega
  have rim : (row.map D.str).all isImm = true := all_map _ fun _ => rfl
  simp (dsimp := false) (maxSteps := 2000000) (disch := (first | assumption | omega | (simp only [List.length_map, List.length_append, List.length_cons, List.length_nil]; omega))) only [↓preS, postS, outsOf, wipeE, reduceIte, reduceCtorEq, BEq.rfl, Bool.false_eq_true, Nat.reduceAdd, Nat.reduceLT, getA, setA, sm]
  refine for_cut [4, 5, 6, 7] (fun ss => ∃ (rs : List (List Str)) (a w v : Option D), ss = [some (.lst false (rs.map rowD)), a, w, v] ∧ rs.length ≤ 45 ∧ ∀ r ∈ rs, r.length ≤ 45) ?_ ?_
  · refine for_setR [4, 5, 6, 7] (fun i ss => ∃ (rs : List (List Str)) (a : Int) (w v : Option D), ss = [some (.lst false (rs.map rowD)), some (.int a), w, v] ∧ rs.length ≤ i ∧ ∀ r ∈ rs, r.length ≤ 45) ⟨[], 0, _, _, rfl, by simp, fun _ m => nomatch m⟩ ?_ ?_
    · rintro i ss hi ⟨rs, a, w, v, rfl, hl, hrs⟩
      obtain ⟨d, _, ed⟩ := at_modI (cs := ds) (x := (i : Int)) hd
      by_cases c : (row.length : Int) ≤ a
      · simp (dsimp := false) (maxSteps := 2000000) (disch := (first | assumption | omega | (simp only [List.length_map, List.length_append, List.length_cons, List.length_nil]; omega))) only [↓preS, postS, outsOf, wipeE, reduceIte, reduceCtorEq, BEq.rfl, Bool.false_eq_true, Nat.reduceAdd, Nat.reduceLT, getA, setA, c]
        exact ⟨rfl, rs, _, _, _, rfl, by omega, hrs⟩
      · obtain ⟨x, hx, hxl⟩ := cut_any (f := D.str) row (some a) (some (a + (1 + d % most)))
        have ap : mAppend (.lst false (rs.map rowD)) [.lst false (x.map D.str)] = some (.non, .lst false ((rs ++ [x]).map rowD)) := by
          rw [app_lst (by rw [List.length_map]; omega), List.map_append]; rfl
        simp (dsimp := false) (maxSteps := 2000000) (disch := (first | assumption | omega | (simp only [List.length_map, List.length_append, List.length_cons, List.length_nil]; omega))) only [↓preS, postS, outsOf, wipeE, reduceIte, reduceCtorEq, BEq.rfl, Bool.false_eq_true, Nat.reduceAdd, Nat.reduceLT, getA, setA, c, ct_nx, h1, ed, hm, sl_lst rim, hx, ap]
        exact ⟨_, _, rfl, rfl, rfl, rs ++ [x], _, _, _, rfl, by simp; omega, mem_snoc hrs (by omega)⟩
    rintro ss ⟨rs, a, w, v, rfl, hl, hrs⟩
    exact ⟨rfl, rfl, rs, _, _, _, rfl, by have hl : rs.length ≤ row.length := hl; omega, hrs⟩
  rintro ss ⟨rs, a, w, v, rfl, hl, hrs⟩
  have smr : smallI (rs.length : Int) := by unfold smallI; omega
  simp (dsimp := false) (maxSteps := 2000000) (disch := (first | assumption | omega | (simp only [List.length_map, List.length_append, List.length_cons, List.length_nil]; omega))) only [↓preS, postS, outsOf, wipeE, reduceIte, reduceCtorEq, BEq.rfl, Bool.false_eq_true, Nat.reduceAdd, Nat.reduceLT, getA, setA, smr]
  refine for_setR [3, 6, 8, 9] (fun i ss => ∃ (L : List (Str × Str)) (x w v : Option D), ss = [some (.lst false (L.map prD)), x, w, v] ∧ L.length ≤ 200) ⟨[], _, _, _, rfl, by simp⟩ ?_ ?_
  · rintro i ss hi ⟨L, x, w, v, rfl, hL⟩
    have hi1 : i + 1 < rs.length := by omega
    have hi0 : i < rs.length := by omega
    have e0 : (1 + (i : Int) - 1) = ((i : Nat) : Int) := by omega
    have e1 : (1 + (i : Int)) = ((i + 1 : Nat) : Int) := by omega
    have x0 : L2.atI (rs.map rowD) ((i : Nat) : Int) = some (rowD rs[i]) := at_map hi0
    have x1 : L2.atI (rs.map rowD) ((i + 1 : Nat) : Int) = some (rowD rs[i + 1]) := at_map hi1
    have l0 : gLen [rowD rs[i]] = some (.int rs[i].length) := by unfold rowD; rw [g_len_lst, List.length_map]
    have l1 : gLen [rowD rs[i + 1]] = some (.int rs[i + 1].length) := by unfold rowD; rw [g_len_lst, List.length_map]
    have b0 := hrs _ (List.getElem_mem hi0)
    have b1 := hrs _ (List.getElem_mem hi1)
    generalize rs[i] = A at x0 l0 b0
    generalize rs[i + 1] = B at x1 l1 b1
    have hm : A.length * B.length ≤ 45 * 45 := Nat.mul_le_mul b0 b1
    have em : ((A.length : Int) * (B.length : Int)) = ((A.length * B.length : Nat) : Int) := by push_cast; rfl
    have mu := mu_int (i := (A.length : Int)) (j := (B.length : Int)) (by omega) (by omega)
    rw [em] at mu
    have smm : smallI ((A.length * B.length : Nat) : Int) := by unfold smallI; omega
    have ix0 : L2.atI (rs.map rowD) (1 + (i : Int) - 1) = some (rowD A) := by rw [e0]; exact x0
    have ix1 : L2.atI (rs.map rowD) (1 + (i : Int)) = some (rowD B) := by rw [e1]; exact x1
    simp (dsimp := false) (maxSteps := 2000000) (disch := (first | assumption | omega | (simp only [List.length_map, List.length_append, List.length_cons, List.length_nil]; omega))) only [↓preS, postS, outsOf, wipeE, reduceIte, reduceCtorEq, BEq.rfl, Bool.false_eq_true, Nat.reduceAdd, Nat.reduceLT, getA, setA, ix0, ix1, l0, l1, mu, smm]
    refine for_setR [3, 8, 9] (fun j ss => ∃ (L : List (Str × Str)) (w v : Option D), ss = [some (.lst false (L.map prD)), w, v] ∧ L.length ≤ 200) ⟨L, _, _, rfl, hL⟩ ?_ ?_
    · rintro j ss hj ⟨L, w, v, rfl, hL⟩
      have hB : 0 < B.length := by
        rcases Nat.eq_zero_or_pos B.length with h | h
        · rw [h, Nat.mul_zero] at hj; omega
        · exact h
      have hBi : (0 : Int) < (B.length : Int) := by omega
      have hB2 : (B.length : Int) < 1073741824 := by omega
      have d0 : 0 ≤ (j : Int) / (B.length : Int) := Int.ediv_nonneg (by omega) (by omega)
      have d1 : (j : Int) / (B.length : Int) < (A.length : Int) := Int.ediv_lt_of_lt_mul hBi (by rw [em]; omega)
      obtain ⟨m1, m0⟩ := mod_nat (a := j) hB
      obtain ⟨s, es⟩ := at_strI (l := A) d0 d1
      obtain ⟨t, et⟩ := at_strI (l := B) m0 m1
      have es : dIx (rowD A) (.int ((j : Int) / (B.length : Int))) = some (.str s) := by unfold rowD; rw [ix_lst]; exact es
      have et : dIx (rowD B) (.int ((j : Int) % (B.length : Int))) = some (.str t) := by unfold rowD; rw [ix_lst]; exact et
      obtain ⟨d, _, ed⟩ := at_modI (cs := ds) (x := 7 * (1 + (i : Int)) + (j : Int)) hd
      have ap : mAppend (.lst false (L.map prD)) [.tup [.str s, .str t]] = some (.non, .lst false ((L ++ [(s, t)]).map prD)) := by
        rw [app_lst (by rw [List.length_map]; omega), List.map_append]; rfl
      have m7 := mu_int (i := 7) (j := 1 + (i : Int)) (by decide) (by omega)
      have dv := div_int (i := (j : Int)) hBi hB2
      have md := mod_int (i := (j : Int)) hBi
      by_cases c : 0 < d % 5
      · by_cases c2 : (L.length : Int) < 200
        · simp (dsimp := false) (maxSteps := 2000000) (disch := (first | assumption | omega | (simp only [List.length_map, List.length_append, List.length_cons, List.length_nil]; omega))) only [↓preS, postS, outsOf, wipeE, reduceIte, reduceCtorEq, BEq.rfl, Bool.false_eq_true, Nat.reduceAdd, Nat.reduceLT, getA, setA, ix0, ix1, l1, dv, md, es, et, m7, h1, ed, c, c2, ap]
          exact ⟨rfl, L ++ [(s, t)], _, _, rfl, by simp; omega⟩
        · simp (dsimp := false) (maxSteps := 2000000) (disch := (first | assumption | omega | (simp only [List.length_map, List.length_append, List.length_cons, List.length_nil]; omega))) only [↓preS, postS, outsOf, wipeE, reduceIte, reduceCtorEq, BEq.rfl, Bool.false_eq_true, Nat.reduceAdd, Nat.reduceLT, getA, setA, ix0, ix1, l1, dv, md, es, et, m7, h1, ed, c, c2]
          exact ⟨rfl, L, _, _, rfl, hL⟩
      · simp (dsimp := false) (maxSteps := 2000000) (disch := (first | assumption | omega | (simp only [List.length_map, List.length_append, List.length_cons, List.length_nil]; omega))) only [↓preS, postS, outsOf, wipeE, reduceIte, reduceCtorEq, BEq.rfl, Bool.false_eq_true, Nat.reduceAdd, Nat.reduceLT, getA, setA, ix0, ix1, l1, dv, md, es, et, m7, h1, ed, c]
        exact ⟨rfl, L, _, _, rfl, hL⟩
    rintro ss ⟨L, w, v, rfl, hL⟩
    simp (dsimp := false) (maxSteps := 2000000) (disch := (first | assumption | omega | (simp only [List.length_map, List.length_append, List.length_cons, List.length_nil]; omega))) only [↓preS, postS, outsOf, wipeE, reduceIte, reduceCtorEq, BEq.rfl, Bool.false_eq_true, Nat.reduceAdd, Nat.reduceLT, getA, setA]
    exact ⟨rfl, L, _, _, _, rfl, hL⟩
  rintro ss ⟨L, x, w, v, rfl, hL⟩
  rw [ct_nx]
  simp (dsimp := false) (maxSteps := 2000000) (disch := (first | assumption | omega | (simp only [List.length_map, List.length_append, List.length_cons, List.length_nil]; omega))) only [↓preS, postS, outsOf, wipeE, reduceIte, reduceCtorEq, BEq.rfl, Bool.false_eq_true, Nat.reduceAdd, Nat.reduceLT, getA, setA]
  exact q L (by omega)

/-! ### bare lists, sorted -/
structure Bare where
  n : List Str
  l : List (Str × Str)
def bareD (b : Bare) : D := .tup [.tup (b.n.map D.str), .tup (b.l.map prD)]
theorem sorted_fn {α : Type} {f : α → D} (l : List α) (h : l.length ≤ 16777216) (hi : ∀ a, isImm (f a) = true) (hn : ∀ a, nodic (f a) = true) (hal : ∀ a b, PySem.W.alike (py (f a)) (py (f b)) = true) (ht : (∀ a, tupNe (f a) = true) ∨ ∀ a, notTup (f a) = true) (hd : ∀ a, (py (f a)).depth ≤ 20) (z : Bool) :
    gSorted [.lst z (l.map f)] = some (.lst false ((l.mergeSort fun a b => leD (f a) (f b)).map f)) := by
  have h1 : ((l.map f).all isImm = true ∧ nodics (l.map f) = true) ∧ alikeB (l.map f) = true ∧ ((l.map f).all tupNe = true ∨ (l.map f).all notTup = true) ∧ (l.map f).length ≤ szL ∧ ((l.map f).all fun z => decide ((py z).depth ≤ 20)) = true :=
    ⟨⟨all_map _ hi, nodics_all fun d m => by obtain ⟨a, _, rfl⟩ := List.mem_map.mp m; exact hn a⟩, by unfold alikeB; simp [List.all_eq_true, hal], ht.imp (fun q => all_map _ q) (fun q => all_map _ q), by rw [List.length_map]; exact h, all_map _ fun a => by simp [hd a]⟩
  have e : (l.mergeSort fun a b => leD (f a) (f b)).map f = (l.map f).mergeSort leD := List.map_mergeSort (r := fun a b => leD (f a) (f b)) (s := leD) (f := f) (l := l) fun _ _ _ _ => rfl
  rw [e]
  show (if _ then some (D.lst false ((l.map f).mergeSort leD)) else none) = _
  rw [if_pos h1]
def srtN (l : List Str) : List Str := l.mergeSort fun a b => leD (.str a) (.str b)
def srtP (l : List (Str × Str)) : List (Str × Str) := l.mergeSort fun a b => leD (prD a) (prD b)
theorem srtN_len (l : List Str) : (srtN l).length = l.length := List.length_mergeSort _
theorem srtP_len (l : List (Str × Str)) : (srtP l).length = l.length := List.length_mergeSort _
theorem srtN_e {l : List Str} {z : Bool} (h : l.length ≤ 16777216) : gSorted [.lst z (l.map D.str)] = some (.lst false ((srtN l).map D.str)) :=
  sorted_fn l h (fun _ => rfl) (fun _ => by simp [nodic]) (fun _ _ => by simp [py, PySem.W.alike]) (.inr fun _ => rfl) (fun _ => by simp [py, PyData.depth]) z
theorem srtP_e {l : List (Str × Str)} {z : Bool} (h : l.length ≤ 16777216) : gSorted [.lst z (l.map prD)] = some (.lst false ((srtP l).map prD)) :=
  sorted_fn l h (fun _ => rfl) (fun _ => by simp [prD, nodic, nodics]) (fun _ _ => by simp [prD, py, pys, PySem.W.alike, PySem.W.alikeAll]) (.inl fun _ => rfl) (fun _ => by simp [prD, py, pys, PyData.depth, PyData.depthAll]) z
theorem le_str_anti {a b : Str} (h1 : leD (.str a) (.str b) = true) (h2 : leD (.str b) (.str a) = true) : a = b := by
  rw [leD_str, decide_eq_true_eq] at h1 h2
  have h := List.le_antisymm h1 h2
  cases a; cases b
  simp only at h
  congr 1
  exact Array.toList_inj.mp h
theorem leD_pr {a b : Str × Str} : leD (prD a) (prD b) = if a.1 = b.1 then leD (.str a.2) (.str b.2) else leD (.str a.1) (.str b.1) := by
  have h : leD (prD a) (prD b) = !PySem.W.dataLt (.tuple [.str b.1, .str b.2]) (.tuple [.str a.1, .str a.2]) := rfl
  have hs : ∀ x y : Str, leD (.str x) (.str y) = !PySem.W.dataLt (.str y) (.str x) := fun _ _ => rfl
  rw [h, hs, hs, PySem.W.dataLt_tuple]
  by_cases c : a.1 = b.1
  · have he : PyData.eqv (.str b.1) (.str a.1) = true := by simp [PyData.eqv, c]
    rw [if_pos c, PySem.W.dataLt_all_yes (by simp [PySem.W.alike]) he]
    by_cases c2 : a.2 = b.2
    · have he2 : PyData.eqv (.str b.2) (.str a.2) = true := by simp [PyData.eqv, c2]
      rw [PySem.W.dataLt_all_yes (by simp [PySem.W.alike]) he2, c2]
      have e1 : PySem.W.dataLt (.str b.2) (.str b.2) = false := by rw [PySem.W.dataLt_str]; exact decide_eq_false (List.lt_irrefl _)
      rw [e1]; rfl
    · have he2 : PyData.eqv (.str b.2) (.str a.2) = false := by simp [PyData.eqv, Ne.symm c2]
      rw [PySem.W.dataLt_all_no (by simp [PySem.W.alike]) he2]
  · have he : PyData.eqv (.str b.1) (.str a.1) = false := by simp [PyData.eqv, Ne.symm c]
    rw [if_neg c, PySem.W.dataLt_all_no (by simp [PySem.W.alike]) he]
theorem pr_anti {a b : Str × Str} (h1 : leD (prD a) (prD b) = true) (h2 : leD (prD b) (prD a) = true) : a = b := by
  rw [leD_pr] at h1 h2
  by_cases c : a.1 = b.1
  · rw [if_pos c] at h1
    rw [if_pos c.symm] at h2
    exact Prod.ext c (le_str_anti h1 h2)
  · rw [if_neg c] at h1
    rw [if_neg (Ne.symm c)] at h2
    exact absurd (le_str_anti h1 h2) c
theorem srtP_perm {a b : List (Str × Str)} (h : a.Perm b) : srtP a = srtP b := by
  have srt : ∀ l, (srtP l).Pairwise fun a b => leD (prD a) (prD b) = true := fun l => List.pairwise_mergeSort (fun a b c => leD_total.trans (prD a) (prD b) (prD c)) (fun a b => by
    rcases leD_total.total (prD a) (prD b) with h | h <;> simp [h]) l
  exact List.Perm.eq_of_pairwise (fun x y _ _ h1 h2 => pr_anti h1 h2) (srt a) (srt b) ((List.mergeSort_perm _ _).trans (h.trans (List.mergeSort_perm _ _).symm))
theorem srtP_app (a b : List (Str × Str)) : srtP (srtP a ++ b) = srtP (a ++ b) := srtP_perm ((List.mergeSort_perm _ _).append_right b)
structure Bz (b : Bare) : Prop where
  n : b.n.length ≤ 50
  l : b.l.length ≤ 2100
theorem bare_plt (b : Bare) : plt (bareD b) = true := by
  have h1 : pltL (b.n.map D.str) = true := pltL_map (fun _ => rfl) _
  have h2 : pltL (b.l.map prD) = true := pltL_map (fun _ => by simp [prD, plt, pltL]) _
  simp [bareD, plt, pltL, h1, h2]
theorem bare_ndz {b : Bare} (h1 : b.n.length ≤ 100) (h2 : b.l.length ≤ 20000) : ndz (bareD b) ≤ 99999 := by
  have a : ndzL (b.n.map D.str) ≤ 1 * b.n.length := ndzL_map (fun _ => by simp [ndz]) _
  have c : ndzL (b.l.map prD) ≤ 3 * b.l.length := ndzL_map (fun _ => by simp [prD, ndz, ndzL]) _
  simp only [bareD, ndz, ndzL]
  omega
theorem list_w {ds : List Int} {row : List Str} {Q : D × List (Option D) → Prop} (hd : 2 ≤ ds.length) (hr : row.length ≤ 45)
    (q : ∀ B : Bare, Bz B → B.n.length = row.length → Q (bareD B, [some (.lst false (ds.map D.int)), some (.lst false (row.map D.str))])) : Ok (F__law_list [.lst false (ds.map D.int), .lst false (row.map D.str)]) Q := by
  refine fn_ok rfl ?_
  unfold B__law_list
  simp only [List.map_cons, List.map_nil, List.replicate_succ, List.replicate_zero, List.cons_append, List.nil_append]
  refine seq_ex [2] (fun os => ∃ L : List (Str × Str), os = [some (.lst true (L.map prD))] ∧ L.length ≤ 2025) ?_ ?_
  · have x0 : L2.atI (ds.map D.int) 0 = some (.int (ds[0]'(by omega))) := at_map (i := 0) (by omega)
    have x1 : L2.atI (ds.map D.int) 1 = some (.int (ds[1]'(by omega))) := at_map (i := 1) (by omega)
    have fzl : ∀ L : List (Str × Str), fzs (L.map prD) = L.map prD := fun L => fzs_map L fun _ => rfl
    by_cases c : 8 < (row.length : Int)
    · simp (dsimp := false) (maxSteps := 2000000) (disch := (first | assumption | omega | (simp only [List.length_map, List.length_append, List.length_cons, List.length_nil]; omega))) only [↓preS, postS, outsOf, wipeE, reduceIte, reduceCtorEq, BEq.rfl, Bool.false_eq_true, Nat.reduceAdd, Nat.reduceLT, getA, setA, c, x0]
      refine layers_w (by omega) hr (by have := Int.emod_nonneg (ds[0]'(by omega)) (by decide : (4 : Int) ≠ 0); omega) fun L hL => ?_
      simp (dsimp := false) (maxSteps := 2000000) (disch := (first | assumption | omega | (simp only [List.length_map, List.length_append, List.length_cons, List.length_nil]; omega))) only [↓preS, postS, outsOf, wipeE, reduceIte, reduceCtorEq, BEq.rfl, Bool.false_eq_true, Nat.reduceAdd, Nat.reduceLT, getA, setA, fzl]
      exact ⟨rfl, L, rfl, hL⟩
    · have r0 := Int.emod_nonneg (ds[1]'(by omega)) (by decide : (6 : Int) ≠ 0)
      have r1 := Int.emod_lt_of_pos (ds[1]'(by omega)) (by decide : (0 : Int) < 6)
      obtain ⟨n, hn⟩ := Int.eq_ofNat_of_zero_le r0
      have hn6 : n < ([0, 2, 4, 8, 12, 16] : List Int).length := by show n < 6; omega
      have ex : dIxI (.lst false [.int 0, .int 2, .int 4, .int 8, .int 12, .int 16]) (.int (ds[1]'(by omega) % 6)) = some (.int ([0, 2, 4, 8, 12, 16] : List Int)[n]) := by
        rw [hn]
        refine ixi_of ?_ rfl
        show dIx (.lst false (([0, 2, 4, 8, 12, 16] : List Int).map D.int)) (.int ((n : Nat) : Int)) = _
        rw [ix_lst, at_map hn6]
      simp (dsimp := false) (maxSteps := 2000000) (disch := (first | assumption | omega | (simp only [List.length_map, List.length_append, List.length_cons, List.length_nil]; omega))) only [↓preS, postS, outsOf, wipeE, reduceIte, reduceCtorEq, BEq.rfl, Bool.false_eq_true, Nat.reduceAdd, Nat.reduceLT, getA, setA, c, x1, ex]
      refine links_w (by omega) hr fun L hL => ?_
      simp (dsimp := false) (maxSteps := 2000000) (disch := (first | assumption | omega | (simp only [List.length_map, List.length_append, List.length_cons, List.length_nil]; omega))) only [↓preS, postS, outsOf, wipeE, reduceIte, reduceCtorEq, BEq.rfl, Bool.false_eq_true, Nat.reduceAdd, Nat.reduceLT, getA, setA, fzl]
      exact ⟨rfl, L, rfl, hL⟩
  rintro os ⟨L, rfl, hL⟩
  have s1 := srtN_e (l := row) (z := false) (by omega)
  have s2 := srtP_e (l := L) (z := true) (by omega)
  have g1 : gTuple [.lst false ((srtN row).map D.str)] = some (.tup ((srtN row).map D.str)) := g_tuple (all_map _ fun _ => rfl)
  have g2 : gTuple [.lst false ((srtP L).map prD)] = some (.tup ((srtP L).map prD)) := g_tuple (all_map _ fun _ => rfl)
  simp (dsimp := false) (maxSteps := 2000000) (disch := (first | assumption | omega | (simp only [List.length_map, List.length_append, List.length_cons, List.length_nil]; omega))) only [↓preS, postS, outsOf, wipeE, reduceIte, reduceCtorEq, BEq.rfl, Bool.false_eq_true, Nat.reduceAdd, Nat.reduceLT, getA, setA, s1, s2, g1, g2]
  exact q ⟨srtN row, srtP L⟩ ⟨by rw [srtN_len]; omega, by rw [srtP_len]; omega⟩ (srtN_len row)

/-! ### joining, by the law and by the program -/
def pairsL (a b : List Str) : List (Str × Str) := a.flatMap fun x => b.map fun y => (x, y)
def wordP (one other : Bare) : Str := if 40 < one.n.length + other.n.length then "full" else if other.n.any (fun x => decide (x ∈ one.n)) = true then "name" else ""
theorem word_full {one other : Bare} (h : 40 < one.n.length + other.n.length) : wordP one other = "full" := if_pos h
theorem word_name {one other : Bare} {x : Str} (h : ¬ 40 < one.n.length + other.n.length) (m : x ∈ other.n) (m2 : x ∈ one.n) : wordP one other = "name" := by
  unfold wordP
  rw [if_neg h, if_pos (List.any_eq_true.mpr ⟨x, m, decide_eq_true m2⟩)]
theorem word_no {one other : Bare} (h : ¬ 40 < one.n.length + other.n.length) (m : ∀ x ∈ other.n, x ∉ one.n) : wordP one other = "" := by
  unfold wordP
  rw [if_neg h, if_neg fun e => by
    obtain ⟨x, mx, hx⟩ := List.any_eq_true.mp e
    exact m x mx (of_decide_eq_true hx)]
theorem fm_pos {l m : List Str} : 0 < (l.filterMap fun x => if x ∈ m then some x else none).length ↔ ∃ x ∈ l, x ∈ m := by
  induction l with
  | nil => simp
  | cons a l ih =>
    by_cases c : a ∈ m
    · rw [List.filterMap_cons_some (b := a) (by simp [c])]
      exact ⟨fun _ => ⟨a, List.mem_cons_self, c⟩, fun _ => by simp⟩
    · rw [List.filterMap_cons_none (by simp [c]), ih]
      constructor
      · rintro ⟨x, h1, h2⟩; exact ⟨x, List.mem_cons_of_mem _ h1, h2⟩
      · rintro ⟨x, h1, h2⟩
        rcases List.mem_cons.mp h1 with rfl | h1
        · exact absurd h2 c
        · exact ⟨x, h1, h2⟩
section
variable {one other : Bare}
theorem b0 (b : Bare) : dIx (bareD b) (.int 0) = some (.tup (b.n.map D.str)) := rfl
theorem b1 (b : Bare) : dIx (bareD b) (.int 1) = some (.tup (b.l.map prD)) := rfl
theorem bim (b : Bare) : isImm (bareD b) = true := rfl
theorem word_e (h1 : Bz one) (h2 : Bz other) : F__law_word [bareD one, bareD other] = some (.str (wordP one other), [some (bareD one), some (bareD other)]) := by
  have n1 := h1.n
  have n2 := h2.n
  refine of_ok (fn_ok rfl ?_)
  unfold B__law_word
  simp only [List.map_cons, List.map_nil, List.replicate_succ, List.replicate_zero, List.cons_append, List.nil_append]
  by_cases c : 40 < one.n.length + other.n.length
  · have c' : (40 : Int) < (one.n.length : Int) + (other.n.length : Int) := by omega
    rw [word_full c, sq_if]
    simp (dsimp := false) (maxSteps := 2000000) (disch := (first | assumption | omega | (simp only [List.length_map, List.length_append, List.length_cons, List.length_nil]; omega))) only [↓preS, postS, outsOf, wipeE, reduceIte, reduceCtorEq, BEq.rfl, Bool.false_eq_true, Nat.reduceAdd, Nat.reduceLT, getA, setA, bim, b0, c']
    rfl
  · have c' : ¬ (40 : Int) < (one.n.length : Int) + (other.n.length : Int) := by omega
    rw [sq_if]
    simp (dsimp := false) (maxSteps := 2000000) (disch := (first | assumption | omega | (simp only [List.length_map, List.length_append, List.length_cons, List.length_nil]; omega))) only [↓preS, postS, outsOf, wipeE, reduceIte, reduceCtorEq, BEq.rfl, Bool.false_eq_true, Nat.reduceAdd, Nat.reduceLT, getA, setA, bim, b0, c', ct_nx]
    refine comp_fm (h := D.str) (f := D.str) (fun x => if x ∈ one.n then some x else none) (by rfl) (fun x _ => ?_) (by rw [List.length_nil]; omega) ?_
    · by_cases m : x ∈ one.n
      · simp only [wipeE, w_pC, w_pVar, w_pOwn, w_p1, w_p2, w_pSl, w_oNo, w_oSome, w_pTup, w_pCall, w_aNil, w_aCons, w_pIsi, w_pIsi2, w_eP, w_eMove, w_e1, w_e2, w_eTup, w_eLst, w_eFz, w_eCall, w_aNilE, w_aConsE, w_eIf, w_eComp, w_eComp2, w_eDc, w_eDef, w_cNil, w_cVal, w_cBor, w_eMeth, w_eMetP, w_plVar, w_plIx, w_eSMet, w_yesT, w_tP, w_p2t, w_e2t, w_tTruP, w_tTru, w_tNo, w_tAnd2, w_tOr2, w_iSeq, w_iRange1, w_iRange2, w_iEnumE, rngD_len, w_gNm, w_gTup, w_gsNil, w_gsCons, w_gPut, w_sNil, w_sRet, w_sExpr, w_sAsg, w_sPar, w_eSl, w_oNoE, w_oSomeE, w_eNot, w_eAnd2, w_eOr2, w_eIxV, w_pLMet, w_sAugD, w_pGet1, w_pGet2, w_eGet2, w_pDisp, p_dpNil, p_dpCons, kd_int, kd_str, w_iRevE, w_iItemsE, w_sCt, w_sBk, w_sRetN, w_sIf, w_sFor, w_sFz, ok_some, ok_map, takeB, giveB, outsOf, wipeE, im_non, im_bl, im_int, im_str, im_tup, im_scr, im_lst, im_dcK, im_dcT, fz_non, fz_bl, fz_int, fz_str, fz_tup, fz_scr, fz_lstT, fz_lst, fz_dcT, fz_dcK, wk_tup, wk_lst, wk_scr, wk_str, sI_tup, sI_lst, tr_bl, lt_int, gt_int, le_int, leX_int, ge_int, eq_int, ne_int, eq_str, ne_str, ne_bl, eq_bl, add_int, sub_int, neg_int, g_int, g_abs, ix_tup, ix_lst, at0, at1, at2, g_len_tup, g_len_lst, List.getElem?_cons_zero, List.getElem?_cons_succ, List.set_cons_zero, List.set_cons_succ, List.length_cons, List.length_nil, List.map_cons, List.map_nil, List.replicate_succ, List.replicate_zero, List.cons_append, List.nil_append, List.head?_cons, List.tail_cons, Option.join_some, Option.map_some, if_true, if_false, ite_true, ite_false, reduceIte, reduceCtorEq, BEq.rfl, Bool.false_eq_true, Bool.not_true, Bool.not_false, List.all_cons, List.all_nil, Bool.and_true, Bool.true_and, Bool.and_self, true_and, and_true, exists_eq_left, exists_eq_left', D.bl.injEq, D.int.injEq, D.str.injEq, D.tup.injEq, Out.rt.injEq, Nat.lt_add_left_iff_pos, Nat.zero_lt_succ, Nat.reduceAdd, Nat.reduceLT, bim, b0, in_strsT, m, decide_true, if_true]
        exact ⟨_, rfl, rfl⟩
      · simp only [wipeE, w_pC, w_pVar, w_pOwn, w_p1, w_p2, w_pSl, w_oNo, w_oSome, w_pTup, w_pCall, w_aNil, w_aCons, w_pIsi, w_pIsi2, w_eP, w_eMove, w_e1, w_e2, w_eTup, w_eLst, w_eFz, w_eCall, w_aNilE, w_aConsE, w_eIf, w_eComp, w_eComp2, w_eDc, w_eDef, w_cNil, w_cVal, w_cBor, w_eMeth, w_eMetP, w_plVar, w_plIx, w_eSMet, w_yesT, w_tP, w_p2t, w_e2t, w_tTruP, w_tTru, w_tNo, w_tAnd2, w_tOr2, w_iSeq, w_iRange1, w_iRange2, w_iEnumE, rngD_len, w_gNm, w_gTup, w_gsNil, w_gsCons, w_gPut, w_sNil, w_sRet, w_sExpr, w_sAsg, w_sPar, w_eSl, w_oNoE, w_oSomeE, w_eNot, w_eAnd2, w_eOr2, w_eIxV, w_pLMet, w_sAugD, w_pGet1, w_pGet2, w_eGet2, w_pDisp, p_dpNil, p_dpCons, kd_int, kd_str, w_iRevE, w_iItemsE, w_sCt, w_sBk, w_sRetN, w_sIf, w_sFor, w_sFz, ok_some, ok_map, takeB, giveB, outsOf, wipeE, im_non, im_bl, im_int, im_str, im_tup, im_scr, im_lst, im_dcK, im_dcT, fz_non, fz_bl, fz_int, fz_str, fz_tup, fz_scr, fz_lstT, fz_lst, fz_dcT, fz_dcK, wk_tup, wk_lst, wk_scr, wk_str, sI_tup, sI_lst, tr_bl, lt_int, gt_int, le_int, leX_int, ge_int, eq_int, ne_int, eq_str, ne_str, ne_bl, eq_bl, add_int, sub_int, neg_int, g_int, g_abs, ix_tup, ix_lst, at0, at1, at2, g_len_tup, g_len_lst, List.getElem?_cons_zero, List.getElem?_cons_succ, List.set_cons_zero, List.set_cons_succ, List.length_cons, List.length_nil, List.map_cons, List.map_nil, List.replicate_succ, List.replicate_zero, List.cons_append, List.nil_append, List.head?_cons, List.tail_cons, Option.join_some, Option.map_some, if_true, if_false, ite_true, ite_false, reduceIte, reduceCtorEq, BEq.rfl, Bool.false_eq_true, Bool.not_true, Bool.not_false, List.all_cons, List.all_nil, Bool.and_true, Bool.true_and, Bool.and_self, true_and, and_true, exists_eq_left, exists_eq_left', D.bl.injEq, D.int.injEq, D.str.injEq, D.tup.injEq, Out.rt.injEq, Nat.lt_add_left_iff_pos, Nat.zero_lt_succ, Nat.reduceAdd, Nat.reduceLT, bim, b0, in_strsT, m, decide_false, if_false]
        try exact ⟨trivial, rfl⟩
    have hp := fm_pos (l := other.n) (m := one.n)
    by_cases e : ∃ x ∈ other.n, x ∈ one.n
    · have hp := hp.mpr e
      obtain ⟨x, m1, m2⟩ := e
      rw [word_name c m1 m2]
      have hi : (0 : Int) < ((other.n.filterMap fun x => if x ∈ one.n then some x else none).length : Int) := by omega
      simp (dsimp := false) (maxSteps := 2000000) (disch := (first | assumption | omega | (simp only [List.length_map, List.length_append, List.length_cons, List.length_nil]; omega))) only [↓preS, postS, outsOf, wipeE, reduceIte, reduceCtorEq, BEq.rfl, Bool.false_eq_true, Nat.reduceAdd, Nat.reduceLT, getA, setA, hi]
      rfl
    · have hi : ¬ (0 : Int) < ((other.n.filterMap fun x => if x ∈ one.n then some x else none).length : Int) := fun z => e (hp.mp (by omega))
      rw [word_no c fun x m1 m2 => e ⟨x, m1, m2⟩]
      simp (dsimp := false) (maxSteps := 2000000) (disch := (first | assumption | omega | (simp only [List.length_map, List.length_append, List.length_cons, List.length_nil]; omega))) only [↓preS, postS, outsOf, wipeE, reduceIte, reduceCtorEq, BEq.rfl, Bool.false_eq_true, Nat.reduceAdd, Nat.reduceLT, getA, setA, hi]
      rfl
def besB (one other : Bare) : Bare := ⟨srtN (one.n ++ other.n), srtP (one.l ++ other.l)⟩
def behB (one other : Bare) : Bare := ⟨srtN (one.n ++ other.n), srtP (one.l ++ other.l ++ pairsL one.n other.n)⟩
def outO (w : Str) (b : Bare) : Out := if w = "" then .rt (bareD b) else .xc "BadStep" ["word"] [.str w]
theorem beside_e (h1 : Bz one) (h2 : Bz other) : F_beside_bare [bareD one, bareD other] = some (outO (wordP one other) (besB one other), [some (bareD one), some (bareD other)]) := by
  have n1 := h1.n
  have n2 := h2.n
  have l1 := h1.l
  have l2 := h2.l
  have an : dAdd (.tup (one.n.map D.str)) (.tup (other.n.map D.str)) = some (.tup ((one.n ++ other.n).map D.str)) := by
    rw [add_tup (by rw [List.length_map, List.length_map]; omega), List.map_append]
  have al : dAdd (.tup (one.l.map prD)) (.tup (other.l.map prD)) = some (.tup ((one.l ++ other.l).map prD)) := by
    rw [add_tup (by rw [List.length_map, List.length_map]; omega), List.map_append]
  have s1 := srtN_e (l := one.n ++ other.n) (z := false) (by rw [List.length_append]; omega)
  have s2 := srtP_e (l := one.l ++ other.l) (z := false) (by rw [List.length_append]; omega)
  have g1 : gTuple [.lst false ((srtN (one.n ++ other.n)).map D.str)] = some (.tup ((srtN (one.n ++ other.n)).map D.str)) := g_tuple (all_map _ fun _ => rfl)
  have g2 : gTuple [.lst false ((srtP (one.l ++ other.l)).map prD)] = some (.tup ((srtP (one.l ++ other.l)).map prD)) := g_tuple (all_map _ fun _ => rfl)
  refine of_ok (fnX_ok rfl ?_)
  unfold B_beside_bare
  simp only [List.map_cons, List.map_nil, List.replicate_succ, List.replicate_zero, List.cons_append, List.nil_append]
  by_cases c : 40 < one.n.length + other.n.length
  · have c' : (40 : Int) < (one.n.length : Int) + (other.n.length : Int) := by omega
    rw [word_full c, sq_if]
    simp (dsimp := false) (maxSteps := 2000000) (disch := (first | assumption | omega | (simp only [List.length_map, List.length_append, List.length_cons, List.length_nil]; omega))) only [↓preS, postS, outsOf, wipeE, reduceIte, reduceCtorEq, BEq.rfl, Bool.false_eq_true, Nat.reduceAdd, Nat.reduceLT, getA, setA, bim, b0, c', ct_nx]
    rfl
  · have c' : ¬ (40 : Int) < (one.n.length : Int) + (other.n.length : Int) := by omega
    rw [sq_if]
    simp (dsimp := false) (maxSteps := 2000000) (disch := (first | assumption | omega | (simp only [List.length_map, List.length_append, List.length_cons, List.length_nil]; omega))) only [↓preS, postS, outsOf, wipeE, reduceIte, reduceCtorEq, BEq.rfl, Bool.false_eq_true, Nat.reduceAdd, Nat.reduceLT, getA, setA, bim, b0, c', ct_nx]
    refine for_setM [2] (fun i ss => ∃ x : Option D, ss = [x] ∧ ∀ y ∈ other.n.take i, y ∉ one.n) ⟨_, rfl, fun _ m => by simp at m⟩ ?_ ?_
    · rintro i hi ss ⟨x, rfl, hx⟩
      by_cases m : other.n[i] ∈ one.n
      · rw [word_name c (List.getElem_mem hi) m]
        simp (dsimp := false) (maxSteps := 2000000) (disch := (first | assumption | omega | (simp only [List.length_map, List.length_append, List.length_cons, List.length_nil]; omega))) only [↓preS, postS, outsOf, wipeE, reduceIte, reduceCtorEq, BEq.rfl, Bool.false_eq_true, Nat.reduceAdd, Nat.reduceLT, getA, setA, bim, b0, in_strsT, m, decide_true]
        rfl
      · simp (dsimp := false) (maxSteps := 2000000) (disch := (first | assumption | omega | (simp only [List.length_map, List.length_append, List.length_cons, List.length_nil]; omega))) only [↓preS, postS, outsOf, wipeE, reduceIte, reduceCtorEq, BEq.rfl, Bool.false_eq_true, Nat.reduceAdd, Nat.reduceLT, getA, setA, bim, b0, in_strsT, m, decide_false]
        exact ⟨rfl, _, rfl, fun y my => by
          rw [take_at hi] at my
          rcases List.mem_append.mp my with my | my
          · exact hx y my
          · rw [List.mem_singleton.mp my]; exact m⟩
    rintro ss ⟨x, rfl, hx⟩
    rw [List.take_length] at hx
    rw [ct_nx, word_no c hx]
    simp (dsimp := false) (maxSteps := 2000000) (disch := (first | assumption | omega | (simp only [List.length_map, List.length_append, List.length_cons, List.length_nil]; omega))) only [↓preS, postS, outsOf, wipeE, reduceIte, reduceCtorEq, BEq.rfl, Bool.false_eq_true, Nat.reduceAdd, Nat.reduceLT, getA, setA, bim, b0, b1, an, al, srt_tup, s1, s2, g1, g2]
    rfl
theorem pairs_snoc (a b : List Str) (x : Str) : pairsL (a ++ [x]) b = pairsL a b ++ b.map fun y => (x, y) := by
  unfold pairsL
  rw [List.flatMap_append]
  simp
theorem pairs_len (a b : List Str) (h1 : a.length ≤ 50) (h2 : b.length ≤ 50) : (pairsL a b).length ≤ 2500 := by
  have : ∀ l : List Str, (l.flatMap fun x => b.map fun y => (x, y)).length = l.length * b.length := fun l => by
    induction l with
    | nil => simp
    | cons x l ih => rw [List.flatMap_cons, List.length_append, ih, List.length_map, List.length_cons, Nat.succ_mul, Nat.add_comm]
  unfold pairsL
  rw [this]
  exact Nat.mul_le_mul h1 h2
theorem behind_e (h1 : Bz one) (h2 : Bz other) : F_behind_bare [bareD one, bareD other] = some (outO (wordP one other) (behB one other), [some (bareD one), some (bareD other)]) := by
  have n1 := h1.n
  have n2 := h2.n
  have l1 := h1.l
  have l2 := h2.l
  have hb := beside_e h1 h2
  refine of_ok (fnX_ok rfl ?_)
  unfold B_behind_bare
  simp only [List.map_cons, List.map_nil, List.replicate_succ, List.replicate_zero, List.cons_append, List.nil_append]
  by_cases c : wordP one other = ""
  · rw [c] at hb ⊢
    have hb : F_beside_bare [bareD one, bareD other] = some (.rt (.tup [.tup ((srtN (one.n ++ other.n)).map D.str), .tup ((srtP (one.l ++ other.l)).map prD)]), [some (bareD one), some (bareD other)]) := hb
    simp (dsimp := false) (maxSteps := 2000000) (disch := (first | assumption | omega | (simp only [List.length_map, List.length_append, List.length_cons, List.length_nil]; omega))) only [↓preS, postS, outsOf, wipeE, reduceIte, reduceCtorEq, BEq.rfl, Bool.false_eq_true, Nat.reduceAdd, Nat.reduceLT, getA, setA, bim, hb, b0]
    refine comp2_map (f := D.str) (f1 := D.str) (fun _ => other.n) (fun x y => prD (x, y)) (by rfl) (fun x _ => ?_) ?_ ?_
    · simp only [wipeE, w_pC, w_pVar, w_pOwn, w_p1, w_p2, w_pSl, w_oNo, w_oSome, w_pTup, w_pCall, w_aNil, w_aCons, w_pIsi, w_pIsi2, w_eP, w_eMove, w_e1, w_e2, w_eTup, w_eLst, w_eFz, w_eCall, w_aNilE, w_aConsE, w_eIf, w_eComp, w_eComp2, w_eDc, w_eDef, w_cNil, w_cVal, w_cBor, w_eMeth, w_eMetP, w_plVar, w_plIx, w_eSMet, w_yesT, w_tP, w_p2t, w_e2t, w_tTruP, w_tTru, w_tNo, w_tAnd2, w_tOr2, w_iSeq, w_iRange1, w_iRange2, w_iEnumE, rngD_len, w_gNm, w_gTup, w_gsNil, w_gsCons, w_gPut, w_sNil, w_sRet, w_sExpr, w_sAsg, w_sPar, w_eSl, w_oNoE, w_oSomeE, w_eNot, w_eAnd2, w_eOr2, w_eIxV, w_pLMet, w_sAugD, w_pGet1, w_pGet2, w_eGet2, w_pDisp, p_dpNil, p_dpCons, kd_int, kd_str, w_iRevE, w_iItemsE, w_sCt, w_sBk, w_sRetN, w_sIf, w_sFor, w_sFz, ok_some, ok_map, takeB, giveB, outsOf, wipeE, im_non, im_bl, im_int, im_str, im_tup, im_scr, im_lst, im_dcK, im_dcT, fz_non, fz_bl, fz_int, fz_str, fz_tup, fz_scr, fz_lstT, fz_lst, fz_dcT, fz_dcK, wk_tup, wk_lst, wk_scr, wk_str, sI_tup, sI_lst, tr_bl, lt_int, gt_int, le_int, leX_int, ge_int, eq_int, ne_int, eq_str, ne_str, ne_bl, eq_bl, add_int, sub_int, neg_int, g_int, g_abs, ix_tup, ix_lst, at0, at1, at2, g_len_tup, g_len_lst, List.getElem?_cons_zero, List.getElem?_cons_succ, List.set_cons_zero, List.set_cons_succ, List.length_cons, List.length_nil, List.map_cons, List.map_nil, List.replicate_succ, List.replicate_zero, List.cons_append, List.nil_append, List.head?_cons, List.tail_cons, Option.join_some, Option.map_some, if_true, if_false, ite_true, ite_false, reduceIte, reduceCtorEq, BEq.rfl, Bool.false_eq_true, Bool.not_true, Bool.not_false, List.all_cons, List.all_nil, Bool.and_true, Bool.true_and, Bool.and_self, true_and, and_true, exists_eq_left, exists_eq_left', D.bl.injEq, D.int.injEq, D.str.injEq, D.tup.injEq, Out.rt.injEq, Nat.lt_add_left_iff_pos, Nat.zero_lt_succ, Nat.reduceAdd, Nat.reduceLT, bim, b0]
      exact fun y _ => ⟨by decide, rfl⟩
    · have hp := pairs_len one.n other.n n1 n2
      have e : (one.n.flatMap fun x => other.n.map fun y => prD (x, y)).length = (pairsL one.n other.n).length := by
        unfold pairsL
        rw [List.length_flatMap, List.length_flatMap]
        congr 1
        exact List.map_congr_left fun x _ => by rw [List.length_map, List.length_map]
      rw [List.length_nil]
      omega
    have hp := pairs_len one.n other.n n1 n2
    have e2 : (one.n.flatMap fun x => other.n.map fun y => prD (x, y)) = (pairsL one.n other.n).map prD := by
      unfold pairsL
      rw [List.map_flatMap]
      congr 1
      funext x
      rw [List.map_map]; rfl
    rw [List.nil_append, e2]
    have gl : gList [.tup ((srtP (one.l ++ other.l)).map prD)] = some (.lst false ((srtP (one.l ++ other.l)).map prD)) := g_list_tup (all_map _ fun _ => rfl)
    have fzp : ∀ l : List (Str × Str), fzs (l.map prD) = l.map prD := fun l => fzs_map l fun _ => rfl
    have ad : ∀ z : Bool, dAdd (.lst false ((srtP (one.l ++ other.l)).map prD)) (.lst z ((pairsL one.n other.n).map prD)) = some (.lst false ((srtP (one.l ++ other.l) ++ pairsL one.n other.n).map prD)) := fun z => by
      rw [add_lst (by rw [List.length_map, List.length_map, srtP_len, List.length_append]; omega) (all_map _ fun _ => rfl) (all_map _ fun _ => rfl), List.map_append]
    have s2 := srtP_e (l := srtP (one.l ++ other.l) ++ pairsL one.n other.n) (z := false) (by rw [List.length_append, srtP_len, List.length_append]; omega)
    rw [srtP_app] at s2
    have g2 : gTuple [.lst false ((srtP (one.l ++ other.l ++ pairsL one.n other.n)).map prD)] = some (.tup ((srtP (one.l ++ other.l ++ pairsL one.n other.n)).map prD)) := g_tuple (all_map _ fun _ => rfl)
    simp (dsimp := false) (maxSteps := 2000000) (disch := (first | assumption | omega | (simp only [List.length_map, List.length_append, List.length_cons, List.length_nil]; omega))) only [↓preS, postS, outsOf, wipeE, reduceIte, reduceCtorEq, BEq.rfl, Bool.false_eq_true, Nat.reduceAdd, Nat.reduceLT, getA, setA, gl, fzp, ad, s2, g2]
    rfl
  · have hb2 : F_beside_bare [bareD one, bareD other] = some (.xc "BadStep" ["word"] [.str (wordP one other)], [some (bareD one), some (bareD other)]) := by
      rw [hb]; unfold outO; rw [if_neg c]
    have ho : outO (wordP one other) (behB one other) = .xc "BadStep" ["word"] [.str (wordP one other)] := if_neg c
    rw [ho]
    simp (dsimp := false) (maxSteps := 2000000) (disch := (first | assumption | omega | (simp only [List.length_map, List.length_append, List.length_cons, List.length_nil]; omega))) only [↓preS, postS, outsOf, wipeE, reduceIte, reduceCtorEq, BEq.rfl, Bool.false_eq_true, Nat.reduceAdd, Nat.reduceLT, getA, setA, bim, hb2]
    rfl
theorem joined_e {b : Bool} (h1 : Bz one) (h2 : Bz other) : F__law_joined [bareD one, bareD other, .bl b] = some (bareD (if b = true then behB one other else besB one other), [some (bareD one), some (bareD other), some (.bl b)]) := by
  have n1 := h1.n
  have n2 := h2.n
  have l1 := h1.l
  have l2 := h2.l
  have hp := pairs_len one.n other.n n1 n2
  have an : dAdd (.tup (one.n.map D.str)) (.tup (other.n.map D.str)) = some (.tup ((one.n ++ other.n).map D.str)) := by
    rw [add_tup (by rw [List.length_map, List.length_map]; omega), List.map_append]
  have al : dAdd (.tup (one.l.map prD)) (.tup (other.l.map prD)) = some (.tup ((one.l ++ other.l).map prD)) := by
    rw [add_tup (by rw [List.length_map, List.length_map]; omega), List.map_append]
  have gl : gList [.tup ((one.l ++ other.l).map prD)] = some (.lst false ((one.l ++ other.l).map prD)) := g_list_tup (all_map _ fun _ => rfl)
  have s1 := srtN_e (l := one.n ++ other.n) (z := false) (by rw [List.length_append]; omega)
  have g1 : gTuple [.lst false ((srtN (one.n ++ other.n)).map D.str)] = some (.tup ((srtN (one.n ++ other.n)).map D.str)) := g_tuple (all_map _ fun _ => rfl)
  refine of_ok (fn_ok rfl ?_)
  unfold B__law_joined
  simp only [List.map_cons, List.map_nil, List.replicate_succ, List.replicate_zero, List.cons_append, List.nil_append]
  simp (dsimp := false) (maxSteps := 2000000) (disch := (first | assumption | omega | (simp only [List.length_map, List.length_append, List.length_cons, List.length_nil]; omega))) only [↓preS, postS, outsOf, wipeE, reduceIte, reduceCtorEq, BEq.rfl, Bool.false_eq_true, Nat.reduceAdd, Nat.reduceLT, getA, setA, bim, b1, al, gl]
  refine seq_ex [3, 4, 5] (fun os => ∃ x y : Option D, os = [some (.lst false ((one.l ++ other.l ++ if b = true then pairsL one.n other.n else []).map prD)), x, y]) ?_ ?_
  · cases b
    · simp (dsimp := false) (maxSteps := 2000000) (disch := (first | assumption | omega | (simp only [List.length_map, List.length_append, List.length_cons, List.length_nil]; omega))) only [↓preS, postS, outsOf, wipeE, reduceIte, reduceCtorEq, BEq.rfl, Bool.false_eq_true, Nat.reduceAdd, Nat.reduceLT, getA, setA]
      exact ⟨rfl, none, none, by simp⟩
    · simp (dsimp := false) (maxSteps := 2000000) (disch := (first | assumption | omega | (simp only [List.length_map, List.length_append, List.length_cons, List.length_nil]; omega))) only [↓preS, postS, outsOf, wipeE, reduceIte, reduceCtorEq, BEq.rfl, Bool.false_eq_true, Nat.reduceAdd, Nat.reduceLT, getA, setA, bim, b0]
      refine for_setM [3, 4, 5] (fun i ss => ∃ x y : Option D, ss = [some (.lst false ((one.l ++ other.l ++ pairsL (one.n.take i) other.n).map prD)), x, y]) ⟨_, _, by simp [pairsL]; rfl⟩ ?_ ?_
      · rintro i hi ss ⟨x, y, rfl⟩
        have hpi := pairs_len (one.n.take i) other.n (by rw [List.length_take]; omega) n2
        simp (dsimp := false) (maxSteps := 2000000) (disch := (first | assumption | omega | (simp only [List.length_map, List.length_append, List.length_cons, List.length_nil]; omega))) only [↓preS, postS, outsOf, wipeE, reduceIte, reduceCtorEq, BEq.rfl, Bool.false_eq_true, Nat.reduceAdd, Nat.reduceLT, getA, setA, bim, b0]
        refine for_setM [3, 5] (fun j ss => ∃ y : Option D, ss = [some (.lst false ((one.l ++ other.l ++ pairsL (one.n.take i) other.n ++ (other.n.take j).map fun y => (one.n[i], y)).map prD)), y]) ⟨_, by rw [List.take_zero, List.map_nil, List.append_nil]; rfl⟩ ?_ ?_
        · rintro j hj ss ⟨y, rfl⟩
          have ap : mAppend (.lst false ((one.l ++ other.l ++ pairsL (one.n.take i) other.n ++ (other.n.take j).map fun y => (one.n[i], y)).map prD)) [.tup [.str one.n[i], .str other.n[j]]] = some (.non, .lst false ((one.l ++ other.l ++ pairsL (one.n.take i) other.n ++ (other.n.take (j + 1)).map fun y => (one.n[i], y)).map prD)) := by
            have e : (other.n.take (j + 1)).map (fun y => (one.n[i], y)) = (other.n.take j).map (fun y => (one.n[i], y)) ++ [(one.n[i], other.n[j])] := by
              rw [take_at hj, List.map_append]; rfl
            rw [app_lst (by rw [List.length_map, List.length_append, List.length_append, List.length_append, List.length_map, List.length_take]; omega), e, ← List.append_assoc, List.map_append (l₂ := [(one.n[i], other.n[j])])]
            rfl
          simp (dsimp := false) (maxSteps := 2000000) (disch := (first | assumption | omega | (simp only [List.length_map, List.length_append, List.length_cons, List.length_nil]; omega))) only [↓preS, postS, outsOf, wipeE, reduceIte, reduceCtorEq, BEq.rfl, Bool.false_eq_true, Nat.reduceAdd, Nat.reduceLT, getA, setA, ap]
          exact ⟨rfl, _, rfl⟩
        rintro ss ⟨y, rfl⟩
        rw [List.take_length]
        simp (dsimp := false) (maxSteps := 2000000) (disch := (first | assumption | omega | (simp only [List.length_map, List.length_append, List.length_cons, List.length_nil]; omega))) only [↓preS, postS, outsOf, wipeE, reduceIte, reduceCtorEq, BEq.rfl, Bool.false_eq_true, Nat.reduceAdd, Nat.reduceLT, getA, setA]
        exact ⟨rfl, _, _, by rw [take_at hi, pairs_snoc, ← List.append_assoc]⟩
      rintro ss ⟨x, y, rfl⟩
      rw [List.take_length]
      exact ⟨rfl, rfl, _, _, rfl⟩
  rintro os ⟨x, y, rfl⟩
  have s2 := srtP_e (l := one.l ++ other.l ++ if b = true then pairsL one.n other.n else []) (z := false) (by
    rw [List.length_append, List.length_append]
    split
    · omega
    · rw [List.length_nil]; omega)
  have g2 : gTuple [.lst false ((srtP (one.l ++ other.l ++ if b = true then pairsL one.n other.n else [])).map prD)] = some (.tup ((srtP (one.l ++ other.l ++ if b = true then pairsL one.n other.n else [])).map prD)) := g_tuple (all_map _ fun _ => rfl)
  simp (dsimp := false) (maxSteps := 2000000) (disch := (first | assumption | omega | (simp only [List.length_map, List.length_append, List.length_cons, List.length_nil]; omega))) only [↓preS, postS, outsOf, wipeE, reduceIte, reduceCtorEq, BEq.rfl, Bool.false_eq_true, Nat.reduceAdd, Nat.reduceLT, getA, setA, bim, b0, an, srt_tup, srt_lst, s1, s2, g1, g2]
  cases b
  · have : one.l ++ other.l ++ (if false = true then pairsL one.n other.n else []) = one.l ++ other.l := by simp
    rw [this]; rfl
  · rfl
end

/-! ### right -/
theorem tabS1 : isTab "BadStep" ["BadStep"] [] = some (.bl true) := tab_t (by simp)
section
variable {one other : Bare}
theorem beh_bes (h1 : Bz one) (h2 : Bz other) (b : Bool) : (if b = true then behB one other else besB one other).n.length ≤ 100 ∧ (if b = true then behB one other else besB one other).l.length ≤ 20000 := by
  have n1 := h1.n
  have n2 := h2.n
  have l1 := h1.l
  have l2 := h2.l
  have hp := pairs_len one.n other.n n1 n2
  have e1 : (behB one other).n.length = one.n.length + other.n.length := (srtN_len _).trans List.length_append
  have e2 : (besB one other).n.length = one.n.length + other.n.length := (srtN_len _).trans List.length_append
  have e3 : (behB one other).l.length = one.l.length + other.l.length + (pairsL one.n other.n).length := (srtP_len _).trans (by rw [List.length_append, List.length_append])
  have e4 : (besB one other).l.length = one.l.length + other.l.length := (srtP_len _).trans List.length_append
  cases b
  · rw [if_neg Bool.false_ne_true]; omega
  · rw [if_pos rfl]; omega
theorem right_e {b : Bool} (h1 : Bz one) (h2 : Bz other) : F__law_right [bareD one, bareD other, .bl b] = some (.bl true, [some (bareD one), some (bareD other), some (.bl b)]) := by
  have hw := word_e h1 h2
  have hb := beside_e h1 h2
  have hh := behind_e h1 h2
  have hj := joined_e (b := b) h1 h2
  obtain ⟨k1, k2⟩ := beh_bes h1 h2 b
  have hs := same_e (bare_plt (if b = true then behB one other else besB one other)) (bare_ndz k1 k2)
  have w0 : decide (("" : Str) = "") = true := by decide
  refine of_ok (fn_ok rfl ?_)
  unfold B__law_right
  simp only [List.map_cons, List.map_nil, List.replicate_succ, List.replicate_zero, List.cons_append, List.nil_append]
  simp (dsimp := false) (maxSteps := 2000000) (disch := (first | assumption | omega | (simp only [List.length_map, List.length_append, List.length_cons, List.length_nil]; omega))) only [↓preS, postS, outsOf, wipeE, reduceIte, reduceCtorEq, BEq.rfl, Bool.false_eq_true, Nat.reduceAdd, Nat.reduceLT, getA, setA, bim, hw]
  rw [sq_gen]
  refine try_ok ?_
  by_cases c : wordP one other = ""
  · rw [c] at hb hh ⊢
    have hb : F_beside_bare [bareD one, bareD other] = some (.rt (bareD (besB one other)), [some (bareD one), some (bareD other)]) := hb
    have hh : F_behind_bare [bareD one, bareD other] = some (.rt (bareD (behB one other)), [some (bareD one), some (bareD other)]) := hh
    cases b
    · simp (dsimp := false) (maxSteps := 2000000) (disch := (first | assumption | omega | (simp only [List.length_map, List.length_append, List.length_cons, List.length_nil]; omega))) only [↓preS, postS, outsOf, wipeE, reduceIte, reduceCtorEq, BEq.rfl, Bool.false_eq_true, Nat.reduceAdd, Nat.reduceLT, getA, setA, bim, hb]
      rw [ct_nx]
      rw [if_neg Bool.false_ne_true] at hj hs
      simp (dsimp := false) (maxSteps := 2000000) (disch := (first | assumption | omega | (simp only [List.length_map, List.length_append, List.length_cons, List.length_nil]; omega))) only [↓preS, postS, outsOf, wipeE, reduceIte, reduceCtorEq, BEq.rfl, Bool.false_eq_true, Nat.reduceAdd, Nat.reduceLT, getA, setA, bim, eq_str, w0, hj, hs]
      rfl
    · simp (dsimp := false) (maxSteps := 2000000) (disch := (first | assumption | omega | (simp only [List.length_map, List.length_append, List.length_cons, List.length_nil]; omega))) only [↓preS, postS, outsOf, wipeE, reduceIte, reduceCtorEq, BEq.rfl, Bool.false_eq_true, Nat.reduceAdd, Nat.reduceLT, getA, setA, bim, hh]
      rw [ct_nx]
      rw [if_pos rfl] at hj hs
      simp (dsimp := false) (maxSteps := 2000000) (disch := (first | assumption | omega | (simp only [List.length_map, List.length_append, List.length_cons, List.length_nil]; omega))) only [↓preS, postS, outsOf, wipeE, reduceIte, reduceCtorEq, BEq.rfl, Bool.false_eq_true, Nat.reduceAdd, Nat.reduceLT, getA, setA, bim, eq_str, w0, hj, hs]
      rfl
  · have w1 : decide (wordP one other = "") = false := decide_eq_false c
    have o1 : ∀ B, outO (wordP one other) B = .xc "BadStep" ["word"] [.str (wordP one other)] := fun B => if_neg c
    rw [o1] at hb hh
    have hsw := same_e (d := .str (wordP one other)) rfl (by simp [ndz])
    generalize wordP one other = W at *
    have step : ∀ x dd, Ok ((sRet (eAnd2 (eP (p2 dNe (pVar 3) (pC (.str "")))) (eAnd2 (eP (pIsX x dd "BadStep" ["BadStep"] [] (pVar 5))) (eDef F__law_same (cVal (eP (pOwn (pFld x dd "BadStep" "word" (pVar 5)))) (cBor 3 cNil)))))) [some (bareD one), some (bareD other), some (.bl b), some (.str W), none, some (.exo x dd "BadStep" ["word"] [.str W])]) fun z => outNX 5 z = some (.rt (.bl true), [some (bareD one), some (bareD other), some (.bl b), some (.str W), none, none]) := by
      intro x dd
      simp (dsimp := false) (maxSteps := 2000000) (disch := (first | assumption | omega | (simp only [List.length_map, List.length_append, List.length_cons, List.length_nil]; omega))) only [↓preS, postS, outsOf, wipeE, reduceIte, reduceCtorEq, BEq.rfl, Bool.false_eq_true, Nat.reduceAdd, Nat.reduceLT, getA, setA, ne_str, w1, tabS1, look1, hsw]
      rfl
    cases b
    · simp (dsimp := false) (maxSteps := 2000000) (disch := (first | assumption | omega | (simp only [List.length_map, List.length_append, List.length_cons, List.length_nil]; omega))) only [↓preS, postS, outsOf, wipeE, reduceIte, reduceCtorEq, BEq.rfl, Bool.false_eq_true, Nat.reduceAdd, Nat.reduceLT, getA, setA, bim, hb]
      refine tq_yes (by simp) (by show 5 < 6; decide) (r' := (.rt (.bl true), [some (bareD one), some (bareD other), some (.bl false), some (.str W), none, none])) (by rw [ct_rt]; exact ⟨_, rfl, rfl⟩) fun x dd => ?_
      exact step x dd
    · simp (dsimp := false) (maxSteps := 2000000) (disch := (first | assumption | omega | (simp only [List.length_map, List.length_append, List.length_cons, List.length_nil]; omega))) only [↓preS, postS, outsOf, wipeE, reduceIte, reduceCtorEq, BEq.rfl, Bool.false_eq_true, Nat.reduceAdd, Nat.reduceLT, getA, setA, bim, hh]
      refine tq_yes (by simp) (by show 5 < 6; decide) (r' := (.rt (.bl true), [some (bareD one), some (bareD other), some (.bl true), some (.str W), none, none])) (by rw [ct_rt]; exact ⟨_, rfl, rfl⟩) fun x dd => ?_
      exact step x dd
theorem turned_e (h1 : Bz one) : ∃ B : Bare, F_turned_bare [bareD one] = some (bareD B, [some (bareD one)]) ∧ B = ⟨one.n, srtP (one.l.map fun p => (p.2, p.1))⟩ := by
  have l1 := h1.l
  refine ⟨_, ?_, rfl⟩
  have s2 := srtP_e (l := one.l.map fun p => (p.2, p.1)) (z := false) (by rw [List.length_map]; omega)
  have g2 : gTuple [.lst false ((srtP (one.l.map fun p => (p.2, p.1))).map prD)] = some (.tup ((srtP (one.l.map fun p => (p.2, p.1))).map prD)) := g_tuple (all_map _ fun _ => rfl)
  refine of_ok (fn_ok rfl ?_)
  unfold B_turned_bare
  simp only [List.map_cons, List.map_nil, List.replicate_succ, List.replicate_zero, List.cons_append, List.nil_append]
  simp (dsimp := false) (maxSteps := 2000000) (disch := (first | assumption | omega | (simp only [List.length_map, List.length_append, List.length_cons, List.length_nil]; omega))) only [↓preS, postS, outsOf, wipeE, reduceIte, reduceCtorEq, BEq.rfl, Bool.false_eq_true, Nat.reduceAdd, Nat.reduceLT, getA, setA, bim, b0, b1]
  refine comp_fm (h := prD) (f := prD) (fun p => some (p.2, p.1)) (by rfl) (fun p _ => ?_) (by rw [List.length_nil]; omega) ?_
  · have ep : prD p = .tup [.str p.1, .str p.2] := rfl
    simp only [wipeE, w_pC, w_pVar, w_pOwn, w_p1, w_p2, w_pSl, w_oNo, w_oSome, w_pTup, w_pCall, w_aNil, w_aCons, w_pIsi, w_pIsi2, w_eP, w_eMove, w_e1, w_e2, w_eTup, w_eLst, w_eFz, w_eCall, w_aNilE, w_aConsE, w_eIf, w_eComp, w_eComp2, w_eDc, w_eDef, w_cNil, w_cVal, w_cBor, w_eMeth, w_eMetP, w_plVar, w_plIx, w_eSMet, w_yesT, w_tP, w_p2t, w_e2t, w_tTruP, w_tTru, w_tNo, w_tAnd2, w_tOr2, w_iSeq, w_iRange1, w_iRange2, w_iEnumE, rngD_len, w_gNm, w_gTup, w_gsNil, w_gsCons, w_gPut, w_sNil, w_sRet, w_sExpr, w_sAsg, w_sPar, w_eSl, w_oNoE, w_oSomeE, w_eNot, w_eAnd2, w_eOr2, w_eIxV, w_pLMet, w_sAugD, w_pGet1, w_pGet2, w_eGet2, w_pDisp, p_dpNil, p_dpCons, kd_int, kd_str, w_iRevE, w_iItemsE, w_sCt, w_sBk, w_sRetN, w_sIf, w_sFor, w_sFz, ok_some, ok_map, takeB, giveB, outsOf, wipeE, im_non, im_bl, im_int, im_str, im_tup, im_scr, im_lst, im_dcK, im_dcT, fz_non, fz_bl, fz_int, fz_str, fz_tup, fz_scr, fz_lstT, fz_lst, fz_dcT, fz_dcK, wk_tup, wk_lst, wk_scr, wk_str, sI_tup, sI_lst, tr_bl, lt_int, gt_int, le_int, leX_int, ge_int, eq_int, ne_int, eq_str, ne_str, ne_bl, eq_bl, add_int, sub_int, neg_int, g_int, g_abs, ix_tup, ix_lst, at0, at1, at2, g_len_tup, g_len_lst, List.getElem?_cons_zero, List.getElem?_cons_succ, List.set_cons_zero, List.set_cons_succ, List.length_cons, List.length_nil, List.map_cons, List.map_nil, List.replicate_succ, List.replicate_zero, List.cons_append, List.nil_append, List.head?_cons, List.tail_cons, Option.join_some, Option.map_some, if_true, if_false, ite_true, ite_false, reduceIte, reduceCtorEq, BEq.rfl, Bool.false_eq_true, Bool.not_true, Bool.not_false, List.all_cons, List.all_nil, Bool.and_true, Bool.true_and, Bool.and_self, true_and, and_true, exists_eq_left, exists_eq_left', D.bl.injEq, D.int.injEq, D.str.injEq, D.tup.injEq, Out.rt.injEq, Nat.lt_add_left_iff_pos, Nat.zero_lt_succ, Nat.reduceAdd, Nat.reduceLT, ep]
    exact ⟨_, rfl, by decide, rfl⟩
  rw [filterMap_all]
  simp (dsimp := false) (maxSteps := 2000000) (disch := (first | assumption | omega | (simp only [List.length_map, List.length_append, List.length_cons, List.length_nil]; omega))) only [↓preS, postS, outsOf, wipeE, reduceIte, reduceCtorEq, BEq.rfl, Bool.false_eq_true, Nat.reduceAdd, Nat.reduceLT, getA, setA, s2, g2]
  rfl
end

/-! ### the law -/
theorem cut_ex {α : Type} {f : α → D} (l : List α) (a b : Nat) (h : a ≤ b) (hb : b ≤ l.length) : ∃ x : List α, cutD (l.map f) (some (a : Int)) (some (b : Int)) = x.map f ∧ x.length = b - a := by
  unfold cutD
  rw [HT.sIx_nat, HT.sIx_nat, ← List.map_drop, ← List.map_take]
  refine ⟨_, rfl, ?_⟩
  simp
  omega
theorem cut_hd {α : Type} {f : α → D} (l : List α) (b : Nat) (hb : b ≤ l.length) : ∃ x : List α, cutD (l.map f) none (some (b : Int)) = x.map f ∧ x.length = b := by
  unfold cutD
  rw [HT.sIx_nat, HT.sIx_none, ← List.map_drop, ← List.map_take]
  refine ⟨_, rfl, ?_⟩
  simp
  omega
theorem cut_tl {α : Type} {f : α → D} (l : List α) (a : Nat) (ha : a ≤ l.length) : ∃ x : List α, cutD (l.map f) (some (a : Int)) none = x.map f ∧ x.length = l.length - a := by
  unfold cutD
  rw [HT.sIx_nat, HT.sIx_none, ← List.map_drop, ← List.map_take]
  refine ⟨_, rfl, ?_⟩
  simp
  omega
theorem put_any {α : Type} {f : α → D} {l : List α} {h : Nat} {v : α} (hh : h < l.length) : dPut (.lst false (l.map f)) (.int (h : Nat)) (f v) = some (.lst false ((l.set h v).map f)) := by
  show ((L2.ixN (l.map f).length (h : Int)).map fun j => D.lst false ((l.map f).set j (f v))) = _
  unfold L2.ixN
  rw [if_pos (by omega), if_pos (by rw [List.length_map]; omega)]
  simp
def twoB (p : Bare × Bare) : D := .tup [bareD p.1, bareD p.2]
structure Pz (L : List (Bare × Bare)) : Prop where
  a : ∀ p ∈ L, Bz p.1 ∧ Bz p.2
  l : L.length ≤ 100
theorem app_two {L : List (Bare × Bare)} {p q : Bare} (h : L.length ≤ 100) : mAppend (.lst false (L.map twoB)) [.tup [bareD p, bareD q]] = some (.non, .lst false ((L ++ [(p, q)]).map twoB)) := by
  rw [app_lst (by rw [List.length_map]; omega), List.map_append]; rfl
theorem bfz (b : Bare) : fz (bareD b) = bareD b := rfl
theorem law_true (ns : List Int) (hl : ns.length ≤ 63) (hb : ∀ z ∈ ns, Builtin.Int.intBits z ≤ 1048576) : ∃ outs, F_law [.scr (ns.map D.int)] = some (.bl true, outs) := by
  have main : Ok (F_law [.scr (ns.map D.int)]) fun r => r.1 = .bl true := by
    refine fn_ok rfl ?_
    unfold B_law
    simp only [List.map_cons, List.map_nil, List.replicate_succ, List.replicate_zero, List.cons_append, List.nil_append]
    simp (dsimp := false) (maxSteps := 2000000) (disch := (first | assumption | omega | (simp only [List.length_map, List.length_append, List.length_cons, List.length_nil]; omega))) only [↓preS, postS, outsOf, wipeE, reduceIte, reduceCtorEq, BEq.rfl, Bool.false_eq_true, Nat.reduceAdd, Nat.reduceLT, getA, setA]
    refine draws_w (many := 110) hb (by decide) (by decide) (by decide) (by decide) fun ds hds => ?_
    have x0 : ∀ k (h : k < 110), L2.atI (ds.map D.int) ((k : Nat) : Int) = some (.int (ds[k]'(by omega))) := fun k h => at_map (by omega)
    have y0 : L2.atI (ds.map D.int) 0 = some (.int (ds[0]'(by omega))) := x0 0 (by decide)
    have y1 : L2.atI (ds.map D.int) 1 = some (.int (ds[1]'(by omega))) := x0 1 (by decide)
    have y2 : L2.atI (ds.map D.int) 2 = some (.int (ds[2]'(by omega))) := x0 2 (by decide)
    have y3 : L2.atI (ds.map D.int) 3 = some (.int (ds[3]'(by omega))) := x0 3 (by decide)
    have y4 : L2.atI (ds.map D.int) 4 = some (.int (ds[4]'(by omega))) := x0 4 (by decide)
    generalize ds[0]'(by omega) = z0 at y0
    generalize ds[1]'(by omega) = z1 at y1
    generalize ds[2]'(by omega) = z2 at y2
    generalize ds[3]'(by omega) = z3 at y3
    generalize ds[4]'(by omega) = z4 at y4
    have im : (ds.map D.int).all isImm = true := ints_imm ds
    obtain ⟨da, ea, la⟩ := cut_ex (f := D.int) ds 4 60 (by decide) (by omega)
    obtain ⟨db, eb, lb⟩ := cut_ex (f := D.int) ds 50 80 (by decide) (by omega)
    obtain ⟨dc, ec, lc⟩ := cut_ex (f := D.int) ds 70 100 (by decide) (by omega)
    have ea : cutD (ds.map D.int) (some 4) (some 60) = da.map D.int := ea
    have eb : cutD (ds.map D.int) (some 50) (some 80) = db.map D.int := eb
    have ec : cutD (ds.map D.int) (some 70) (some 100) = dc.map D.int := ec
    simp (dsimp := false) (maxSteps := 2000000) (disch := (first | assumption | omega | (simp only [List.length_map, List.length_append, List.length_cons, List.length_nil]; omega))) only [↓preS, postS, outsOf, wipeE, reduceIte, reduceCtorEq, BEq.rfl, Bool.false_eq_true, Nat.reduceAdd, Nat.reduceLT, getA, setA, y0, y1, y2]
    refine seq_ex [3, 4] (fun os => ∃ f s : Nat, os = [some (.int f), some (.int s)] ∧ f + s ≤ 40) ?_ ?_
    · have m1 := Int.emod_nonneg z1 (by decide : (8 : Int) ≠ 0)
      have m2 := Int.emod_lt_of_pos z1 (by decide : (0 : Int) < 8)
      have m3 := Int.emod_nonneg z2 (by decide : (8 : Int) ≠ 0)
      have m4 := Int.emod_lt_of_pos z2 (by decide : (0 : Int) < 8)
      have m5 := Int.emod_nonneg z1 (by decide : (24 : Int) ≠ 0)
      have m6 := Int.emod_lt_of_pos z1 (by decide : (0 : Int) < 24)
      cases hw : (z0 % 3 == 1)
      · simp (dsimp := false) (maxSteps := 2000000) (disch := (first | assumption | omega | (simp only [List.length_map, List.length_append, List.length_cons, List.length_nil]; omega))) only [↓preS, postS, outsOf, wipeE, reduceIte, reduceCtorEq, BEq.rfl, Bool.false_eq_true, Nat.reduceAdd, Nat.reduceLT, getA, setA, hw]
        obtain ⟨f, hf⟩ := Int.eq_ofNat_of_zero_le m1
        obtain ⟨s, hs⟩ := Int.eq_ofNat_of_zero_le m3
        exact ⟨rfl, f, s, by rw [hf, hs], by omega⟩
      · simp (dsimp := false) (maxSteps := 2000000) (disch := (first | assumption | omega | (simp only [List.length_map, List.length_append, List.length_cons, List.length_nil]; omega))) only [↓preS, postS, outsOf, wipeE, reduceIte, reduceCtorEq, BEq.rfl, Bool.false_eq_true, Nat.reduceAdd, Nat.reduceLT, getA, setA, hw, y1]
        obtain ⟨f, hf⟩ := Int.eq_ofNat_of_zero_le m5
        have q1 : (8 + z1 % 24) = ((8 + f : Nat) : Int) := by omega
        have q2 : (40 - ((8 + f : Nat) : Int)) = ((40 - (8 + f) : Nat) : Int) := by omega
        exact ⟨rfl, 8 + f, 40 - (8 + f), by rw [q1, q2], by omega⟩
    rintro os ⟨f, s, rfl, hfs⟩
    have e1 : ((f : Int) + (s : Int) + 1) = ((f + s + 1 : Nat) : Int) := by omega
    simp (dsimp := false) (maxSteps := 2000000) (disch := (first | assumption | omega | (simp only [List.length_map, List.length_append, List.length_cons, List.length_nil]; omega))) only [↓preS, postS, outsOf, wipeE, reduceIte, reduceCtorEq, BEq.rfl, Bool.false_eq_true, Nat.reduceAdd, Nat.reduceLT, getA, setA, sl_lst im, ea, e1]
    refine names_w (by omega) (by omega) fun row hrow => ?_
    have rim : (row.map D.str).all isImm = true := all_map _ fun _ => rfl
    obtain ⟨ra, ra1, ra2⟩ := cut_hd (f := D.str) row f (by omega)
    obtain ⟨rb, rb1, rb2⟩ := cut_ex (f := D.str) row f (f + s) (by omega) (by omega)
    obtain ⟨rc, rc1, rc2⟩ := cut_tl (f := D.str) row f (by omega)
    have e2 : ((f : Int) + (s : Int)) = ((f + s : Nat) : Int) := by omega
    simp (dsimp := false) (maxSteps := 2000000) (disch := (first | assumption | omega | (simp only [List.length_map, List.length_append, List.length_cons, List.length_nil]; omega))) only [↓preS, postS, outsOf, wipeE, reduceIte, reduceCtorEq, BEq.rfl, Bool.false_eq_true, Nat.reduceAdd, Nat.reduceLT, getA, setA, sl_lst im, sl_lst rim, ea, eb, ec, e2, ra1, rb1, rc1]
    refine list_w (by omega) (by omega) fun one ho ho2 => ?_
    simp (dsimp := false) (maxSteps := 2000000) (disch := (first | assumption | omega | (simp only [List.length_map, List.length_append, List.length_cons, List.length_nil]; omega))) only [↓preS, postS, outsOf, wipeE, reduceIte, reduceCtorEq, BEq.rfl, Bool.false_eq_true, Nat.reduceAdd, Nat.reduceLT, getA, setA, sl_lst im, sl_lst rim, ea, eb, ec, e2, ra1, rb1, rc1, bfz]
    refine list_w (by omega) (by omega) fun other hr hr2 => ?_
    simp (dsimp := false) (maxSteps := 2000000) (disch := (first | assumption | omega | (simp only [List.length_map, List.length_append, List.length_cons, List.length_nil]; omega))) only [↓preS, postS, outsOf, wipeE, reduceIte, reduceCtorEq, BEq.rfl, Bool.false_eq_true, Nat.reduceAdd, Nat.reduceLT, getA, setA, sl_lst im, sl_lst rim, ea, eb, ec, e2, ra1, rb1, rc1, bfz]
    refine list_w (by omega) (by omega) fun more hm hm2 => ?_
    simp (dsimp := false) (maxSteps := 2000000) (disch := (first | assumption | omega | (simp only [List.length_map, List.length_append, List.length_cons, List.length_nil]; omega))) only [↓preS, postS, outsOf, wipeE, reduceIte, reduceCtorEq, BEq.rfl, Bool.false_eq_true, Nat.reduceAdd, Nat.reduceLT, getA, setA, sl_lst im, sl_lst rim, ea, eb, ec, e2, ra1, rb1, rc1, bfz, bim]
    have ef : fzs [bareD one, bareD other] = [one, other].map bareD := rfl
    rw [ef]
    refine for_setM [9, 10] (fun i ss => ∃ x y : Option D, ss = [x, y]) ⟨_, _, rfl⟩ ?_ ?_
    · rintro i hi ss ⟨x, y, rfl⟩
      have hB : Bz [one, other][i] := by
        have m := List.getElem_mem hi
        rcases List.mem_cons.mp m with e | m
        · rw [e]; exact ho
        · rw [List.mem_singleton.mp m]; exact hr
      generalize [one, other][i] = b at hB
      have l1 := hB.l
      have n1 := hB.n
      have s2 := srtP_e (l := b.l.map fun p => (p.2, p.1)) (z := false) (by rw [List.length_map]; omega)
      have g2 : gTuple [.lst false ((srtP (b.l.map fun p => (p.2, p.1))).map prD)] = some (.tup ((srtP (b.l.map fun p => (p.2, p.1))).map prD)) := g_tuple (all_map _ fun _ => rfl)
      obtain ⟨T, hT, eT⟩ := turned_e hB
      have hs := same_e (bare_plt T) (bare_ndz (by rw [eT]; show b.n.length ≤ 100; omega) (by rw [eT]; show (srtP _).length ≤ 20000; rw [srtP_len, List.length_map]; omega))
      simp (dsimp := false) (maxSteps := 2000000) (disch := (first | assumption | omega | (simp only [List.length_map, List.length_append, List.length_cons, List.length_nil]; omega))) only [↓preS, postS, outsOf, wipeE, reduceIte, reduceCtorEq, BEq.rfl, Bool.false_eq_true, Nat.reduceAdd, Nat.reduceLT, getA, setA, bim, bfz, b0, b1]
      refine comp_fm (h := prD) (f := prD) (fun p => some (p.2, p.1)) (by rfl) (fun p _ => ?_) (by rw [List.length_nil]; omega) ?_
      · have ep : dBk (prD p) = some (prD (p.2, p.1)) := rfl
        simp only [wipeE, w_pC, w_pVar, w_pOwn, w_p1, w_p2, w_pSl, w_oNo, w_oSome, w_pTup, w_pCall, w_aNil, w_aCons, w_pIsi, w_pIsi2, w_eP, w_eMove, w_e1, w_e2, w_eTup, w_eLst, w_eFz, w_eCall, w_aNilE, w_aConsE, w_eIf, w_eComp, w_eComp2, w_eDc, w_eDef, w_cNil, w_cVal, w_cBor, w_eMeth, w_eMetP, w_plVar, w_plIx, w_eSMet, w_yesT, w_tP, w_p2t, w_e2t, w_tTruP, w_tTru, w_tNo, w_tAnd2, w_tOr2, w_iSeq, w_iRange1, w_iRange2, w_iEnumE, rngD_len, w_gNm, w_gTup, w_gsNil, w_gsCons, w_gPut, w_sNil, w_sRet, w_sExpr, w_sAsg, w_sPar, w_eSl, w_oNoE, w_oSomeE, w_eNot, w_eAnd2, w_eOr2, w_eIxV, w_pLMet, w_sAugD, w_pGet1, w_pGet2, w_eGet2, w_pDisp, p_dpNil, p_dpCons, kd_int, kd_str, w_iRevE, w_iItemsE, w_sCt, w_sBk, w_sRetN, w_sIf, w_sFor, w_sFz, ok_some, ok_map, takeB, giveB, outsOf, wipeE, im_non, im_bl, im_int, im_str, im_tup, im_scr, im_lst, im_dcK, im_dcT, fz_non, fz_bl, fz_int, fz_str, fz_tup, fz_scr, fz_lstT, fz_lst, fz_dcT, fz_dcK, wk_tup, wk_lst, wk_scr, wk_str, sI_tup, sI_lst, tr_bl, lt_int, gt_int, le_int, leX_int, ge_int, eq_int, ne_int, eq_str, ne_str, ne_bl, eq_bl, add_int, sub_int, neg_int, g_int, g_abs, ix_tup, ix_lst, at0, at1, at2, g_len_tup, g_len_lst, List.getElem?_cons_zero, List.getElem?_cons_succ, List.set_cons_zero, List.set_cons_succ, List.length_cons, List.length_nil, List.map_cons, List.map_nil, List.replicate_succ, List.replicate_zero, List.cons_append, List.nil_append, List.head?_cons, List.tail_cons, Option.join_some, Option.map_some, if_true, if_false, ite_true, ite_false, reduceIte, reduceCtorEq, BEq.rfl, Bool.false_eq_true, Bool.not_true, Bool.not_false, List.all_cons, List.all_nil, Bool.and_true, Bool.true_and, Bool.and_self, true_and, and_true, exists_eq_left, exists_eq_left', D.bl.injEq, D.int.injEq, D.str.injEq, D.tup.injEq, Out.rt.injEq, Nat.lt_add_left_iff_pos, Nat.zero_lt_succ, Nat.reduceAdd, Nat.reduceLT, ep]
        exact ⟨_, rfl, rfl⟩
      rw [filterMap_all]
      have eD : D.tup [.tup (b.n.map D.str), .tup ((srtP (b.l.map fun p => (p.2, p.1))).map prD)] = bareD T := by rw [eT]; rfl
      simp (dsimp := false) (maxSteps := 2000000) (disch := (first | assumption | omega | (simp only [List.length_map, List.length_append, List.length_cons, List.length_nil]; omega))) only [↓preS, postS, outsOf, wipeE, reduceIte, reduceCtorEq, BEq.rfl, Bool.false_eq_true, Nat.reduceAdd, Nat.reduceLT, getA, setA, s2, g2, eD, hT, hs, bim]
      exact ⟨rfl, _, _, rfl⟩
    rintro ss ⟨x, y, rfl⟩
    rw [ct_nx]
    simp (dsimp := false) (maxSteps := 2000000) (disch := (first | assumption | omega | (simp only [List.length_map, List.length_append, List.length_cons, List.length_nil]; omega))) only [↓preS, postS, outsOf, wipeE, reduceIte, reduceCtorEq, BEq.rfl, Bool.false_eq_true, Nat.reduceAdd, Nat.reduceLT, getA, setA, bim]
    obtain ⟨L0, hL0⟩ : ∃ L : List (Bare × Bare), L = [(one, other), (other, one), (one, more)] := ⟨_, rfl⟩
    have P0 : Pz L0 := ⟨fun p m => by
      rw [hL0] at m
      simp only [List.mem_cons, List.not_mem_nil, or_false] at m
      rcases m with rfl | rfl | rfl
      · exact ⟨ho, hr⟩
      · exact ⟨hr, ho⟩
      · exact ⟨ho, hm⟩, by rw [hL0]; simp⟩
    have eP0 : D.lst false [D.tup [bareD one, bareD other], .tup [bareD other, bareD one], .tup [bareD one, bareD more]] = .lst false (L0.map twoB) := by rw [hL0]; rfl
    rw [eP0]
    have pn : ∀ {L : List (Bare × Bare)} {p q : Bare}, Pz L → L.length ≤ 50 → Bz p → Bz q → Pz (L ++ [(p, q)]) := fun hL hl hp hq => ⟨mem_snoc hL.a ⟨hp, hq⟩, by rw [List.length_append, List.length_singleton]; omega⟩
    have lL0 : L0.length = 3 := by rw [hL0]; rfl
    refine seq_ex [11, 12] (fun os => ∃ (L : List (Bare × Bare)) (x : Option D), os = [some (.lst false (L.map twoB)), x] ∧ Pz L ∧ L.length ≤ 10) ?_ ?_
    · by_cases c : 0 < f ∧ 0 < s
      · obtain ⟨c1, c2⟩ := c
        have c1' : (0 : Int) < (f : Int) := by omega
        have c2' : (0 : Int) < (s : Int) := by omega
        obtain ⟨u, eu⟩ := at_strI (l := row) (x := z4 % (f : Int)) (Int.emod_nonneg z4 (show (f : Int) ≠ 0 by omega)) (by have := Int.emod_lt_of_pos z4 c1'; omega)
        obtain ⟨k, hk⟩ := Int.eq_ofNat_of_zero_le (Int.emod_nonneg z3 (show (s : Int) ≠ 0 by omega))
        have hk2 := Int.emod_lt_of_pos z3 c2'
        have pu := put_any (f := D.str) (l := rb) (h := k) (v := u) (by omega)
        rw [← hk] at pu
        simp (dsimp := false) (maxSteps := 2000000) (disch := (first | assumption | omega | (simp only [List.length_map, List.length_append, List.length_cons, List.length_nil]; omega))) only [↓preS, postS, outsOf, wipeE, reduceIte, reduceCtorEq, BEq.rfl, Bool.false_eq_true, Nat.reduceAdd, Nat.reduceLT, getA, setA, c1', c2', sl_lst rim, e2, rb1, y3, y4, eu, pu, bim, sl_lst im, ec]
        refine list_w (by omega) (by rw [List.length_set]; omega) fun p1 h1 _ => ?_
        simp (dsimp := false) (maxSteps := 2000000) (disch := (first | assumption | omega | (simp only [List.length_map, List.length_append, List.length_cons, List.length_nil]; omega))) only [↓preS, postS, outsOf, wipeE, reduceIte, reduceCtorEq, BEq.rfl, Bool.false_eq_true, Nat.reduceAdd, Nat.reduceLT, getA, setA, bim, app_two (L := L0) (p := one) (q := p1) (by omega), sl_lst im, eb, ec]
        refine list_w (by omega) (by rw [List.length_set]; omega) fun p2 h2 _ => ?_
        simp (dsimp := false) (maxSteps := 2000000) (disch := (first | assumption | omega | (simp only [List.length_map, List.length_append, List.length_cons, List.length_nil]; omega))) only [↓preS, postS, outsOf, wipeE, reduceIte, reduceCtorEq, BEq.rfl, Bool.false_eq_true, Nat.reduceAdd, Nat.reduceLT, getA, setA, bim, app_two (L := L0 ++ [(one, p1)]) (p := p2) (q := one) (by rw [List.length_append, List.length_singleton]; omega)]
        exact ⟨rfl, _, _, rfl, pn (pn P0 (by omega) ho h1) (by rw [List.length_append, List.length_singleton]; omega) h2 ho, by simp; omega⟩
      · by_cases c1 : (0 : Int) < (f : Int)
        · have c2 : ¬ (0 : Int) < (s : Int) := by omega
          simp (dsimp := false) (maxSteps := 2000000) (disch := (first | assumption | omega | (simp only [List.length_map, List.length_append, List.length_cons, List.length_nil]; omega))) only [↓preS, postS, outsOf, wipeE, reduceIte, reduceCtorEq, BEq.rfl, Bool.false_eq_true, Nat.reduceAdd, Nat.reduceLT, getA, setA, c1, c2]
          exact ⟨rfl, _, _, rfl, P0, by omega⟩
        · simp (dsimp := false) (maxSteps := 2000000) (disch := (first | assumption | omega | (simp only [List.length_map, List.length_append, List.length_cons, List.length_nil]; omega))) only [↓preS, postS, outsOf, wipeE, reduceIte, reduceCtorEq, BEq.rfl, Bool.false_eq_true, Nat.reduceAdd, Nat.reduceLT, getA, setA, c1]
          exact ⟨rfl, _, _, rfl, P0, by omega⟩
    rintro os ⟨L, x, rfl, hL, lL⟩
    refine seq_ex [13] (fun os => ∃ b : Bare, os = [some (bareD b)] ∧ Bz b) ?_ ?_
    · by_cases c1 : (0 : Int) < (f : Int)
      · simp (dsimp := false) (maxSteps := 2000000) (disch := (first | assumption | omega | (simp only [List.length_map, List.length_append, List.length_cons, List.length_nil]; omega))) only [↓preS, postS, outsOf, wipeE, reduceIte, reduceCtorEq, BEq.rfl, Bool.false_eq_true, Nat.reduceAdd, Nat.reduceLT, getA, setA, c1, bim, bfz]
        exact ⟨rfl, one, rfl, ho⟩
      · simp (dsimp := false) (maxSteps := 2000000) (disch := (first | assumption | omega | (simp only [List.length_map, List.length_append, List.length_cons, List.length_nil]; omega))) only [↓preS, postS, outsOf, wipeE, reduceIte, reduceCtorEq, BEq.rfl, Bool.false_eq_true, Nat.reduceAdd, Nat.reduceLT, getA, setA, c1]
        exact ⟨rfl, ⟨["a"], []⟩, rfl, by decide, by decide⟩
    rintro os ⟨b, rfl, hbz⟩
    have e0 : D.tup [.tup [], .tup []] = bareD ⟨[], []⟩ := rfl
    have h0 : Bz ⟨[], []⟩ := ⟨by decide, by decide⟩
    simp (dsimp := false) (maxSteps := 2000000) (disch := (first | assumption | omega | (simp only [List.length_map, List.length_append, List.length_cons, List.length_nil]; omega))) only [↓preS, postS, outsOf, wipeE, reduceIte, reduceCtorEq, BEq.rfl, Bool.false_eq_true, Nat.reduceAdd, Nat.reduceLT, getA, setA, bim, e0]
    have ad : dAdd (.lst false (L.map twoB)) (.lst false [D.tup [bareD b, bareD b], .tup [bareD b, bareD ⟨[], []⟩], .tup [bareD ⟨[], []⟩, bareD b]]) = some (.lst false ((L ++ [(b, b), (b, ⟨[], []⟩), (⟨[], []⟩, b)]).map twoB)) := by
      have := add_lst (z := false) (y := false) (a := L.map twoB) (b := [(b, b), (b, ⟨[], []⟩), (⟨[], []⟩, b)].map twoB) (by rw [List.length_map, List.length_map]; simp; omega) (all_map _ fun _ => rfl) (all_map _ fun _ => rfl)
      rw [List.map_append]
      exact this
    have hL2 : ∀ p ∈ L ++ [(b, b), (b, ⟨[], []⟩), (⟨[], []⟩, b)], Bz p.1 ∧ Bz p.2 := by
      intro p m
      rcases List.mem_append.mp m with m | m
      · exact hL.a p m
      · simp only [List.mem_cons, List.not_mem_nil, or_false] at m
        rcases m with rfl | rfl | rfl
        · exact ⟨hbz, hbz⟩
        · exact ⟨hbz, h0⟩
        · exact ⟨h0, hbz⟩
    generalize (L ++ [(b, b), (b, ⟨[], []⟩), (⟨[], []⟩, b)]) = M at ad hL2
    have fzM : fzs (M.map twoB) = M.map twoB := fzs_map M fun _ => rfl
    simp (dsimp := false) (maxSteps := 2000000) (disch := (first | assumption | omega | (simp only [List.length_map, List.length_append, List.length_cons, List.length_nil]; omega))) only [↓preS, postS, outsOf, wipeE, reduceIte, reduceCtorEq, BEq.rfl, Bool.false_eq_true, Nat.reduceAdd, Nat.reduceLT, getA, setA, ad, fzM, bim]
    refine for_setM [14, 15] (fun i ss => ∃ x y : Option D, ss = [x, y]) ⟨_, _, rfl⟩ ?_ ?_
    · rintro i hi ss ⟨x, y, rfl⟩
      obtain ⟨h1, h2⟩ := hL2 _ (List.getElem_mem hi)
      generalize M[i] = p at h1 h2
      have t0 : dIx (twoB p) (.int 0) = some (bareD p.1) := rfl
      have t1 : dIx (twoB p) (.int 1) = some (bareD p.2) := rfl
      have fb : fzs [D.bl true, .bl false] = [true, false].map D.bl := rfl
      simp (dsimp := false) (maxSteps := 2000000) (disch := (first | assumption | omega | (simp only [List.length_map, List.length_append, List.length_cons, List.length_nil]; omega))) only [↓preS, postS, outsOf, wipeE, reduceIte, reduceCtorEq, BEq.rfl, Bool.false_eq_true, Nat.reduceAdd, Nat.reduceLT, getA, setA]
      rw [fb]
      refine for_setM [15] (fun i ss => ∃ x : Option D, ss = [x]) ⟨_, rfl⟩ ?_ ?_
      · rintro j hj ss ⟨x, rfl⟩
        generalize [true, false][j] = v
        simp (dsimp := false) (maxSteps := 2000000) (disch := (first | assumption | omega | (simp only [List.length_map, List.length_append, List.length_cons, List.length_nil]; omega))) only [↓preS, postS, outsOf, wipeE, reduceIte, reduceCtorEq, BEq.rfl, Bool.false_eq_true, Nat.reduceAdd, Nat.reduceLT, getA, setA, t0, t1, bim, right_e (b := v) h1 h2]
        exact ⟨rfl, _, rfl⟩
      rintro ss ⟨x, rfl⟩
      simp (dsimp := false) (maxSteps := 2000000) (disch := (first | assumption | omega | (simp only [List.length_map, List.length_append, List.length_cons, List.length_nil]; omega))) only [↓preS, postS, outsOf, wipeE, reduceIte, reduceCtorEq, BEq.rfl, Bool.false_eq_true, Nat.reduceAdd, Nat.reduceLT, getA, setA]
      exact ⟨rfl, _, _, rfl⟩
    rintro ss ⟨x, y, rfl⟩
    rw [ct_nx]
    simp (dsimp := false) (maxSteps := 2000000) (disch := (first | assumption | omega | (simp only [List.length_map, List.length_append, List.length_cons, List.length_nil]; omega))) only [↓preS, postS, outsOf, wipeE, reduceIte, reduceCtorEq, BEq.rfl, Bool.false_eq_true, Nat.reduceAdd, Nat.reduceLT, getA, setA]
  obtain ⟨⟨d, outs⟩, h1, h2⟩ := main
  have h2 : d = .bl true := h2
  exact ⟨outs, by rw [h1, h2]⟩

end DL
namespace DL
open PySem PySem.Spec PyProof.Rows L2 C8
theorem all_mk {l : PySem.W.OpenLaw} {w : World} {K : PySem.W.Frag} {h : Heap} {mg : Str → Option Value} {fa f1 f2 f3 f4 f5 f6 f7 f8 f9 f10 f11 f12 f13 : Addr} (X : K.In h) (G : h.Ns mainGlobals mg) (hfa : mg "law" = some (.ref fa))
    {od1 an1 od2 an2 od3 an3 od4 an4 od5 an5 od6 an6 od7 an7 od8 an8 od9 an9 od10 an10 od11 an11 od12 an12 od13 an13 : Option Addr} {sl1 sl2 sl3 sl4 sl5 sl6 sl7 sl8 sl9 sl10 sl11 sl12 sl13 : Array (Option Value)} {oc1 kV1 dc1 pm1 cd1 ct1 oc2 kV2 dc2 pm2 cd2 ct2 oc3 kV3 dc3 pm3 cd3 ct3 oc4 kV4 dc4 pm4 cd4 ct4 oc5 kV5 dc5 pm5 cd5 ct5 oc6 kV6 dc6 pm6 cd6 ct6 oc7 kV7 dc7 pm7 cd7 ct7 oc8 kV8 dc8 pm8 cd8 ct8 oc9 kV9 dc9 pm9 cd9 ct9 oc10 kV10 dc10 pm10 cd10 ct10 oc11 kV11 dc11 pm11 cd11 ct11 oc12 kV12 dc12 pm12 cd12 ct12 oc13 kV13 dc13 pm13 cd13 ct13 : Value} {tk_WORKS_MOST : Tok}
    (a1 : PySem.W.nsIn K mainGlobals "turned_bare" = some (some (.ref f1))) (l1 : K.lookup f1 = some ⟨oc1, od1, .func (PySem.W.fnOf "turned_bare" "turned_bare" (fnArgs (top 8)) (fnBody (top 8)) (fnScope (top 8)) .none kV1 dc1 pm1 an1 cd1 ct1), sl1⟩) (c1 : PySem.W.codeIn K cd1 "turned_bare" = true) (k1 : PySem.W.keepIn K (.ref f1) = true)
    (a2 : PySem.W.nsIn K mainGlobals "_law_draws" = some (some (.ref f2))) (l2 : K.lookup f2 = some ⟨oc2, od2, .func (PySem.W.fnOf "_law_draws" "_law_draws" (fnArgs (top 10)) (fnBody (top 10)) (fnScope (top 10)) .none kV2 dc2 pm2 an2 cd2 ct2), sl2⟩) (c2 : PySem.W.codeIn K cd2 "_law_draws" = true) (k2 : PySem.W.keepIn K (.ref f2) = true)
    (a3 : PySem.W.nsIn K mainGlobals "_law_names" = some (some (.ref f3))) (l3 : K.lookup f3 = some ⟨oc3, od3, .func (PySem.W.fnOf "_law_names" "_law_names" (fnArgs (top 11)) (fnBody (top 11)) (fnScope (top 11)) .none kV3 dc3 pm3 an3 cd3 ct3), sl3⟩) (c3 : PySem.W.codeIn K cd3 "_law_names" = true) (k3 : PySem.W.keepIn K (.ref f3) = true)
    (a4 : PySem.W.nsIn K mainGlobals "_law_links" = some (some (.ref f4))) (l4 : K.lookup f4 = some ⟨oc4, od4, .func (PySem.W.fnOf "_law_links" "_law_links" (fnArgs (top 12)) (fnBody (top 12)) (fnScope (top 12)) .none kV4 dc4 pm4 an4 cd4 ct4), sl4⟩) (c4 : PySem.W.codeIn K cd4 "_law_links" = true) (k4 : PySem.W.keepIn K (.ref f4) = true)
    (a5 : PySem.W.nsIn K mainGlobals "_law_layers" = some (some (.ref f5))) (l5 : K.lookup f5 = some ⟨oc5, od5, .func (PySem.W.fnOf "_law_layers" "_law_layers" (fnArgs (top 13)) (fnBody (top 13)) (fnScope (top 13)) .none kV5 dc5 pm5 an5 cd5 ct5), sl5⟩) (c5 : PySem.W.codeIn K cd5 "_law_layers" = true) (k5 : PySem.W.keepIn K (.ref f5) = true)
    (a6 : PySem.W.nsIn K mainGlobals "_law_same" = some (some (.ref f6))) (l6 : K.lookup f6 = some ⟨oc6, od6, .func (PySem.W.fnOf "_law_same" "_law_same" (fnArgs (top 14)) (fnBody (top 14)) (fnScope (top 14)) .none kV6 dc6 pm6 an6 cd6 ct6), sl6⟩) (c6 : PySem.W.codeIn K cd6 "_law_same" = true) (k6 : PySem.W.keepIn K (.ref f6) = true)
    (a7 : PySem.W.nsIn K mainGlobals "_law_word" = some (some (.ref f7))) (l7 : K.lookup f7 = some ⟨oc7, od7, .func (PySem.W.fnOf "_law_word" "_law_word" (fnArgs (top 16)) (fnBody (top 16)) (fnScope (top 16)) .none kV7 dc7 pm7 an7 cd7 ct7), sl7⟩) (c7 : PySem.W.codeIn K cd7 "_law_word" = true) (k7 : PySem.W.keepIn K (.ref f7) = true)
    (a8 : PySem.W.nsIn K mainGlobals "_law_joined" = some (some (.ref f8))) (l8 : K.lookup f8 = some ⟨oc8, od8, .func (PySem.W.fnOf "_law_joined" "_law_joined" (fnArgs (top 17)) (fnBody (top 17)) (fnScope (top 17)) .none kV8 dc8 pm8 an8 cd8 ct8), sl8⟩) (c8 : PySem.W.codeIn K cd8 "_law_joined" = true) (k8 : PySem.W.keepIn K (.ref f8) = true)
    (a9 : PySem.W.nsIn K mainGlobals "beside_bare" = some (some (.ref f9))) (l9 : K.lookup f9 = some ⟨oc9, od9, .func (PySem.W.fnOf "beside_bare" "beside_bare" (fnArgs (top 6)) (fnBody (top 6)) (fnScope (top 6)) .none kV9 dc9 pm9 an9 cd9 ct9), sl9⟩) (c9 : PySem.W.codeIn K cd9 "beside_bare" = true) (k9 : PySem.W.keepIn K (.ref f9) = true)
    (a10 : PySem.W.nsIn K mainGlobals "_law_list" = some (some (.ref f10))) (l10 : K.lookup f10 = some ⟨oc10, od10, .func (PySem.W.fnOf "_law_list" "_law_list" (fnArgs (top 15)) (fnBody (top 15)) (fnScope (top 15)) .none kV10 dc10 pm10 an10 cd10 ct10), sl10⟩) (c10 : PySem.W.codeIn K cd10 "_law_list" = true) (k10 : PySem.W.keepIn K (.ref f10) = true)
    (a11 : PySem.W.nsIn K mainGlobals "behind_bare" = some (some (.ref f11))) (l11 : K.lookup f11 = some ⟨oc11, od11, .func (PySem.W.fnOf "behind_bare" "behind_bare" (fnArgs (top 7)) (fnBody (top 7)) (fnScope (top 7)) .none kV11 dc11 pm11 an11 cd11 ct11), sl11⟩) (c11 : PySem.W.codeIn K cd11 "behind_bare" = true) (k11 : PySem.W.keepIn K (.ref f11) = true)
    (a12 : PySem.W.nsIn K mainGlobals "_law_right" = some (some (.ref f12))) (l12 : K.lookup f12 = some ⟨oc12, od12, .func (PySem.W.fnOf "_law_right" "_law_right" (fnArgs (top 18)) (fnBody (top 18)) (fnScope (top 18)) .none kV12 dc12 pm12 an12 cd12 ct12), sl12⟩) (c12 : PySem.W.codeIn K cd12 "_law_right" = true) (k12 : PySem.W.keepIn K (.ref f12) = true)
    (a13 : PySem.W.nsIn K mainGlobals "law" = some (some (.ref f13))) (l13 : K.lookup f13 = some ⟨oc13, od13, .func (PySem.W.fnOf "law" "law" (fnArgs (top 19)) (fnBody (top 19)) (fnScope (top 19)) .none kV13 dc13 pm13 an13 cd13 ct13), sl13⟩) (c13 : PySem.W.codeIn K cd13 "law" = true) (k13 : PySem.W.keepIn K (.ref f13) = true)
    (z_bool : PySem.W.nsIn K mainGlobals "bool" = some none) (z_int : PySem.W.nsIn K mainGlobals "int" = some none) (z_isinstance : PySem.W.nsIn K mainGlobals "isinstance" = some none) (z_len : PySem.W.nsIn K mainGlobals "len" = some none) (z_list : PySem.W.nsIn K mainGlobals "list" = some none) (z_range : PySem.W.nsIn K mainGlobals "range" = some none) (z_sorted : PySem.W.nsIn K mainGlobals "sorted" = some none) (z_str : PySem.W.nsIn K mainGlobals "str" = some none) (z_tuple : PySem.W.nsIn K mainGlobals "tuple" = some none) (g_WORKS_MOST : PySem.W.nsIn K mainGlobals "WORKS_MOST" = some (some (.int 40 tk_WORKS_MOST)))
    {D_PlanError : Addr} {D_BadStep : Addr} {nm_BadStep q_BadStep : Str} {N_BadStep F_BadStep : Addr} {bs_BadStep bm_BadStep sub_BadStep : List Value} {sn_BadStep : List Str} {ab_BadStep : Bool} {col_BadStep : Option Bool} {dd_BadStep odX_BadStep anX_BadStep : Option Addr} {k0_BadStep k1_BadStep k2_BadStep k3_BadStep k5_BadStep : Option Value} {ocX_BadStep kVX_BadStep dcX_BadStep pmX_BadStep cdX_BadStep ctX_BadStep : Value} {slX_BadStep : Array (Option Value)}
    (aX_PlanError : PySem.W.nsIn K mainGlobals "PlanError" = some (some (.ref D_PlanError))) (iX_PlanError : PySem.W.isClsIn K D_PlanError = true) (tX_PlanError : PySem.W.typeIn K (.ref D_PlanError) = some (.type "type")) (aX_BadStep : PySem.W.nsIn K mainGlobals "BadStep" = some (some (.ref D_BadStep))) (iX_BadStep : PySem.W.isClsIn K D_BadStep = true) (tX_BadStep : PySem.W.typeIn K (.ref D_BadStep) = some (.type "type")) (sX_BadStep : PySem.W.subIn K (.ref D_BadStep) (.type "BaseException") = some true) (sX_PlanError : PySem.W.subIn K (.ref D_PlanError) (.type "BaseException") = some true) (u_BadStep_BadStep : PySem.W.subIn K (.ref D_BadStep) (.ref D_BadStep) = some true) (u_BadStep_PlanError : PySem.W.subIn K (.ref D_BadStep) (.ref D_PlanError) = some true) (xL_BadStep : K.lookup D_BadStep = some (excClassObj nm_BadStep q_BadStep D_BadStep N_BadStep bs_BadStep bm_BadStep true sn_BadStep sub_BadStep ab_BadStep col_BadStep dd_BadStep k0_BadStep k1_BadStep k2_BadStep k3_BadStep k5_BadStep "ValueError.__new__")) (hb_BadStep : PySem.HandSPX.refsVE bm_BadStep = true) (saX_BadStep : PySem.W.findIn K (.ref D_BadStep) "__setattr__" = some (some (.builtin "object.__setattr__"))) (gaX_BadStep : PySem.W.findIn K (.ref D_BadStep) "__getattribute__" = some (some (.builtin "BaseException.__getattribute__"))) (ggX_BadStep : PySem.W.findIn K (.ref D_BadStep) "__getattr__" = some none) (acX_BadStep : PySem.W.findIn K (.ref D_BadStep) "__class__" = some (some (.builtin "object.__class__"))) (moX_BadStep : PySem.W.mroIn K D_BadStep (.type "object") = some true) (kCX_BadStep : PySem.W.keepIn K (.ref D_BadStep) = true) (hdX_BadStep : PySem.W.hasDictIn K D_BadStep = true) (icX_BadStep : PySem.W.findIn K (.ref D_BadStep) "__init__" = some (some (.ref F_BadStep))) (tiX_BadStep : PySem.W.typeIn K (.ref F_BadStep) = some (.type "function")) (liX_BadStep : K.lookup F_BadStep = some ⟨ocX_BadStep, odX_BadStep, .func (PySem.W.fnOf "__init__" "BadStep.__init__" (fnArgs (cinit (top 4))) (fnBody (cinit (top 4))) (fnScope (cinit (top 4))) .none kVX_BadStep dcX_BadStep pmX_BadStep anX_BadStep cdX_BadStep ctX_BadStep), slX_BadStep⟩) (ccX_BadStep : PySem.W.codeIn K cdX_BadStep "BadStep.__init__" = true) (nf_BadStep_word : PySem.W.findIn K (.ref D_BadStep) "word" = some none) (ghX : PySem.W.specialIn K (.builtin "object.__class__") "__get__" = some (some (.builtin "getset_descriptor.__get__"))) (gtX : PySem.W.takesIn K (.builtin "object.__class__") = some true)
    : ∃ fd : FuncData, (∀ (s : Shared) (v : Value), BindsTo s fd ⟨[v], []⟩ [("script", v)]) ∧ ∀ base : Heap, K.In base → base.Ns mainGlobals mg → FnOk l.prog w K mg base C8.CX0 6 fa fd ["script"] (Prom K F_law) := by
  have e := hfa.symm.trans (PySem.W.mg_of X G a13)
  cases e
  have T : Glo mg := ⟨PySem.W.mg_none_of X G z_bool, PySem.W.mg_none_of X G z_int, PySem.W.mg_none_of X G z_isinstance, PySem.W.mg_none_of X G z_len, PySem.W.mg_none_of X G z_list, PySem.W.mg_none_of X G z_range, PySem.W.mg_none_of X G z_sorted, PySem.W.mg_none_of X G z_str, PySem.W.mg_none_of X G z_tuple, ⟨_, PySem.W.mg_of X G g_WORKS_MOST⟩⟩
  have m_PlanError := PySem.W.mg_of X G aX_PlanError
  have m_BadStep := PySem.W.mg_of X G aX_BadStep
  have XT : XGl K mg := ⟨⟨_, m_PlanError⟩,
    ⟨_, m_BadStep⟩,
    (all_cons (at_cls m_BadStep ⟨iX_BadStep, gaX_BadStep, ggX_BadStep, sX_BadStep, hdX_BadStep, acX_BadStep, ghX, gtX, moX_BadStep⟩) all_nil),
    (all_cons (at_cls m_BadStep nf_BadStep_word) all_nil),
    at_cls m_PlanError ⟨(all_cons (at_cls m_BadStep (exm_sub sX_PlanError iX_PlanError tX_PlanError u_BadStep_PlanError)) all_nil), all_nil⟩,
    at_cls m_BadStep (⟨(all_cons (at_cls m_BadStep (kit_sub iX_BadStep tX_BadStep u_BadStep_BadStep u_BadStep_BadStep)) all_nil), all_nil⟩)⟩
  have FX_BadStep : C8.Fun K "__init__" "BadStep.__init__" (cinit (top 4)) F_BadStep _ := ⟨⟨ocX_BadStep, odX_BadStep, .none, kVX_BadStep, dcX_BadStep, pmX_BadStep, anX_BadStep, cdX_BadStep, ctX_BadStep, slX_BadStep, rfl, liX_BadStep, ccX_BadStep⟩⟩
  have TX_BadStep : OexC K D_BadStep := ⟨⟨_, _, _, _, _, _, _, _, _, _, _, _, _, _, _, xL_BadStep, hb_BadStep⟩, saX_BadStep, sX_BadStep, tX_BadStep, kCX_BadStep⟩
  have bX_BadStep := FX_BadStep.binds rfl (ps := ["self", "word"]) fun _ _ _ _ _ _ us hl => match us, hl with | [_, _], _ => rfl
  have D1 := def_at (st := top 8) X G a1 l1 c1 k1
  have b1 := D1.fn.binds rfl (ps := ["bare"]) fun _ _ _ _ _ _ us hl => match us, hl with | [_], _ => rfl
  have D2 := def_at (st := top 10) X G a2 l2 c2 k2
  have b2 := D2.fn.binds rfl (ps := ["script", "salt", "many"]) fun _ _ _ _ _ _ us hl => match us, hl with | [_, _, _], _ => rfl
  have D3 := def_at (st := top 11) X G a3 l3 c3 k3
  have b3 := D3.fn.binds rfl (ps := ["draws", "many"]) fun _ _ _ _ _ _ us hl => match us, hl with | [_, _], _ => rfl
  have D4 := def_at (st := top 12) X G a4 l4 c4 k4
  have b4 := D4.fn.binds rfl (ps := ["draws", "names", "often"]) fun _ _ _ _ _ _ us hl => match us, hl with | [_, _, _], _ => rfl
  have D5 := def_at (st := top 13) X G a5 l5 c5 k5
  have b5 := D5.fn.binds rfl (ps := ["draws", "names", "most"]) fun _ _ _ _ _ _ us hl => match us, hl with | [_, _, _], _ => rfl
  have D6 := def_at (st := top 14) X G a6 l6 c6 k6
  have b6 := D6.fn.binds rfl (ps := ["told", "due"]) fun _ _ _ _ _ _ us hl => match us, hl with | [_, _], _ => rfl
  have D7 := def_at (st := top 16) X G a7 l7 c7 k7
  have b7 := D7.fn.binds rfl (ps := ["one", "other"]) fun _ _ _ _ _ _ us hl => match us, hl with | [_, _], _ => rfl
  have D8 := def_at (st := top 17) X G a8 l8 c8 k8
  have b8 := D8.fn.binds rfl (ps := ["one", "other", "behind"]) fun _ _ _ _ _ _ us hl => match us, hl with | [_, _, _], _ => rfl
  have D9 := def_at (st := top 6) X G a9 l9 c9 k9
  have b9 := D9.fn.binds rfl (ps := ["one", "other"]) fun _ _ _ _ _ _ us hl => match us, hl with | [_, _], _ => rfl
  have D10 := def_at (st := top 15) X G a10 l10 c10 k10
  have b10 := D10.fn.binds rfl (ps := ["draws", "row"]) fun _ _ _ _ _ _ us hl => match us, hl with | [_, _], _ => rfl
  have D11 := def_at (st := top 7) X G a11 l11 c11 k11
  have b11 := D11.fn.binds rfl (ps := ["one", "other"]) fun _ _ _ _ _ _ us hl => match us, hl with | [_, _], _ => rfl
  have D12 := def_at (st := top 18) X G a12 l12 c12 k12
  have b12 := D12.fn.binds rfl (ps := ["one", "other", "behind"]) fun _ _ _ _ _ _ us hl => match us, hl with | [_, _, _], _ => rfl
  have D13 := def_at (st := top 19) X G a13 l13 c13 k13
  refine ⟨PySem.W.fnOf "law" "law" (fnArgs (top 19)) (fnBody (top 19)) (fnScope (top 19)) .none kV13 dc13 pm13 an13 cd13 ct13, fun s v => .of_eq rfl, fun base _ _ => ?_⟩
  have e_BadStep : ExcK l.prog w K mg base 1 "BadStep" ["word"] := ⟨⟨D_BadStep, F_BadStep, _, ["self", "word"], TX_BadStep, icX_BadStep, tiX_BadStep, initOk1 FX_BadStep TX_BadStep nf_BadStep_word (fnScope_by (by decide +kernel)) rfl, bX_BadStep, m_BadStep⟩, by decide⟩
  have E1 := ok_turned_bare (P := l.prog) (w := w) (base := base) T D1 
  have C1 : Cal l.prog w K mg base 2 "turned_bare" (Prom K F_turned_bare) [] := ⟨f1, _, _, [], E1, D1.mgf, D1.kp, b1, .nil⟩
  have E2 := ok__law_draws (P := l.prog) (w := w) (base := base) T D2 
  have C2 : Cal l.prog w K mg base 2 "_law_draws" (Prom K F__law_draws) [] := ⟨f2, _, _, [], E2, D2.mgf, D2.kp, b2, .nil⟩
  have E3 := ok__law_names (P := l.prog) (w := w) (base := base) T D3 
  have C3 : Cal l.prog w K mg base 2 "_law_names" (Prom K F__law_names) [] := ⟨f3, _, _, [], E3, D3.mgf, D3.kp, b3, .nil⟩
  have E4 := ok__law_links (P := l.prog) (w := w) (base := base) T D4 
  have C4 : Cal l.prog w K mg base 2 "_law_links" (Prom K F__law_links) [] := ⟨f4, _, _, [], E4, D4.mgf, D4.kp, b4, .nil⟩
  have E5 := ok__law_layers (P := l.prog) (w := w) (base := base) T D5 
  have C5 : Cal l.prog w K mg base 2 "_law_layers" (Prom K F__law_layers) [] := ⟨f5, _, _, [], E5, D5.mgf, D5.kp, b5, .nil⟩
  have E6 := ok__law_same (P := l.prog) (w := w) (base := base) T D6 
  have C6 : Cal l.prog w K mg base 2 "_law_same" (Prom K F__law_same) [] := ⟨f6, _, _, [], E6, D6.mgf, D6.kp, b6, .nil⟩
  have EH6 := okH__law_same (P := l.prog) (w := w) (base := base) T D6 
  have CH6 : CalH l.prog w K mg base 2 "_law_same" (Prom K F__law_same) := ⟨f6, _, _, EH6, D6.mgf, D6.kp, b6⟩
  have E7 := ok__law_word (P := l.prog) (w := w) (base := base) T D7 
  have C7 : Cal l.prog w K mg base 2 "_law_word" (Prom K F__law_word) [] := ⟨f7, _, _, [], E7, D7.mgf, D7.kp, b7, .nil⟩
  have E8 := ok__law_joined (P := l.prog) (w := w) (base := base) T D8 
  have C8 : Cal l.prog w K mg base 2 "_law_joined" (Prom K F__law_joined) [] := ⟨f8, _, _, [], E8, D8.mgf, D8.kp, b8, .nil⟩
  have E9 := ok_beside_bare (P := l.prog) (w := w) (base := base) T D9  e_BadStep
  have C9 : CalX l.prog w K mg base 3 "beside_bare" (PromX K mg F_beside_bare) := ⟨f9, _, _, E9, D9.mgf, D9.kp, b9⟩
  have E10 := ok__law_list (P := l.prog) (w := w) (base := base) T D10 C4 C5
  have C10 : Cal l.prog w K mg base 3 "_law_list" (Prom K F__law_list) [] := ⟨f10, _, _, [], E10, D10.mgf, D10.kp, b10, .nil⟩
  have E11 := ok_behind_bare (P := l.prog) (w := w) (base := base) T D11 C9
  have C11 : CalX l.prog w K mg base 4 "behind_bare" (PromX K mg F_behind_bare) := ⟨f11, _, _, E11, D11.mgf, D11.kp, b11⟩
  have E12 := ok__law_right (P := l.prog) (w := w) (base := base) T D12 C9 C11 C6 C7 C8 XT CH6
  have C12 : Cal l.prog w K mg base 5 "_law_right" (Prom K F__law_right) [] := ⟨f12, _, _, [], E12, D12.mgf, D12.kp, b12, .nil⟩
  exact ok_law T D13 C1 C2 C3 C6 C10 C12
theorem walk_law {l : PySem.W.OpenLaw} {q : Program} {loose : List Str} {XP : (Str → Option Value) → Heap → Prop} {YP : World → Heap → Prop} {d : DefRec} {K : Params → PySem.W.Frag} (hn : l.most = some 63) (hdf : d.params.defaults = [])
    (hY : ∀ (w : World) (h : Heap), YP w h → (K w.params).In h)
    (F : ∀ (w : World) (mg : Str → Option Value) (fa : Addr) (h : Heap), (K w.params).In h → h.Ns mainGlobals mg → mg d.name = some (.ref fa) →
      ∃ fd : FuncData, (∀ (s : Shared) (u : Value), BindsTo s fd ⟨[u], []⟩ [("script", u)]) ∧ ∀ base : Heap, (K w.params).In base → base.Ns mainGlobals mg → FnOk l.prog w (K w.params) mg base C8.CX0 6 fa fd ["script"] (Prom (K w.params) F_law)) :
    PySem.W.WalkO q loose XP YP l.row.toRowW d [] (fun f vs => PySem.call f vs) :=
  L2.walk_ofB (n := 63) (k := 6) (x := "script") (CX := fun _ => C8.CX0) (sp := fun w => Prom (K w.params) F_law) hn (by decide) hdf ⟨rfl, by decide, by decide⟩ hY F
    (fun _ _ _ ns hl hb hO hS => let ⟨_, e⟩ := law_true ns hl hb; prom_law hO hS e) fun _ _ _ _ _ z => z
end DL
open PySem PySem.W PyProof.Rows
set_option maxRecDepth 100000 in
set_option maxHeartbeats 0 in
theorem PySem.Challenge.cw_donebytwo_k36_behind_beside_turned_holds : PySem.Challenge.rw_donebytwo_k36_behind_beside_turned.Holds := by
  w_on; o_law; k_head; (case hw => w_witness2)
  k_fill
  refine DL.walk_law (l := PySem.Challenge.rw_donebytwo_k36_behind_beside_turned) rfl rfl (fun w h Y => PySem.W.kIn_of Y) ?F
  case F =>
    intro w mg fa h KX G hmg
    refine' DL.all_mk KX G hmg ?a1 ?l1 ?c1 ?k1 ?a2 ?l2 ?c2 ?k2 ?a3 ?l3 ?c3 ?k3 ?a4 ?l4 ?c4 ?k4 ?a5 ?l5 ?c5 ?k5 ?a6 ?l6 ?c6 ?k6 ?a7 ?l7 ?c7 ?k7 ?a8 ?l8 ?c8 ?k8 ?a9 ?l9 ?c9 ?k9 ?a10 ?l10 ?c10 ?k10 ?a11 ?l11 ?c11 ?k11 ?a12 ?l12 ?c12 ?k12 ?a13 ?l13 ?c13 ?k13 ?z_bool ?z_int ?z_isinstance ?z_len ?z_list ?z_range ?z_sorted ?z_str ?z_tuple ?g_WORKS_MOST ?aX_PlanError ?iX_PlanError ?tX_PlanError ?aX_BadStep ?iX_BadStep ?tX_BadStep ?sX_BadStep ?sX_PlanError ?u_BadStep_BadStep ?u_BadStep_PlanError ?xL_BadStep ?hb_BadStep ?saX_BadStep ?gaX_BadStep ?ggX_BadStep ?acX_BadStep ?moX_BadStep ?kCX_BadStep ?hdX_BadStep ?icX_BadStep ?tiX_BadStep ?liX_BadStep ?ccX_BadStep ?nf_BadStep_word ?ghX ?gtX
    (case a1 => k_is); (case l1 => k_is); (case c1 => k_is); (case k1 => k_is)
    (case a2 => k_is); (case l2 => k_is); (case c2 => k_is); (case k2 => k_is)
    (case a3 => k_is); (case l3 => k_is); (case c3 => k_is); (case k3 => k_is)
    (case a4 => k_is); (case l4 => k_is); (case c4 => k_is); (case k4 => k_is)
    (case a5 => k_is); (case l5 => k_is); (case c5 => k_is); (case k5 => k_is)
    (case a6 => k_is); (case l6 => k_is); (case c6 => k_is); (case k6 => k_is)
    (case a7 => k_is); (case l7 => k_is); (case c7 => k_is); (case k7 => k_is)
    (case a8 => k_is); (case l8 => k_is); (case c8 => k_is); (case k8 => k_is)
    (case a9 => k_is); (case l9 => k_is); (case c9 => k_is); (case k9 => k_is)
    (case a10 => k_is); (case l10 => k_is); (case c10 => k_is); (case k10 => k_is)
    (case a11 => k_is); (case l11 => k_is); (case c11 => k_is); (case k11 => k_is)
    (case a12 => k_is); (case l12 => k_is); (case c12 => k_is); (case k12 => k_is)
    (case a13 => k_is); (case l13 => k_is); (case c13 => k_is); (case k13 => k_is)
    (case z_bool => k_is)
    (case z_int => k_is)
    (case z_isinstance => k_is)
    (case z_len => k_is)
    (case z_list => k_is)
    (case z_range => k_is)
    (case z_sorted => k_is)
    (case z_str => k_is)
    (case z_tuple => k_is)
    (case g_WORKS_MOST => k_is)
    (case aX_PlanError => k_is)
    (case iX_PlanError => k_is)
    (case tX_PlanError => k_is)
    (case aX_BadStep => k_is)
    (case iX_BadStep => k_is)
    (case tX_BadStep => k_is)
    (case sX_BadStep => k_is)
    (case sX_PlanError => k_is)
    (case u_BadStep_BadStep => k_is)
    (case u_BadStep_PlanError => k_is)
    (case xL_BadStep => k_is)
    (case hb_BadStep => decide +kernel)
    (case saX_BadStep => k_is)
    (case gaX_BadStep => k_is)
    (case ggX_BadStep => k_is)
    (case acX_BadStep => k_is)
    (case moX_BadStep => k_is)
    (case kCX_BadStep => k_is)
    (case hdX_BadStep => k_is)
    (case icX_BadStep => k_is)
    (case tiX_BadStep => k_is)
    (case liX_BadStep => k_is)
    (case ccX_BadStep => k_is)
    (case nf_BadStep_word => k_is)
    (case ghX => k_is)
    (case gtX => k_is)

